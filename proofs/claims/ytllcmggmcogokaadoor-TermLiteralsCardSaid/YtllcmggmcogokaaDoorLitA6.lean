-- Written by programs of this work and by hand, joined by a program. Lean checks it.
import Derived.Test.YtllcmggmcogokaaDoorCards
import Derived.Test.YtllcmggmcogokaaDoorTie
import Derived.WalkKit
import Derived.ProofKit
import Derived.OpenShut
import Derived.Carry
import Derived.Deep.DeepHandedRow
import Derived.Lib.LaidTab
import Derived.Test.YtllcmggmcogokaaDoorLitA5
section
namespace Go.Proofs.YtllcmggmcogokaaDoor.PAll
open Go.RowKit Go.Proofs.YtllcmggmcogokaaDoorW.PrintWords Go.Proofs.YtllcmggmcogokaaDoorW.PrintLast Go.Proofs.YtllcmggmcogokaaDoorW.PrintMore
attribute [local go_sem] max2_int min2_int max_two min_two max_three min_three max_four min_four
set_option linter.unusedVariables false
set_option linter.unusedSimpArgs false
abbrev LeLiteralC (x : S56) : Prop := ∀ (A'0 : Option Addr) (c'0 : Nat) (A'1 : Option Addr) (c'1 : Nat) (A'2 : Option Addr) (c'2 : Nat) (A0 : Option Addr) (c0 : Nat) (A1 : Option Addr) (c1 : Nat) (A2 : Option Addr) (c2 : Nat) (w : World), Kd.C (orC k28) w A'0 (x.f1.f1.length + 1) (marked x.f1.f1 mk28) → x.f1.f1.length + 1 ≤ c'0 → Kd.C (orC k31t) w A'1 (x.f3.f2.length + 1) (marked x.f3.f2 mk31) → x.f3.f2.length + 1 ≤ c'1 → Kd.C (orC k31t) w A'2 (x.f4.f2.length + 1) (marked x.f4.f2 mk31) → x.f4.f2.length + 1 ≤ c'2 → Kd.C k28 w A0 x.f1.f1.length x.f1.f1 → x.f1.f1.length ≤ c0 → Kd.C k31 w A1 x.f3.f2.length x.f3.f2 → x.f3.f2.length ≤ c1 → Kd.C k31 w A2 x.f4.f2.length x.f4.f2 → x.f4.f2.length ≤ c2 → TabB w →
    Calls Tryd.prog 25 #[.agg #[.int .i8 x.f0, .string x.f1.f0, .slice A'0 x.f1.f1.length c'0, .int .i8 x.f2, .int .i8 x.f3.f0, .string x.f3.f1.f0, .int .i8 x.f3.f1.f1.f0, .int .i64 x.f3.f1.f1.f1, .string x.f3.f1.f1.f2, .slice A'1 x.f3.f2.length c'1, .int .i8 x.f4.f0, .string x.f4.f1.f0, .int .i8 x.f4.f1.f1.f0, .int .i64 x.f4.f1.f1.f1, .string x.f4.f1.f1.f2, .slice A'2 x.f4.f2.length c'2], .agg #[.int .i8 x.f0, .string x.f1.f0, .slice A0 x.f1.f1.length c0, .int .i8 x.f2, .int .i8 x.f3.f0, .string x.f3.f1.f0, .int .i8 x.f3.f1.f1.f0, .int .i64 x.f3.f1.f1.f1, .string x.f3.f1.f1.f2, .slice A1 x.f3.f2.length c1, .int .i8 x.f4.f0, .string x.f4.f1.f0, .int .i8 x.f4.f1.f1.f0, .int .i64 x.f4.f1.f1.f1, .string x.f4.f1.f1.f2, .slice A2 x.f4.f2.length c2]] w fun e w' => e = .returned (.bool true) ∧ Below w.heap.size w w'
set_option maxHeartbeats 8000000 in
set_option maxRecDepth 100000 in
theorem LeLiteral_step (x : S56) (hS1 : Hid (LeAtomC x.f1)) (hS3 : Hid (LeExprC x.f3)) (hS4 : Hid (LeExprC x.f4)) : LeLiteralC x := by
  intro A'0 c'0 A'1 c'1 A'2 c'2 A0 c0 A1 c1 A2 c2 w hr'0 hc'0 hr'1 hc'1 hr'2 hc'2 hr0 hc0 hr1 hc1 hr2 hc2 hT
  have HR0 := Lib.hid hr0
  have HR'0 := Lib.hid hr'0
  have HR1 := Lib.hid hr1
  have HR'1 := Lib.hid hr'1
  have HR2 := Lib.hid hr2
  have HR'2 := Lib.hid hr'2
  have HT := Lib.hid hT
  clear hT hr0 hr'0 hr1 hr'1 hr2 hr'2
  go_enter Tryd.func25, Tryd.ntmps25
  go_wp2_with fail
  have HK1 := Lib.hid (blk_below (blk_new w (.cells #[.int .i8 x.f0, .string x.f1.f0, .slice A'0 x.f1.f1.length c'0, .int .i8 x.f2, .int .i8 x.f3.f0, .string x.f3.f1.f0, .int .i8 x.f3.f1.f1.f0, .int .i64 x.f3.f1.f1.f1, .string x.f3.f1.f1.f2, .slice A'1 x.f3.f2.length c'1, .int .i8 x.f4.f0, .string x.f4.f1.f0, .int .i8 x.f4.f1.f1.f0, .int .i64 x.f4.f1.f1.f1, .string x.f4.f1.f1.f2, .slice A'2 x.f4.f2.length c'2] 56 (0, 0))) (below_alloc (Below.refl _ _) (.cells #[.int .i8 x.f0, .string x.f1.f0, .slice A0 x.f1.f1.length c0, .int .i8 x.f2, .int .i8 x.f3.f0, .string x.f3.f1.f0, .int .i8 x.f3.f1.f1.f0, .int .i64 x.f3.f1.f1.f1, .string x.f3.f1.f1.f2, .slice A1 x.f3.f2.length c1, .int .i8 x.f4.f0, .string x.f4.f1.f0, .int .i8 x.f4.f1.f1.f0, .int .i64 x.f4.f1.f1.f1, .string x.f4.f1.f1.f2, .slice A2 x.f4.f2.length c2] 56 (0, 0))))
  have HK2 := Lib.hid (blk_new (w.alloc (.cells #[.int .i8 x.f0, .string x.f1.f0, .slice A'0 x.f1.f1.length c'0, .int .i8 x.f2, .int .i8 x.f3.f0, .string x.f3.f1.f0, .int .i8 x.f3.f1.f1.f0, .int .i64 x.f3.f1.f1.f1, .string x.f3.f1.f1.f2, .slice A'1 x.f3.f2.length c'1, .int .i8 x.f4.f0, .string x.f4.f1.f0, .int .i8 x.f4.f1.f1.f0, .int .i64 x.f4.f1.f1.f1, .string x.f4.f1.f1.f2, .slice A'2 x.f4.f2.length c'2] 56 (0, 0))) (.cells #[.int .i8 x.f0, .string x.f1.f0, .slice A0 x.f1.f1.length c0, .int .i8 x.f2, .int .i8 x.f3.f0, .string x.f3.f1.f0, .int .i8 x.f3.f1.f1.f0, .int .i64 x.f3.f1.f1.f1, .string x.f3.f1.f1.f2, .slice A1 x.f3.f2.length c1, .int .i8 x.f4.f0, .string x.f4.f1.f0, .int .i8 x.f4.f1.f1.f0, .int .i64 x.f4.f1.f1.f1, .string x.f4.f1.f1.f2, .slice A2 x.f4.f2.length c2] 56 (0, 0)))
  rw [show (w.alloc (.cells #[.int .i8 x.f0, .string x.f1.f0, .slice A'0 x.f1.f1.length c'0, .int .i8 x.f2, .int .i8 x.f3.f0, .string x.f3.f1.f0, .int .i8 x.f3.f1.f1.f0, .int .i64 x.f3.f1.f1.f1, .string x.f3.f1.f1.f2, .slice A'1 x.f3.f2.length c'1, .int .i8 x.f4.f0, .string x.f4.f1.f0, .int .i8 x.f4.f1.f1.f0, .int .i64 x.f4.f1.f1.f1, .string x.f4.f1.f1.f2, .slice A'2 x.f4.f2.length c'2] 56 (0, 0))).heap.size = w.heap.size + 1 by simp] at HK2
  have HB := Lib.hid (below_alloc (below_alloc (Below.refl w.heap.size w) (.cells #[.int .i8 x.f0, .string x.f1.f0, .slice A'0 x.f1.f1.length c'0, .int .i8 x.f2, .int .i8 x.f3.f0, .string x.f3.f1.f0, .int .i8 x.f3.f1.f1.f0, .int .i64 x.f3.f1.f1.f1, .string x.f3.f1.f1.f2, .slice A'1 x.f3.f2.length c'1, .int .i8 x.f4.f0, .string x.f4.f1.f0, .int .i8 x.f4.f1.f1.f0, .int .i64 x.f4.f1.f1.f1, .string x.f4.f1.f1.f2, .slice A'2 x.f4.f2.length c'2] 56 (0, 0))) (.cells #[.int .i8 x.f0, .string x.f1.f0, .slice A0 x.f1.f1.length c0, .int .i8 x.f2, .int .i8 x.f3.f0, .string x.f3.f1.f0, .int .i8 x.f3.f1.f1.f0, .int .i64 x.f3.f1.f1.f1, .string x.f3.f1.f1.f2, .slice A1 x.f3.f2.length c1, .int .i8 x.f4.f0, .string x.f4.f1.f0, .int .i8 x.f4.f1.f1.f0, .int .i64 x.f4.f1.f1.f1, .string x.f4.f1.f1.f2, .slice A2 x.f4.f2.length c2] 56 (0, 0)))
  generalize (w.alloc (.cells #[.int .i8 x.f0, .string x.f1.f0, .slice A'0 x.f1.f1.length c'0, .int .i8 x.f2, .int .i8 x.f3.f0, .string x.f3.f1.f0, .int .i8 x.f3.f1.f1.f0, .int .i64 x.f3.f1.f1.f1, .string x.f3.f1.f1.f2, .slice A'1 x.f3.f2.length c'1, .int .i8 x.f4.f0, .string x.f4.f1.f0, .int .i8 x.f4.f1.f1.f0, .int .i64 x.f4.f1.f1.f1, .string x.f4.f1.f1.f2, .slice A'2 x.f4.f2.length c'2] 56 (0, 0))).alloc (.cells #[.int .i8 x.f0, .string x.f1.f0, .slice A0 x.f1.f1.length c0, .int .i8 x.f2, .int .i8 x.f3.f0, .string x.f3.f1.f0, .int .i8 x.f3.f1.f1.f0, .int .i64 x.f3.f1.f1.f1, .string x.f3.f1.f1.f2, .slice A1 x.f3.f2.length c1, .int .i8 x.f4.f0, .string x.f4.f1.f0, .int .i8 x.f4.f1.f1.f0, .int .i64 x.f4.f1.f1.f1, .string x.f4.f1.f1.f2, .slice A2 x.f4.f2.length c2] 56 (0, 0)) = v0 at *
  refine (hS1.out A'0 c'0 A0 c0 v0 (Kd.C_below HR'0.out HB.out) hc'0 (Kd.C_below HR0.out HB.out) hc0 (HT.out.below HB.out)).mono ?_
  rintro e v1 ⟨rfl, hb⟩
  replace HK1 := Lib.hid (blk_below HK1.out hb)
  replace HK2 := Lib.hid (blk_below HK2.out hb)
  replace HB := Lib.hid (below_step HB.out hb)
  clear hb
  have p0 : v1.cell? ⟨w.heap.size, 0, none⟩ = some (.int .i8 x.f0) := (blk_cell HK1.out 0).trans rfl
  have q0 : v1.cell? ⟨w.heap.size + 1, 0, none⟩ = some (.int .i8 x.f0) := (blk_cell HK2.out 0).trans rfl
  have p1 : v1.cell? ⟨w.heap.size, 1, none⟩ = some (.string x.f1.f0) := (blk_cell HK1.out 1).trans rfl
  have q1 : v1.cell? ⟨w.heap.size + 1, 1, none⟩ = some (.string x.f1.f0) := (blk_cell HK2.out 1).trans rfl
  have p2 : v1.cell? ⟨w.heap.size, 2, none⟩ = some (.slice A'0 x.f1.f1.length c'0) := (blk_cell HK1.out 2).trans rfl
  have q2 : v1.cell? ⟨w.heap.size + 1, 2, none⟩ = some (.slice A0 x.f1.f1.length c0) := (blk_cell HK2.out 2).trans rfl
  have p3 : v1.cell? ⟨w.heap.size, 3, none⟩ = some (.int .i8 x.f2) := (blk_cell HK1.out 3).trans rfl
  have q3 : v1.cell? ⟨w.heap.size + 1, 3, none⟩ = some (.int .i8 x.f2) := (blk_cell HK2.out 3).trans rfl
  have p4 : v1.cell? ⟨w.heap.size, 4, none⟩ = some (.int .i8 x.f3.f0) := (blk_cell HK1.out 4).trans rfl
  have q4 : v1.cell? ⟨w.heap.size + 1, 4, none⟩ = some (.int .i8 x.f3.f0) := (blk_cell HK2.out 4).trans rfl
  have p5 : v1.cell? ⟨w.heap.size, 5, none⟩ = some (.string x.f3.f1.f0) := (blk_cell HK1.out 5).trans rfl
  have q5 : v1.cell? ⟨w.heap.size + 1, 5, none⟩ = some (.string x.f3.f1.f0) := (blk_cell HK2.out 5).trans rfl
  have p6 : v1.cell? ⟨w.heap.size, 6, none⟩ = some (.int .i8 x.f3.f1.f1.f0) := (blk_cell HK1.out 6).trans rfl
  have q6 : v1.cell? ⟨w.heap.size + 1, 6, none⟩ = some (.int .i8 x.f3.f1.f1.f0) := (blk_cell HK2.out 6).trans rfl
  have p7 : v1.cell? ⟨w.heap.size, 7, none⟩ = some (.int .i64 x.f3.f1.f1.f1) := (blk_cell HK1.out 7).trans rfl
  have q7 : v1.cell? ⟨w.heap.size + 1, 7, none⟩ = some (.int .i64 x.f3.f1.f1.f1) := (blk_cell HK2.out 7).trans rfl
  have p8 : v1.cell? ⟨w.heap.size, 8, none⟩ = some (.string x.f3.f1.f1.f2) := (blk_cell HK1.out 8).trans rfl
  have q8 : v1.cell? ⟨w.heap.size + 1, 8, none⟩ = some (.string x.f3.f1.f1.f2) := (blk_cell HK2.out 8).trans rfl
  have p9 : v1.cell? ⟨w.heap.size, 9, none⟩ = some (.slice A'1 x.f3.f2.length c'1) := (blk_cell HK1.out 9).trans rfl
  have q9 : v1.cell? ⟨w.heap.size + 1, 9, none⟩ = some (.slice A1 x.f3.f2.length c1) := (blk_cell HK2.out 9).trans rfl
  have p10 : v1.cell? ⟨w.heap.size, 10, none⟩ = some (.int .i8 x.f4.f0) := (blk_cell HK1.out 10).trans rfl
  have q10 : v1.cell? ⟨w.heap.size + 1, 10, none⟩ = some (.int .i8 x.f4.f0) := (blk_cell HK2.out 10).trans rfl
  have p11 : v1.cell? ⟨w.heap.size, 11, none⟩ = some (.string x.f4.f1.f0) := (blk_cell HK1.out 11).trans rfl
  have q11 : v1.cell? ⟨w.heap.size + 1, 11, none⟩ = some (.string x.f4.f1.f0) := (blk_cell HK2.out 11).trans rfl
  have p12 : v1.cell? ⟨w.heap.size, 12, none⟩ = some (.int .i8 x.f4.f1.f1.f0) := (blk_cell HK1.out 12).trans rfl
  have q12 : v1.cell? ⟨w.heap.size + 1, 12, none⟩ = some (.int .i8 x.f4.f1.f1.f0) := (blk_cell HK2.out 12).trans rfl
  have p13 : v1.cell? ⟨w.heap.size, 13, none⟩ = some (.int .i64 x.f4.f1.f1.f1) := (blk_cell HK1.out 13).trans rfl
  have q13 : v1.cell? ⟨w.heap.size + 1, 13, none⟩ = some (.int .i64 x.f4.f1.f1.f1) := (blk_cell HK2.out 13).trans rfl
  have p14 : v1.cell? ⟨w.heap.size, 14, none⟩ = some (.string x.f4.f1.f1.f2) := (blk_cell HK1.out 14).trans rfl
  have q14 : v1.cell? ⟨w.heap.size + 1, 14, none⟩ = some (.string x.f4.f1.f1.f2) := (blk_cell HK2.out 14).trans rfl
  have p15 : v1.cell? ⟨w.heap.size, 15, none⟩ = some (.slice A'2 x.f4.f2.length c'2) := (blk_cell HK1.out 15).trans rfl
  have q15 : v1.cell? ⟨w.heap.size + 1, 15, none⟩ = some (.slice A2 x.f4.f2.length c2) := (blk_cell HK2.out 15).trans rfl
  go_wp2_with fail
  refine (hS3.out A'1 c'1 A1 c1 v1 (Kd.C_below HR'1.out HB.out) hc'1 (Kd.C_below HR1.out HB.out) hc1 (HT.out.below HB.out)).mono ?_
  rintro e v2 ⟨rfl, hb⟩
  replace HK1 := Lib.hid (blk_below HK1.out hb)
  replace HK2 := Lib.hid (blk_below HK2.out hb)
  replace HB := Lib.hid (below_step HB.out hb)
  clear hb
  clear p0 q0 p1 q1 p2 q2 p3 q3 p4 q4 p5 q5 p6 q6 p7 q7 p8 q8 p9 q9 p10 q10 p11 q11 p12 q12 p13 q13 p14 q14 p15 q15
  have p0 : v2.cell? ⟨w.heap.size, 0, none⟩ = some (.int .i8 x.f0) := (blk_cell HK1.out 0).trans rfl
  have q0 : v2.cell? ⟨w.heap.size + 1, 0, none⟩ = some (.int .i8 x.f0) := (blk_cell HK2.out 0).trans rfl
  have p1 : v2.cell? ⟨w.heap.size, 1, none⟩ = some (.string x.f1.f0) := (blk_cell HK1.out 1).trans rfl
  have q1 : v2.cell? ⟨w.heap.size + 1, 1, none⟩ = some (.string x.f1.f0) := (blk_cell HK2.out 1).trans rfl
  have p2 : v2.cell? ⟨w.heap.size, 2, none⟩ = some (.slice A'0 x.f1.f1.length c'0) := (blk_cell HK1.out 2).trans rfl
  have q2 : v2.cell? ⟨w.heap.size + 1, 2, none⟩ = some (.slice A0 x.f1.f1.length c0) := (blk_cell HK2.out 2).trans rfl
  have p3 : v2.cell? ⟨w.heap.size, 3, none⟩ = some (.int .i8 x.f2) := (blk_cell HK1.out 3).trans rfl
  have q3 : v2.cell? ⟨w.heap.size + 1, 3, none⟩ = some (.int .i8 x.f2) := (blk_cell HK2.out 3).trans rfl
  have p4 : v2.cell? ⟨w.heap.size, 4, none⟩ = some (.int .i8 x.f3.f0) := (blk_cell HK1.out 4).trans rfl
  have q4 : v2.cell? ⟨w.heap.size + 1, 4, none⟩ = some (.int .i8 x.f3.f0) := (blk_cell HK2.out 4).trans rfl
  have p5 : v2.cell? ⟨w.heap.size, 5, none⟩ = some (.string x.f3.f1.f0) := (blk_cell HK1.out 5).trans rfl
  have q5 : v2.cell? ⟨w.heap.size + 1, 5, none⟩ = some (.string x.f3.f1.f0) := (blk_cell HK2.out 5).trans rfl
  have p6 : v2.cell? ⟨w.heap.size, 6, none⟩ = some (.int .i8 x.f3.f1.f1.f0) := (blk_cell HK1.out 6).trans rfl
  have q6 : v2.cell? ⟨w.heap.size + 1, 6, none⟩ = some (.int .i8 x.f3.f1.f1.f0) := (blk_cell HK2.out 6).trans rfl
  have p7 : v2.cell? ⟨w.heap.size, 7, none⟩ = some (.int .i64 x.f3.f1.f1.f1) := (blk_cell HK1.out 7).trans rfl
  have q7 : v2.cell? ⟨w.heap.size + 1, 7, none⟩ = some (.int .i64 x.f3.f1.f1.f1) := (blk_cell HK2.out 7).trans rfl
  have p8 : v2.cell? ⟨w.heap.size, 8, none⟩ = some (.string x.f3.f1.f1.f2) := (blk_cell HK1.out 8).trans rfl
  have q8 : v2.cell? ⟨w.heap.size + 1, 8, none⟩ = some (.string x.f3.f1.f1.f2) := (blk_cell HK2.out 8).trans rfl
  have p9 : v2.cell? ⟨w.heap.size, 9, none⟩ = some (.slice A'1 x.f3.f2.length c'1) := (blk_cell HK1.out 9).trans rfl
  have q9 : v2.cell? ⟨w.heap.size + 1, 9, none⟩ = some (.slice A1 x.f3.f2.length c1) := (blk_cell HK2.out 9).trans rfl
  have p10 : v2.cell? ⟨w.heap.size, 10, none⟩ = some (.int .i8 x.f4.f0) := (blk_cell HK1.out 10).trans rfl
  have q10 : v2.cell? ⟨w.heap.size + 1, 10, none⟩ = some (.int .i8 x.f4.f0) := (blk_cell HK2.out 10).trans rfl
  have p11 : v2.cell? ⟨w.heap.size, 11, none⟩ = some (.string x.f4.f1.f0) := (blk_cell HK1.out 11).trans rfl
  have q11 : v2.cell? ⟨w.heap.size + 1, 11, none⟩ = some (.string x.f4.f1.f0) := (blk_cell HK2.out 11).trans rfl
  have p12 : v2.cell? ⟨w.heap.size, 12, none⟩ = some (.int .i8 x.f4.f1.f1.f0) := (blk_cell HK1.out 12).trans rfl
  have q12 : v2.cell? ⟨w.heap.size + 1, 12, none⟩ = some (.int .i8 x.f4.f1.f1.f0) := (blk_cell HK2.out 12).trans rfl
  have p13 : v2.cell? ⟨w.heap.size, 13, none⟩ = some (.int .i64 x.f4.f1.f1.f1) := (blk_cell HK1.out 13).trans rfl
  have q13 : v2.cell? ⟨w.heap.size + 1, 13, none⟩ = some (.int .i64 x.f4.f1.f1.f1) := (blk_cell HK2.out 13).trans rfl
  have p14 : v2.cell? ⟨w.heap.size, 14, none⟩ = some (.string x.f4.f1.f1.f2) := (blk_cell HK1.out 14).trans rfl
  have q14 : v2.cell? ⟨w.heap.size + 1, 14, none⟩ = some (.string x.f4.f1.f1.f2) := (blk_cell HK2.out 14).trans rfl
  have p15 : v2.cell? ⟨w.heap.size, 15, none⟩ = some (.slice A'2 x.f4.f2.length c'2) := (blk_cell HK1.out 15).trans rfl
  have q15 : v2.cell? ⟨w.heap.size + 1, 15, none⟩ = some (.slice A2 x.f4.f2.length c2) := (blk_cell HK2.out 15).trans rfl
  go_wp2_with fail
  refine (hS4.out A'2 c'2 A2 c2 v2 (Kd.C_below HR'2.out HB.out) hc'2 (Kd.C_below HR2.out HB.out) hc2 (HT.out.below HB.out)).mono ?_
  rintro e v3 ⟨rfl, hb⟩
  replace HK1 := Lib.hid (blk_below HK1.out hb)
  replace HK2 := Lib.hid (blk_below HK2.out hb)
  replace HB := Lib.hid (below_step HB.out hb)
  clear hb
  go_wp2_with fail
  go_ret
  exact ⟨rfl, HB.out⟩
end Go.Proofs.YtllcmggmcogokaaDoor.PAll
end

section
namespace Go.Proofs.YtllcmggmcogokaaDoor.PAll
open Go.RowKit Go.Proofs.YtllcmggmcogokaaDoorW.PrintWords Go.Proofs.YtllcmggmcogokaaDoorW.PrintLast Go.Proofs.YtllcmggmcogokaaDoorW.PrintMore
attribute [local go_sem] max2_int min2_int max_two min_two max_three min_three max_four min_four
set_option linter.unusedVariables false
set_option linter.unusedSimpArgs false
set_option maxHeartbeats 4000000 in
set_option maxRecDepth 100000 in
theorem TermLiterals_gen (cx : Array Value) (hsx : cx.size = 16) (w : World) (b : Bool) (er : Int) (TP : Array Value → World → Prop) (VP : Value → World → Prop)
    (hTP : Hid (∀ ct w1 w2, TP ct w1 → Below w1.heap.size w1 w2 → TP ct w2)) (hVP : Hid (∀ v w1 w2, VP v w1 → Below w1.heap.size w1 w2 → VP v w2)) (hTs : Hid (∀ ct w1, TP ct w1 → ct.size = 16 ∧ ct.all (·.oneCell') = true))
    (hBy : Hid (∀ w1 g, w1.heap[g]? = some (.cells cx 56 (0, 0)) → Below w.heap.size w w1 → Calls Tryd.prog 18 #[.slice (some ⟨g, 0, none⟩) 1 1] w1 fun e w' => e = .returned (.bool b) ∧ Below w1.heap.size w1 w'))
    (hTw : Hid (b = false → ∀ w1, Below w.heap.size w w1 → Calls Tryd.prog 19 #[.agg cx] w1 fun e w' => ∃ ct, e = .returned (.agg ct) ∧ TP ct w' ∧ Below w1.heap.size w1 w'))
    (hC1 : Hid (b = false → ∀ ct w1, TP ct w1 → Below w.heap.size w w1 → Calls Tryd.prog 20 #[.agg ct] w1 fun e w' => e = .returned (.int .i64 er) ∧ Below w1.heap.size w1 w'))
    (hC2 : Hid (b = false → ∀ w1, Below w.heap.size w w1 → Calls Tryd.prog 21 #[.agg cx] w1 fun e w' => e = .returned (.int .i64 er) ∧ Below w1.heap.size w1 w'))
    (hV1 : Hid (b = false → ∀ ct w1, TP ct w1 → Below w.heap.size w w1 → Calls Tryd.prog 23 #[.agg ct] w1 fun e w' => ∃ v, e = .returned v ∧ VP v w' ∧ Below w1.heap.size w1 w'))
    (hV2 : Hid (b = false → ∀ w1, Below w.heap.size w w1 → Calls Tryd.prog 24 #[.agg cx] w1 fun e w' => ∃ v, e = .returned v ∧ VP v w' ∧ Below w1.heap.size w1 w'))
    (hS : Hid (∀ v1 v2 w1, VP v1 w1 → VP v2 w1 → Calls Tryd.prog 22 #[v1, v2] w1 fun e w' => e = .returned (.bool true) ∧ Below w1.heap.size w1 w'))
    (hL : Hid (b = false → ∀ ct w1, TP ct w1 → Below w.heap.size w w1 → Calls Tryd.prog 25 #[.agg ct, .agg cx] w1 fun e w' => e = .returned (.bool true) ∧ Below w1.heap.size w1 w')) :
    Calls Tryd.prog 4 #[.agg cx] w fun e w' => e = .returned (.bool true) ∧ Below w.heap.size w w' := by
  have hin : (Tryd.prog.info? 56).map (·.size) = some 16 := by kernel_rfl
  have hix : (Tryd.prog.info? 56).map (·.size) = some cx.size := by rw [hsx]; exact hin
  have HF := Lib.hid (fill_row #[.int .i8 0, .string ⟨#[]⟩, .slice none 0 0, .int .i8 0, .int .i8 0, .string ⟨#[]⟩, .int .i8 0, .int .i64 0, .string ⟨#[]⟩, .slice none 0 0, .int .i8 0, .string ⟨#[]⟩, .int .i8 0, .int .i64 0, .string ⟨#[]⟩, .slice none 0 0] cx 16 hsx rfl)
  have HB0 := Lib.hid (below_alloc (below_alloc (Below.refl w.heap.size w) (.cells cx 56 (0, 0))) (.cells cx 56 (0, 0)))
  have HK0 := Lib.hid (blk_new w (.cells cx 56 (0, 0)))
  have HK1 := Lib.hid (blk_below HK0.out (below_alloc (Below.refl _ _) (.cells cx 56 (0, 0))))
  have HK2 := Lib.hid (blk_new (w.alloc (.cells cx 56 (0, 0))) (.cells cx 56 (0, 0)))
  rw [show (w.alloc (.cells cx 56 (0, 0))).heap.size = w.heap.size + 1 by simp] at HK2
  go_enter Tryd.func4, Tryd.ntmps4
  go_wp2_with ((with_reducible refine gate_dst (N := 4) rfl ?_); (refine wpList_load_row rfl 56 (.tmp 1) rfl w.heap.size rfl 56 cx (0, 0) _ HK0.out Tryd.underlying56 rfl hix ?_))
  rw [HF.out]
  refine (hBy.out _ (w.heap.size + 1) HK2.out HB0.out).mono ?_
  rintro e v1 ⟨rfl, hb⟩
  have HB := Lib.hid (below_step HB0.out hb)
  replace HK1 := Lib.hid (blk_below HK1.out hb)
  clear hb HB0 HK0 HK2 HF hBy
  cases b with
  | true =>
    go_wp2_with fail
    go_ret
    exact ⟨rfl, HB.out⟩
  | false =>
    go_wp2_with ((with_reducible refine gate_dst (N := 7) rfl ?_); (refine wpList_load_row rfl 56 (.tmp 1) rfl w.heap.size rfl 56 cx (0, 0) _ HK1.out Tryd.underlying56 rfl hix ?_))
    refine (hTw.out (by simp) v1 HB.out).mono ?_
    rintro e v2 ⟨ct, rfl, hT, hb⟩
    replace HB := Lib.hid (below_step HB.out hb)
    replace HK1 := Lib.hid (blk_below HK1.out hb)
    obtain ⟨hts, hto⟩ := hTs.out ct v2 hT
    have hit : (Tryd.prog.info? 56).map (·.size) = some ct.size := by rw [hts]; exact hin
    have HZ := Lib.hid (blk_new v2 (.cells #[.int .i8 0, .string ⟨#[]⟩, .slice none 0 0, .int .i8 0, .int .i8 0, .string ⟨#[]⟩, .int .i8 0, .int .i64 0, .string ⟨#[]⟩, .slice none 0 0, .int .i8 0, .string ⟨#[]⟩, .int .i8 0, .int .i64 0, .string ⟨#[]⟩, .slice none 0 0] 56 (0, 0)))
    have HT := Lib.hid hT
    clear hb hT
    go_wp2_with ((with_reducible refine gate_store (t := 56) (p := 3) rfl ?_); (refine wpList_store_row rfl 56 (.tmp 3) (.tmp 8) rfl v2.heap.size ct rfl rfl 56 #[.int .i8 0, .string ⟨#[]⟩, .slice none 0 0, .int .i8 0, .int .i8 0, .string ⟨#[]⟩, .int .i8 0, .int .i64 0, .string ⟨#[]⟩, .slice none 0 0, .int .i8 0, .string ⟨#[]⟩, .int .i8 0, .int .i64 0, .string ⟨#[]⟩, .slice none 0 0] HZ.out hit (by rw [hts]; rfl) hto ?_))
    have HK3 := Lib.hid (blk_setRow (cs := ct) HZ.out)
    have HB23 := Lib.hid (show Below v2.heap.size v2 ((v2.alloc (.cells #[.int .i8 0, .string ⟨#[]⟩, .slice none 0 0, .int .i8 0, .int .i8 0, .string ⟨#[]⟩, .int .i8 0, .int .i64 0, .string ⟨#[]⟩, .slice none 0 0, .int .i8 0, .string ⟨#[]⟩, .int .i8 0, .int .i64 0, .string ⟨#[]⟩, .slice none 0 0] 56 (0, 0))).setRow v2.heap.size ct) from below_setRow (below_alloc (Below.refl _ _) _) (Nat.le_refl _) ct)
    generalize (v2.alloc (.cells #[.int .i8 0, .string ⟨#[]⟩, .slice none 0 0, .int .i8 0, .int .i8 0, .string ⟨#[]⟩, .int .i8 0, .int .i64 0, .string ⟨#[]⟩, .slice none 0 0, .int .i8 0, .string ⟨#[]⟩, .int .i8 0, .int .i64 0, .string ⟨#[]⟩, .slice none 0 0] 56 (0, 0))).setRow v2.heap.size ct = v3 at *
    replace HK1 := Lib.hid (blk_below HK1.out HB23.out)
    replace HB := Lib.hid (below_step HB.out HB23.out)
    replace HT := Lib.hid (hTP.out ct v2 v3 HT.out HB23.out)
    clear HB23 HZ hTs hTw
    generalize v2.heap.size = g3 at *
    go_wp2_with fail
    refine start_ (n := 18) (S := fun w' => w'.heap[w.heap.size]? = some (.cells cx 56 (0, 0)) ∧ w'.heap[g3]? = some (.cells ct 56 (0, 0)) ∧ Hid (Below v3.heap.size v3 w')) (ds := []) #[false, false, false, false, false, false, false, false, false, false, false, false, false, false, false, false, false, false] (by kernel_rfl) rfl rfl ⟨HK1.out, HK3.out, (Lib.hid (below_drew (Below.refl _ _)))⟩ (fun hHeld => ?_)
    refine take_ (i := 0) (N := some 9) (v := ?_) (a' := ?_) #[true, false, false, false, false, false, false, false, false, false, false, false, false, false, false, false, false, false] rfl rfl (by kernel_rfl) (fun _ _ _ h => h) (Or.inl ⟨by rfl, ?_⟩) hHeld ?_ ?_
    rotate_left
    · rintro w' ⟨s0, s1, s2⟩
      (first | (refine exec_load_row 56 (.tmp 1) ?_ w.heap.size ?_ 56 cx _ s0 Tryd.underlying56 rfl hix <;> rfl) | (refine exec_load_row 56 (.tmp 3) ?_ g3 ?_ 56 ct _ s1 Tryd.underlying56 rfl hit <;> rfl))
    rotate_left
    · simp only [Act.put, List.setIfInBounds_toArray, List.set_cons_zero, List.set_cons_succ, i64_w, i32_w]
      rfl
    refine take_ (i := 2) (N := some 11) (v := ?_) (a' := ?_) #[true, false, true, false, false, false, false, false, false, false, false, false, false, false, false, false, false, false] rfl rfl (by kernel_rfl) (fun _ _ _ h => h) (Or.inl ⟨by rfl, ?_⟩) hHeld ?_ ?_
    rotate_left
    · rintro w' ⟨s0, s1, s2⟩
      (first | (refine exec_load_row 56 (.tmp 1) ?_ w.heap.size ?_ 56 cx _ s0 Tryd.underlying56 rfl hix <;> rfl) | (refine exec_load_row 56 (.tmp 3) ?_ g3 ?_ 56 ct _ s1 Tryd.underlying56 rfl hit <;> rfl))
    rotate_left
    · simp only [Act.put, List.setIfInBounds_toArray, List.set_cons_zero, List.set_cons_succ, i64_w, i32_w]
      rfl
    refine one_ (i := 1) (N := some 10) #[true, true, true, false, false, false, false, false, false, false, false, false, false, false, false, false, false, false] rfl rfl (by kernel_rfl) (by decide) (fun K hK => ?_)
    obtain ⟨s0, s1, s2⟩ := hHeld
    refine goes_ Tryd.func20 (by kernel_rfl) rfl #[.agg ct] (by rfl) rfl rfl (by simp only [List.map_toArray, List.map_cons, List.map_nil]; rfl) ?_
    with_reducible refine (hC1.out (by simp) ct _ (hTP.out ct v3 _ HT.out s2.out) (below_step HB.out s2.out)).mono ?_
    rintro ee w4 ⟨rfl, hb⟩
    refine ⟨_, rfl, ?_⟩
    refine hK.out _ _ ⟨(blk_below s0 hb), (blk_below s1 hb), (Lib.hid (below_step s2.out hb))⟩ (fun hHeld => ?_)
    clear hK K
    refine norm_ (a' := ?_) ?_ ?_
    rotate_left
    · show Act.put _ (some 10) _ = _
      simp only [Act.put, List.setIfInBounds_toArray, List.set_cons_zero, List.set_cons_succ, i64_w, i32_w]
      rfl
    refine one_ (i := 3) (N := some 12) #[true, true, true, true, false, false, false, false, false, false, false, false, false, false, false, false, false, false] rfl rfl (by kernel_rfl) (by decide) (fun K hK => ?_)
    obtain ⟨s0, s1, s2⟩ := hHeld
    refine goes_ Tryd.func21 (by kernel_rfl) rfl #[.agg cx] (by rfl) rfl rfl (by simp only [List.map_toArray, List.map_cons, List.map_nil]; rfl) ?_
    with_reducible refine (hC2.out (by simp) _ (below_step HB.out s2.out)).mono ?_
    rintro ee w5 ⟨rfl, hb⟩
    refine ⟨_, rfl, ?_⟩
    refine hK.out _ _ ⟨(blk_below s0 hb), (blk_below s1 hb), (Lib.hid (below_step s2.out hb))⟩ (fun hHeld => ?_)
    clear hK K
    refine norm_ (a' := ?_) ?_ ?_
    rotate_left
    · show Act.put _ (some 12) _ = _
      simp only [Act.put, List.setIfInBounds_toArray, List.set_cons_zero, List.set_cons_succ, i64_w, i32_w]
      rfl
    refine pure_ (i := 4) (N := some 13) (v := ?_) (a' := ?_) #[true, true, true, true, true, false, false, false, false, false, false, false, false, false, false, false, false, false] rfl rfl (by kernel_rfl) (fun _ _ _ h => h) (Or.inl ⟨by rfl, ?_⟩) ?_ ?_
    rotate_left
    · intro w'
      go_simp
      with_reducible rfl
    rotate_left
    · simp only [Act.put, List.setIfInBounds_toArray, List.set_cons_zero, List.set_cons_succ, i64_w, i32_w]
      rfl
    refine pure_ (i := 5) (N := some 14) (v := ?_) (a' := ?_) #[true, true, true, true, true, true, false, false, false, false, false, false, false, false, false, false, false, false] rfl rfl (by kernel_rfl) (fun _ _ _ h => h) (Or.inl ⟨by rfl, ?_⟩) ?_ ?_
    rotate_left
    · intro w'
      go_simp
      with_reducible rfl
    rotate_left
    · simp only [Act.put, List.setIfInBounds_toArray, List.set_cons_zero, List.set_cons_succ, i64_w, i32_w]
      rfl
    refine take_ (i := 6) (N := some 15) (v := ?_) (a' := ?_) #[true, true, true, true, true, true, true, false, false, false, false, false, false, false, false, false, false, false] rfl rfl (by kernel_rfl) (fun _ _ _ h => h) (Or.inl ⟨by rfl, ?_⟩) hHeld ?_ ?_
    rotate_left
    · rintro w' ⟨s0, s1, s2⟩
      (first | (refine exec_load_row 56 (.tmp 1) ?_ w.heap.size ?_ 56 cx _ s0 Tryd.underlying56 rfl hix <;> rfl) | (refine exec_load_row 56 (.tmp 3) ?_ g3 ?_ 56 ct _ s1 Tryd.underlying56 rfl hit <;> rfl))
    rotate_left
    · simp only [Act.put, List.setIfInBounds_toArray, List.set_cons_zero, List.set_cons_succ, i64_w, i32_w]
      rfl
    refine take_ (i := 8) (N := some 17) (v := ?_) (a' := ?_) #[true, true, true, true, true, true, true, false, true, false, false, false, false, false, false, false, false, false] rfl rfl (by kernel_rfl) (fun _ _ _ h => h) (Or.inl ⟨by rfl, ?_⟩) hHeld ?_ ?_
    rotate_left
    · rintro w' ⟨s0, s1, s2⟩
      (first | (refine exec_load_row 56 (.tmp 1) ?_ w.heap.size ?_ 56 cx _ s0 Tryd.underlying56 rfl hix <;> rfl) | (refine exec_load_row 56 (.tmp 3) ?_ g3 ?_ 56 ct _ s1 Tryd.underlying56 rfl hit <;> rfl))
    rotate_left
    · simp only [Act.put, List.setIfInBounds_toArray, List.set_cons_zero, List.set_cons_succ, i64_w, i32_w]
      rfl
    refine one_ (i := 7) (N := some 16) #[true, true, true, true, true, true, true, true, true, false, false, false, false, false, false, false, false, false] rfl rfl (by kernel_rfl) (by decide) (fun K hK => ?_)
    obtain ⟨s0, s1, s2⟩ := hHeld
    refine goes_ Tryd.func23 (by kernel_rfl) rfl #[.agg ct] (by rfl) rfl rfl (by simp only [List.map_toArray, List.map_cons, List.map_nil]; rfl) ?_
    with_reducible refine (hV1.out (by simp) ct _ (hTP.out ct v3 _ HT.out s2.out) (below_step HB.out s2.out)).mono ?_
    rintro ee w6 ⟨y1, rfl, hy1, hb⟩
    refine ⟨_, rfl, ?_⟩
    refine hK.out _ _ ⟨(blk_below s0 hb), (blk_below s1 hb), (Lib.hid (below_step s2.out hb))⟩ (fun hHeld => ?_)
    clear hK K
    refine norm_ (a' := ?_) ?_ ?_
    rotate_left
    · show Act.put _ (some 16) _ = _
      simp only [Act.put, List.setIfInBounds_toArray, List.set_cons_zero, List.set_cons_succ, i64_w, i32_w]
      rfl
    refine one_ (i := 9) (N := some 18) #[true, true, true, true, true, true, true, true, true, true, false, false, false, false, false, false, false, false] rfl rfl (by kernel_rfl) (by decide) (fun K hK => ?_)
    obtain ⟨s0, s1, s2⟩ := hHeld
    refine goes_ Tryd.func24 (by kernel_rfl) rfl #[.agg cx] (by rfl) rfl rfl (by simp only [List.map_toArray, List.map_cons, List.map_nil]; rfl) ?_
    with_reducible refine (hV2.out (by simp) _ (below_step HB.out s2.out)).mono ?_
    rintro ee w7 ⟨y2, rfl, hy2, hb⟩
    replace hy1 := hVP.out _ _ _ hy1 hb
    refine ⟨_, rfl, ?_⟩
    refine hK.out _ _ ⟨(blk_below s0 hb), (blk_below s1 hb), (Lib.hid (below_step s2.out hb))⟩ (fun hHeld => ?_)
    clear hK K
    refine norm_ (a' := ?_) ?_ ?_
    rotate_left
    · show Act.put _ (some 18) _ = _
      simp only [Act.put, List.setIfInBounds_toArray, List.set_cons_zero, List.set_cons_succ, i64_w, i32_w]
      rfl
    refine one_ (i := 10) (N := some 19) #[true, true, true, true, true, true, true, true, true, true, true, false, false, false, false, false, false, false] rfl rfl (by kernel_rfl) (by decide) (fun K hK => ?_)
    obtain ⟨s0, s1, s2⟩ := hHeld
    refine goes_ Tryd.func22 (by kernel_rfl) rfl #[y1, y2] (by rfl) rfl rfl (by simp only [List.map_toArray, List.map_cons, List.map_nil]; rfl) ?_
    with_reducible refine (hS.out y1 y2 _ hy1 hy2).mono ?_
    rintro ee w8 ⟨rfl, hb⟩
    refine ⟨_, rfl, ?_⟩
    refine hK.out _ _ ⟨(blk_below s0 hb), (blk_below s1 hb), (Lib.hid (below_step s2.out hb))⟩ (fun hHeld => ?_)
    clear hK K
    refine norm_ (a' := ?_) ?_ ?_
    rotate_left
    · show Act.put _ (some 19) _ = _
      simp only [Act.put, List.setIfInBounds_toArray, List.set_cons_zero, List.set_cons_succ, i64_w, i32_w]
      rfl
    refine pure_ (i := 11) (N := some 20) (v := ?_) (a' := ?_) #[true, true, true, true, true, true, true, true, true, true, true, true, false, false, false, false, false, false] rfl rfl (by kernel_rfl) (fun _ _ _ h => h) (Or.inl ⟨by rfl, ?_⟩) ?_ ?_
    rotate_left
    · intro w'
      go_simp
      with_reducible rfl
    rotate_left
    · simp only [Act.put, List.setIfInBounds_toArray, List.set_cons_zero, List.set_cons_succ, i64_w, i32_w]
      rfl
    refine pure_ (i := 12) (N := some 21) (v := ?_) (a' := ?_) #[true, true, true, true, true, true, true, true, true, true, true, true, true, false, false, false, false, false] rfl rfl (by kernel_rfl) (fun _ _ _ h => h) (Or.inl ⟨by rfl, ?_⟩) ?_ ?_
    rotate_left
    · intro w'
      go_simp
      with_reducible rfl
    rotate_left
    · simp only [Act.put, List.setIfInBounds_toArray, List.set_cons_zero, List.set_cons_succ, i64_w, i32_w]
      rfl
    refine take_ (i := 13) (N := some 22) (v := ?_) (a' := ?_) #[true, true, true, true, true, true, true, true, true, true, true, true, true, true, false, false, false, false] rfl rfl (by kernel_rfl) (fun _ _ _ h => h) (Or.inl ⟨by rfl, ?_⟩) hHeld ?_ ?_
    rotate_left
    · rintro w' ⟨s0, s1, s2⟩
      (first | (refine exec_load_row 56 (.tmp 1) ?_ w.heap.size ?_ 56 cx _ s0 Tryd.underlying56 rfl hix <;> rfl) | (refine exec_load_row 56 (.tmp 3) ?_ g3 ?_ 56 ct _ s1 Tryd.underlying56 rfl hit <;> rfl))
    rotate_left
    · simp only [Act.put, List.setIfInBounds_toArray, List.set_cons_zero, List.set_cons_succ, i64_w, i32_w]
      rfl
    refine take_ (i := 14) (N := some 23) (v := ?_) (a' := ?_) #[true, true, true, true, true, true, true, true, true, true, true, true, true, true, true, false, false, false] rfl rfl (by kernel_rfl) (fun _ _ _ h => h) (Or.inl ⟨by rfl, ?_⟩) hHeld ?_ ?_
    rotate_left
    · rintro w' ⟨s0, s1, s2⟩
      (first | (refine exec_load_row 56 (.tmp 1) ?_ w.heap.size ?_ 56 cx _ s0 Tryd.underlying56 rfl hix <;> rfl) | (refine exec_load_row 56 (.tmp 3) ?_ g3 ?_ 56 ct _ s1 Tryd.underlying56 rfl hit <;> rfl))
    rotate_left
    · simp only [Act.put, List.setIfInBounds_toArray, List.set_cons_zero, List.set_cons_succ, i64_w, i32_w]
      rfl
    refine one_ (i := 15) (N := some 24) #[true, true, true, true, true, true, true, true, true, true, true, true, true, true, true, true, false, false] rfl rfl (by kernel_rfl) (by decide) (fun K hK => ?_)
    obtain ⟨s0, s1, s2⟩ := hHeld
    refine goes_ Tryd.func25 (by kernel_rfl) rfl #[.agg ct, .agg cx] (by rfl) rfl rfl (by simp only [List.map_toArray, List.map_cons, List.map_nil]; rfl) ?_
    with_reducible refine (hL.out (by simp) ct _ (hTP.out ct v3 _ HT.out s2.out) (below_step HB.out s2.out)).mono ?_
    rintro ee w9 ⟨rfl, hb⟩
    refine ⟨_, rfl, ?_⟩
    refine hK.out _ _ ⟨(blk_below s0 hb), (blk_below s1 hb), (Lib.hid (below_step s2.out hb))⟩ (fun hHeld => ?_)
    clear hK K
    refine norm_ (a' := ?_) ?_ ?_
    rotate_left
    · show Act.put _ (some 24) _ = _
      simp only [Act.put, List.setIfInBounds_toArray, List.set_cons_zero, List.set_cons_succ, i64_w, i32_w]
      rfl
    refine pure_ (i := 16) (N := some 25) (v := ?_) (a' := ?_) #[true, true, true, true, true, true, true, true, true, true, true, true, true, true, true, true, true, false] rfl rfl (by kernel_rfl) (fun _ _ _ h => h) (Or.inl ⟨by rfl, ?_⟩) ?_ ?_
    rotate_left
    · intro w'
      go_simp
      with_reducible rfl
    rotate_left
    · simp only [Act.put, List.setIfInBounds_toArray, List.set_cons_zero, List.set_cons_succ, i64_w, i32_w]
      rfl
    refine pure_ (i := 17) (N := some 2) (v := ?_) (a' := ?_) #[true, true, true, true, true, true, true, true, true, true, true, true, true, true, true, true, true, true] rfl rfl (by kernel_rfl) (fun _ _ _ h => h) (Or.inl ⟨by rfl, ?_⟩) ?_ ?_
    rotate_left
    · intro w'
      go_simp
      with_reducible rfl
    rotate_left
    · simp only [Act.put, List.setIfInBounds_toArray, List.set_cons_zero, List.set_cons_succ, i64_w, i32_w]
      rfl
    refine done_ (by kernel_rfl) ?_
    obtain ⟨_, _, HB1⟩ := hHeld
    have HB2 := Lib.hid (below_step HB.out HB1.out)
    clear HB1
    go_wp2_with fail
    go_ret
    exact ⟨rfl, HB2.out⟩
theorem C_one {α : Type} {d : Kd α} {w : World} {g : Nat} {t : TypeId} {x : α} {cs : List Value} (hb : w.heap[g]? = some (.cells cs.toArray t (0, 0))) (hK : d.K w x cs) : d.C w (some ⟨g, 0, none⟩) ([x] : List α).length [x] := by
  refine ⟨rfl, by simp, fun _ => ⟨_, rfl, fun j p hj => ?_⟩⟩
  cases j with
  | zero =>
    have : x = p := by simpa using hj
    subst this
    refine ⟨cs, d.K_len hK, hK, fun i u hu => ?_⟩
    rw [Nat.zero_mul, Nat.zero_add, add_plain, blk_cell hb i]
    simpa using hu
  | succ j => simp at hj
set_option maxHeartbeats 4000000 in
theorem TermLiterals_walk (x : S56) (A0 : Option Addr) (c0 : Nat) (A1 : Option Addr) (c1 : Nat) (A2 : Option Addr) (c2 : Nat) (w : World) (hr0 : Kd.C k28 w A0 x.f1.f1.length x.f1.f1) (hc0 : x.f1.f1.length ≤ c0) (hr1 : Kd.C k31 w A1 x.f3.f2.length x.f3.f2) (hc1 : x.f3.f2.length ≤ c1) (hr2 : Kd.C k31 w A2 x.f4.f2.length x.f4.f2) (hc2 : x.f4.f2.length ≤ c2) (hT : TabB w) (b : Bool) (kb kc kd kv ks : Nat) (e : Int) (vs : List ByteArray) (hby : pedigreelaw01_BeyondLiterals.f kb [x] = some b)
    (hp : b = false → (litTermsL x).length < 2000000 ∧ term_CheckLiteral.f kc x.f0 x.f1.f0 x.f1.f1 x.f2 x.f3.f0 x.f3.f1.f0 x.f3.f1.f1.f0 x.f3.f1.f1.f1 x.f3.f1.f1.f2 x.f3.f2 x.f4.f0 x.f4.f1.f0 x.f4.f1.f1.f0 x.f4.f1.f1.f1 x.f4.f1.f1.f2 x.f4.f2 = some e ∧ pedigreeref04_CheckLiteral.f kd x.f0 x.f1.f0 x.f1.f1 x.f2 x.f3.f0 x.f3.f1.f0 x.f3.f1.f1.f0 x.f3.f1.f1.f1 x.f3.f1.f1.f2 x.f3.f2 x.f4.f0 x.f4.f1.f0 x.f4.f1.f1.f0 x.f4.f1.f1.f1 x.f4.f1.f1.f2 x.f4.f2 = some e ∧ term_LiteralVars.f x.f0 x.f1.f0 x.f1.f1 x.f2 x.f3.f0 x.f3.f1.f0 x.f3.f1.f1.f0 x.f3.f1.f1.f1 x.f3.f1.f1.f2 x.f3.f2 x.f4.f0 x.f4.f1.f0 x.f4.f1.f1.f0 x.f4.f1.f1.f1 x.f4.f1.f1.f2 x.f4.f2 = some vs ∧ pedigreeref04_LiteralVars.f kv x.f0 x.f1.f0 x.f1.f1 x.f2 x.f3.f0 x.f3.f1.f0 x.f3.f1.f1.f0 x.f3.f1.f1.f1 x.f3.f1.f1.f2 x.f3.f2 x.f4.f0 x.f4.f1.f0 x.f4.f1.f1.f0 x.f4.f1.f1.f1 x.f4.f1.f1.f2 x.f4.f2 = some vs) (hs : pedigreelaw01_SameTexts.f ks vs vs = some true) :
    Calls Tryd.prog 4 #[.agg #[.int .i8 x.f0, .string x.f1.f0, .slice A0 x.f1.f1.length c0, .int .i8 x.f2, .int .i8 x.f3.f0, .string x.f3.f1.f0, .int .i8 x.f3.f1.f1.f0, .int .i64 x.f3.f1.f1.f1, .string x.f3.f1.f1.f2, .slice A1 x.f3.f2.length c1, .int .i8 x.f4.f0, .string x.f4.f1.f0, .int .i8 x.f4.f1.f1.f0, .int .i64 x.f4.f1.f1.f1, .string x.f4.f1.f1.f2, .slice A2 x.f4.f2.length c2]] w fun e w' => e = .returned (.bool true) ∧ Below w.heap.size w w' := by
  have HT := Lib.hid hT
  have HR0 := Lib.hid hr0
  have HR1 := Lib.hid hr1
  have HR2 := Lib.hid hr2
  have hl0 : b = false → x.f1.f1.length < 2000000 ∧ (exprTermsL x.f3).length < 2000000 ∧ (exprTermsL x.f4).length < 2000000 := fun hb => by have hl := (hp hb).1; rw [litTermsL] at hl; simp at hl; omega
  have hpos : ∀ {w1 : World} {u v : Value} {E : Option Addr}, Kd.C Kd.string w1 E vs.length vs → True := fun _ => trivial
  refine TermLiterals_gen #[.int .i8 x.f0, .string x.f1.f0, .slice A0 x.f1.f1.length c0, .int .i8 x.f2, .int .i8 x.f3.f0, .string x.f3.f1.f0, .int .i8 x.f3.f1.f1.f0, .int .i64 x.f3.f1.f1.f1, .string x.f3.f1.f1.f2, .slice A1 x.f3.f2.length c1, .int .i8 x.f4.f0, .string x.f4.f1.f0, .int .i8 x.f4.f1.f1.f0, .int .i64 x.f4.f1.f1.f1, .string x.f4.f1.f1.f2, .slice A2 x.f4.f2.length c2] rfl w b e (fun ct w1 => k56t.K w1 x ct.toList) (fun v w1 => ∃ E j, v = .slice E vs.length j ∧ vs.length ≤ j ∧ Kd.C Kd.string w1 E vs.length vs) (Lib.hid ?_) (Lib.hid ?_) (Lib.hid ?_) (Lib.hid ?_) (Lib.hid ?_) (Lib.hid ?_) (Lib.hid ?_) (Lib.hid ?_) (Lib.hid ?_) (Lib.hid ?_) (Lib.hid ?_)
  · exact fun ct w1 w2 h hb => k56t.K_below hb h
  · rintro v w1 w2 ⟨E, j, rfl, hj, hE⟩ hb
    exact ⟨E, j, rfl, hj, Kd.C_below hE hb⟩
  · intro ct w1 h
    refine ⟨by have h2 := k56t.K_len h; rw [Array.length_toList] at h2; exact h2, ?_⟩
    rw [Array.all_eq_true_iff_forall_mem]
    exact fun v hv => k56t.K_one h v (by simpa using hv)
  · intro w1 g hg hb
    exact pedigreelaw01_BeyondLiterals.calls (k := kb) (c0 := 1) (l0 := [x]) (r := b) (hr0 := C_one (cs := [.int .i8 x.f0, .string x.f1.f0, .slice A0 x.f1.f1.length c0, .int .i8 x.f2, .int .i8 x.f3.f0, .string x.f3.f1.f0, .int .i8 x.f3.f1.f1.f0, .int .i64 x.f3.f1.f1.f1, .string x.f3.f1.f1.f2, .slice A1 x.f3.f2.length c1, .int .i8 x.f4.f0, .string x.f4.f1.f0, .int .i8 x.f4.f1.f1.f0, .int .i64 x.f4.f1.f1.f1, .string x.f4.f1.f1.f2, .slice A2 x.f4.f2.length c2]) hg (k56_mk _ x hc0 (Kd.C_below HR0.out hb) hc1 (Kd.C_below HR1.out hb) hc2 (Kd.C_below HR2.out hb))) (hc0 := Nat.le_refl _) (h := hby)
  · intro hb0 w1 hb
    obtain ⟨q0, q1, q2⟩ := hl0 hb0
    refine (TwLiteral_step x (Lib.hid (TwAtom_step x.f1 q0)) (Lib.hid (TwExpr_twin x.f3 q1)) (Lib.hid (TwExpr_twin x.f4 q2)) A0 c0 A1 c1 A2 c2 w1 (Kd.C_below HR0.out hb) hc0 (Kd.C_below HR1.out hb) hc1 (Kd.C_below HR2.out hb) hc2 (HT.out.below hb)).mono ?_
    rintro ee w2 ⟨cs, rfl, hM, hb2⟩
    exact ⟨cs.toArray, rfl, by simpa using k56t.K_of_M hM, hb2⟩
  · intro hb0 ct w1 hT hb
    obtain ⟨B0, d0, B1, d1, B2, d2, he, hd0, hD0, hd1, hD1, hd2, hD2⟩ := k56t_open hT
    obtain rfl : ct = _ := by rw [← Array.toArray_toList (xs := ct), he]
    exact term_CheckLiteral.calls (k := kc) (r := e) (hr0_2 := marked_C (d := k28) (d' := k28) rfl (fun _ _ _ h => h) hD0) (hc0_2 := Nat.le_trans (Nat.le_succ _) hd0) (hr0_9 := marked_C (d := k31t) (d' := k31) rfl k31t_plain hD1) (hc0_9 := Nat.le_trans (Nat.le_succ _) hd1) (hr0_15 := marked_C (d := k31t) (d' := k31) rfl k31t_plain hD2) (hc0_15 := Nat.le_trans (Nat.le_succ _) hd2) (h := (hp hb0).2.1)
  · intro hb0 w1 hb
    exact pedigreeref04_CheckLiteral.calls (k := kd) (r := e) (hr0_2 := Kd.C_below HR0.out hb) (hc0_2 := hc0) (hr0_9 := Kd.C_below HR1.out hb) (hc0_9 := hc1) (hr0_15 := Kd.C_below HR2.out hb) (hc0_15 := hc2) (h := (hp hb0).2.2.1)
  · intro hb0 ct w1 hT hb
    obtain ⟨B0, d0, B1, d1, B2, d2, he, hd0, hD0, hd1, hD1, hd2, hD2⟩ := k56t_open hT
    obtain rfl : ct = _ := by rw [← Array.toArray_toList (xs := ct), he]
    refine (term_LiteralVars.calls (r := vs) (hr0_2 := marked_C (d := k28) (d' := k28) rfl (fun _ _ _ h => h) hD0) (hc0_2 := Nat.le_trans (Nat.le_succ _) hd0) (hr0_9 := marked_C (d := k31t) (d' := k31) rfl k31t_plain hD1) (hc0_9 := Nat.le_trans (Nat.le_succ _) hd1) (hr0_15 := marked_C (d := k31t) (d' := k31) rfl k31t_plain hD2) (hc0_15 := Nat.le_trans (Nat.le_succ _) hd2) (h := (hp hb0).2.2.2.1)).mono ?_
    rintro ee w2 ⟨y, rfl, hR, hb2⟩
    obtain ⟨E, j, rfl, hj, hE⟩ := Kd.R_reads hR
    exact ⟨_, rfl, ⟨E, j, rfl, hj, hE⟩, hb2⟩
  · intro hb0 w1 hb
    refine (pedigreeref04_LiteralVars.calls (k := kv) (r := vs) (hr0_2 := Kd.C_below HR0.out hb) (hc0_2 := hc0) (hr0_9 := Kd.C_below HR1.out hb) (hc0_9 := hc1) (hr0_15 := Kd.C_below HR2.out hb) (hc0_15 := hc2) (h := (hp hb0).2.2.2.2)).mono ?_
    rintro ee w2 ⟨y, rfl, hR, hb2⟩
    obtain ⟨E, j, rfl, hj, hE⟩ := Kd.R_reads hR
    exact ⟨_, rfl, ⟨E, j, rfl, hj, hE⟩, hb2⟩
  · rintro v1 v2 w1 ⟨E1, j1, rfl, hj1, hE1⟩ ⟨E2, j2, rfl, hj2, hE2⟩
    refine (pedigreelaw01_SameTexts.calls (k := ks) (r := true) (hr0 := hE1) (hc0 := hj1) (hr1 := hE2) (hc1 := hj2) (h := hs)).mono ?_
    rintro ee w2 ⟨rfl, hb2⟩
    exact ⟨rfl, hb2.below⟩
  · intro hb0 ct w1 hT hb
    obtain ⟨q0, q1, q2⟩ := hl0 hb0
    obtain ⟨B0, d0, B1, d1, B2, d2, he, hd0, hD0, hd1, hD1, hd2, hD2⟩ := k56t_open hT
    obtain rfl : ct = _ := by rw [← Array.toArray_toList (xs := ct), he]
    exact LeLiteral_step x (Lib.hid (LeAtom_step x.f1 q0)) (Lib.hid (LeExpr_twin x.f3 q1)) (Lib.hid (LeExpr_twin x.f4 q2)) B0 d0 B1 d1 B2 d2 A0 c0 A1 c1 A2 c2 w1 hD0 hd0 hD1 hd1 hD2 hd2 (Kd.C_below HR0.out hb) hc0 (Kd.C_below HR1.out hb) hc1 (Kd.C_below HR2.out hb) hc2 (HT.out.below hb)
end Go.Proofs.YtllcmggmcogokaaDoor.PAll
end

section
namespace Go.Proofs.YtllcmggmcogokaaDoor.RowTermLiterals
open Go.ChangeShapes Go.WideShapes Go.ChangeAt Go.RowKit Go.Proofs.YtllcmggmcogokaaDoorW.PrintWords Go.Proofs.YtllcmggmcogokaaDoor.PAll
theorem own : ownKnob Tryd.prog.godebug = none := by kernel_rfl
theorem laidOut : laidOutB Tryd.prog = true := by kernel_rfl
theorem gName : Tryd.prog.globalNamed "internal/strconv.uint64pow10" = some 1 := by kernel_rfl
theorem gType : (Tryd.prog.globals[1]?).map (·.type) = some 191 := by kernel_rfl
theorem cellsB : Tryd.prog.cellsOf 191 = 20 := by kernel_rfl
theorem cellsU : Tryd.prog.cellsOf 184 = 1 := by kernel_rfl
set_option maxRecDepth 100000 in
theorem table {W : World} (h : laidMetH Tryd.prog Rows.termLiteralsRow.laid W) : TabB W := by
  have h' : laidMet Tryd.prog Rows.termLiteralsRow.laid W := h
  obtain ⟨ps, ⟨g1, t1, cs1, fuel1, p1, q1, _, _, _, _, ⟨g2, t2, cs2, fuel2, p2, q2, _, _, _, _, ⟨g', t', cs, fuel, p, q, hg', ht', hvar, hd, _, _⟩, _⟩, _⟩, _⟩ := h'
  obtain rfl := Option.some.inj (gName.symm.trans hg')
  obtain rfl := Option.some.inj (gType.symm.trans ht')
  have hd' : DataW.trod (fun _ => ()) Tryd.prog W 0 (fun _ => true) false fuel 191 cs.toList = some (Lib.tabData .u64 Lib.pow10Tab, p) := hd
  unfold TabB Lib.TabIs
  rw [hvar, ← Lib.cells_of_tab Tryd.underlying191 Tryd.underlying184 cellsU cellsB hd']
set_option maxRecDepth 100000 in
theorem contract (H : Type) (enc : TypeId × Value → H) (W : World) (base : Nat) (args : Array Value) (ds gs : List (DataW H)) (before : List MemPlace)
    (hval : ∀ (j : Nat) t v, Tryd.f4.params[j]? = some t → args[j]? = some v → Value.okWide Tryd.prog W .any base t v)
    (hW : DataW.Whole enc Tryd.prog Tryd.f4.params.toList Rows.termLiteralsSpec.vars false W args.toList ds gs before)
    (hz : (DataW.weightsEach Tryd.prog (Tryd.f4.params.toList ++ Rows.termLiteralsSpec.plain.varTypes Tryd.prog) (ds ++ gs)).all (· ≤ reachBytes) = true) (hL : laidMetH Tryd.prog Rows.termLiteralsRow.laid W) :
    Calls Tryd.prog 4 args W fun e W' => ∃ v, e = .returned v ∧ Rows.termLiteralsSpec.post enc Tryd.prog Tryd.f4 false true false false W args v W' := by
  have hW' := hW
  obtain ⟨p, q, hA0, hV, rfl, hfz, hnd⟩ := hW
  have hA : DataW.TrodAll enc Tryd.prog W 0 (fun _ => true) true Tryd.f4.params.toList args.toList ds p := hA0
  rw [Tryd.params4] at hA hval
  obtain ⟨v0, vs0, d0, ds0, p0, q0, hargs, rfl, rfl, h0, r0⟩ := trodAll_cons hA
  obtain ⟨rfl, rfl, rfl⟩ := trodAll_nil r0
  obtain rfl : args = #[v0] := by cases args; simp_all
  obtain ⟨rfl, rfl⟩ := trodVars_none hV
  obtain ⟨cs, rfl, hsz⟩ := okWide_struct Tryd.underlying56 (hval 0 56 v0 rfl rfl)
  have h0k := h0
  obtain ⟨fuel, hf⟩ := h0
  have hw0 : ∀ n ∈ d0.weights Tryd.prog 56, n ≤ reachBytes := by
    intro n hn
    have := List.all_eq_true.1 hz n (by
      rw [Tryd.params4]
      simp only [List.cons_append, List.nil_append, DataW.weightsEach]
      exact List.mem_append_left _ hn)
    simpa using this
  obtain ⟨x, hK, hF⟩ := opens_literal fuel H enc W cs.toList (d0, p0) hf hw0
  obtain ⟨A0, c0, A1, c1, A2, c2, he, hc0, hr0, hc1, hr1, hc2, hr2⟩ := k56_open hK
  obtain rfl : cs = _ := by rw [← Array.toArray_toList (xs := cs), he]
  obtain ⟨b, kb, kc, kd, kv, ks, e, vs, hby, hp, hs⟩ := termLiterals_pure x hF
  simp only [List.append_nil] at hW'
  refine (TermLiterals_walk x A0 c0 A1 c1 A2 c2 W hr0 hc0 hr1 hc1 hr2 hc2 (table hL) b kb kc kd kv ks e vs hby hp hs).mono fun ee W' ⟨he2, hb⟩ => ?_
  subst he2
  have hlt : ∀ y ∈ p0, y.block < W.heap.size := fun y hy => by simpa using hW'.lt y (by simpa using hy)
  exact ⟨_, rfl, ⟨[d0], [], _, [], p0, [], hW', trodAll_mk1 (shut_bool Tryd.underlying4 _), trodAll_mk1 (Below.trod laidOut (by kernel_rfl) (of_decide_eq_true (by kernel_rfl)) h0k hb hlt), rfl, hb.frame _, fun h => by cases h⟩⟩
def db32 : List Int := [0, 1, 28, 2, 29, 14, 24, 3, 30, 22, 20, 15, 25, 17, 4, 8, 31, 27, 13, 23, 21, 19, 16, 7, 26, 12, 18, 6, 11, 5, 10, 9]
def db64 : List Int := [0, 1, 56, 2, 57, 49, 28, 3, 61, 58, 42, 50, 38, 29, 17, 4, 62, 47, 59, 36, 45, 43, 51, 22, 53, 39, 33, 30, 24, 18, 12, 5, 63, 55, 48, 27, 60, 41, 37, 16, 46, 35, 44, 21, 52, 32, 23, 11, 54, 26, 40, 15, 34, 20, 31, 10, 25, 14, 19, 9, 13, 8, 7, 6]
noncomputable def laidHeap (h : Array Obj) : Array Obj :=
  let h1 := h.modify 1 fun
      | .cells _ t frozen => .cells (Lib.pow10Tab.map fun z => Value.int .u64 z).toArray t frozen
      | o => o
  let h2 := h1.modify 2 fun
      | .cells _ t frozen => .cells (db32.map fun z => Value.int .u8 z).toArray t frozen
      | o => o
  h2.modify 3 fun
      | .cells _ t frozen => .cells (db64.map fun z => Value.int .u8 z).toArray t frozen
      | o => o
noncomputable def laidWorld (os : Os) : World :=
  { World.holding Tryd.prog os ⟨#[], #[], []⟩ with heap := laidHeap (World.holding Tryd.prog os ⟨#[], #[], []⟩).heap }
def lit0 : Value := .agg #[.int .i8 0, .string ⟨#[]⟩, .slice none 0 0, .int .i8 0, .int .i8 0, .string ⟨#[]⟩, .int .i8 0, .int .i64 0, .string ⟨#[]⟩, .slice none 0 0, .int .i8 0, .string ⟨#[]⟩, .int .i8 0, .int .i64 0, .string ⟨#[]⟩, .slice none 0 0]
def dat0 {H : Type} : DataW H := .agg [.lit (.int .i8 0), .agg [.lit (.string []), .nil], .lit (.int .i8 0), .agg [.lit (.int .i8 0), .agg [.lit (.string []), .agg [.lit (.int .i8 0), .lit (.int .i64 0), .lit (.string [])]], .nil], .agg [.lit (.int .i8 0), .agg [.lit (.string []), .agg [.lit (.int .i8 0), .lit (.int .i64 0), .lit (.string [])]], .nil]]
set_option maxRecDepth 100000 in
theorem laid_met (os : Os) : laidMet Tryd.prog Rows.termLiteralsRow.laid ((laidWorld os).forCall (fun _ _ => 0) ⟨#[], #[lit0], []⟩).memory :=
  laidMet_of_run' 8 (by kernel_rfl) (by kernel_rfl)
set_option maxRecDepth 100000 in
theorem reads (os : Os) {H : Type} (enc : TypeId × Value → H) : ∃ places, DataW.whole enc Tryd.prog ((laidWorld os).forCall (fun _ _ => 0) ⟨#[], #[lit0], []⟩).memory Tryd.f4.params.toList Rows.termLiteralsSpec.vars false #[lit0].toList 8 = some ([dat0], [], places) :=
  ⟨[], by kernel_rfl⟩
set_option maxRecDepth 100000 in
theorem lifted (os : Os) (started : os.Started) (H : Type) (enc : TypeId × Value → H) (F : Stop.Interp) :
    ReturnsInHanded {} Tryd.checked os 4 .any ((OpenSpec.ofChange Rows.termLiteralsSpec).preRow enc Tryd.prog Tryd.f4 Rows.termLiteralsRow.domain false Rows.termLiteralsRow.laid) (((OpenSpec.ofChange Rows.termLiteralsSpec).at F).post enc Tryd.prog Tryd.f4 false true false false) := by
  obtain ⟨places, hx⟩ := reads os enc
  refine returnsInHanded_of_row (C := Tryd.checked) (s := OpenSpec.ofChange Rows.termLiteralsSpec) own started (by kernel_rfl) Tryd.func4
    (witness_row_at (enc := enc) (C := Tryd.checked) false (laidWorld os) #[lit0] rfl (by kernel_rfl) (by kernel_rfl) (by kernel_rfl)
      (OpenSpec.preRow_of_cond 8 hx (by kernel_rfl) (fun k hk => by cases hk) (by kernel_rfl) (laid_met os))) ?_
  intro W base args ds gs before hval hW _ _ hz hL _ _
  exact contract H enc W base args ds gs before hval hW hz hL
theorem said : Rows.TermLiteralsSaid :=
  OpenClaim.holds_of_cond 4 Tryd.f4 rfl rfl rfl rfl rfl rfl rfl ⟨rfl, rfl, rfl, rfl, rfl⟩ rfl rfl rfl rfl rfl (by kernel_rfl) Tryd.func4 (by kernel_rfl)
    (of_decide_eq_true (by kernel_rfl)) (by unfold Func.isWrapper; first | (rw [if_pos (by decide +kernel)]; kernel_rfl) | (rw [if_neg (by decide +kernel)]; exact ⟨rfl, rfl⟩))
    (fun os started H enc _ F => by rw [OpenClaim.pre_eq_preRow]; exact lifted os started H enc F)
theorem plain (f : FuncId) (fn : Func) (hf : Tryd.pinned.checked.prog.funcNamed "pedigree/pedigreelaw04.TermLiterals" = some f) (hfn : Tryd.pinned.checked.prog.funcs[f]? = some fn) :
    true = Tryd.pinned.checked.prog.looks [] ∧ ∀ (j : Nat) t, fn.params[j]? = some t → Tryd.pinned.checked.prog.wantsStandIn t = false := by
  obtain rfl : f = 4 := Option.some.inj ((show Tryd.prog.funcNamed "pedigree/pedigreelaw04.TermLiterals" = some 4 by kernel_rfl).symm.trans hf) |>.symm
  obtain rfl : fn = Tryd.f4 := (Option.some.inj (Tryd.func4.symm.trans hfn)).symm
  refine ⟨by kernel_rfl, fun j t ht => ?_⟩
  rw [Tryd.params4] at ht
  obtain rfl : t = 56 := by simpa using Array.mem_of_getElem? ht
  exact (show Tryd.prog.wantsStandIn 56 = false by kernel_rfl)
theorem card : Rows.TermLiteralsCardSaid :=
  Claim7.holds_tied_plain_at .later [] _ _ _ _ said (fun _ h => by cases h) (by kernel_rfl) (fun _ h => by cases h) termLiterals_row_tie rfl ⟨rfl, rfl⟩ (by kernel_rfl) rfl plain (by kernel_rfl)
end Go.Proofs.YtllcmggmcogokaaDoor.RowTermLiterals
end
