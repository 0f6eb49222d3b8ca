-- Written by programs of this work and by hand, joined by a program. Lean checks it.
import Derived.Test.YtllcmggmcogokaaDoorProg
import Derived.Below
import Derived.Deep.Draws
import Derived.Deep.AppendLies
import Derived.Maps.AppendAt
import Derived.OwnWalk
import Derived.Laws.BytesArg
import Derived.Laws.MakeOwn
import Derived.Laws.OwnMore
import Derived.Deep.OwnRows
import Derived.Tactics
import Derived.Lib.ConvBytes
import Derived.Laws.Slices
import Derived.WalkKit
import Derived.KernelRfl
import Derived.RowKit3
import Derived.Deep.LoopGhost
import Derived.Deep.QuietTactic
import Derived.BigQuiet
import Derived.WideLaws
import Derived.Deep.DeepCutAuto
import Derived.Deep.CutBlock
import Derived.Deep.RegionHeld3
import Derived.Laws.Rows
import Derived.Lib.AppendStr
import Derived.ArgAppend
import Derived.Laws.IdiomCopy
import Derived.OrdersHeld
import Derived.Laws.BitsLemmas
import Derived.RowKit
import Derived.Lib.Hide
import Derived.Outline
import Derived.Deep.RegionWith
import Derived.Deep.RegionLaw
import Derived.Deep.DeepFit
import Derived.Test.YtllcmggmcogokaaDoorMeaA1
set_option linter.unusedVariables false
set_option linter.unusedSimpArgs false
section
namespace Go.Proofs.YtllcmggmcogokaaDoor.PAll
open Go.RowKit Go.Proofs.YtllcmggmcogokaaDoorW.PrintWords Go.Proofs.YtllcmggmcogokaaDoorW.PrintLast Go.Proofs.YtllcmggmcogokaaDoorW.PrintMore
attribute [local go_sem] max2_int min2_int max_two min_two max_three min_three max_four min_four
theorem cz3 {w : World} {g : Nat} {t : TypeId} {v0 v1 v2 : Value} (h : w.heap[g]? = some (.cells #[v0, v1, v2] t (0, 0))) : w.cell? ⟨g, 0, none⟩ = some v0 ∧ w.cell? ⟨g, 1, none⟩ = some v1 ∧ w.cell? ⟨g, 2, none⟩ = some v2 := ⟨(xag h 0).trans rfl, (xag h 1).trans rfl, (xag h 2).trans rfl⟩
theorem cz4 {w : World} {g : Nat} {t : TypeId} {v0 v1 v2 v3 : Value} (h : w.heap[g]? = some (.cells #[v0, v1, v2, v3] t (0, 0))) : w.cell? ⟨g, 0, none⟩ = some v0 ∧ w.cell? ⟨g, 1, none⟩ = some v1 ∧ w.cell? ⟨g, 2, none⟩ = some v2 ∧ w.cell? ⟨g, 3, none⟩ = some v3 := ⟨(xag h 0).trans rfl, (xag h 1).trans rfl, (xag h 2).trans rfl, (xag h 3).trans rfl⟩
theorem cz6 {w : World} {g : Nat} {t : TypeId} {v0 v1 v2 v3 v4 v5 : Value} (h : w.heap[g]? = some (.cells #[v0, v1, v2, v3, v4, v5] t (0, 0))) : w.cell? ⟨g, 0, none⟩ = some v0 ∧ w.cell? ⟨g, 1, none⟩ = some v1 ∧ w.cell? ⟨g, 2, none⟩ = some v2 ∧ w.cell? ⟨g, 3, none⟩ = some v3 ∧ w.cell? ⟨g, 4, none⟩ = some v4 ∧ w.cell? ⟨g, 5, none⟩ = some v5 := ⟨(xag h 0).trans rfl, (xag h 1).trans rfl, (xag h 2).trans rfl, (xag h 3).trans rfl, (xag h 4).trans rfl, (xag h 5).trans rfl⟩
theorem fz3 {w : World} {g : Nat} {t : TypeId} {cs : Array Value} (h : w.heap[g]? = some (.cells cs t (0, 0))) : w.frozen? ⟨g, 0, none⟩ = false ∧ w.frozen? ⟨g, 1, none⟩ = false ∧ w.frozen? ⟨g, 2, none⟩ = false := ⟨xal h 0, xal h 1, xal h 2⟩
theorem fz4 {w : World} {g : Nat} {t : TypeId} {cs : Array Value} (h : w.heap[g]? = some (.cells cs t (0, 0))) : w.frozen? ⟨g, 0, none⟩ = false ∧ w.frozen? ⟨g, 1, none⟩ = false ∧ w.frozen? ⟨g, 2, none⟩ = false ∧ w.frozen? ⟨g, 3, none⟩ = false := ⟨xal h 0, xal h 1, xal h 2, xal h 3⟩
theorem fz6 {w : World} {g : Nat} {t : TypeId} {cs : Array Value} (h : w.heap[g]? = some (.cells cs t (0, 0))) : w.frozen? ⟨g, 0, none⟩ = false ∧ w.frozen? ⟨g, 1, none⟩ = false ∧ w.frozen? ⟨g, 2, none⟩ = false ∧ w.frozen? ⟨g, 3, none⟩ = false ∧ w.frozen? ⟨g, 4, none⟩ = false ∧ w.frozen? ⟨g, 5, none⟩ = false := ⟨xal h 0, xal h 1, xal h 2, xal h 3, xal h 4, xal h 5⟩
abbrev sI := @List.setIfInBounds_toArray
abbrev sZ := @List.set_cons_zero
abbrev sS := @List.set_cons_succ
def errW : Option Int → Value
 | none => .nilIface
 | some c => .iface 0 (.int .i64 c)
theorem xan : errW none = .nilIface := rfl
theorem xam (c : Int) : errW (some c) = .iface 0 (.int .i64 c) := rfl
theorem info9 : (Tryd.prog.info? 9).map (fun i => (i.zero, i.size, i.bytes)) = some (some (.string ⟨#[]⟩), 1, 16) := by kernel_rfl
theorem info26 : (Tryd.prog.info? 26).map (fun i => (i.zero, i.size, i.bytes)) = some (some (.agg #[(.int .i8 0), (.int .i64 0), (.string ⟨#[]⟩)]), 3, 32) := by kernel_rfl
theorem info28 : (Tryd.prog.info? 28).map (fun i => (i.zero, i.size, i.bytes)) = some (some (.agg #[(.string ⟨#[]⟩), (.int .i8 0), (.int .i64 0), (.string ⟨#[]⟩)]), 4, 48) := by kernel_rfl
theorem info31 : (Tryd.prog.info? 31).map (fun i => (i.zero, i.size, i.bytes)) = some (some (.agg #[(.int .i8 0), (.string ⟨#[]⟩), (.int .i8 0), (.int .i64 0), (.string ⟨#[]⟩), (.slice none 0 0)]), 6, 80) := by kernel_rfl
theorem info41 : (Tryd.prog.info? 41).map (fun i => (i.zero, i.size, i.bytes)) = some (some (.agg #[(.string ⟨#[]⟩), (.int .i8 0), (.int .i64 0), (.string ⟨#[]⟩)]), 4, 48) := by kernel_rfl
structure S8 where
 f0 : Int
 f1 : Int
 f2 : Bool
 f3 : Int
structure S14 where
 f0 : ByteArray
 f1 : Int
structure S26 where
 f0 : Int
 f1 : Int
 f2 : ByteArray
def z26 : S26 := ⟨(0 : Int), (0 : Int), (⟨#[]⟩ : ByteArray)⟩
def k26 : Kd S26 := Kd.iso (Kd.pair (Kd.int .i8) (Kd.pair (Kd.int .i64) Kd.string)) (fun x : S26 => (x.f0, x.f1, x.f2))
theorem k26_heap : Kd.Heap k26 := Kd.heap_iso _ (Kd.heap_pair (Kd.heap_int .i8) (Kd.heap_pair (Kd.heap_int .i64) Kd.heap_string))
theorem k26_open {w : World} {x : S26} {cs : List Value} (h : k26.K w x cs) : cs = [.int .i8 x.f0, .int .i64 x.f1, .string x.f2] := by
 obtain ⟨_, _, rfl, rfl, ⟨_, _, rfl, rfl, rfl⟩⟩ := h
 exact rfl
theorem k26_mk (w : World) (x : S26)  : k26.K w x [.int .i8 x.f0, .int .i64 x.f1, .string x.f2] := ⟨[.int .i8 x.f0], [.int .i64 x.f1, .string x.f2], rfl, rfl, ⟨[.int .i64 x.f1], [.string x.f2], rfl, rfl, rfl⟩⟩
theorem k26_mkM (w : World) (base : Nat) (ok : Nat → Prop) (x : S26)  : k26.M w base ok x [.int .i8 x.f0, .int .i64 x.f1, .string x.f2] := ⟨[.int .i8 x.f0], [.int .i64 x.f1, .string x.f2], rfl, rfl, ⟨[.int .i64 x.f1], [.string x.f2], rfl, rfl, rfl⟩⟩
def rd_T26 (xs : List S26) (i : Int) : S26 := xs.getD i.toNat z26
theorem at_T26 {w : World} {A : Option Addr} {n : Nat} {xs : List S26} (h : Kd.C k26 w A n xs) (i : Int) (h0 : 0 ≤ i) (h1 : i < n) : ∃ ad , A = some ad ∧ w.cell? (ad.add (i.toNat * 3)) = some (.int .i8 (rd_T26 xs i).f0) ∧ w.cell? ⟨(ad.add (i.toNat * 3)).block, (ad.add (i.toNat * 3)).off + 1, none⟩ = some (.int .i64 (rd_T26 xs i).f1) ∧ w.cell? ⟨(ad.add (i.toNat * 3)).block, (ad.add (i.toNat * 3)).off + 2, none⟩ = some (.string (rd_T26 xs i).f2) := by
 obtain ⟨ad, c, e, _, hK, hc0⟩ := Kd.C_get h z26 i h0 h1
 have hc : ∀ j u, c[j]? = some u → w.cell? (ad.add (i.toNat * 3 + j)) = some u := hc0
 obtain rfl := k26_open hK
 exact ⟨ad, e, hc 0 _ rfl, by rw [← xbb _ _ 1 (by omega)]; exact hc 1 _ rfl, by rw [← xbb _ _ 2 (by omega)]; exact hc 2 _ rfl⟩
structure S28 where
 f0 : ByteArray
 f1 : S26
def z28 : S28 := ⟨(⟨#[]⟩ : ByteArray), z26⟩
def k28 : Kd S28 := Kd.iso (Kd.pair Kd.string k26) (fun x : S28 => (x.f0, x.f1))
theorem k28_heap : Kd.Heap k28 := Kd.heap_iso _ (Kd.heap_pair Kd.heap_string k26_heap)
theorem k28_open {w : World} {x : S28} {cs : List Value} (h : k28.K w x cs) : cs = [.string x.f0, .int .i8 x.f1.f0, .int .i64 x.f1.f1, .string x.f1.f2] := by
 obtain ⟨_, _, rfl, rfl, s1⟩ := h
 obtain rfl := k26_open s1
 exact rfl
theorem k28_mk (w : World) (x : S28)  : k28.K w x [.string x.f0, .int .i8 x.f1.f0, .int .i64 x.f1.f1, .string x.f1.f2] := ⟨[.string x.f0], [.int .i8 x.f1.f0, .int .i64 x.f1.f1, .string x.f1.f2], rfl, rfl, (k26_mk w x.f1 )⟩
theorem k28_mkM (w : World) (base : Nat) (ok : Nat → Prop) (x : S28)  : k28.M w base ok x [.string x.f0, .int .i8 x.f1.f0, .int .i64 x.f1.f1, .string x.f1.f2] := ⟨[.string x.f0], [.int .i8 x.f1.f0, .int .i64 x.f1.f1, .string x.f1.f2], rfl, rfl, (k26_mkM w base ok x.f1 )⟩
def rd_T28 (xs : List S28) (i : Int) : S28 := xs.getD i.toNat z28
theorem at_T28 {w : World} {A : Option Addr} {n : Nat} {xs : List S28} (h : Kd.C k28 w A n xs) (i : Int) (h0 : 0 ≤ i) (h1 : i < n) : ∃ ad , A = some ad ∧ w.cell? (ad.add (i.toNat * 4)) = some (.string (rd_T28 xs i).f0) ∧ w.cell? ⟨(ad.add (i.toNat * 4)).block, (ad.add (i.toNat * 4)).off + 1, none⟩ = some (.int .i8 (rd_T28 xs i).f1.f0) ∧ w.cell? ⟨(ad.add (i.toNat * 4)).block, (ad.add (i.toNat * 4)).off + 2, none⟩ = some (.int .i64 (rd_T28 xs i).f1.f1) ∧ w.cell? ⟨(ad.add (i.toNat * 4)).block, (ad.add (i.toNat * 4)).off + 3, none⟩ = some (.string (rd_T28 xs i).f1.f2) := by
 obtain ⟨ad, c, e, _, hK, hc0⟩ := Kd.C_get h z28 i h0 h1
 have hc : ∀ j u, c[j]? = some u → w.cell? (ad.add (i.toNat * 4 + j)) = some u := hc0
 obtain rfl := k28_open hK
 exact ⟨ad, e, hc 0 _ rfl, by rw [← xbb _ _ 1 (by omega)]; exact hc 1 _ rfl, by rw [← xbb _ _ 2 (by omega)]; exact hc 2 _ rfl, by rw [← xbb _ _ 3 (by omega)]; exact hc 3 _ rfl⟩
structure S31 where
 f0 : Int
 f1 : S28
 f2 : (List S31)
def z31 : S31 := ⟨(0 : Int), z28, ([] : List S31)⟩
def F31 (d : Kd S31) : Kd S31 := Kd.iso (Kd.pair (Kd.int .i8) (Kd.pair k28 (Kd.slice 31 d))) (fun x : S31 => (x.f0, x.f1, x.f2))
theorem mono31 : Kd.Mono F31 := Kd.mono_iso _ (Kd.mono_pair (Kd.mono_const _) (Kd.mono_pair (Kd.mono_const _) (Kd.mono_slice 31 Kd.mono_id)))
theorem sub31 : Kd.Sub F31 [31] := Kd.sub_iso _ (Kd.sub_pair (Kd.sub_const _ (by decide)) (Kd.sub_pair (Kd.sub_const _ (by decide)) (Kd.sub_slice 31 (by decide) Kd.sub_id)))
theorem sz31 : ∀ n, (Kd.upto F31 6 [31] n).sz = 6 := Kd.upto_sz (fun _ => rfl)
def k31 : Kd S31 := Kd.fix F31 6 [31] sz31 (Kd.upto_E sub31)
theorem k31_heap : Kd.Heap k31 := Kd.heap_fix (fun _ h_ => Kd.heap_iso _ (Kd.heap_pair (Kd.heap_int .i8) (Kd.heap_pair k28_heap (Kd.heap_slice 31 h_))))
theorem k31_open {w : World} {x : S31} {cs : List Value} (h : k31.K w x cs) : ∃ A5 c5, cs = [.int .i8 x.f0, .string x.f1.f0, .int .i8 x.f1.f1.f0, .int .i64 x.f1.f1.f1, .string x.f1.f1.f2, .slice A5 x.f2.length c5] ∧ x.f2.length ≤ c5 ∧ k31.C w A5 x.f2.length x.f2 := by
 obtain ⟨n, h⟩ := h
 cases n with
 | zero => exact h.elim
 | succ n =>
  obtain ⟨_, _, rfl, rfl, ⟨_, _, rfl, s1, ⟨A5, c5, rfl, l5, g5⟩⟩⟩ := h
  obtain rfl := k28_open s1
  exact ⟨A5, c5, rfl, l5, Kd.fix_C g5⟩
theorem k31_mk (w : World) (x : S31) {A5 : Option Addr} {c5 : Nat} (l5 : x.f2.length ≤ c5) (g5 : k31.C w A5 x.f2.length x.f2) : k31.K w x [.int .i8 x.f0, .string x.f1.f0, .int .i8 x.f1.f1.f0, .int .i64 x.f1.f1.f1, .string x.f1.f1.f2, .slice A5 x.f2.length c5] := by
 obtain ⟨n5, q5⟩ := Kd.fix_C_back mono31 g5
 have r5 := Kd.upto_C_le mono31 sz31 (show n5 ≤ n5 by omega) q5
 exact ⟨n5 + 1, ⟨[.int .i8 x.f0], [.string x.f1.f0, .int .i8 x.f1.f1.f0, .int .i64 x.f1.f1.f1, .string x.f1.f1.f2, .slice A5 x.f2.length c5], rfl, rfl, ⟨[.string x.f1.f0, .int .i8 x.f1.f1.f0, .int .i64 x.f1.f1.f1, .string x.f1.f1.f2], [.slice A5 x.f2.length c5], rfl, (k28_mk w x.f1 ), ⟨A5, c5, rfl, l5, r5⟩⟩⟩⟩
theorem k31_mkM (w : World) (base : Nat) (ok : Nat → Prop) (x : S31) {v5 : Value} (g5 : k31.R 31 w base ok v5 x.f2) : k31.M w base ok x [.int .i8 x.f0, .string x.f1.f0, .int .i8 x.f1.f1.f0, .int .i64 x.f1.f1.f1, .string x.f1.f1.f2, v5] := by
 obtain ⟨n5, q5⟩ := Kd.fix_R_back mono31 g5
 have r5 := Kd.upto_R_le mono31 sz31 (show n5 ≤ n5 by omega) q5
 exact ⟨n5 + 1, ⟨[.int .i8 x.f0], [.string x.f1.f0, .int .i8 x.f1.f1.f0, .int .i64 x.f1.f1.f1, .string x.f1.f1.f2, v5], rfl, rfl, ⟨[.string x.f1.f0, .int .i8 x.f1.f1.f0, .int .i64 x.f1.f1.f1, .string x.f1.f1.f2], [v5], rfl, (k28_mkM w base ok x.f1 ), ⟨v5, rfl, r5⟩⟩⟩⟩
theorem k31_openF {W : World} {ok : Nat → Prop} {x : S31} {cs : List Value} (h : Kd.FK k31 W ok x cs) : ∃ A5 c5, cs = [.int .i8 x.f0, .string x.f1.f0, .int .i8 x.f1.f1.f0, .int .i64 x.f1.f1.f1, .string x.f1.f1.f2, .slice A5 x.f2.length c5] ∧ x.f2.length ≤ c5 ∧ Kd.F k31 W ok A5 x.f2.length x.f2 := by
 obtain ⟨A5, c5, rfl, l5, _⟩ := k31_open (Kd.FK_now h)
 exact ⟨A5, c5, rfl, l5, (fun W' hW => by obtain ⟨A5_, c5_, he, l5_, g5_⟩ := k31_open (h W' hW); injection (Option.some.inj (show some (Value.slice A5 x.f2.length c5) = some (Value.slice A5_ x.f2.length c5_) from congrArg (fun l => l[5]?) he)) with ha_ _ _; rw [ha_]; exact g5_)⟩
theorem k31_mkF (W : World) (ok : Nat → Prop) (x : S31) {A5 : Option Addr} {c5 : Nat} (l5 : x.f2.length ≤ c5) (g5 : Kd.F k31 W ok A5 x.f2.length x.f2) : Kd.FK k31 W ok x [.int .i8 x.f0, .string x.f1.f0, .int .i8 x.f1.f1.f0, .int .i64 x.f1.f1.f1, .string x.f1.f1.f2, .slice A5 x.f2.length c5] := fun W2 hW => k31_mk W2 x l5 (g5 W2 hW)
def rd_T31 (xs : List S31) (i : Int) : S31 := xs.getD i.toNat z31
theorem at_T31 {w : World} {A : Option Addr} {n : Nat} {xs : List S31} (h : Kd.C k31 w A n xs) (i : Int) (h0 : 0 ≤ i) (h1 : i < n) : ∃ ad A5 c5, A = some ad ∧ w.cell? (ad.add (i.toNat * 6)) = some (.int .i8 (rd_T31 xs i).f0) ∧ w.cell? ⟨(ad.add (i.toNat * 6)).block, (ad.add (i.toNat * 6)).off + 1, none⟩ = some (.string (rd_T31 xs i).f1.f0) ∧ w.cell? ⟨(ad.add (i.toNat * 6)).block, (ad.add (i.toNat * 6)).off + 2, none⟩ = some (.int .i8 (rd_T31 xs i).f1.f1.f0) ∧ w.cell? ⟨(ad.add (i.toNat * 6)).block, (ad.add (i.toNat * 6)).off + 3, none⟩ = some (.int .i64 (rd_T31 xs i).f1.f1.f1) ∧ w.cell? ⟨(ad.add (i.toNat * 6)).block, (ad.add (i.toNat * 6)).off + 4, none⟩ = some (.string (rd_T31 xs i).f1.f1.f2) ∧ w.cell? ⟨(ad.add (i.toNat * 6)).block, (ad.add (i.toNat * 6)).off + 5, none⟩ = some (.slice A5 (rd_T31 xs i).f2.length c5) ∧ (rd_T31 xs i).f2.length ≤ c5 ∧ k31.C w A5 (rd_T31 xs i).f2.length (rd_T31 xs i).f2 := by
 obtain ⟨ad, c, e, _, hK, hc0⟩ := Kd.C_get h z31 i h0 h1
 have hc : ∀ j u, c[j]? = some u → w.cell? (ad.add (i.toNat * 6 + j)) = some u := hc0
 obtain ⟨A5, c5, rfl, l5, g5⟩ := k31_open hK
 exact ⟨ad, A5, c5, e, hc 0 _ rfl, by rw [← xbb _ _ 1 (by omega)]; exact hc 1 _ rfl, by rw [← xbb _ _ 2 (by omega)]; exact hc 2 _ rfl, by rw [← xbb _ _ 3 (by omega)]; exact hc 3 _ rfl, by rw [← xbb _ _ 4 (by omega)]; exact hc 4 _ rfl, by rw [← xbb _ _ 5 (by omega)]; exact hc 5 _ rfl, l5, g5⟩
structure S41 where
 f0 : ByteArray
 f1 : S26
def z41 : S41 := ⟨(⟨#[]⟩ : ByteArray), z26⟩
def k41 : Kd S41 := Kd.iso (Kd.pair Kd.string k26) (fun x : S41 => (x.f0, x.f1))
theorem k41_open {w : World} {x : S41} {cs : List Value} (h : k41.K w x cs) : cs = [.string x.f0, .int .i8 x.f1.f0, .int .i64 x.f1.f1, .string x.f1.f2] := by
 obtain ⟨_, _, rfl, rfl, s1⟩ := h
 obtain rfl := k26_open s1
 exact rfl
theorem k41_mk (w : World) (x : S41)  : k41.K w x [.string x.f0, .int .i8 x.f1.f0, .int .i64 x.f1.f1, .string x.f1.f2] := ⟨[.string x.f0], [.int .i8 x.f1.f0, .int .i64 x.f1.f1, .string x.f1.f2], rfl, rfl, (k26_mk w x.f1 )⟩
theorem k41_mkM (w : World) (base : Nat) (ok : Nat → Prop) (x : S41)  : k41.M w base ok x [.string x.f0, .int .i8 x.f1.f0, .int .i64 x.f1.f1, .string x.f1.f2] := ⟨[.string x.f0], [.int .i8 x.f1.f0, .int .i64 x.f1.f1, .string x.f1.f2], rfl, rfl, (k26_mkM w base ok x.f1 )⟩
def rd_T41 (xs : List S41) (i : Int) : S41 := xs.getD i.toNat z41
theorem at_T41 {w : World} {A : Option Addr} {n : Nat} {xs : List S41} (h : Kd.C k41 w A n xs) (i : Int) (h0 : 0 ≤ i) (h1 : i < n) : ∃ ad , A = some ad ∧ w.cell? (ad.add (i.toNat * 4)) = some (.string (rd_T41 xs i).f0) ∧ w.cell? ⟨(ad.add (i.toNat * 4)).block, (ad.add (i.toNat * 4)).off + 1, none⟩ = some (.int .i8 (rd_T41 xs i).f1.f0) ∧ w.cell? ⟨(ad.add (i.toNat * 4)).block, (ad.add (i.toNat * 4)).off + 2, none⟩ = some (.int .i64 (rd_T41 xs i).f1.f1) ∧ w.cell? ⟨(ad.add (i.toNat * 4)).block, (ad.add (i.toNat * 4)).off + 3, none⟩ = some (.string (rd_T41 xs i).f1.f2) := by
 obtain ⟨ad, c, e, _, hK, hc0⟩ := Kd.C_get h z41 i h0 h1
 have hc : ∀ j u, c[j]? = some u → w.cell? (ad.add (i.toNat * 4 + j)) = some u := hc0
 obtain rfl := k41_open hK
 exact ⟨ad, e, hc 0 _ rfl, by rw [← xbb _ _ 1 (by omega)]; exact hc 1 _ rfl, by rw [← xbb _ _ 2 (by omega)]; exact hc 2 _ rfl, by rw [← xbb _ _ 3 (by omega)]; exact hc 3 _ rfl⟩
structure S82 where
 f0 : ByteArray
 f1 : S28
def z82 : S82 := ⟨(⟨#[]⟩ : ByteArray), z28⟩
def k82 : Kd S82 := Kd.iso (Kd.pair Kd.string k28) (fun x : S82 => (x.f0, x.f1))
theorem k82_open {w : World} {x : S82} {cs : List Value} (h : k82.K w x cs) : cs = [.string x.f0, .string x.f1.f0, .int .i8 x.f1.f1.f0, .int .i64 x.f1.f1.f1, .string x.f1.f1.f2] := by
 obtain ⟨_, _, rfl, rfl, s1⟩ := h
 obtain rfl := k28_open s1
 exact rfl
theorem k82_mk (w : World) (x : S82)  : k82.K w x [.string x.f0, .string x.f1.f0, .int .i8 x.f1.f1.f0, .int .i64 x.f1.f1.f1, .string x.f1.f1.f2] := ⟨[.string x.f0], [.string x.f1.f0, .int .i8 x.f1.f1.f0, .int .i64 x.f1.f1.f1, .string x.f1.f1.f2], rfl, rfl, (k28_mk w x.f1 )⟩
theorem k82_mkM (w : World) (base : Nat) (ok : Nat → Prop) (x : S82)  : k82.M w base ok x [.string x.f0, .string x.f1.f0, .int .i8 x.f1.f1.f0, .int .i64 x.f1.f1.f1, .string x.f1.f1.f2] := ⟨[.string x.f0], [.string x.f1.f0, .int .i8 x.f1.f1.f0, .int .i64 x.f1.f1.f1, .string x.f1.f1.f2], rfl, rfl, (k28_mkM w base ok x.f1 )⟩
def rd_T82 (xs : List S82) (i : Int) : S82 := xs.getD i.toNat z82
theorem at_T82 {w : World} {A : Option Addr} {n : Nat} {xs : List S82} (h : Kd.C k82 w A n xs) (i : Int) (h0 : 0 ≤ i) (h1 : i < n) : ∃ ad , A = some ad ∧ w.cell? (ad.add (i.toNat * 5)) = some (.string (rd_T82 xs i).f0) ∧ w.cell? ⟨(ad.add (i.toNat * 5)).block, (ad.add (i.toNat * 5)).off + 1, none⟩ = some (.string (rd_T82 xs i).f1.f0) ∧ w.cell? ⟨(ad.add (i.toNat * 5)).block, (ad.add (i.toNat * 5)).off + 2, none⟩ = some (.int .i8 (rd_T82 xs i).f1.f1.f0) ∧ w.cell? ⟨(ad.add (i.toNat * 5)).block, (ad.add (i.toNat * 5)).off + 3, none⟩ = some (.int .i64 (rd_T82 xs i).f1.f1.f1) ∧ w.cell? ⟨(ad.add (i.toNat * 5)).block, (ad.add (i.toNat * 5)).off + 4, none⟩ = some (.string (rd_T82 xs i).f1.f1.f2) := by
 obtain ⟨ad, c, e, _, hK, hc0⟩ := Kd.C_get h z82 i h0 h1
 have hc : ∀ j u, c[j]? = some u → w.cell? (ad.add (i.toNat * 5 + j)) = some u := hc0
 obtain rfl := k82_open hK
 exact ⟨ad, e, hc 0 _ rfl, by rw [← xbb _ _ 1 (by omega)]; exact hc 1 _ rfl, by rw [← xbb _ _ 2 (by omega)]; exact hc 2 _ rfl, by rw [← xbb _ _ 3 (by omega)]; exact hc 3 _ rfl, by rw [← xbb _ _ 4 (by omega)]; exact hc 4 _ rfl⟩
structure S53 where
 f0 : ByteArray
 f1 : (List S28)
def k53 : Kd S53 := Kd.iso (Kd.pair Kd.string (Kd.slice 28 k28)) (fun x : S53 => (x.f0, x.f1))
structure S56 where
 f0 : Int
 f1 : S53
 f2 : Int
 f3 : S31
 f4 : S31
def k56 : Kd S56 := Kd.iso (Kd.pair (Kd.int .i8) (Kd.pair k53 (Kd.pair (Kd.int .i8) (Kd.pair k31 k31)))) (fun x : S56 => (x.f0, x.f1, x.f2, x.f3, x.f4))
structure S125 where
 f0 : Int
 f1 : S28
def k125 : Kd S125 := Kd.iso (Kd.pair (Kd.int .i8) k28) (fun x : S125 => (x.f0, x.f1))
structure S67 where
 f0 : ByteArray
 f1 : (List S125)
 f2 : (List S56)
structure S77 where
 f0 : ByteArray
 f1 : (List S26)
structure S79 where
 f0 : S67
 f1 : S67
 f2 : S53
 f3 : S53
 f4 : (List S82)
 f5 : (List S82)
 f6 : S77
def Ev {α : Type} (f : Nat → Option α) (r : α) : Prop := ∃ k0, ∀ k, k0 ≤ k → f k = some r
theorem Ev.step {α : Type} {f g : Nat → Option α} {r : α} (h : Ev f r) (hg : ∀ k, g (k + 1) = f k) : Ev g r := by
 obtain ⟨k0, hk⟩ := h
 refine ⟨k0 + 1, fun k hk' => ?_⟩
 obtain ⟨j, rfl⟩ : ∃ j, k = j + 1 := ⟨k - 1, by omega⟩
 rw [hg]
 exact hk j (by omega)
theorem Ev.of {α : Type} {g : Nat → Option α} {r : α} (hg : ∀ k, g (k + 1) = some r) : Ev g r := by
 refine ⟨1, fun k hk' => ?_⟩
 obtain ⟨j, rfl⟩ : ∃ j, k = j + 1 := ⟨k - 1, by omega⟩
 exact hg j
theorem Ev.const {α : Type} {g : Nat → Option α} {r : α} (hg : ∀ k, g k = some r) : Ev g r := ⟨0, fun k _ => hg k⟩
theorem Ev.cong {α : Type} {f g : Nat → Option α} {r : α} (h : Ev f r) (hg : ∀ k, g k = f k) : Ev g r := by
 obtain ⟨k0, hk⟩ := h
 exact ⟨k0, fun k hk' => by rw [hg]; exact hk k hk'⟩
theorem Ev.bind {α β : Type} {f : Nat → Option α} {r : α} {g : Nat → α → Option β} {s : β} (h : Ev f r) (h2 : Ev (fun k => g k r) s) : Ev (fun k => (f k).bind (g k)) s := by
 obtain ⟨k0, hk⟩ := h
 obtain ⟨k1, hk1⟩ := h2
 refine ⟨max k0 k1, fun k hk' => ?_⟩
 show (f k).bind (g k) = some s
 rw [hk k (by omega)]
 exact hk1 k (by omega)
theorem Ev.at {α : Type} {f : Nat → Option α} {r : α} (h : Ev f r) : ∃ k, f k = some r := by
 obtain ⟨k0, hk⟩ := h
 exact ⟨k0, hk k0 (Nat.le_refl _)⟩
theorem w64 {n : Int} (h0 : -9223372036854775808 ≤ n) (h1 : n ≤ 9223372036854775807) : wrap64 n = n := by unfold wrap64; omega
mutual
def w1_ExprParts.l0 : Nat → Int → Int → List (S31) → Int → Option (Int)
 | 0, _, _, _, _ => none
 | k + 1, x1, x5, x6, x7 => if (x6.length : Int) > 0 then (if (wrap64 (x5 + (x6.length : Int))) > x1 then (w1_ExprParts.j1 k x1 (wrap64 (x5 + (x6.length : Int))) x6 x7 true) else (w1_ExprParts.j1 k x1 (wrap64 (x5 + (x6.length : Int))) x6 x7 (decide (x7 ≥ 65536)))) else (some x5)
def w1_ExprParts.j1 : Nat → Int → Int → List (S31) → Int → Bool → Option (Int)
 | 0, _, _, _, _, _ => none
 | k + 1, x1, x5, x6, x7, x28 => if x28 = true then (some (wrap64 (x1 + 1))) else (w1_ExprParts.l1 k x1 x5 x6 x7 ([] : List (S31)) 0)
def w1_ExprParts.l1 : Nat → Int → Int → List (S31) → Int → List (S31) → Int → Option (Int)
 | 0, _, _, _, _, _, _ => none
 | k + 1, x1, x5, x6, x7, x8, x9 => if x9 < (x6.length : Int) then (if 0 ≤ x9 then (if (wrap64 ((wrap64 (x5 + (x8.length : Int))) + (((rd_T31 x6 x9).f2).length : Int))) > x1 then (some (wrap64 (x1 + 1))) else (w1_ExprParts.l2 k x1 x5 x6 x7 x8 x9 0)) else (none)) else (w1_ExprParts.l0 k x1 x5 x8 (wrap64 (x7 + 1)))
def w1_ExprParts.l2 : Nat → Int → Int → List (S31) → Int → List (S31) → Int → Int → Option (Int)
 | 0, _, _, _, _, _, _, _ => none
 | k + 1, x1, x5, x6, x7, x8, x9, x10 => if 0 ≤ x9 then (if x9 < (x6.length : Int) then (if x10 < (((rd_T31 x6 x9).f2).length : Int) then (if 0 ≤ x10 then (if x8.length < 1759218604441 then (w1_ExprParts.l2 k x1 x5 x6 x7 (x8 ++ [(⟨(rd_T31 ((rd_T31 x6 x9).f2) x10).f0, (⟨(rd_T31 ((rd_T31 x6 x9).f2) x10).f1.f0, (⟨(rd_T31 ((rd_T31 x6 x9).f2) x10).f1.f1.f0, (rd_T31 ((rd_T31 x6 x9).f2) x10).f1.f1.f1, (rd_T31 ((rd_T31 x6 x9).f2) x10).f1.f1.f2⟩ : S26)⟩ : S28), (rd_T31 ((rd_T31 x6 x9).f2) x10).f2⟩ : S31)]) x9 (wrap64 (x10 + 1))) else (none)) else (none)) else (w1_ExprParts.l1 k x1 x5 x6 x7 x8 (wrap64 (x9 + 1)))) else (none)) else (none)
end
def w1_ExprParts.f (k : Nat) (a0_0 : Int) (a0_1 : ByteArray) (a0_2 : Int) (a0_3 : Int) (a0_4 : ByteArray) (l0_5 : List (S31)) (a1 : Int) : Option (Int) := w1_ExprParts.l0 k a1 0 (([(⟨a0_0, (⟨a0_1, (⟨a0_2, a0_3, a0_4⟩ : S26)⟩ : S28), l0_5⟩ : S31)] : List (S31))) 0
set_option maxHeartbeats 8000000 in
set_option maxRecDepth 100000 in
theorem w1_ExprParts.calls (k : Nat) (a0_0 : Int) (a0_1 : ByteArray) (a0_2 : Int) (a0_3 : Int) (a0_4 : ByteArray) (P0_5_ : Nat → Prop) (A0_5 : Option Addr) (c0_5 : Nat) (l0_5 : List (S31)) (a1 : Int) (r : Int) (w : World) (hs0_5 : Kd.V k31 31 w w.heap.size (fun k_ => P0_5_ k_) (.slice A0_5 l0_5.length c0_5) l0_5) (h : w1_ExprParts.f k a0_0 a0_1 a0_2 a0_3 a0_4 l0_5 a1 = some r) :
  Calls Tryd.prog 45 #[.agg #[.int .i8 a0_0, .string a0_1, .int .i8 a0_2, .int .i64 a0_3, .string a0_4, .slice A0_5 l0_5.length c0_5], .int .i64 a1] w fun e w' => e = .returned (.int .i64 r) ∧ Below w.heap.size w w' := by
 have hu31 := Tryd.underlying31
 have HO0_5 := Aside0.mk (show Kd.V k31 31 w w.heap.size (fun k_ => (P0_5_ k_ ∨ w.heap.size ≤ k_)) (.slice A0_5 l0_5.length c0_5) l0_5 from Kd.V_mono hs0_5 (fun k_ hk => .inl hk))
 have HB := Aside0.mk (Below.refl w.heap.size w)
 have H : (w1_ExprParts.l0 k a1 0 (([(⟨a0_0, (⟨a0_1, (⟨a0_2, a0_3, a0_4⟩ : S26)⟩ : S28), l0_5⟩ : S31)] : List (S31))) 0) = some r := h
 clear h
 obtain ⟨y102, hy102⟩ : ∃ y_ : List (S31), y_ = (([(⟨a0_0, (⟨a0_1, (⟨a0_2, a0_3, a0_4⟩ : S26)⟩ : S28), l0_5⟩ : S31)] : List (S31))) := ⟨_, rfl⟩
 replace H : (w1_ExprParts.l0 k a1 0 y102 0) = some r := by first | (rw [hy102]; with_reducible exact H) | (have H2_ := (Option.bind_some _ _).symm.trans H; rw [hy102]; with_reducible exact H2_) | (have H2_ := (Option.bind_some _ _).symm.trans H; with_reducible exact H2_) | with_reducible exact H | (rw [hy102]; exact H) | exact H
 have Ny102 := Aside0.mk hy102
 clear hy102
 have H' := Aside0.mk H
 clear H
 go_enter Tryd.func45, Tryd.ntmps45
 go_wp2_with (first | ((with_reducible refine xap (N := 2) rfl ?_); refine xaq ?hg (N := 2) ?hd (cs := #[.int .i8 a0_0, .string a0_1, .int .i8 a0_2, .int .i64 a0_3, .string a0_4, .slice A0_5 l0_5.length c0_5]) (t := 31) ?hr ?_; (case hd => rfl); (case hg => rfl); (case hr => first | (go_simp; done) | (go_simp; rfl)); intro gb101 hg w3 hbox hb; have n0_ := Aside0.mk (Kd.V_below (Kd.V_elderB (by (with_reducible repeat (first | apply Kd.V_alloc | apply Kd.V_drewN | apply Kd.V_drew)); exact HO0_5.out) gb101 (Nat.le_of_eq hg.symm)) hb); have n1_ := Aside0.mk (xae (by repeat (first | (with_reducible first | exact HB.out | apply xab | apply xaa | apply xac) | exact HB.out)) hb); have n2_ := Aside0.mk (hbox); have n3_ := Aside0.mk ((by rw [hg]; exact (xao (by repeat (first | (with_reducible first | exact HB.out | apply xab | apply xaa | apply xac) | exact HB.out))) : w.heap.size ≤ gb101)); have n4_ := n3_; clear HO0_5; clear HB; have HO0_5 := n0_; have HB := n1_; have BK101 := n2_; have GW101 := n3_; have GE101 := n4_; clear n0_ n1_ n2_ n3_ n4_; clear hb hbox hg; obtain ⟨hcz4_0, hcz4_1, hcz4_2, hcz4_3, hcz4_4, hcz4_5⟩ := cz6 BK101.out; obtain ⟨hfz4_0, hfz4_1, hfz4_2, hfz4_3, hfz4_4, hfz4_5⟩ := fz6 BK101.out) | ((with_reducible refine xap (N := 12) rfl ?_); refine Kd.N_lit k31 _ 31 ?hg (N' := 12) ?hd (xs := ([(⟨a0_0, (⟨a0_1, (⟨a0_2, a0_3, a0_4⟩ : S26)⟩ : S28), l0_5⟩ : S31)] : List (S31))) (inner := [.int .i8 a0_0, .string a0_1, .int .i8 a0_2, .int .i64 a0_3, .string a0_4, .slice A0_5 l0_5.length c0_5]) (ok := (fun k_ => (P0_5_ k_ ∨ w.heap.size ≤ k_) ∧ k_ ≠ gb101)) (okp := (fun k_ => (P0_5_ k_ ∨ w.heap.size ≤ k_) ∧ k_ ≠ gb101)) ?hr ?hp (fun _ hk => hk) ((show ∀ k_, w3.heap.size ≤ k_ → (fun k_ => (P0_5_ k_ ∨ w.heap.size ≤ k_) ∧ k_ ≠ gb101) k_ from fun k_ hk => ⟨(.inr (Nat.le_trans (xao (by repeat (first | (with_reducible first | exact HB.out | apply xab | apply xaa | apply xac | refine xah ?_ GE101.out) | exact HB.out))) hk)), Kd.freshB (g := gb101) (o := .cells #[.int .i8 a0_0, .string a0_1, .int .i8 a0_2, .int .i64 a0_3, .string a0_4, .slice A0_5 l0_5.length c0_5] 31 (0, 0)) (by (with_reducible repeat (first | refine xaf ?_ _ | refine xai ?_ | refine xad ?_ _)); exact BK101.out) k_ hk⟩) _ (Nat.le_refl _)) (Below.refl _ _) (Nat.le_refl _) (by simp) ?_; (case hd => rfl); (case hg => rfl); (case hr => first | (go_simp; done) | (go_simp; rfl)); (case hp => exact (Reps.c6 (show Kd.FK k31 _ _ (⟨a0_0, (⟨a0_1, (⟨a0_2, a0_3, a0_4⟩ : S26)⟩ : S28), l0_5⟩ : S31) [.int .i8 a0_0, .string a0_1, .int .i8 a0_2, .int .i64 a0_3, .string a0_4, .slice A0_5 l0_5.length c0_5] from (k31_mkF _ _ (⟨a0_0, (⟨a0_1, (⟨a0_2, a0_3, a0_4⟩ : S26)⟩ : S28), l0_5⟩ : S31) (Kd.V_reads' (Kd.V_mono (ok' := (fun k_ => (P0_5_ k_ ∨ w.heap.size ≤ k_) ∧ k_ ≠ gb101)) (HO0_5.out) (fun k_ hk => ⟨hk.1, hk.2⟩))).2.1 (Kd.V_F (Kd.V_mono (ok' := (fun k_ => (P0_5_ k_ ∨ w.heap.size ≤ k_) ∧ k_ ≠ gb101)) (HO0_5.out) (fun k_ hk => ⟨hk.1, hk.2⟩))))) (Reps.none _ _))); intro v103 w5 ho6 hb hg_ hnew_; clear hg_ hnew_; (first | rw [← Ny102.out] at ho6 | (simp only [Int.reduceToNat] at ho6; rw [← Ny102.out] at ho6)); have n0_ := Aside0.mk (Kd.V_elder' (by (with_reducible repeat (first | apply Kd.V_alloc | apply Kd.V_drewN | apply Kd.V_drew)); exact HO0_5.out) (Kd.N_base ho6) hb); have n1_ := Aside0.mk (Kd.N_lower ho6 (xao (by repeat (first | (with_reducible first | exact HB.out | apply xab | apply xaa | apply xac | refine xah ?_ GE101.out) | exact HB.out)))); have n2_ := Aside0.mk (xak (g := gb101) (o := .cells #[.int .i8 a0_0, .string a0_1, .int .i8 a0_2, .int .i64 a0_3, .string a0_4, .slice A0_5 l0_5.length c0_5] 31 (0, 0)) (by (with_reducible repeat (first | refine xaf ?_ _ | refine xai ?_ | refine xad ?_ _)); exact BK101.out) hb); have n3_ := Aside0.mk (xae (by repeat (first | (with_reducible first | exact HB.out | apply xab | apply xaa | apply xac | refine xah ?_ GE101.out) | exact HB.out)) hb); clear HO0_5; clear BK101; clear HB; have HO0_5 := n0_; have HO104 := n1_; have BK101 := n2_; have HB := n3_; clear n0_ n1_ n2_ n3_; clear hb ho6))
 go_loopg [5, 6, 7] k (fun kq v5 v6 v7 w' => ∃ (x5_1 : Int) (x6_1 : List (S31)) (x7_1 : Int), v5 = .int .i64 x5_1 ∧ v7 = .int .i64 x7_1 ∧ Aside0 (w1_ExprParts.l0 kq a1 x5_1 x6_1 x7_1 = some r) ∧ Aside0 (kq ≤ k) ∧ Aside0 (Kd.N k31 31 w' w.heap.size (fun k_ => (P0_5_ k_ ∨ w.heap.size ≤ k_) ∧ k_ ≠ gb101) v6 x6_1) ∧ Aside0 (Kd.V k31 31 w' w.heap.size (fun k_ => (P0_5_ k_ ∨ w.heap.size ≤ k_) ∧ some k_ ≠ (v6 : Value).ownBlock ∧ k_ ≠ gb101) (.slice A0_5 l0_5.length c0_5) l0_5) ∧ Aside0 (w'.heap[gb101]? = some (.cells #[.int .i8 a0_0, .string a0_1, .int .i8 a0_2, .int .i64 a0_3, .string a0_4, (.slice A0_5 l0_5.length c0_5)] 31 (0, 0))) ∧ Aside0 (Below w.heap.size w w'))
 case atStart => exact ⟨(0), (y102), (0), (by first | rfl | (simp; done) | (simp [*]; done)), (by first | rfl | (simp; done) | (simp [*]; done)), H', ⟨Nat.le_refl _⟩, ⟨by (with_reducible repeat (first | apply Kd.N_alloc | apply Kd.N_drewN | apply Kd.N_drew)); exact HO104.out⟩, ⟨by (with_reducible repeat (first | apply Kd.V_alloc | apply Kd.V_drewN | apply Kd.V_drew)); exact Kd.V_mono HO0_5.out (fun _ hk => ⟨hk.1.1, ⟨hk.2, hk.1.2⟩⟩)⟩, ⟨by (with_reducible repeat (first | refine xaf ?_ _ | refine xai ?_ | refine xad ?_ _)); exact BK101.out⟩, ⟨by repeat (first | (with_reducible first | exact HB.out | apply xab | apply xaa | apply xac | refine xah ?_ GE101.out) | exact HB.out)⟩⟩
 case round =>
  clear H'
  try clear p2
  try clear c4
  try clear c6
  try clear hcz4_0
  try clear hcz4_1
  try clear hcz4_2
  try clear hcz4_3
  try clear hcz4_4
  try clear hcz4_5
  try clear hfz4_0
  try clear hfz4_1
  try clear hfz4_2
  try clear hfz4_3
  try clear hfz4_4
  try clear hfz4_5
  obtain ⟨x5_1, x6_1, x7_1, rfl, rfl, HA, HK1, HO_6, HO_102005, BK101, HB⟩ := hrel
  cases gk with
  | zero => exact absurd HA.out (by simp [w1_ExprParts.l0])
  | succ k1 =>
   have H := HA.out
   clear HA
   simp only [w1_ExprParts.l0] at H
   by_cases c7 : (x6_1.length : Int) > 0
   ·rw [if_pos c7] at H
    have c7b0 : decide (0 < (x6_1.length : Int)) = true := decide_eq_true c7
    have c7b1 : decide (0 < x6_1.length) = true := decide_eq_true (by omega)
    clear c7
    have HC8 := Aside0.mk H
    clear H
    obtain ⟨Ao9, co9, eo9⟩ := Kd.N_slice HO_6.out
    subst eo9
    go_upto_region 7 with (fail)
    go_cut [28] (fun v28 wc => ∃ (kq : Nat) (x28_7 : Bool), v28 = .bool x28_7 ∧ Aside0 (w1_ExprParts.j1 kq a1 (wrap64 (x5_1 + (x6_1.length : Int))) x6_1 x7_1 x28_7 = some r) ∧ Aside0 (kq ≤ k1) ∧ Aside0 (Kd.N k31 31 wc w.heap.size (fun k_ => (P0_5_ k_ ∨ w.heap.size ≤ k_) ∧ k_ ≠ gb101) (.slice Ao9 x6_1.length co9) x6_1) ∧ Aside0 (Kd.V k31 31 wc w.heap.size (fun k_ => (P0_5_ k_ ∨ w.heap.size ≤ k_) ∧ some k_ ≠ ((.slice Ao9 x6_1.length co9) : Value).ownBlock ∧ k_ ≠ gb101) (.slice A0_5 l0_5.length c0_5) l0_5) ∧ Aside0 (wc.heap[gb101]? = some (.cells #[.int .i8 a0_0, .string a0_1, .int .i8 a0_2, .int .i64 a0_3, .string a0_4, (.slice A0_5 l0_5.length c0_5)] 31 (0, 0))) ∧ Aside0 (Below w.heap.size w wc))
    case first =>
     have H := HC8.out
     clear HC8
     by_cases c10 : (wrap64 (x5_1 + (x6_1.length : Int))) > a1
     ·rw [if_pos c10] at H
      have c10b0 : decide (a1 < (wrap64 (x5_1 + (x6_1.length : Int)))) = true := decide_eq_true c10
      clear c10
      (first | rw [c10b0] | (simp only [i64_w, i32_w]; rw [c10b0]) | skip)
      have H' := Aside0.mk H
      clear H
      go_wp2
      go_meet
      case rel => exact ⟨_, (true), (by first | rfl | (simp; done) | (simp [*]; done)), H', ⟨by have := HK1.out; first | omega | exact Nat.le_refl _⟩, ⟨by (with_reducible repeat (first | apply Kd.N_alloc | apply Kd.N_drewN | apply Kd.N_drew)); exact HO_6.out⟩, ⟨by (with_reducible repeat (first | apply Kd.V_alloc | apply Kd.V_drewN | apply Kd.V_drew)); exact HO_102005.out⟩, ⟨by (with_reducible repeat (first | refine xaf ?_ _ | refine xai ?_ | refine xad ?_ _)); exact BK101.out⟩, ⟨by repeat (first | (with_reducible first | exact HB.out | apply xab | apply xaa | apply xac | refine xah ?_ GE101.out) | exact HB.out)⟩⟩
     ·rw [if_neg c10] at H
      have c10b0 : decide (a1 < (wrap64 (x5_1 + (x6_1.length : Int)))) = false := decide_eq_false c10
      clear c10
      (first | rw [c10b0] | (simp only [i64_w, i32_w]; rw [c10b0]) | skip)
      have H' := Aside0.mk H
      clear H
      go_wp2
      go_meet
      case rel => exact ⟨_, (decide (x7_1 ≥ 65536)), (by first | rfl | (simp; done) | (simp [*]; done)), H', ⟨by have := HK1.out; first | omega | exact Nat.le_refl _⟩, ⟨by (with_reducible repeat (first | apply Kd.N_alloc | apply Kd.N_drewN | apply Kd.N_drew)); exact HO_6.out⟩, ⟨by (with_reducible repeat (first | apply Kd.V_alloc | apply Kd.V_drewN | apply Kd.V_drew)); exact HO_102005.out⟩, ⟨by (with_reducible repeat (first | refine xaf ?_ _ | refine xai ?_ | refine xad ?_ _)); exact BK101.out⟩, ⟨by repeat (first | (with_reducible first | exact HB.out | apply xab | apply xaa | apply xac | refine xah ?_ GE101.out) | exact HB.out)⟩⟩
    case rest =>
     clear HC8
     try clear c1
     try clear p2
     try clear c4
     try clear c6
     try clear p6
     try clear c7
     try clear c7b0
     try clear c7b1
     try clear c10
     try clear c10b0
     try clear hcz4_0
     try clear hcz4_1
     try clear hcz4_2
     try clear hcz4_3
     try clear hcz4_4
     try clear hcz4_5
     try clear hfz4_0
     try clear hfz4_1
     try clear hfz4_2
     try clear hfz4_3
     try clear hfz4_4
     try clear hfz4_5
     try clear p2
     obtain ⟨kq, x28_7, rfl, HA, HJ7, HO_6, HO_102005, BK101, HB⟩ := hcut
     cases kq with
     | zero => exact absurd HA.out (by simp [w1_ExprParts.j1])
     | succ kj7 =>
      have H := HA.out
      clear HA
      simp only [w1_ExprParts.j1] at H
      by_cases c11 : x28_7 = true
      ·subst c11
       have H1 : (some (wrap64 (a1 + 1))) = some r := by rw [if_pos rfl] at H; exact H
       clear H
       have H := H1
       clear H1
       obtain rfl := Option.some.inj H
       go_wp2
       go_ret
       exact ⟨by first | rfl | (simp [xan, xam] <;> rfl) | (simp [*, xan, xam] <;> rfl), by repeat (first | (with_reducible first | exact HB.out | apply xab | apply xaa | apply xac | refine xah ?_ GE101.out) | exact HB.out)⟩
      ·replace c11 := Bool.eq_false_iff.mpr c11
       subst c11
       have H1 : (w1_ExprParts.l1 kj7 a1 (wrap64 (x5_1 + (x6_1.length : Int))) x6_1 x7_1 ([] : List (S31)) 0) = some r := by rw [if_neg (show ¬ (false = true) by decide)] at H; exact H
       clear H
       have H := H1
       clear H1
       have H' := Aside0.mk H
       clear H
       go_wp2
       go_loopg [8, 9] kj7 (fun kq v8 v9 w' => ∃ (x8_3 : List (S31)) (x9_3 : Int), v9 = .int .i64 x9_3 ∧ Aside0 (w1_ExprParts.l1 kq a1 (wrap64 (x5_1 + (x6_1.length : Int))) x6_1 x7_1 x8_3 x9_3 = some r) ∧ Aside0 (kq ≤ kj7) ∧ Aside0 (Kd.N k31 31 w' w.heap.size (fun k_ => (P0_5_ k_ ∨ w.heap.size ≤ k_) ∧ some k_ ≠ (v8 : Value).ownBlock ∧ k_ ≠ gb101) (.slice Ao9 x6_1.length co9) x6_1) ∧ Aside0 (Kd.N k31 31 w' w.heap.size (fun k_ => (P0_5_ k_ ∨ w.heap.size ≤ k_) ∧ some k_ ≠ ((.slice Ao9 x6_1.length co9) : Value).ownBlock ∧ k_ ≠ gb101) v8 x8_3) ∧ Aside0 (Kd.V k31 31 w' w.heap.size (fun k_ => (P0_5_ k_ ∨ w.heap.size ≤ k_) ∧ some k_ ≠ ((.slice Ao9 x6_1.length co9) : Value).ownBlock ∧ some k_ ≠ (v8 : Value).ownBlock ∧ k_ ≠ gb101) (.slice A0_5 l0_5.length c0_5) l0_5) ∧ Aside0 (w'.heap[gb101]? = some (.cells #[.int .i8 a0_0, .string a0_1, .int .i8 a0_2, .int .i64 a0_3, .string a0_4, (.slice A0_5 l0_5.length c0_5)] 31 (0, 0))) ∧ Aside0 (Below w.heap.size w w'))
       case atStart => exact ⟨(([] : List (S31))), (0), (by first | rfl | (simp; done) | (simp [*]; done)), H', ⟨Nat.le_refl _⟩, ⟨by (with_reducible repeat (first | apply Kd.N_alloc | apply Kd.N_drewN | apply Kd.N_drew)); exact Kd.N_mono HO_6.out (fun _ hk => ⟨hk.1, ⟨(by simp [Value.ownBlock]), hk.2⟩⟩)⟩, ⟨by first | exact Kd.R_nil _ _ _ _ _ | exact Kd.N_nil _ _ _ _ _ | exact Kd.V_nil _ _ _ _ _ | exact Kd.Q_nil _ _ _ _ _ | exact Kd.S_nil _ _ _ _ _⟩, ⟨by (with_reducible repeat (first | apply Kd.V_alloc | apply Kd.V_drewN | apply Kd.V_drew)); exact Kd.V_mono HO_102005.out (fun _ hk => ⟨hk.1, ⟨hk.2.1, ⟨(by simp [Value.ownBlock]), hk.2.2⟩⟩⟩)⟩, ⟨by (with_reducible repeat (first | refine xaf ?_ _ | refine xai ?_ | refine xad ?_ _)); exact BK101.out⟩, ⟨by repeat (first | (with_reducible first | exact HB.out | apply xab | apply xaa | apply xac | refine xah ?_ GE101.out) | exact HB.out)⟩⟩
       case round =>
        clear H'
        try clear c1
        try clear p2
        try clear c4
        try clear c6
        try clear p6
        try clear c7
        try clear c7b0
        try clear c7b1
        try clear c10
        try clear c10b0
        try clear c11
        try clear hcz4_0
        try clear hcz4_1
        try clear hcz4_2
        try clear hcz4_3
        try clear hcz4_4
        try clear hcz4_5
        try clear hfz4_0
        try clear hfz4_1
        try clear hfz4_2
        try clear hfz4_3
        try clear hfz4_4
        try clear hfz4_5
        try clear p2
        try clear p6
        obtain ⟨x8_3, x9_3, rfl, HA, HK3, HO_6, HO_8, HO_102005, BK101, HB⟩ := hrel
        cases gk with
        | zero => exact absurd HA.out (by simp [w1_ExprParts.l1])
        | succ k3 =>
         have H := HA.out
         clear HA
         simp only [w1_ExprParts.l1] at H
         by_cases c12 : x9_3 < (x6_1.length : Int)
         ·rw [if_pos c12] at H
          have c12b0 : decide (x9_3 < (x6_1.length : Int)) = true := decide_eq_true c12
          clear c12
          by_cases c13 : 0 ≤ x9_3
          ·rw [if_pos c13] at H
           have c13b0 : decide (0 ≤ x9_3) = true := decide_eq_true c13
           clear c13
           by_cases c14 : (wrap64 ((wrap64 ((wrap64 (x5_1 + (x6_1.length : Int))) + (x8_3.length : Int))) + (((rd_T31 x6_1 x9_3).f2).length : Int))) > a1
           ·rw [if_pos c14] at H
            have c14b0 : decide (a1 < (wrap64 ((wrap64 ((wrap64 (x5_1 + (x6_1.length : Int))) + (x8_3.length : Int))) + (((rd_T31 x6_1 x9_3).f2).length : Int)))) = true := decide_eq_true c14
            clear c14
            obtain rfl := Option.some.inj H
            obtain ⟨Ao15, co15, eo15⟩ := Kd.N_slice HO_8.out
            subst eo15
            have p105 : 0 ≤ (x9_3 : Int) := of_decide_eq_true (by first | (with_reducible assumption) | assumption)
            have q105 : x9_3 < (x6_1.length : Int) := of_decide_eq_true (by first | (with_reducible assumption) | assumption)
            obtain ⟨ad105, A105_5, c105_5, e105, hx105_0, hx105_1, hx105_2, hx105_3, hx105_4, hx105_5, hl105_5, hi105_5⟩ := at_T31 (Kd.N_reads' HO_6.out).2.2 x9_3 p105 q105
            cases e105
            obtain ⟨ce105, hce105, hMe105, hcc105⟩ := Kd.N_get HO_6.out z31 x9_3 p105 (by first | exact q105 | exact of_decide_eq_true (by first | (with_reducible assumption) | assumption) | (have e_ := (Kd.N_reads' HO_6.out).1; omega))
            obtain ⟨ua105_5, uc105_5, rfl, ul105_5, ge105_5⟩ := k31_openF hMe105
            have hv105_5 := hcc105 5 _ rfl
            rw [xbb _ _ 5 (by omega)] at hv105_5
            replace hv105_5 := Option.some.inj (hv105_5.symm.trans hx105_5)
            injection hv105_5 with hva_ hvn_ hvc_
            rw [hva_] at ge105_5
            rw [hvc_] at ul105_5
            have HL105_5 := Aside0.mk (show Kd.V k31 31 _ w.heap.size _ _ ((rd_T31 x6_1 x9_3).f2) from Kd.V_mk ul105_5 ge105_5)
            clear hva_ hvn_ hvc_ ge105_5 ul105_5
            clear hcc105 hce105
            have HR105_5 := Aside0.mk hi105_5
            have HC105_5 := Aside0.mk hl105_5
            clear hi105_5 hl105_5
            replace p105 := eq_true p105
            replace q105 := eq_true q105
            go_wp2
            go_ret
            exact ⟨by first | rfl | (simp [xan, xam] <;> rfl) | (simp [*, xan, xam] <;> rfl), by repeat (first | (with_reducible first | exact HB.out | apply xab | apply xaa | apply xac | refine xah ?_ GE101.out) | exact HB.out)⟩
           ·rw [if_neg c14] at H
            have c14b0 : decide (a1 < (wrap64 ((wrap64 ((wrap64 (x5_1 + (x6_1.length : Int))) + (x8_3.length : Int))) + (((rd_T31 x6_1 x9_3).f2).length : Int)))) = false := decide_eq_false c14
            clear c14
            have H' := Aside0.mk H
            clear H
            obtain ⟨Ao16, co16, eo16⟩ := Kd.N_slice HO_8.out
            subst eo16
            have p105 : 0 ≤ (x9_3 : Int) := of_decide_eq_true (by first | (with_reducible assumption) | assumption)
            have q105 : x9_3 < (x6_1.length : Int) := of_decide_eq_true (by first | (with_reducible assumption) | assumption)
            obtain ⟨ad105, A105_5, c105_5, e105, hx105_0, hx105_1, hx105_2, hx105_3, hx105_4, hx105_5, hl105_5, hi105_5⟩ := at_T31 (Kd.N_reads' HO_6.out).2.2 x9_3 p105 q105
            cases e105
            obtain ⟨ce105, hce105, hMe105, hcc105⟩ := Kd.N_get HO_6.out z31 x9_3 p105 (by first | exact q105 | exact of_decide_eq_true (by first | (with_reducible assumption) | assumption) | (have e_ := (Kd.N_reads' HO_6.out).1; omega))
            obtain ⟨ua105_5, uc105_5, rfl, ul105_5, ge105_5⟩ := k31_openF hMe105
            have hv105_5 := hcc105 5 _ rfl
            rw [xbb _ _ 5 (by omega)] at hv105_5
            replace hv105_5 := Option.some.inj (hv105_5.symm.trans hx105_5)
            injection hv105_5 with hva_ hvn_ hvc_
            rw [hva_] at ge105_5
            rw [hvc_] at ul105_5
            have HL105_5 := Aside0.mk (show Kd.V k31 31 _ w.heap.size _ _ ((rd_T31 x6_1 x9_3).f2) from Kd.V_mk ul105_5 ge105_5)
            clear hva_ hvn_ hvc_ ge105_5 ul105_5
            clear hcc105 hce105
            have HR105_5 := Aside0.mk hi105_5
            have HC105_5 := Aside0.mk hl105_5
            clear hi105_5 hl105_5
            replace p105 := eq_true p105
            replace q105 := eq_true q105
            go_wp2
            go_loopg [8, 10] k3 (fun kq v8 v10 w' => ∃ (x8_4 : List (S31)) (x10_4 : Int), v10 = .int .i64 x10_4 ∧ Aside0 (w1_ExprParts.l2 kq a1 (wrap64 (x5_1 + (x6_1.length : Int))) x6_1 x7_1 x8_4 x9_3 x10_4 = some r) ∧ Aside0 (kq ≤ k3) ∧ Aside0 (Kd.N k31 31 w' w.heap.size (fun k_ => (P0_5_ k_ ∨ w.heap.size ≤ k_) ∧ some k_ ≠ (v8 : Value).ownBlock ∧ k_ ≠ gb101) (.slice (some ad105) x6_1.length co9) x6_1) ∧ Aside0 (Kd.N k31 31 w' w.heap.size (fun k_ => (P0_5_ k_ ∨ w.heap.size ≤ k_) ∧ some k_ ≠ ((.slice (some ad105) x6_1.length co9) : Value).ownBlock ∧ k_ ≠ gb101) v8 x8_4) ∧ Aside0 (Kd.V k31 31 w' w.heap.size (fun k_ => (P0_5_ k_ ∨ w.heap.size ≤ k_) ∧ some k_ ≠ ((.slice (some ad105) x6_1.length co9) : Value).ownBlock ∧ some k_ ≠ (v8 : Value).ownBlock ∧ k_ ≠ gb101) (.slice A0_5 l0_5.length c0_5) l0_5) ∧ Aside0 (w'.heap[gb101]? = some (.cells #[.int .i8 a0_0, .string a0_1, .int .i8 a0_2, .int .i64 a0_3, .string a0_4, (.slice A0_5 l0_5.length c0_5)] 31 (0, 0))) ∧ Aside0 (Below w.heap.size w w'))
            case atStart => exact ⟨(x8_3), (0), (by first | rfl | (simp; done) | (simp [*]; done)), H', ⟨Nat.le_refl _⟩, ⟨by (with_reducible repeat (first | apply Kd.N_alloc | apply Kd.N_drewN | apply Kd.N_drew)); exact HO_6.out⟩, ⟨by (with_reducible repeat (first | apply Kd.N_alloc | apply Kd.N_drewN | apply Kd.N_drew)); exact HO_8.out⟩, ⟨by (with_reducible repeat (first | apply Kd.V_alloc | apply Kd.V_drewN | apply Kd.V_drew)); exact HO_102005.out⟩, ⟨by (with_reducible repeat (first | refine xaf ?_ _ | refine xai ?_ | refine xad ?_ _)); exact BK101.out⟩, ⟨by repeat (first | (with_reducible first | exact HB.out | apply xab | apply xaa | apply xac | refine xah ?_ GE101.out) | exact HB.out)⟩⟩
            case round =>
             clear H'
             try clear c1
             try clear p1
             try clear q1
             try clear hx1
             try clear p2
             try clear c4
             try clear c6
             try clear p6
             try clear c7
             try clear c7b0
             try clear c7b1
             try clear c10
             try clear c10b0
             try clear p10
             try clear q10
             try clear hx10
             try clear c11
             try clear c12
             try clear c12b0
             try clear c13
             try clear c13b0
             try clear c14
             try clear c14b0
             try clear hcz4_0
             try clear hcz4_1
             try clear hcz4_2
             try clear hcz4_3
             try clear hcz4_4
             try clear hcz4_5
             try clear hfz4_0
             try clear hfz4_1
             try clear hfz4_2
             try clear hfz4_3
             try clear hfz4_4
             try clear hfz4_5
             try clear hx105_0
             try clear hx105_1
             try clear hx105_2
             try clear hx105_3
             try clear hx105_4
             try clear hx105_5
             try clear p105
             try clear p2
             try clear p6
             try clear q105
             obtain ⟨x8_4, x10_4, rfl, HA, HK4, HO_6, HO_8, HO_102005, BK101, HB⟩ := hrel
             cases gk with
             | zero => exact absurd HA.out (by simp [w1_ExprParts.l2])
             | succ k4 =>
              have H := HA.out
              clear HA
              simp only [w1_ExprParts.l2] at H
              by_cases c17 : 0 ≤ x9_3
              ·rw [if_pos c17] at H
               have c17b0 : decide (0 ≤ x9_3) = true := decide_eq_true c17
               clear c17
               by_cases c18 : x9_3 < (x6_1.length : Int)
               ·rw [if_pos c18] at H
                have c18b0 : decide (x9_3 < (x6_1.length : Int)) = true := decide_eq_true c18
                clear c18
                by_cases c19 : x10_4 < (((rd_T31 x6_1 x9_3).f2).length : Int)
                ·rw [if_pos c19] at H
                 have c19b0 : decide (x10_4 < (((rd_T31 x6_1 x9_3).f2).length : Int)) = true := decide_eq_true c19
                 clear c19
                 by_cases c20 : 0 ≤ x10_4
                 ·rw [if_pos c20] at H
                  have c20b0 : decide (0 ≤ x10_4) = true := decide_eq_true c20
                  clear c20
                  by_cases c21 : x8_4.length < 1759218604441
                  ·rw [if_pos c21] at H
                   have LMc21 := Aside0.mk c21
                   clear c21
                   obtain ⟨y109, hy109⟩ : ∃ y_ : List (S31), y_ = (x8_4 ++ [(⟨(rd_T31 ((rd_T31 x6_1 x9_3).f2) x10_4).f0, (⟨(rd_T31 ((rd_T31 x6_1 x9_3).f2) x10_4).f1.f0, (⟨(rd_T31 ((rd_T31 x6_1 x9_3).f2) x10_4).f1.f1.f0, (rd_T31 ((rd_T31 x6_1 x9_3).f2) x10_4).f1.f1.f1, (rd_T31 ((rd_T31 x6_1 x9_3).f2) x10_4).f1.f1.f2⟩ : S26)⟩ : S28), (rd_T31 ((rd_T31 x6_1 x9_3).f2) x10_4).f2⟩ : S31)]) := ⟨_, rfl⟩
                   replace H : (w1_ExprParts.l2 k4 a1 (wrap64 (x5_1 + (x6_1.length : Int))) x6_1 x7_1 y109 x9_3 (wrap64 (x10_4 + 1))) = some r := by first | (rw [hy109]; with_reducible exact H) | (have H2_ := (Option.bind_some _ _).symm.trans H; rw [hy109]; with_reducible exact H2_) | (have H2_ := (Option.bind_some _ _).symm.trans H; with_reducible exact H2_) | with_reducible exact H | (rw [hy109]; exact H) | exact H
                   have Ny109 := Aside0.mk hy109
                   clear hy109
                   have H' := Aside0.mk H
                   clear H
                   have p106 : 0 ≤ (x9_3 : Int) := of_decide_eq_true (by first | (with_reducible assumption) | assumption)
                   have q106 : x9_3 < (x6_1.length : Int) := of_decide_eq_true (by first | (with_reducible assumption) | assumption)
                   obtain ⟨ad106, A106_5, c106_5, e106, hx106_0, hx106_1, hx106_2, hx106_3, hx106_4, hx106_5, hl106_5, hi106_5⟩ := at_T31 (Kd.N_reads' HO_6.out).2.2 x9_3 p106 q106
                   obtain rfl : ad105 = ad106 := (by injection e106)
                   obtain ⟨ce106, hce106, hMe106, hcc106⟩ := Kd.N_get HO_6.out z31 x9_3 p106 (by first | exact q106 | exact of_decide_eq_true (by first | (with_reducible assumption) | assumption) | (have e_ := (Kd.N_reads' HO_6.out).1; omega))
                   obtain ⟨ua106_5, uc106_5, rfl, ul106_5, ge106_5⟩ := k31_openF hMe106
                   have hv106_5 := hcc106 5 _ rfl
                   rw [xbb _ _ 5 (by omega)] at hv106_5
                   replace hv106_5 := Option.some.inj (hv106_5.symm.trans hx106_5)
                   injection hv106_5 with hva_ hvn_ hvc_
                   rw [hva_] at ge106_5
                   rw [hvc_] at ul106_5
                   have HL106_5 := Aside0.mk (show Kd.V k31 31 _ w.heap.size _ _ ((rd_T31 x6_1 x9_3).f2) from Kd.V_mk ul106_5 ge106_5)
                   clear hva_ hvn_ hvc_ ge106_5 ul106_5
                   clear hcc106 hce106
                   have HR106_5 := Aside0.mk hi106_5
                   have HC106_5 := Aside0.mk hl106_5
                   clear hi106_5 hl106_5
                   replace p106 := eq_true p106
                   replace q106 := eq_true q106
                   have p107 : 0 ≤ (x9_3 : Int) := of_decide_eq_true (by first | (with_reducible assumption) | assumption)
                   have q107 : x9_3 < (x6_1.length : Int) := of_decide_eq_true (by first | (with_reducible assumption) | assumption)
                   obtain ⟨ad107, A107_5, c107_5, e107, hx107_0, hx107_1, hx107_2, hx107_3, hx107_4, hx107_5, hl107_5, hi107_5⟩ := at_T31 (Kd.N_reads' HO_6.out).2.2 x9_3 p107 q107
                   obtain rfl : ad105 = ad107 := (by injection e107)
                   obtain ⟨ce107, hce107, hMe107, hcc107⟩ := Kd.N_get HO_6.out z31 x9_3 p107 (by first | exact q107 | exact of_decide_eq_true (by first | (with_reducible assumption) | assumption) | (have e_ := (Kd.N_reads' HO_6.out).1; omega))
                   obtain ⟨ua107_5, uc107_5, rfl, ul107_5, ge107_5⟩ := k31_openF hMe107
                   have hv107_5 := hcc107 5 _ rfl
                   rw [xbb _ _ 5 (by omega)] at hv107_5
                   replace hv107_5 := Option.some.inj (hv107_5.symm.trans hx107_5)
                   injection hv107_5 with hva_ hvn_ hvc_
                   rw [hva_] at ge107_5
                   rw [hvc_] at ul107_5
                   have HL107_5 := Aside0.mk (show Kd.V k31 31 _ w.heap.size _ _ ((rd_T31 x6_1 x9_3).f2) from Kd.V_mk ul107_5 ge107_5)
                   clear hva_ hvn_ hvc_ ge107_5 ul107_5
                   clear hcc107 hce107
                   have HR107_5 := Aside0.mk hi107_5
                   have HC107_5 := Aside0.mk hl107_5
                   clear hi107_5 hl107_5
                   replace p107 := eq_true p107
                   replace q107 := eq_true q107
                   have ea_ := Option.some.inj (hx106_5.symm.trans hx107_5)
                   injection ea_ with ea_ en_ ec_
                   subst ea_
                   subst ec_
                   clear en_
                   have p108 : 0 ≤ (x10_4 : Int) := of_decide_eq_true (by first | (with_reducible assumption) | assumption)
                   have q108 : x10_4 < (((rd_T31 x6_1 x9_3).f2).length : Int) := of_decide_eq_true (by first | (with_reducible assumption) | assumption)
                   obtain ⟨ad108, A108_5, c108_5, e108, hx108_0, hx108_1, hx108_2, hx108_3, hx108_4, hx108_5, hl108_5, hi108_5⟩ := at_T31 (by repeat (first | (with_reducible exact HR107_5.out) | (with_reducible refine Kd.C_alloc ?_ _) | (with_reducible refine Kd.C_drewN ?_ _) | (with_reducible refine Kd.C_drew ?_) | exact HR107_5.out)) x10_4 p108 q108
                   cases e108
                   obtain ⟨ce108, hce108, hMe108, hcc108⟩ := Kd.V_get HL107_5.out z31 x10_4 p108 (by first | exact q108 | exact of_decide_eq_true (by first | (with_reducible assumption) | assumption) | (have e_ := (Kd.V_reads' HL107_5.out).1; omega))
                   obtain ⟨ua108_5, uc108_5, rfl, ul108_5, ge108_5⟩ := k31_openF hMe108
                   have hv108_5 := hcc108 5 _ rfl
                   rw [xbb _ _ 5 (by omega)] at hv108_5
                   replace hv108_5 := Option.some.inj (hv108_5.symm.trans hx108_5)
                   injection hv108_5 with hva_ hvn_ hvc_
                   rw [hva_] at ge108_5
                   rw [hvc_] at ul108_5
                   have HL108_5 := Aside0.mk (show Kd.V k31 31 _ w.heap.size _ _ ((rd_T31 ((rd_T31 x6_1 x9_3).f2) x10_4).f2) from Kd.V_mk ul108_5 ge108_5)
                   clear hva_ hvn_ hvc_ ge108_5 ul108_5
                   clear hcc108 hce108
                   have HR108_5 := Aside0.mk hi108_5
                   have HC108_5 := Aside0.mk hl108_5
                   clear hi108_5 hl108_5
                   replace p108 := eq_true p108
                   replace q108 := eq_true q108
                   go_wp2_with (first | ((with_reducible refine gate_builtin (b := .append) (xs := #[.tmp 62, .tmp 71]) rfl ?_); at_builtin; refine Kd.N_append k31 (w0 := w) w.heap.size rfl (.tmp 62) (.tmp 71) 29 31 (.agg #[(.int .i8 0), (.string ⟨#[]⟩), (.int .i8 0), (.int .i64 0), (.string ⟨#[]⟩), (.slice none 0 0)]) 80 rfl Tryd.underlying29 info31 rfl (by decide) (by omega) u8 x8_4 (⟨(rd_T31 ((rd_T31 x6_1 x9_3).f2) x10_4).f0, (⟨(rd_T31 ((rd_T31 x6_1 x9_3).f2) x10_4).f1.f0, (⟨(rd_T31 ((rd_T31 x6_1 x9_3).f2) x10_4).f1.f1.f0, (rd_T31 ((rd_T31 x6_1 x9_3).f2) x10_4).f1.f1.f1, (rd_T31 ((rd_T31 x6_1 x9_3).f2) x10_4).f1.f1.f2⟩ : S26)⟩ : S28), (rd_T31 ((rd_T31 x6_1 x9_3).f2) x10_4).f2⟩ : S31) [.int .i8 ((rd_T31 ((rd_T31 x6_1 x9_3).f2) x10_4).f0), .string ((rd_T31 ((rd_T31 x6_1 x9_3).f2) x10_4).f1.f0), .int .i8 ((rd_T31 ((rd_T31 x6_1 x9_3).f2) x10_4).f1.f1.f0), .int .i64 ((rd_T31 ((rd_T31 x6_1 x9_3).f2) x10_4).f1.f1.f1), .string ((rd_T31 ((rd_T31 x6_1 x9_3).f2) x10_4).f1.f1.f2), .slice A108_5 ((rd_T31 ((rd_T31 x6_1 x9_3).f2) x10_4).f2).length c108_5] (fun k_ => (P0_5_ k_ ∨ w.heap.size ≤ k_) ∧ some k_ ≠ (.slice (some ad105) x6_1.length co9 : Value).ownBlock ∧ k_ ≠ gb101) (fun k_ => ((fun k_ => (P0_5_ k_ ∨ w.heap.size ≤ k_) ∧ some k_ ≠ (.slice (some ad105) x6_1.length co9 : Value).ownBlock ∧ k_ ≠ gb101)) k_ ∧ some k_ ≠ (u8 : Value).ownBlock) rfl rfl ?aP (fun _ hk => hk) ?aF ?aO ?aB ?aS ?aL ?_; (case aP => exact (k31_mkF _ _ (⟨(rd_T31 ((rd_T31 x6_1 x9_3).f2) x10_4).f0, (⟨(rd_T31 ((rd_T31 x6_1 x9_3).f2) x10_4).f1.f0, (⟨(rd_T31 ((rd_T31 x6_1 x9_3).f2) x10_4).f1.f1.f0, (rd_T31 ((rd_T31 x6_1 x9_3).f2) x10_4).f1.f1.f1, (rd_T31 ((rd_T31 x6_1 x9_3).f2) x10_4).f1.f1.f2⟩ : S26)⟩ : S28), (rd_T31 ((rd_T31 x6_1 x9_3).f2) x10_4).f2⟩ : S31) (Kd.V_reads' (Kd.V_mono (ok' := (fun k_ => ((fun k_ => (P0_5_ k_ ∨ w.heap.size ≤ k_) ∧ some k_ ≠ (.slice (some ad105) x6_1.length co9 : Value).ownBlock ∧ k_ ≠ gb101)) k_ ∧ some k_ ≠ (u8 : Value).ownBlock)) (HL108_5.out) (fun k_ hk => ⟨⟨hk.1.1, ⟨hk.2, hk.1.2.2⟩⟩, hk.1.2.1⟩))).2.1 (Kd.V_F (Kd.V_mono (ok' := (fun k_ => ((fun k_ => (P0_5_ k_ ∨ w.heap.size ≤ k_) ∧ some k_ ≠ (.slice (some ad105) x6_1.length co9 : Value).ownBlock ∧ k_ ≠ gb101)) k_ ∧ some k_ ≠ (u8 : Value).ownBlock)) (HL108_5.out) (fun k_ hk => ⟨⟨hk.1.1, ⟨hk.2, hk.1.2.2⟩⟩, hk.1.2.1⟩))))); (case aB => exact (by repeat (first | (with_reducible first | exact HB.out | apply xab | apply xaa | apply xac | refine xah ?_ GE101.out) | exact HB.out))); (case aF => exact (fun k_ hk => ⟨(.inr (Nat.le_trans (xao (by repeat (first | (with_reducible first | exact HB.out | apply xab | apply xaa | apply xac | refine xah ?_ GE101.out) | exact HB.out))) hk)), Kd.fresh' (Kd.N_lt (by (with_reducible repeat (first | apply Kd.N_alloc | apply Kd.N_drewN | apply Kd.N_drew)); exact HO_6.out)) k_ hk, Kd.freshB (g := gb101) (o := .cells #[.int .i8 a0_0, .string a0_1, .int .i8 a0_2, .int .i64 a0_3, .string a0_4, .slice A0_5 l0_5.length c0_5] 31 (0, 0)) (by (with_reducible repeat (first | refine xaf ?_ _ | refine xai ?_ | refine xad ?_ _)); exact BK101.out) k_ hk⟩)); (case aO => exact (by (with_reducible repeat (first | apply Kd.N_alloc | apply Kd.N_drewN | apply Kd.N_drew)); exact HO_8.out)); (case aS => exact (xao (by repeat (first | (with_reducible first | exact HB.out | apply xab | apply xaa | apply xac | refine xah ?_ GE101.out) | exact HB.out)))); (case aL => have := LMc21.out; omega); intro v110 w22 ho hb hg hat; rw [← Ny109.out] at ho; have n0_ := Aside0.mk (Kd.N_afterv (ok := (fun k_ => (P0_5_ k_ ∨ w.heap.size ≤ k_) ∧ k_ ≠ gb101)) (by (with_reducible repeat (first | apply Kd.N_alloc | apply Kd.N_drewN | apply Kd.N_drew)); exact Kd.N_mono HO_6.out (fun _ hk => ⟨⟨hk.1, hk.2.2⟩, hk.2.1⟩)) hg hat); have n1_ := Aside0.mk (Kd.V_afterv (ok := (fun k_ => (P0_5_ k_ ∨ w.heap.size ≤ k_) ∧ some k_ ≠ (.slice (some ad105) x6_1.length co9 : Value).ownBlock ∧ k_ ≠ gb101)) (by (with_reducible repeat (first | apply Kd.V_alloc | apply Kd.V_drewN | apply Kd.V_drew)); exact Kd.V_mono HO_102005.out (fun _ hk => ⟨⟨hk.1, ⟨hk.2.1, hk.2.2.2⟩⟩, hk.2.2.1⟩)) hg hat); have n2_ := Aside0.mk (xba (g := gb101) (o := .cells #[.int .i8 a0_0, .string a0_1, .int .i8 a0_2, .int .i64 a0_3, .string a0_4, .slice A0_5 l0_5.length c0_5] 31 (0, 0)) (by (with_reducible repeat (first | refine xaf ?_ _ | refine xai ?_ | refine xad ?_ _)); exact BK101.out) hg (Kd.N_away HO_8.out (fun _ hk => hk.2.2))); have n3_ := Aside0.mk (Kd.V_afterv (ok := (fun k_ => (P0_5_ k_ ∨ w.heap.size ≤ k_) ∧ some k_ ≠ (.slice (some ad105) x6_1.length co9 : Value).ownBlock ∧ k_ ≠ gb101)) (by (with_reducible repeat (first | apply Kd.V_alloc | apply Kd.V_drewN | apply Kd.V_drew)); exact Kd.V_mono HL106_5.out (fun _ hk => ⟨⟨hk.1.1, ⟨hk.2, hk.1.2.2⟩⟩, hk.1.2.1⟩)) hg hat); have n4_ := Aside0.mk (Kd.V_afterv (ok := (fun k_ => (P0_5_ k_ ∨ w.heap.size ≤ k_) ∧ some k_ ≠ (.slice (some ad105) x6_1.length co9 : Value).ownBlock ∧ k_ ≠ gb101)) (by (with_reducible repeat (first | apply Kd.V_alloc | apply Kd.V_drewN | apply Kd.V_drew)); exact Kd.V_mono HL107_5.out (fun _ hk => ⟨⟨hk.1.1, ⟨hk.2, hk.1.2.2⟩⟩, hk.1.2.1⟩)) hg hat); have n5_ := Aside0.mk (Kd.V_afterv (ok := (fun k_ => (P0_5_ k_ ∨ w.heap.size ≤ k_) ∧ some k_ ≠ (.slice (some ad105) x6_1.length co9 : Value).ownBlock ∧ k_ ≠ gb101)) (by (with_reducible repeat (first | apply Kd.V_alloc | apply Kd.V_drewN | apply Kd.V_drew)); exact Kd.V_mono HL108_5.out (fun _ hk => ⟨⟨hk.1.1, ⟨hk.2, hk.1.2.2⟩⟩, hk.1.2.1⟩)) hg hat); have n6_ := Aside0.mk (hb); have n7_ := Aside0.mk (ho); clear HO_6; clear HO_102005; clear BK101; clear HL106_5; clear HL107_5; clear HL108_5; clear HB; clear HO_8; have HO_6 := n0_; have HO_102005 := n1_; have BK101 := n2_; have HL106_5 := n3_; have HL107_5 := n4_; have HL108_5 := n5_; have HB := n6_; have HO111 := n7_; clear n0_ n1_ n2_ n3_ n4_ n5_ n6_ n7_; clear ho hb hg hat))
                   go_roundg k4
                   case measure => have := HK1.out; have := HJ7.out; have := HK3.out; have := HK4.out; omega
                   case rel => exact ⟨(y109), (wrap64 (x10_4 + 1)), (by first | rfl | (simp; done) | (simp [*]; done)), H', ⟨by have := HK1.out; have := HJ7.out; have := HK3.out; have := HK4.out; omega⟩, ⟨by (with_reducible repeat (first | apply Kd.N_alloc | apply Kd.N_drewN | apply Kd.N_drew)); exact Kd.N_mono HO_6.out (fun _ hk => ⟨hk.1.1, ⟨hk.2, hk.1.2⟩⟩)⟩, ⟨by (with_reducible repeat (first | apply Kd.N_alloc | apply Kd.N_drewN | apply Kd.N_drew)); exact HO111.out⟩, ⟨by (with_reducible repeat (first | apply Kd.V_alloc | apply Kd.V_drewN | apply Kd.V_drew)); exact Kd.V_mono HO_102005.out (fun _ hk => ⟨hk.1.1, ⟨hk.1.2.1, ⟨hk.2, hk.1.2.2⟩⟩⟩)⟩, ⟨by (with_reducible repeat (first | refine xaf ?_ _ | refine xai ?_ | refine xad ?_ _)); exact BK101.out⟩, ⟨by repeat (first | (with_reducible first | exact HB.out | apply xab | apply xaa | apply xac | refine xah ?_ GE101.out) | exact HB.out)⟩⟩
                  ·rw [if_neg c21] at H
                   exact absurd H (by simp)
                 ·rw [if_neg c20] at H
                  exact absurd H (by simp)
                ·rw [if_neg c19] at H
                 have c19b0 : decide (x10_4 < (((rd_T31 x6_1 x9_3).f2).length : Int)) = false := decide_eq_false c19
                 clear c19
                 have H' := Aside0.mk H
                 clear H
                 have p106 : 0 ≤ (x9_3 : Int) := of_decide_eq_true (by first | (with_reducible assumption) | assumption)
                 have q106 : x9_3 < (x6_1.length : Int) := of_decide_eq_true (by first | (with_reducible assumption) | assumption)
                 obtain ⟨ad106, A106_5, c106_5, e106, hx106_0, hx106_1, hx106_2, hx106_3, hx106_4, hx106_5, hl106_5, hi106_5⟩ := at_T31 (Kd.N_reads' HO_6.out).2.2 x9_3 p106 q106
                 obtain rfl : ad105 = ad106 := (by injection e106)
                 obtain ⟨ce106, hce106, hMe106, hcc106⟩ := Kd.N_get HO_6.out z31 x9_3 p106 (by first | exact q106 | exact of_decide_eq_true (by first | (with_reducible assumption) | assumption) | (have e_ := (Kd.N_reads' HO_6.out).1; omega))
                 obtain ⟨ua106_5, uc106_5, rfl, ul106_5, ge106_5⟩ := k31_openF hMe106
                 have hv106_5 := hcc106 5 _ rfl
                 rw [xbb _ _ 5 (by omega)] at hv106_5
                 replace hv106_5 := Option.some.inj (hv106_5.symm.trans hx106_5)
                 injection hv106_5 with hva_ hvn_ hvc_
                 rw [hva_] at ge106_5
                 rw [hvc_] at ul106_5
                 have HL106_5 := Aside0.mk (show Kd.V k31 31 _ w.heap.size _ _ ((rd_T31 x6_1 x9_3).f2) from Kd.V_mk ul106_5 ge106_5)
                 clear hva_ hvn_ hvc_ ge106_5 ul106_5
                 clear hcc106 hce106
                 have HR106_5 := Aside0.mk hi106_5
                 have HC106_5 := Aside0.mk hl106_5
                 clear hi106_5 hl106_5
                 replace p106 := eq_true p106
                 replace q106 := eq_true q106
                 go_wp2
                 go_roundg k4
                 case measure => have := HK1.out; have := HJ7.out; have := HK3.out; have := HK4.out; omega
                 case rel => exact ⟨(x8_4), (wrap64 (x9_3 + 1)), (by first | rfl | (simp; done) | (simp [*]; done)), H', ⟨by have := HK1.out; have := HJ7.out; have := HK3.out; have := HK4.out; omega⟩, ⟨by (with_reducible repeat (first | apply Kd.N_alloc | apply Kd.N_drewN | apply Kd.N_drew)); exact HO_6.out⟩, ⟨by (with_reducible repeat (first | apply Kd.N_alloc | apply Kd.N_drewN | apply Kd.N_drew)); exact HO_8.out⟩, ⟨by (with_reducible repeat (first | apply Kd.V_alloc | apply Kd.V_drewN | apply Kd.V_drew)); exact HO_102005.out⟩, ⟨by (with_reducible repeat (first | refine xaf ?_ _ | refine xai ?_ | refine xad ?_ _)); exact BK101.out⟩, ⟨by repeat (first | (with_reducible first | exact HB.out | apply xab | apply xaa | apply xac | refine xah ?_ GE101.out) | exact HB.out)⟩⟩
               ·rw [if_neg c18] at H
                exact absurd H (by simp)
              ·rw [if_neg c17] at H
               exact absurd H (by simp)
          ·rw [if_neg c13] at H
           exact absurd H (by simp)
         ·rw [if_neg c12] at H
          have c12b0 : decide (x9_3 < (x6_1.length : Int)) = false := decide_eq_false c12
          clear c12
          have H' := Aside0.mk H
          clear H
          go_wp2
          go_roundg k3
          case measure => have := HK1.out; have := HJ7.out; have := HK3.out; omega
          case rel => exact ⟨((wrap64 (x5_1 + (x6_1.length : Int)))), (x8_3), (wrap64 (x7_1 + 1)), (by first | rfl | (simp; done) | (simp [*]; done)), (by first | rfl | (simp; done) | (simp [*]; done)), H', ⟨by have := HK1.out; have := HJ7.out; have := HK3.out; omega⟩, ⟨by (with_reducible repeat (first | apply Kd.N_alloc | apply Kd.N_drewN | apply Kd.N_drew)); exact Kd.N_mono HO_8.out (fun _ hk => ⟨hk.1, hk.2.2⟩)⟩, ⟨by (with_reducible repeat (first | apply Kd.V_alloc | apply Kd.V_drewN | apply Kd.V_drew)); exact Kd.V_mono HO_102005.out (fun _ hk => ⟨hk.1, ⟨hk.2.2.1, hk.2.2.2⟩⟩)⟩, ⟨by (with_reducible repeat (first | refine xaf ?_ _ | refine xai ?_ | refine xad ?_ _)); exact BK101.out⟩, ⟨by repeat (first | (with_reducible first | exact HB.out | apply xab | apply xaa | apply xac | refine xah ?_ GE101.out) | exact HB.out)⟩⟩
   ·rw [if_neg c7] at H
    have c7b0 : decide (0 < (x6_1.length : Int)) = false := decide_eq_false c7
    have c7b1 : decide (0 < x6_1.length) = false := decide_eq_false (by omega)
    clear c7
    obtain rfl := Option.some.inj H
    obtain ⟨Ao23, co23, eo23⟩ := Kd.N_slice HO_6.out
    subst eo23
    go_wp2
    go_ret
    exact ⟨by first | rfl | (simp [xan, xam] <;> rfl) | (simp [*, xan, xam] <;> rfl), by repeat (first | (with_reducible first | exact HB.out | apply xab | apply xaa | apply xac | refine xah ?_ GE101.out) | exact HB.out)⟩
end Go.Proofs.YtllcmggmcogokaaDoor.PAll
end
section

namespace Go.Proofs.YtllcmggmcogokaaDoor.PAll
open Go.RowKit Go.Proofs.YtllcmggmcogokaaDoorW.PrintWords Go.Proofs.YtllcmggmcogokaaDoorW.PrintLast Go.Proofs.YtllcmggmcogokaaDoorW.PrintMore
attribute [local go_sem] max2_int min2_int max_two min_two max_three min_three max_four min_four
set_option linter.unusedVariables false
set_option linter.unusedSimpArgs false
mutual
def exprTermsL : S31 → List S28
 | ⟨_, t, kids⟩ => t :: kidsTermsL kids
def kidsTermsL : List S31 → List S28
 | [] => []
 | e :: r => exprTermsL e ++ kidsTermsL r
end
theorem xbc (x : S31) : exprTermsL x = x.f1 :: kidsTermsL x.f2 := by cases x; rw [exprTermsL]
theorem xbk (l m : List S31) : kidsTermsL (l ++ m) = kidsTermsL l ++ kidsTermsL m := by
 induction l with
 | nil => simp [kidsTermsL]
 | cons e r ih => simp [kidsTermsL, ih]
theorem kidsTermsL_take (l : List S31) (k : Nat) (h : k < l.length) : kidsTermsL (l.take (k + 1)) = kidsTermsL (l.take k) ++ exprTermsL (l.getD k z31) := by
 rw [List.take_succ_eq_append_getElem h, xbk]
 simp [kidsTermsL, List.getD_eq_getElem?_getD, List.getElem?_eq_getElem h]
theorem sizeOf_getD (l : List S31) (k : Nat) (h : k < l.length) : SizeOf.sizeOf (l.getD k z31) < SizeOf.sizeOf l := by
 rw [List.getD_eq_getElem?_getD, List.getElem?_eq_getElem h]
 exact List.sizeOf_lt_of_mem (List.getElem_mem h)
theorem sizeOf_kids (x : S31) : SizeOf.sizeOf x.f2 < SizeOf.sizeOf x := by
 cases x
 simp
 omega
structure TermAt (w : World) (p : Addr) (x : S28) : Prop where
 c0 : w.cell? p = some (.string x.f0)
 c1 : w.cell? ⟨p.block, p.off + 1, none⟩ = some (.int .i8 x.f1.f0)
 c2 : w.cell? ⟨p.block, p.off + 2, none⟩ = some (.int .i64 x.f1.f1)
 c3 : w.cell? ⟨p.block, p.off + 3, none⟩ = some (.string x.f1.f2)
structure Taker (w0 : World) (g : FuncId) (fn : Func) (first cap : Array Value) (St : Type) (step : St → S28 → St) (G : St → S28 → Prop) (I : St → World → Prop) : Prop where
 hf : Tryd.prog.funcs[g]? = some fn
 hname : (fn.name == "runtime.NumGoroutine") = false
 hb : fn.body.isSome = true
 below : ∀ st w, I st w → Below w0.heap.size w0 w
 takes : ∀ st w p x, I st w → G st x → TermAt w0 p x → Calls Tryd.prog g (first ++ #[.pointer (some p)] ++ cap) w fun e w' => e = .returned (.tuple #[]) ∧ I (step st x) w'
theorem getD_parts {α : Type} (l : List α) (z : α) (k : Nat) (h : k < l.length) : l = l.take k ++ [l.getD k z] ++ l.drop (k + 1) := by
 have : l.getD k z = l[k] := by simp [List.getD_eq_getElem?_getD, List.getElem?_eq_getElem h]
 rw [this, List.append_assoc, List.singleton_append, ← List.drop_eq_getElem_cons h, List.take_append_drop]
theorem kids_parts (l : List S31) (k : Nat) (h : k < l.length) : kidsTermsL l = kidsTermsL (l.take k) ++ exprTermsL (l.getD k z31) ++ kidsTermsL (l.drop (k + 1)) := by
 have e := getD_parts l z31 k h
 conv => lhs; rw [e]
 rw [xbk, xbk]
 simp [kidsTermsL]
structure ExprAt (w : World) (p : Addr) (x : S31) (A : Option Addr) (c : Nat) : Prop where
 c0 : w.cell? p = some (.int .i8 x.f0)
 ct : TermAt w ⟨p.block, p.off + 1, none⟩ x.f1
 c5 : w.cell? ⟨p.block, p.off + 5, none⟩ = some (.slice A x.f2.length c)
 hl : x.f2.length ≤ c
 hC : Kd.C k31 w A x.f2.length x.f2
theorem exprAt_elem {w : World} {A : Option Addr} {n : Nat} {xs : List S31} (h : Kd.C k31 w A n xs) (k : Nat) (hk : k < n) : ∃ ad A5 c5, A = some ad ∧ ExprAt w (ad.add (k * 6)) (rd_T31 xs k) A5 c5 := by
 obtain ⟨ad, A5, c5, e0, g0, g1, g2, g3, g4, g5, gl, gC⟩ := at_T31 h (k : Int) (by omega) (by omega)
 rw [Int.toNat_natCast] at g0 g1 g2 g3 g4 g5
 exact ⟨ad, A5, c5, e0, g0, ⟨g1, g2, g3, g4⟩, g5, gl, gC⟩
section
variable {w0 : World} {g : FuncId} {fn : Func} {first cap : Array Value} {St : Type} {step : St → S28 → St} {G : St → S28 → Prop} {I : St → World → Prop}
end
theorem xbi {α : Type} (l : List α) (z : α) (k : Nat) (h : k < l.length) : l.take (k + 1) = l.take k ++ [l.getD k z] := by
 rw [List.take_succ_eq_append_getElem h]
 simp [List.getD_eq_getElem?_getD, List.getElem?_eq_getElem h]
structure AtomAt (w : World) (p : Addr) (x : S53) (A : Option Addr) (c : Nat) : Prop where
 c0 : w.cell? p = some (.string x.f0)
 c1 : w.cell? ⟨p.block, p.off + 1, none⟩ = some (.slice A x.f1.length c)
 hl : x.f1.length ≤ c
 hC : Kd.C k28 w A x.f1.length x.f1
structure LitAt (w : World) (p : Addr) (x : S56) (A2 : Option Addr) (c2 : Nat) (A9 : Option Addr) (c9 : Nat) (A15 : Option Addr) (c15 : Nat) : Prop where
 c0 : w.cell? p = some (.int .i8 x.f0)
 ca : AtomAt w ⟨p.block, p.off + 1, none⟩ x.f1 A2 c2
 c3 : w.cell? ⟨p.block, p.off + 3, none⟩ = some (.int .i8 x.f2)
 cl : ExprAt w ⟨p.block, p.off + 4, none⟩ x.f3 A9 c9
 cr : ExprAt w ⟨p.block, p.off + 10, none⟩ x.f4 A15 c15
structure RuleAt (w : World) (p : Addr) (x : S67) (A1 : Option Addr) (c1 : Nat) (A2 : Option Addr) (c2 : Nat) : Prop where
 c0 : w.cell? p = some (.string x.f0)
 cc1 : w.cell? ⟨p.block, p.off + 1, none⟩ = some (.slice A1 x.f1.length c1)
 cc2 : w.cell? ⟨p.block, p.off + 2, none⟩ = some (.slice A2 x.f2.length c2)
 hl1 : x.f1.length ≤ c1
 hC1 : Kd.C k125 w A1 x.f1.length x.f1
 hl2 : x.f2.length ≤ c2
 hC2 : Kd.C k56 w A2 x.f2.length x.f2
section
variable {w0 : World} {g : FuncId} {fn : Func} {first cap : Array Value} {St : Type} {step : St → S28 → St} {G : St → S28 → Prop} {I : St → World → Prop}
end
end Go.Proofs.YtllcmggmcogokaaDoor.PAll

end
section
namespace Go.Proofs.YtllcmggmcogokaaDoor.PAll
open Go.RowKit Go.Proofs.YtllcmggmcogokaaDoorW.PrintWords Go.Proofs.YtllcmggmcogokaaDoorW.PrintLast Go.Proofs.YtllcmggmcogokaaDoorW.PrintMore
attribute [local go_sem] max2_int min2_int max_two min_two max_three min_three max_four min_four
theorem eta_expr (y : S31) : (⟨y.f0, ⟨y.f1.f0, ⟨y.f1.f1.f0, y.f1.f1.f1, y.f1.f1.f2⟩⟩, y.f2⟩ : S31) = y := by cases y; rfl
theorem kids_level (l : List S31) : (kidsTermsL l).length = l.length + (kidsTermsL (l.flatMap (fun e => e.f2))).length := by
 induction l with
 | nil => simp [kidsTermsL]
 | cons e r ih =>
  rw [kidsTermsL, xbc, List.flatMap_cons, xbk]
  simp
  omega
theorem parts_l2 (left n d : Int) (lv : List S31) (i : Nat) (hi : i < lv.length) (hl : left ≤ 1048576) (hn : 0 ≤ n) (r : Int) (hi2 : lv.length ≤ 1048576) :
  ∀ (m j : Nat) (acc : List S31), (rd_T31 lv i).f2.length - j = m → j ≤ (rd_T31 lv i).f2.length → n + acc.length + m ≤ left → (rd_T31 lv i).f2.length ≤ 1048576 →
   Ev (fun k => w1_ExprParts.l1 k left n lv d (acc ++ (rd_T31 lv i).f2.drop j) ((i + 1 : Nat) : Int)) r → Ev (fun k => w1_ExprParts.l2 k left n lv d acc (i : Int) (j : Int)) r
 | 0, j, acc, hm, hj, hb, hk, h => by
  refine h.step (fun k => ?_)
  rw [w1_ExprParts.l2, if_pos (by omega), if_pos (by omega), if_neg (by omega), w64 (by omega) (by omega), List.drop_eq_nil_of_le (by omega), List.append_nil]
  rfl
 | m + 1, j, acc, hm, hj, hb, hk, h => by
  have hlt : j < (rd_T31 lv i).f2.length := by omega
  have e : (acc ++ [rd_T31 (rd_T31 lv i).f2 (j : Int)]) ++ (rd_T31 lv i).f2.drop (j + 1) = acc ++ (rd_T31 lv i).f2.drop j := by
   have e1 : rd_T31 (rd_T31 lv i).f2 (j : Int) = (rd_T31 lv i).f2[j] := by rw [rd_T31, List.getD_eq_getElem?_getD, Int.toNat_natCast, List.getElem?_eq_getElem hlt]; rfl
   rw [e1, List.append_assoc, List.drop_eq_getElem_cons hlt]
   rfl
  have ih := parts_l2 left n d lv i hi hl hn r hi2 m (j + 1) (acc ++ [rd_T31 (rd_T31 lv i).f2 (j : Int)]) (by omega) (by omega) (by simp; omega) hk (by rw [e]; exact h)
  refine ih.step (fun k => ?_)
  rw [w1_ExprParts.l2, if_pos (by omega), if_pos (by omega), if_pos (by omega), if_pos (by omega), if_pos (by omega), w64 (by omega) (by omega), eta_expr]
  rfl
theorem parts_l1 (left n d : Int) (lv : List S31) (hl : left ≤ 1048576) (hn : 0 ≤ n) (hnl : n ≤ left) (r : Int) (hlv : lv.length ≤ 1048576) (hk : ∀ e ∈ lv, e.f2.length < 1000000000000000000) :
  ∀ (m i : Nat) (acc : List S31), lv.length - i = m → i ≤ lv.length → n + acc.length ≤ left →
   (n + acc.length + ((lv.drop i).flatMap (fun e => e.f2)).length > left → Ev (fun k => w1_ExprParts.l1 k left n lv d acc (i : Int)) (left + 1)) ∧
   (n + acc.length + ((lv.drop i).flatMap (fun e => e.f2)).length ≤ left → Ev (fun k => w1_ExprParts.l0 k left n (acc ++ (lv.drop i).flatMap (fun e => e.f2)) (wrap64 (d + 1))) r → Ev (fun k => w1_ExprParts.l1 k left n lv d acc (i : Int)) r)
 | 0, i, acc, hm, hi, hb => by
  rw [List.drop_eq_nil_of_le (by omega)]
  simp only [List.flatMap_nil, List.length_nil, List.append_nil]
  refine ⟨fun h => absurd h (by simp; omega), fun _ h => h.step (fun k => ?_)⟩
  rw [w1_ExprParts.l1, if_neg (by omega)]
 | m + 1, i, acc, hm, hi, hb => by
  have hlt : i < lv.length := by omega
  have e : rd_T31 lv (i : Int) = lv[i] := by simp [rd_T31, List.getD_eq_getElem?_getD, List.getElem?_eq_getElem hlt]
  have hki := hk lv[i] (List.getElem_mem hlt)
  rw [List.drop_eq_getElem_cons hlt, List.flatMap_cons, List.length_append]
  by_cases hc : n + acc.length + lv[i].f2.length > left
  ·refine ⟨fun _ => Ev.of (fun k => ?_), fun h => absurd h (by omega)⟩
   rw [w1_ExprParts.l1, if_pos (by omega), if_pos (by omega), e, w64 (n := n + (acc.length : Int)) (by omega) (by omega), w64 (by omega) (by omega), if_pos hc, w64 (by omega) (by omega)]
  ·have ih := parts_l1 left n d lv hl hn hnl r hlv hk m (i + 1) (acc ++ lv[i].f2) (by omega) (by omega) (by simp; omega)
   have ih' := parts_l1 left n d lv hl hn hnl (left + 1) hlv hk m (i + 1) (acc ++ lv[i].f2) (by omega) (by omega) (by simp; omega)
   have go : ∀ r, Ev (fun k => w1_ExprParts.l1 k left n lv d (acc ++ lv[i].f2) ((i + 1 : Nat) : Int)) r → Ev (fun k => w1_ExprParts.l1 k left n lv d acc (i : Int)) r := by
    intro r h
    have h2 := parts_l2 left n d lv i hlt hl hn r hlv _ 0 acc rfl (Nat.zero_le _) (by rw [e]; omega) (by rw [e]; omega) (by rw [e, List.drop_zero]; exact h)
    refine h2.step (fun k => ?_)
    rw [w1_ExprParts.l1, if_pos (by omega), if_pos (by omega), e, w64 (n := n + (acc.length : Int)) (by omega) (by omega), w64 (by omega) (by omega), if_neg hc]
    rfl
   refine ⟨fun h => go _ (ih'.1 (by rw [List.length_append]; omega)), fun h h0 => go _ (ih.2 (by rw [List.length_append]; omega) ?_)⟩
   rw [List.append_assoc]
   exact h0
def short : Nat → S31 → Prop
 | 0, _ => True
 | n + 1, e => e.f2.length < 1000000000000000000 ∧ ∀ k ∈ e.f2, short n k
theorem parts_l0 (left : Int) (hl : left ≤ 1048576) : ∀ (m : Nat) (n d : Int) (lv : List S31), (left - n).toNat < m → 0 ≤ n → n ≤ left → lv.length < 1000000000000000000 → 0 ≤ d → d ≤ 70000 + n → (∀ q, ∀ e ∈ lv, short q e) →
  ∃ r, Ev (fun k => w1_ExprParts.l0 k left n lv d) r ∧ 0 ≤ r ∧ r ≤ left + 1 ∧ (r ≤ left → n + (kidsTermsL lv).length = r)
 | 0, n, d, lv, hm, hn, hnl, hlv, hd, hd2, hs => absurd hm (Nat.not_lt_zero _)
 | m + 1, n, d, lv, hm, hn, hnl, hlv, hd, hd2, hs => by
  by_cases h0 : lv.length = 0
  ·have : lv = [] := List.length_eq_zero_iff.1 h0
   subst this
   refine ⟨n, Ev.of (fun k => ?_), hn, by omega, fun _ => by simp [kidsTermsL]⟩
   rw [w1_ExprParts.l0, if_neg (by simp)]
  ·by_cases h1 : n + lv.length > left
   ·refine ⟨left + 1, ?_, by omega, by omega, fun h => absurd h (by omega)⟩
    refine ⟨2, fun k hk => ?_⟩
    obtain ⟨j, rfl⟩ : ∃ j, k = j + 2 := ⟨k - 2, by omega⟩
    show w1_ExprParts.l0 (j + 1 + 1) left n lv d = _
    rw [w1_ExprParts.l0, if_pos (by omega), w64 (by omega) (by omega), if_pos h1, w1_ExprParts.j1, if_pos rfl, w64 (by omega) (by omega)]
   ·by_cases h2 : d ≥ 65536
    ·refine ⟨left + 1, ?_, by omega, by omega, fun h => absurd h (by omega)⟩
     refine ⟨2, fun k hk => ?_⟩
     obtain ⟨j, rfl⟩ : ∃ j, k = j + 2 := ⟨k - 2, by omega⟩
     show w1_ExprParts.l0 (j + 1 + 1) left n lv d = _
     rw [w1_ExprParts.l0, if_pos (by omega), w64 (by omega) (by omega), if_neg h1, decide_eq_true h2, w1_ExprParts.j1, if_pos rfl, w64 (by omega) (by omega)]
    ·have go : ∀ r, Ev (fun k => w1_ExprParts.l1 k left (n + lv.length) lv d [] ((0 : Nat) : Int)) r → Ev (fun k => w1_ExprParts.l0 k left n lv d) r := by
      intro r h
      have h3 : Ev (fun k => w1_ExprParts.j1 k left (n + lv.length) lv d false) r := h.step (fun k => by rw [w1_ExprParts.j1, if_neg (by simp)]; rfl)
      refine h3.step (fun k => ?_)
      rw [w1_ExprParts.l0, if_pos (by omega), w64 (by omega) (by omega), if_neg h1, decide_eq_false h2]
     have hk : ∀ e ∈ lv, e.f2.length < 1000000000000000000 := fun e he => (hs 1 e he).1
     by_cases h4 : n + lv.length + (lv.flatMap (fun e => e.f2)).length > left
     ·refine ⟨left + 1, go _ ((parts_l1 left (n + lv.length) d lv hl (by omega) (by omega) 0 (by omega) hk _ 0 [] rfl (Nat.zero_le _) (by simp; omega)).1 (by simpa using h4)), by omega, by omega, fun h => absurd h (by omega)⟩
     ·obtain ⟨r, hr, hr0, hr1, hr2⟩ := parts_l0 left hl m (n + lv.length) (d + 1) (lv.flatMap (fun e => e.f2)) (by omega) (by omega) (by omega) (by omega) (by omega) (by omega) (fun q e he => by
       obtain ⟨e', he', hm'⟩ := List.mem_flatMap.1 he
       exact (hs (q + 1) e' he').2 e hm')
      refine ⟨r, go _ ((parts_l1 left (n + lv.length) d lv hl (by omega) (by omega) r (by omega) hk _ 0 [] rfl (Nat.zero_le _) (by simp; omega)).2 (by simpa using h4) ?_), hr0, hr1, fun h => ?_⟩
      ·rw [w64 (by omega) (by omega), List.nil_append, List.drop_zero]
       exact hr
      ·rw [kids_level]
       have := hr2 h
       omega
theorem exprParts_ev (x : S31) (left : Int) (h0 : 0 ≤ left) (hl : left ≤ 1048576) (hs : ∀ q, short q x) : ∃ r, Ev (fun k => w1_ExprParts.f k x.f0 x.f1.f0 x.f1.f1.f0 x.f1.f1.f1 x.f1.f1.f2 x.f2 left) r ∧ 0 ≤ r ∧ r ≤ left + 1 ∧ (r ≤ left → ((exprTermsL x).length : Int) = r) := by
 obtain ⟨r, h1, h2, h3, h4⟩ := parts_l0 left hl _ 0 0 [x] (Nat.lt_succ_self _) (Int.le_refl _) h0 (by simp) (Int.le_refl _) (by omega) (fun q e he => by rw [List.mem_singleton.1 he]; exact hs q)
 refine ⟨r, h1.cong (fun k => ?_), h2, h3, fun h => ?_⟩
 ·rw [w1_ExprParts.f, eta_expr]
 ·have := h4 h
  simp [kidsTermsL] at this
  exact this
def term_code.f (a0 : Bool) : Option (Int) := if a0 = true then (some 0) else (some 40)
set_option maxHeartbeats 8000000 in
set_option maxRecDepth 100000 in
theorem term_code.calls (a0 : Bool) (r : Int) (w : World) (h : term_code.f a0 = some r) :
  Calls Tryd.prog 75 #[.bool a0] w fun e w' => e = .returned (.int .i64 r) ∧ Drawn0 w w' := by
 have H : (if a0 = true then (some 0) else (some 40)) = some r := h
 clear h
 by_cases c2 : a0 = true
 ·subst c2
  have H1 : (some 0) = some r := by rw [if_pos rfl] at H; exact H
  clear H
  have H := H1
  clear H1
  obtain rfl := Option.some.inj H
  go_enter Tryd.func75, Tryd.ntmps75
  go_wp2
  go_ret
  exact ⟨by first | rfl | (simp; done) | (simp [*]; done), by repeat (first | exact Drawn0.refl _ | apply Drawn0.step)⟩
 ·replace c2 := Bool.eq_false_iff.mpr c2
  subst c2
  have H1 : (some 40) = some r := by rw [if_neg (show ¬ (false = true) by decide)] at H; exact H
  clear H
  have H := H1
  clear H1
  obtain rfl := Option.some.inj H
  go_enter Tryd.func75, Tryd.ntmps75
  go_wp2
  go_ret
  exact ⟨by first | rfl | (simp; done) | (simp [*]; done), by repeat (first | exact Drawn0.refl _ | apply Drawn0.step)⟩
def value_Check.f (a0_0 : Int) (a0_1 : Int) (a0_2 : ByteArray) : Option (Int) := if a0_0 = 1 then (if a0_2.toList = ([] : List UInt8) then (some 0) else (some 10)) else (if a0_0 = 2 then (if a0_1 = 0 then (if (a0_2.size : Int) ≤ 200 then (some 0) else (some 10)) else (some 10)) else (some 10))
set_option maxHeartbeats 8000000 in
set_option maxRecDepth 100000 in
theorem value_Check.calls (a0_0 : Int) (a0_1 : Int) (a0_2 : ByteArray) (r : Int) (w : World) (h : value_Check.f a0_0 a0_1 a0_2 = some r) :
  Calls Tryd.prog 94 #[.agg #[.int .i8 a0_0, .int .i64 a0_1, .string a0_2]] w fun e w' => e = .returned (.int .i64 r) ∧ Below w.heap.size w w' := by
 have hu26 := Tryd.underlying26
 have HB := Aside0.mk (Below.refl w.heap.size w)
 have H : (if a0_0 = 1 then (if a0_2.toList = ([] : List UInt8) then (some 0) else (some 10)) else (if a0_0 = 2 then (if a0_1 = 0 then (if (a0_2.size : Int) ≤ 200 then (some 0) else (some 10)) else (some 10)) else (some 10))) = some r := h
 clear h
 by_cases c2 : a0_0 = 1
 ·rw [if_pos c2] at H
  have c2b0 : (a0_0 == 1) = true := beq_iff_eq.mpr c2
  have c2b1 : (a0_0 != 1) = false := bne_eq_false_iff_eq.mpr c2
  clear c2
  by_cases c3 : a0_2.toList = ([] : List UInt8)
  ·rw [if_pos c3] at H
   have c3b0 : (a0_2.toList == ([] : List UInt8)) = true := beq_iff_eq.mpr c3
   have c3b1 : (a0_2.toList != ([] : List UInt8)) = false := bne_eq_false_iff_eq.mpr c3
   clear c3
   obtain rfl := Option.some.inj H
   go_enter Tryd.func94, Tryd.ntmps94
   go_wp2_with (first | ((with_reducible refine xap (N := 1) rfl ?_); (try (refine xat (by rfl) ?_; dsimp only)); refine xaq ?hg (N := 1) ?hd (cs := #[.int .i8 a0_0, .int .i64 a0_1, .string a0_2]) (t := 26) ?hr ?_; (case hd => rfl); (case hg => rfl); (case hr => first | (go_simp; done) | (go_simp; rfl)); intro gb115 hg w4 hbox hb; have n0_ := Aside0.mk (xae (by repeat (first | (with_reducible first | exact HB.out | apply xab | apply xaa | apply xac) | exact HB.out)) hb); have n1_ := Aside0.mk (hbox); have n2_ := Aside0.mk ((by rw [hg]; exact (xao (by repeat (first | (with_reducible first | exact HB.out | apply xab | apply xaa | apply xac) | exact HB.out))) : w.heap.size ≤ gb115)); have n3_ := n2_; clear HB; have HB := n0_; have BK115 := n1_; have GW115 := n2_; have GE115 := n3_; clear n0_ n1_ n2_ n3_; clear hb hbox hg; obtain ⟨hcz5_0, hcz5_1, hcz5_2⟩ := cz3 BK115.out; obtain ⟨hfz5_0, hfz5_1, hfz5_2⟩ := fz3 BK115.out))
   go_ret
   exact ⟨by first | rfl | (simp [xan, xam] <;> rfl) | (simp [*, xan, xam] <;> rfl), by repeat (first | (with_reducible first | exact HB.out | apply xab | apply xaa | apply xac | refine xah ?_ GE115.out) | exact HB.out)⟩
  ·rw [if_neg c3] at H
   have c3b0 : (a0_2.toList == ([] : List UInt8)) = false := beq_eq_false_iff_ne.mpr c3
   have c3b1 : (a0_2.toList != ([] : List UInt8)) = true := bne_iff_ne.mpr c3
   obtain rfl := Option.some.inj H
   go_enter Tryd.func94, Tryd.ntmps94
   go_wp2_with (first | ((with_reducible refine xap (N := 1) rfl ?_); (try (refine xat (by rfl) ?_; dsimp only)); refine xaq ?hg (N := 1) ?hd (cs := #[.int .i8 a0_0, .int .i64 a0_1, .string a0_2]) (t := 26) ?hr ?_; (case hd => rfl); (case hg => rfl); (case hr => first | (go_simp; done) | (go_simp; rfl)); intro gb115 hg w6 hbox hb; have n0_ := Aside0.mk (xae (by repeat (first | (with_reducible first | exact HB.out | apply xab | apply xaa | apply xac) | exact HB.out)) hb); have n1_ := Aside0.mk (hbox); have n2_ := Aside0.mk ((by rw [hg]; exact (xao (by repeat (first | (with_reducible first | exact HB.out | apply xab | apply xaa | apply xac) | exact HB.out))) : w.heap.size ≤ gb115)); have n3_ := n2_; clear HB; have HB := n0_; have BK115 := n1_; have GW115 := n2_; have GE115 := n3_; clear n0_ n1_ n2_ n3_; clear hb hbox hg; obtain ⟨hcz7_0, hcz7_1, hcz7_2⟩ := cz3 BK115.out; obtain ⟨hfz7_0, hfz7_1, hfz7_2⟩ := fz3 BK115.out))
   go_ret
   exact ⟨by first | rfl | (simp [xan, xam] <;> rfl) | (simp [*, xan, xam] <;> rfl), by repeat (first | (with_reducible first | exact HB.out | apply xab | apply xaa | apply xac | refine xah ?_ GE115.out) | exact HB.out)⟩
 ·rw [if_neg c2] at H
  have c2b0 : (a0_0 == 1) = false := beq_eq_false_iff_ne.mpr c2
  have c2b1 : (a0_0 != 1) = true := bne_iff_ne.mpr c2
  by_cases c8 : a0_0 = 2
  ·rw [if_pos c8] at H
   have c8b0 : (a0_0 == 2) = true := beq_iff_eq.mpr c8
   have c8b1 : (a0_0 != 2) = false := bne_eq_false_iff_eq.mpr c8
   clear c8
   by_cases c9 : a0_1 = 0
   ·rw [if_pos c9] at H
    have c9b0 : (a0_1 == 0) = true := beq_iff_eq.mpr c9
    have c9b1 : (a0_1 != 0) = false := bne_eq_false_iff_eq.mpr c9
    clear c9
    by_cases c10 : (a0_2.size : Int) ≤ 200
    ·rw [if_pos c10] at H
     have c10b0 : decide ((a0_2.size : Int) ≤ 200) = true := decide_eq_true c10
     have c10b1 : decide (a0_2.size ≤ 200) = true := decide_eq_true (by omega)
     clear c10
     obtain rfl := Option.some.inj H
     go_enter Tryd.func94, Tryd.ntmps94
     go_wp2_with (first | ((with_reducible refine xap (N := 1) rfl ?_); (try (refine xat (by rfl) ?_; dsimp only)); refine xaq ?hg (N := 1) ?hd (cs := #[.int .i8 a0_0, .int .i64 a0_1, .string a0_2]) (t := 26) ?hr ?_; (case hd => rfl); (case hg => rfl); (case hr => first | (go_simp; done) | (go_simp; rfl)); intro gb115 hg w11 hbox hb; have n0_ := Aside0.mk (xae (by repeat (first | (with_reducible first | exact HB.out | apply xab | apply xaa | apply xac) | exact HB.out)) hb); have n1_ := Aside0.mk (hbox); have n2_ := Aside0.mk ((by rw [hg]; exact (xao (by repeat (first | (with_reducible first | exact HB.out | apply xab | apply xaa | apply xac) | exact HB.out))) : w.heap.size ≤ gb115)); have n3_ := n2_; clear HB; have HB := n0_; have BK115 := n1_; have GW115 := n2_; have GE115 := n3_; clear n0_ n1_ n2_ n3_; clear hb hbox hg; obtain ⟨hcz12_0, hcz12_1, hcz12_2⟩ := cz3 BK115.out; obtain ⟨hfz12_0, hfz12_1, hfz12_2⟩ := fz3 BK115.out))
     go_ret
     exact ⟨by first | rfl | (simp [xan, xam] <;> rfl) | (simp [*, xan, xam] <;> rfl), by repeat (first | (with_reducible first | exact HB.out | apply xab | apply xaa | apply xac | refine xah ?_ GE115.out) | exact HB.out)⟩
    ·rw [if_neg c10] at H
     have c10b0 : decide ((a0_2.size : Int) ≤ 200) = false := decide_eq_false c10
     have c10b1 : decide (a0_2.size ≤ 200) = false := decide_eq_false (by omega)
     clear c10
     obtain rfl := Option.some.inj H
     go_enter Tryd.func94, Tryd.ntmps94
     go_wp2_with (first | ((with_reducible refine xap (N := 1) rfl ?_); (try (refine xat (by rfl) ?_; dsimp only)); refine xaq ?hg (N := 1) ?hd (cs := #[.int .i8 a0_0, .int .i64 a0_1, .string a0_2]) (t := 26) ?hr ?_; (case hd => rfl); (case hg => rfl); (case hr => first | (go_simp; done) | (go_simp; rfl)); intro gb115 hg w13 hbox hb; have n0_ := Aside0.mk (xae (by repeat (first | (with_reducible first | exact HB.out | apply xab | apply xaa | apply xac) | exact HB.out)) hb); have n1_ := Aside0.mk (hbox); have n2_ := Aside0.mk ((by rw [hg]; exact (xao (by repeat (first | (with_reducible first | exact HB.out | apply xab | apply xaa | apply xac) | exact HB.out))) : w.heap.size ≤ gb115)); have n3_ := n2_; clear HB; have HB := n0_; have BK115 := n1_; have GW115 := n2_; have GE115 := n3_; clear n0_ n1_ n2_ n3_; clear hb hbox hg; obtain ⟨hcz14_0, hcz14_1, hcz14_2⟩ := cz3 BK115.out; obtain ⟨hfz14_0, hfz14_1, hfz14_2⟩ := fz3 BK115.out))
     go_ret
     exact ⟨by first | rfl | (simp [xan, xam] <;> rfl) | (simp [*, xan, xam] <;> rfl), by repeat (first | (with_reducible first | exact HB.out | apply xab | apply xaa | apply xac | refine xah ?_ GE115.out) | exact HB.out)⟩
   ·rw [if_neg c9] at H
    have c9b0 : (a0_1 == 0) = false := beq_eq_false_iff_ne.mpr c9
    have c9b1 : (a0_1 != 0) = true := bne_iff_ne.mpr c9
    obtain rfl := Option.some.inj H
    go_enter Tryd.func94, Tryd.ntmps94
    go_wp2_with (first | ((with_reducible refine xap (N := 1) rfl ?_); (try (refine xat (by rfl) ?_; dsimp only)); refine xaq ?hg (N := 1) ?hd (cs := #[.int .i8 a0_0, .int .i64 a0_1, .string a0_2]) (t := 26) ?hr ?_; (case hd => rfl); (case hg => rfl); (case hr => first | (go_simp; done) | (go_simp; rfl)); intro gb115 hg w15 hbox hb; have n0_ := Aside0.mk (xae (by repeat (first | (with_reducible first | exact HB.out | apply xab | apply xaa | apply xac) | exact HB.out)) hb); have n1_ := Aside0.mk (hbox); have n2_ := Aside0.mk ((by rw [hg]; exact (xao (by repeat (first | (with_reducible first | exact HB.out | apply xab | apply xaa | apply xac) | exact HB.out))) : w.heap.size ≤ gb115)); have n3_ := n2_; clear HB; have HB := n0_; have BK115 := n1_; have GW115 := n2_; have GE115 := n3_; clear n0_ n1_ n2_ n3_; clear hb hbox hg; obtain ⟨hcz16_0, hcz16_1, hcz16_2⟩ := cz3 BK115.out; obtain ⟨hfz16_0, hfz16_1, hfz16_2⟩ := fz3 BK115.out))
    go_ret
    exact ⟨by first | rfl | (simp [xan, xam] <;> rfl) | (simp [*, xan, xam] <;> rfl), by repeat (first | (with_reducible first | exact HB.out | apply xab | apply xaa | apply xac | refine xah ?_ GE115.out) | exact HB.out)⟩
  ·rw [if_neg c8] at H
   have c8b0 : (a0_0 == 2) = false := beq_eq_false_iff_ne.mpr c8
   have c8b1 : (a0_0 != 2) = true := bne_iff_ne.mpr c8
   obtain rfl := Option.some.inj H
   go_enter Tryd.func94, Tryd.ntmps94
   go_wp2_with (first | ((with_reducible refine xap (N := 1) rfl ?_); (try (refine xat (by rfl) ?_; dsimp only)); refine xaq ?hg (N := 1) ?hd (cs := #[.int .i8 a0_0, .int .i64 a0_1, .string a0_2]) (t := 26) ?hr ?_; (case hd => rfl); (case hg => rfl); (case hr => first | (go_simp; done) | (go_simp; rfl)); intro gb115 hg w17 hbox hb; have n0_ := Aside0.mk (xae (by repeat (first | (with_reducible first | exact HB.out | apply xab | apply xaa | apply xac) | exact HB.out)) hb); have n1_ := Aside0.mk (hbox); have n2_ := Aside0.mk ((by rw [hg]; exact (xao (by repeat (first | (with_reducible first | exact HB.out | apply xab | apply xaa | apply xac) | exact HB.out))) : w.heap.size ≤ gb115)); have n3_ := n2_; clear HB; have HB := n0_; have BK115 := n1_; have GW115 := n2_; have GE115 := n3_; clear n0_ n1_ n2_ n3_; clear hb hbox hg; obtain ⟨hcz18_0, hcz18_1, hcz18_2⟩ := cz3 BK115.out; obtain ⟨hfz18_0, hfz18_1, hfz18_2⟩ := fz3 BK115.out))
   go_ret
   exact ⟨by first | rfl | (simp [xan, xam] <;> rfl) | (simp [*, xan, xam] <;> rfl), by repeat (first | (with_reducible first | exact HB.out | apply xab | apply xaa | apply xac | refine xah ?_ GE115.out) | exact HB.out)⟩
def letterN (c : Nat) : Bool := decide (97 ≤ c ∧ c ≤ 122) || decide (65 ≤ c ∧ c ≤ 90) || decide (48 ≤ c ∧ c ≤ 57) || decide (c = 95)
def lettersFrom (l : List UInt8) : Bool := l.all fun c => letterN c.toNat
theorem below_bytesWorld (w : World) (e : TypeId) (s : ByteArray) : Below w.heap.size w (Lib.bytesWorld w e s) :=
 ⟨rfl, rfl, rfl, by rw [Lib.bytesWorld_size]; omega, fun i hi => Lib.bytesWorld_at_old w e s i hi⟩
theorem letters_take_succ (l : List UInt8) (k : Nat) (h : k < l.length) : lettersFrom (l.take (k + 1)) = (lettersFrom (l.take k) && letterN (l.getD k 0).toNat) := by
 unfold lettersFrom
 rw [List.take_succ_eq_append_getElem h, List.all_append]
 simp [List.getD_eq_getElem?_getD, List.getElem?_eq_getElem h]
theorem letters_false (l : List UInt8) (k : Nat) (h : k < l.length) (hn : letterN (l.getD k 0).toNat = false) : lettersFrom l = false := by
 unfold lettersFrom
 rw [List.all_eq_false]
 refine ⟨l[k], List.getElem_mem h, ?_⟩
 rw [List.getD_eq_getElem?_getD, List.getElem?_eq_getElem h] at hn
 simpa using hn
set_option maxHeartbeats 4000000 in
set_option maxRecDepth 100000 in
theorem term_word_body (s : ByteArray) (a b : Int) (w : World) (h0 : 0 < s.size) (h1 : s.size ≤ 120) (ha : a ≤ ((s[0]'h0).toNat : Int)) (hb : ((s[0]'h0).toNat : Int) ≤ b) :
  Calls Tryd.prog 113 #[.string s, .int .u8 a, .int .u8 b] w fun e w' => e = .returned (.bool (lettersFrom s.data.toList)) ∧ Below w.heap.size w w' := by
 have hcv := fun w : World => Lib.run_convert_string_bytes (P := Tryd.prog) w 9 150 5 s Tryd.underlying9 Tryd.underlying150 Tryd.underlying5
 have e0 : ((s.size : Int) == 0) = false := by rw [beq_eq_false_iff_ne]; omega
 have hlen : s.data.toList.length = s.size := by simp
 have HL := Lib.hid hlen
 clear hlen
 go_enter Tryd.func113, Tryd.ntmps113
 go_wp2_with fail
 have HB := Lib.hid (below_bytesWorld w 5 s)
 have HC := Lib.hid (Lib.bytesWorld_cell w 5 s)
 generalize Lib.bytesWorld w 5 s = w1 at *
 generalize grownCap w s.size 0 5 = cap at *
 go_loop [32] (fun i => ∃ k : Nat, k ≤ s.size ∧ i = .int .i64 k ∧ lettersFrom (s.data.toList.take k) = true) (fun i => s.size - (intOf i).toNat)
 case atStart => exact ⟨0, Nat.zero_le _, rfl, rfl⟩
 case round =>
  obtain ⟨k, hk, rfl, hp⟩ := hrel
  have HP := Lib.hid hp
  clear hp
  by_cases hlt : k < s.size
  ·have hcell := HC.out k hlt
   have HS := Lib.hid (letters_take_succ s.data.toList k (by rw [HL.out]; exact hlt))
   have HF := Lib.hid (letters_false s.data.toList k (by rw [HL.out]; exact hlt))
   generalize (s.data.toList.getD k 0) = c at *
   have hc := c.toNat_lt
   go_wp2_with fail
   all_goals (try simp only [bne_iff_ne, bne_eq_false_iff_eq, ne_eq] at *)
   all_goals first
    | (go_ret; exact ⟨by rw [HF.out (by unfold letterN; simp only [Bool.or_eq_false_iff, decide_eq_false_iff_not]; omega)]; rfl, HB.out⟩)
    | exact ⟨⟨k + 1, by omega, by go_num, by rw [HS.out, HP.out]; unfold letterN; simp only [Bool.true_and, Bool.or_eq_true, decide_eq_true_eq]; omega⟩, by simp [intOf]; omega⟩
  ·go_wp2_with fail
   go_ret
   exact ⟨by rw [show lettersFrom s.data.toList = true from by have := HP.out; rwa [List.take_of_length_le (by rw [HL.out]; omega)] at this]; rfl, HB.out⟩
theorem bt0 (s : ByteArray) (h : 0 < s.size) : bt s 0 = ((s[0]'h).toNat : Int) := (bt_at s 0 h).symm
def term_word.f (a0 : ByteArray) (a1 : Int) (a2 : Int) : Option (Bool) := some (decide (0 < a0.size) && decide (a0.size ≤ 120) && decide (a1 ≤ bt a0 0) && decide (bt a0 0 ≤ a2) && lettersFrom a0.data.toList)
set_option maxHeartbeats 4000000 in
set_option maxRecDepth 100000 in
theorem term_word.calls (a0 : ByteArray) (a1 : Int) (a2 : Int) (r : Bool) (w : World) (h : term_word.f a0 a1 a2 = some r) :
  Calls Tryd.prog 113 #[.string a0, .int .u8 a1, .int .u8 a2] w fun e w' => e = .returned (.bool r) ∧ Below w.heap.size w w' := by
 obtain rfl := Option.some.inj h
 clear h
 by_cases h0 : 0 < a0.size
 ·by_cases h1 : a0.size ≤ 120
  ·by_cases ha : a1 ≤ ((a0[0]'h0).toNat : Int)
   ·by_cases hb : ((a0[0]'h0).toNat : Int) ≤ a2
    ·refine (term_word_body a0 a1 a2 w h0 h1 ha hb).mono ?_
     rintro e w' ⟨rfl, hB⟩
     refine ⟨?_, hB⟩
     rw [bt0 a0 h0, decide_eq_true h0, decide_eq_true h1, decide_eq_true ha, decide_eq_true hb]
     rfl
    ·rw [bt0 a0 h0, decide_eq_true h0, decide_eq_true h1, decide_eq_true ha, decide_eq_false hb]
     have e0 : ((a0.size : Int) == 0) = false := by rw [beq_eq_false_iff_ne]; omega
     go_enter Tryd.func113, Tryd.ntmps113
     go_wp2_with fail
     go_ret
     exact ⟨rfl, Below.refl _ _⟩
   ·rw [bt0 a0 h0, decide_eq_true h0, decide_eq_true h1, decide_eq_false ha]
    have e0 : ((a0.size : Int) == 0) = false := by rw [beq_eq_false_iff_ne]; omega
    go_enter Tryd.func113, Tryd.ntmps113
    go_wp2_with fail
    go_ret
    exact ⟨rfl, Below.refl _ _⟩
  ·rw [decide_eq_true h0, decide_eq_false h1]
   have e0 : ((a0.size : Int) == 0) = false := by rw [beq_eq_false_iff_ne]; omega
   go_enter Tryd.func113, Tryd.ntmps113
   go_wp2_with fail
   go_ret
   exact ⟨rfl, Below.refl _ _⟩
 ·rw [decide_eq_false h0]
  have e0 : ((a0.size : Int) == 0) = true := by rw [beq_iff_eq]; omega
  go_enter Tryd.func113, Tryd.ntmps113
  go_wp2_with fail
  go_ret
  exact ⟨rfl, Below.refl _ _⟩
theorem eqA26 (d : Nat) (w : World) (x0 y0 : Int) (x1 y1 : Int) (x2 y2 : ByteArray) :
  (Op.equalIn (d + 2) 26 (.agg #[.int .i8 x0, .int .i64 x1, .string x2]) (.agg #[.int .i8 y0, .int .i64 y1, .string y2])).run Tryd.prog w = .ok (x0 == y0 && (x1 == y1 && (x2.toList == y2.toList))) w := by
 refine eqA_of Tryd.underlying26 (by kernel_rfl) ?_
 refine eqf_cons (by rfl) (by go_simp; rfl) (by go_simp; rfl) (by go_simp) ?_
 refine eqf_cons (by rfl) (by go_simp; rfl) (by go_simp; rfl) (by go_simp) ?_
 exact eqf_last (by rfl) (by go_simp; rfl) (by go_simp; rfl) (by go_simp)
end Go.Proofs.YtllcmggmcogokaaDoor.PAll
end
section
namespace Go.Proofs.YtllcmggmcogokaaDoor.PAll
open Go.RowKit Go.Proofs.YtllcmggmcogokaaDoorW.PrintWords Go.Proofs.YtllcmggmcogokaaDoorW.PrintLast Go.Proofs.YtllcmggmcogokaaDoorW.PrintMore
attribute [local go_sem] max2_int min2_int max_two min_two max_three min_three max_four min_four
attribute [local go_sem high] eqA26
def term_CheckTerm.f (a0_0 : ByteArray) (a0_1 : Int) (a0_2 : Int) (a0_3 : ByteArray) : Option (Int) := if a0_0.toList = ([] : List UInt8) then ((value_Check.f a0_1 a0_2 a0_3).bind fun t117 => ((term_code.f (t117 == 0)).bind fun t118 => (some t118))) else (if (a0_1 == 0 && (a0_2 == 0 && (a0_3.toList == ([] : List UInt8)))) = true then (if a0_0.toList = ([95] : List UInt8) then ((term_code.f true).bind fun t119 => (some t119)) else ((term_word.f a0_0 65 90).bind fun t120 => ((term_code.f t120).bind fun t121 => (some t121)))) else ((term_code.f false).bind fun t122 => (some t122)))
set_option maxHeartbeats 8000000 in
set_option maxRecDepth 100000 in
theorem term_CheckTerm.calls (a0_0 : ByteArray) (a0_1 : Int) (a0_2 : Int) (a0_3 : ByteArray) (r : Int) (w : World) (h : term_CheckTerm.f a0_0 a0_1 a0_2 a0_3 = some r) :
  Calls Tryd.prog 97 #[.agg #[.string a0_0, .int .i8 a0_1, .int .i64 a0_2, .string a0_3]] w fun e w' => e = .returned (.int .i64 r) ∧ Below w.heap.size w w' := by
 have hu28 := Tryd.underlying28
 have hu26 := Tryd.underlying26
 have HB := Aside0.mk (Below.refl w.heap.size w)
 have H : (if a0_0.toList = ([] : List UInt8) then ((value_Check.f a0_1 a0_2 a0_3).bind fun t117 => ((term_code.f (t117 == 0)).bind fun t118 => (some t118))) else (if (a0_1 == 0 && (a0_2 == 0 && (a0_3.toList == ([] : List UInt8)))) = true then (if a0_0.toList = ([95] : List UInt8) then ((term_code.f true).bind fun t119 => (some t119)) else ((term_word.f a0_0 65 90).bind fun t120 => ((term_code.f t120).bind fun t121 => (some t121)))) else ((term_code.f false).bind fun t122 => (some t122)))) = some r := h
 clear h
 by_cases c2 : a0_0.toList = ([] : List UInt8)
 ·rw [if_pos c2] at H
  have c2b0 : (a0_0.toList == ([] : List UInt8)) = true := beq_iff_eq.mpr c2
  have c2b1 : (a0_0.toList != ([] : List UInt8)) = false := bne_eq_false_iff_eq.mpr c2
  clear c2
  replace H := Option.bind_eq_some_iff.mp H
  obtain ⟨t117, A30, H⟩ := H
  replace H : ((term_code.f (t117 == 0)).bind fun t118 => (some t118)) = some r := H
  have A3 := Aside0.mk A30
  clear A30
  replace H := Option.bind_eq_some_iff.mp H
  obtain ⟨t118, A40, H⟩ := H
  replace H : (some t118) = some r := H
  have A4 := Aside0.mk A40
  clear A40
  obtain rfl := Option.some.inj H
  go_enter Tryd.func97, Tryd.ntmps97
  go_wp2_with (first | ((with_reducible refine xap (N := 1) rfl ?_); refine xaq ?hg (N := 1) ?hd (cs := #[.string a0_0, .int .i8 a0_1, .int .i64 a0_2, .string a0_3]) (t := 28) ?hr ?_; (case hd => rfl); (case hg => rfl); (case hr => first | (go_simp; done) | (go_simp; rfl)); intro gb116 hg w5 hbox hb; have n0_ := Aside0.mk (xae (by repeat (first | (with_reducible first | exact HB.out | apply xab | apply xaa | apply xac) | exact HB.out)) hb); have n1_ := Aside0.mk (hbox); have n2_ := Aside0.mk ((by rw [hg]; exact (xao (by repeat (first | (with_reducible first | exact HB.out | apply xab | apply xaa | apply xac) | exact HB.out))) : w.heap.size ≤ gb116)); have n3_ := n2_; clear HB; have HB := n0_; have BK116 := n1_; have GW116 := n2_; have GE116 := n3_; clear n0_ n1_ n2_ n3_; clear hb hbox hg; obtain ⟨hcz6_0, hcz6_1, hcz6_2, hcz6_3⟩ := cz4 BK116.out; obtain ⟨hfz6_0, hfz6_1, hfz6_2, hfz6_3⟩ := fz4 BK116.out) | ((with_reducible refine xay (f := 94) rfl ?_); refine goesL_ (some 8) rfl rfl Tryd.func94 (by kernel_rfl) rfl #[.agg #[.int .i8 a0_1, .int .i64 a0_2, .string a0_3]] rfl (by (try simp only [List.map_toArray, List.map_cons, List.map_nil]); first | done | rfl | (simp only [List.length_drop, List.length_take]; rfl)) ?_; (with_reducible refine (value_Check.calls a0_1 a0_2 a0_3 t117 _ A3.out).mono ?_); rintro e w7 ⟨rfl, hb⟩; refine ⟨_, rfl, ?_⟩; have n0_ := Aside0.mk (xak (g := gb116) (o := .cells #[.string a0_0, .int .i8 a0_1, .int .i64 a0_2, .string a0_3] 28 (0, 0)) (by (with_reducible repeat (first | refine xaf ?_ _ | refine xai ?_ | refine xad ?_ _)); exact BK116.out) hb); have n1_ := Aside0.mk (xae (by repeat (first | (with_reducible first | exact HB.out | apply xab | apply xaa | apply xac | refine xah ?_ GE116.out) | exact HB.out)) hb); clear BK116; clear HB; have BK116 := n0_; have HB := n1_; clear n0_ n1_; (try clear hb); (try clear hb2); (try clear hk); (try clear hi)) | ((with_reducible refine xay (f := 75) rfl ?_); refine goesL_ (some 10) rfl rfl Tryd.func75 (by kernel_rfl) rfl #[.bool (t117 == 0)] rfl (by (try simp only [List.map_toArray, List.map_cons, List.map_nil]); first | done | rfl | (simp only [List.length_drop, List.length_take]; rfl)) ?_; (with_reducible refine (term_code.calls (t117 == 0) t118 _ A4.out).mono ?_); rintro e w' ⟨rfl, ⟨nd, rfl⟩⟩; refine ⟨_, rfl, ?_⟩))
  go_ret
  exact ⟨by first | rfl | (simp [xan, xam] <;> rfl) | (simp [*, xan, xam] <;> rfl), by repeat (first | (with_reducible first | exact HB.out | apply xab | apply xaa | apply xac | refine xah ?_ GE116.out) | exact HB.out)⟩
 ·rw [if_neg c2] at H
  have c2b0 : (a0_0.toList == ([] : List UInt8)) = false := beq_eq_false_iff_ne.mpr c2
  have c2b1 : (a0_0.toList != ([] : List UInt8)) = true := bne_iff_ne.mpr c2
  by_cases c8 : (a0_1 == 0 && (a0_2 == 0 && (a0_3.toList == ([] : List UInt8)))) = true
  ·rw [if_pos c8] at H
   have c8b0 : (a0_1 == 0 && (a0_2 == 0 && (a0_3.toList == ([] : List UInt8)))) = true := c8
   (try (have c8b1 : (a0_1 == 0 && (a0_2 == 0 && (a0_3.toList.isEmpty))) = true := by simpa using c8))
   (try (have c8b2 : decide (a0_1 = 0 && (a0_2 == 0 && (a0_3.toList == ([] : List UInt8)))) = true := by simpa using c8))
   (try (have c8b3 : (a0_1 == 0 && (a0_2 == 0 && (a0_3.toList == ([] : List UInt8)))) = true := by simpa using c8))
   clear c8
   by_cases c9 : a0_0.toList = ([95] : List UInt8)
   ·rw [if_pos c9] at H
    have c9b0 : (a0_0.toList == ([95] : List UInt8)) = true := beq_iff_eq.mpr c9
    have c9b1 : (a0_0.toList != ([95] : List UInt8)) = false := bne_eq_false_iff_eq.mpr c9
    clear c9
    replace H := Option.bind_eq_some_iff.mp H
    obtain ⟨t119, A100, H⟩ := H
    replace H : (some t119) = some r := H
    have A10 := Aside0.mk A100
    clear A100
    obtain rfl := Option.some.inj H
    go_enter Tryd.func97, Tryd.ntmps97
    go_wp2_with (first | ((with_reducible refine xap (N := 1) rfl ?_); refine xaq ?hg (N := 1) ?hd (cs := #[.string a0_0, .int .i8 a0_1, .int .i64 a0_2, .string a0_3]) (t := 28) ?hr ?_; (case hd => rfl); (case hg => rfl); (case hr => first | (go_simp; done) | (go_simp; rfl)); intro gb116 hg w11 hbox hb; have n0_ := Aside0.mk (xae (by repeat (first | (with_reducible first | exact HB.out | apply xab | apply xaa | apply xac) | exact HB.out)) hb); have n1_ := Aside0.mk (hbox); have n2_ := Aside0.mk ((by rw [hg]; exact (xao (by repeat (first | (with_reducible first | exact HB.out | apply xab | apply xaa | apply xac) | exact HB.out))) : w.heap.size ≤ gb116)); have n3_ := n2_; clear HB; have HB := n0_; have BK116 := n1_; have GW116 := n2_; have GE116 := n3_; clear n0_ n1_ n2_ n3_; clear hb hbox hg; obtain ⟨hcz12_0, hcz12_1, hcz12_2, hcz12_3⟩ := cz4 BK116.out; obtain ⟨hfz12_0, hfz12_1, hfz12_2, hfz12_3⟩ := fz4 BK116.out) | ((with_reducible refine xay (f := 75) rfl ?_); refine goesL_ (some 25) rfl rfl Tryd.func75 (by kernel_rfl) rfl #[.bool true] rfl (by (try simp only [List.map_toArray, List.map_cons, List.map_nil]); first | done | rfl | (simp only [List.length_drop, List.length_take]; rfl)) ?_; (with_reducible refine (term_code.calls true t119 _ A10.out).mono ?_); rintro e w' ⟨rfl, ⟨nd, rfl⟩⟩; refine ⟨_, rfl, ?_⟩))
    go_ret
    exact ⟨by first | rfl | (simp [xan, xam] <;> rfl) | (simp [*, xan, xam] <;> rfl), by repeat (first | (with_reducible first | exact HB.out | apply xab | apply xaa | apply xac | refine xah ?_ GE116.out) | exact HB.out)⟩
   ·rw [if_neg c9] at H
    have c9b0 : (a0_0.toList == ([95] : List UInt8)) = false := beq_eq_false_iff_ne.mpr c9
    have c9b1 : (a0_0.toList != ([95] : List UInt8)) = true := bne_iff_ne.mpr c9
    replace H := Option.bind_eq_some_iff.mp H
    obtain ⟨t120, A130, H⟩ := H
    replace H : ((term_code.f t120).bind fun t121 => (some t121)) = some r := H
    have A13 := Aside0.mk A130
    clear A130
    replace H := Option.bind_eq_some_iff.mp H
    obtain ⟨t121, A140, H⟩ := H
    replace H : (some t121) = some r := H
    have A14 := Aside0.mk A140
    clear A140
    obtain rfl := Option.some.inj H
    go_enter Tryd.func97, Tryd.ntmps97
    go_wp2_with (first | ((with_reducible refine xap (N := 1) rfl ?_); refine xaq ?hg (N := 1) ?hd (cs := #[.string a0_0, .int .i8 a0_1, .int .i64 a0_2, .string a0_3]) (t := 28) ?hr ?_; (case hd => rfl); (case hg => rfl); (case hr => first | (go_simp; done) | (go_simp; rfl)); intro gb116 hg w15 hbox hb; have n0_ := Aside0.mk (xae (by repeat (first | (with_reducible first | exact HB.out | apply xab | apply xaa | apply xac) | exact HB.out)) hb); have n1_ := Aside0.mk (hbox); have n2_ := Aside0.mk ((by rw [hg]; exact (xao (by repeat (first | (with_reducible first | exact HB.out | apply xab | apply xaa | apply xac) | exact HB.out))) : w.heap.size ≤ gb116)); have n3_ := n2_; clear HB; have HB := n0_; have BK116 := n1_; have GW116 := n2_; have GE116 := n3_; clear n0_ n1_ n2_ n3_; clear hb hbox hg; obtain ⟨hcz16_0, hcz16_1, hcz16_2, hcz16_3⟩ := cz4 BK116.out; obtain ⟨hfz16_0, hfz16_1, hfz16_2, hfz16_3⟩ := fz4 BK116.out) | (go_at_call 113; (with_reducible refine (term_word.calls a0_0 65 90 t120 _ A13.out).mono ?_); rintro e w17 ⟨rfl, hb⟩; have n0_ := Aside0.mk (xak (g := gb116) (o := .cells #[.string a0_0, .int .i8 a0_1, .int .i64 a0_2, .string a0_3] 28 (0, 0)) (by (with_reducible repeat (first | refine xaf ?_ _ | refine xai ?_ | refine xad ?_ _)); exact BK116.out) hb); have n1_ := Aside0.mk (xae (by repeat (first | (with_reducible first | exact HB.out | apply xab | apply xaa | apply xac | refine xah ?_ GE116.out) | exact HB.out)) hb); clear BK116; clear HB; have BK116 := n0_; have HB := n1_; clear n0_ n1_; (try clear hb); (try clear hb2); (try clear hk); (try clear hi)) | ((with_reducible refine xay (f := 75) rfl ?_); refine goesL_ (some 25) rfl rfl Tryd.func75 (by kernel_rfl) rfl #[.bool t120] rfl (by (try simp only [List.map_toArray, List.map_cons, List.map_nil]); first | done | rfl | (simp only [List.length_drop, List.length_take]; rfl)) ?_; (with_reducible refine (term_code.calls t120 t121 _ A14.out).mono ?_); rintro e w' ⟨rfl, ⟨nd, rfl⟩⟩; refine ⟨_, rfl, ?_⟩))
    go_ret
    exact ⟨by first | rfl | (simp [xan, xam] <;> rfl) | (simp [*, xan, xam] <;> rfl), by repeat (first | (with_reducible first | exact HB.out | apply xab | apply xaa | apply xac | refine xah ?_ GE116.out) | exact HB.out)⟩
  ·rw [if_neg c8] at H
   have c8b0 : (a0_1 == 0 && (a0_2 == 0 && (a0_3.toList == ([] : List UInt8)))) = false := by simpa using c8
   (try (have c8b1 : (a0_1 == 0 && (a0_2 == 0 && (a0_3.toList.isEmpty))) = false := by simpa using c8))
   (try (have c8b2 : decide (a0_1 = 0 && (a0_2 == 0 && (a0_3.toList == ([] : List UInt8)))) = false := by simpa using c8))
   (try (have c8b3 : (a0_1 == 0 && (a0_2 == 0 && (a0_3.toList == ([] : List UInt8)))) = false := by simpa using c8))
   (try (have c8b4 : ¬ (a0_1 = 0 && (a0_2 == 0 && (a0_3.toList == ([] : List UInt8)))) := by simpa using c8))
   clear c8
   replace H := Option.bind_eq_some_iff.mp H
   obtain ⟨t122, A180, H⟩ := H
   replace H : (some t122) = some r := H
   have A18 := Aside0.mk A180
   clear A180
   obtain rfl := Option.some.inj H
   go_enter Tryd.func97, Tryd.ntmps97
   go_wp2_with (first | ((with_reducible refine xap (N := 1) rfl ?_); refine xaq ?hg (N := 1) ?hd (cs := #[.string a0_0, .int .i8 a0_1, .int .i64 a0_2, .string a0_3]) (t := 28) ?hr ?_; (case hd => rfl); (case hg => rfl); (case hr => first | (go_simp; done) | (go_simp; rfl)); intro gb116 hg w19 hbox hb; have n0_ := Aside0.mk (xae (by repeat (first | (with_reducible first | exact HB.out | apply xab | apply xaa | apply xac) | exact HB.out)) hb); have n1_ := Aside0.mk (hbox); have n2_ := Aside0.mk ((by rw [hg]; exact (xao (by repeat (first | (with_reducible first | exact HB.out | apply xab | apply xaa | apply xac) | exact HB.out))) : w.heap.size ≤ gb116)); have n3_ := n2_; clear HB; have HB := n0_; have BK116 := n1_; have GW116 := n2_; have GE116 := n3_; clear n0_ n1_ n2_ n3_; clear hb hbox hg; obtain ⟨hcz20_0, hcz20_1, hcz20_2, hcz20_3⟩ := cz4 BK116.out; obtain ⟨hfz20_0, hfz20_1, hfz20_2, hfz20_3⟩ := fz4 BK116.out) | ((with_reducible refine xay (f := 75) rfl ?_); refine goesL_ (some 25) rfl rfl Tryd.func75 (by kernel_rfl) rfl #[.bool false] rfl (by (try simp only [List.map_toArray, List.map_cons, List.map_nil]); first | done | rfl | (simp only [List.length_drop, List.length_take]; rfl)) ?_; (with_reducible refine (term_code.calls false t122 _ A18.out).mono ?_); rintro e w' ⟨rfl, ⟨nd, rfl⟩⟩; refine ⟨_, rfl, ?_⟩))
   go_ret
   exact ⟨by first | rfl | (simp [xan, xam] <;> rfl) | (simp [*, xan, xam] <;> rfl), by repeat (first | (with_reducible first | exact HB.out | apply xab | apply xaa | apply xac | refine xah ?_ GE116.out) | exact HB.out)⟩
end Go.Proofs.YtllcmggmcogokaaDoor.PAll
end
section
namespace Go.Proofs.YtllcmggmcogokaaDoor.PAll
open Go.RowKit Go.Proofs.YtllcmggmcogokaaDoorW.PrintWords Go.Proofs.YtllcmggmcogokaaDoorW.PrintLast Go.Proofs.YtllcmggmcogokaaDoorW.PrintMore
attribute [local go_sem] max2_int min2_int max_two min_two max_three min_three max_four min_four
def term_solid.f (a0_0 : ByteArray) (a0_1 : Int) (a0_2 : Int) (a0_3 : ByteArray) : Option (Bool) := if a0_0.toList = ([95] : List UInt8) then (some false) else ((term_CheckTerm.f a0_0 a0_1 a0_2 a0_3).bind fun t124 => (some (t124 == 0)))
set_option maxHeartbeats 8000000 in
set_option maxRecDepth 100000 in
theorem term_solid.calls (a0_0 : ByteArray) (a0_1 : Int) (a0_2 : Int) (a0_3 : ByteArray) (r : Bool) (w : World) (h : term_solid.f a0_0 a0_1 a0_2 a0_3 = some r) :
  Calls Tryd.prog 114 #[.agg #[.string a0_0, .int .i8 a0_1, .int .i64 a0_2, .string a0_3]] w fun e w' => e = .returned (.bool r) ∧ Below w.heap.size w w' := by
 have hu28 := Tryd.underlying28
 have HB := Aside0.mk (Below.refl w.heap.size w)
 have H : (if a0_0.toList = ([95] : List UInt8) then (some false) else ((term_CheckTerm.f a0_0 a0_1 a0_2 a0_3).bind fun t124 => (some (t124 == 0)))) = some r := h
 clear h
 by_cases c2 : a0_0.toList = ([95] : List UInt8)
 ·rw [if_pos c2] at H
  have c2b0 : (a0_0.toList == ([95] : List UInt8)) = true := beq_iff_eq.mpr c2
  have c2b1 : (a0_0.toList != ([95] : List UInt8)) = false := bne_eq_false_iff_eq.mpr c2
  clear c2
  obtain rfl := Option.some.inj H
  go_enter Tryd.func114, Tryd.ntmps114
  go_wp2_with (first | ((with_reducible refine xap (N := 1) rfl ?_); refine xaq ?hg (N := 1) ?hd (cs := #[.string a0_0, .int .i8 a0_1, .int .i64 a0_2, .string a0_3]) (t := 28) ?hr ?_; (case hd => rfl); (case hg => rfl); (case hr => first | (go_simp; done) | (go_simp; rfl)); intro gb123 hg w3 hbox hb; have n0_ := Aside0.mk (xae (by repeat (first | (with_reducible first | exact HB.out | apply xab | apply xaa | apply xac) | exact HB.out)) hb); have n1_ := Aside0.mk (hbox); have n2_ := Aside0.mk ((by rw [hg]; exact (xao (by repeat (first | (with_reducible first | exact HB.out | apply xab | apply xaa | apply xac) | exact HB.out))) : w.heap.size ≤ gb123)); have n3_ := n2_; clear HB; have HB := n0_; have BK123 := n1_; have GW123 := n2_; have GE123 := n3_; clear n0_ n1_ n2_ n3_; clear hb hbox hg; obtain ⟨hcz4_0, hcz4_1, hcz4_2, hcz4_3⟩ := cz4 BK123.out; obtain ⟨hfz4_0, hfz4_1, hfz4_2, hfz4_3⟩ := fz4 BK123.out))
  go_ret
  exact ⟨by first | rfl | (simp [xan, xam] <;> rfl) | (simp [*, xan, xam] <;> rfl), by repeat (first | (with_reducible first | exact HB.out | apply xab | apply xaa | apply xac | refine xah ?_ GE123.out) | exact HB.out)⟩
 ·rw [if_neg c2] at H
  have c2b0 : (a0_0.toList == ([95] : List UInt8)) = false := beq_eq_false_iff_ne.mpr c2
  have c2b1 : (a0_0.toList != ([95] : List UInt8)) = true := bne_iff_ne.mpr c2
  replace H := Option.bind_eq_some_iff.mp H
  obtain ⟨t124, A50, H⟩ := H
  replace H : (some (t124 == 0)) = some r := H
  have A5 := Aside0.mk A50
  clear A50
  obtain rfl := Option.some.inj H
  go_enter Tryd.func114, Tryd.ntmps114
  go_wp2_with (first | ((with_reducible refine xap (N := 1) rfl ?_); refine xaq ?hg (N := 1) ?hd (cs := #[.string a0_0, .int .i8 a0_1, .int .i64 a0_2, .string a0_3]) (t := 28) ?hr ?_; (case hd => rfl); (case hg => rfl); (case hr => first | (go_simp; done) | (go_simp; rfl)); intro gb123 hg w6 hbox hb; have n0_ := Aside0.mk (xae (by repeat (first | (with_reducible first | exact HB.out | apply xab | apply xaa | apply xac) | exact HB.out)) hb); have n1_ := Aside0.mk (hbox); have n2_ := Aside0.mk ((by rw [hg]; exact (xao (by repeat (first | (with_reducible first | exact HB.out | apply xab | apply xaa | apply xac) | exact HB.out))) : w.heap.size ≤ gb123)); have n3_ := n2_; clear HB; have HB := n0_; have BK123 := n1_; have GW123 := n2_; have GE123 := n3_; clear n0_ n1_ n2_ n3_; clear hb hbox hg; obtain ⟨hcz7_0, hcz7_1, hcz7_2, hcz7_3⟩ := cz4 BK123.out; obtain ⟨hfz7_0, hfz7_1, hfz7_2, hfz7_3⟩ := fz4 BK123.out) | (go_at_call 97; (with_reducible refine (term_CheckTerm.calls a0_0 a0_1 a0_2 a0_3 t124 _ A5.out).mono ?_); rintro e w8 ⟨rfl, hb⟩; have n0_ := Aside0.mk (xak (g := gb123) (o := .cells #[.string a0_0, .int .i8 a0_1, .int .i64 a0_2, .string a0_3] 28 (0, 0)) (by (with_reducible repeat (first | refine xaf ?_ _ | refine xai ?_ | refine xad ?_ _)); exact BK123.out) hb); have n1_ := Aside0.mk (xae (by repeat (first | (with_reducible first | exact HB.out | apply xab | apply xaa | apply xac | refine xah ?_ GE123.out) | exact HB.out)) hb); clear BK123; clear HB; have BK123 := n0_; have HB := n1_; clear n0_ n1_; (try clear hb); (try clear hb2); (try clear hk); (try clear hi)))
  go_ret
  exact ⟨by first | rfl | (simp [xan, xam] <;> rfl) | (simp [*, xan, xam] <;> rfl), by repeat (first | (with_reducible first | exact HB.out | apply xab | apply xaa | apply xac | refine xah ?_ GE123.out) | exact HB.out)⟩
theorem eqA28 (d : Nat) (w : World) (x0 y0 : ByteArray) (x1 y1 : Int) (x2 y2 : Int) (x3 y3 : ByteArray) :
  (Op.equalIn (d + 3) 28 (.agg #[.string x0, .int .i8 x1, .int .i64 x2, .string x3]) (.agg #[.string y0, .int .i8 y1, .int .i64 y2, .string y3])).run Tryd.prog w = .ok (x0.toList == y0.toList && ((x1 == y1 && (x2 == y2 && (x3.toList == y3.toList))))) w := by
 refine eqA_of Tryd.underlying28 (by kernel_rfl) ?_
 refine eqf_cons (by rfl) (by go_simp; rfl) (by go_simp; rfl) (by go_simp) ?_
 exact eqf_last (by rfl) (by go_simp) (by go_simp) (eqA26 (d + 0) w _ _ _ _ _ _)
end Go.Proofs.YtllcmggmcogokaaDoor.PAll
end
section
namespace Go.Proofs.YtllcmggmcogokaaDoor.PAll
open Go.RowKit Go.Proofs.YtllcmggmcogokaaDoorW.PrintWords Go.Proofs.YtllcmggmcogokaaDoorW.PrintLast Go.Proofs.YtllcmggmcogokaaDoorW.PrintMore
attribute [local go_sem] max2_int min2_int max_two min_two max_three min_three max_four min_four
attribute [local go_sem high] eqA28
def term_none.f (a0_0 : ByteArray) (a0_1 : Int) (a0_2 : Int) (a0_3 : ByteArray) : Option (Bool) := some (a0_0.toList == ([] : List UInt8) && ((a0_1 == 0 && (a0_2 == 0 && (a0_3.toList == ([] : List UInt8))))))
set_option maxHeartbeats 8000000 in
set_option maxRecDepth 100000 in
theorem term_none.calls (a0_0 : ByteArray) (a0_1 : Int) (a0_2 : Int) (a0_3 : ByteArray) (r : Bool) (w : World) (h : term_none.f a0_0 a0_1 a0_2 a0_3 = some r) :
  Calls Tryd.prog 106 #[.agg #[.string a0_0, .int .i8 a0_1, .int .i64 a0_2, .string a0_3]] w fun e w' => e = .returned (.bool r) ∧ Below w.heap.size w w' := by
 have hu28 := Tryd.underlying28
 have HB := Aside0.mk (Below.refl w.heap.size w)
 have H : (some (a0_0.toList == ([] : List UInt8) && ((a0_1 == 0 && (a0_2 == 0 && (a0_3.toList == ([] : List UInt8))))))) = some r := h
 clear h
 obtain rfl := Option.some.inj H
 go_enter Tryd.func106, Tryd.ntmps106
 go_wp2_with (first | ((with_reducible refine xap (N := 1) rfl ?_); refine xaq ?hg (N := 1) ?hd (cs := #[.string a0_0, .int .i8 a0_1, .int .i64 a0_2, .string a0_3]) (t := 28) ?hr ?_; (case hd => rfl); (case hg => rfl); (case hr => first | (go_simp; done) | (go_simp; rfl)); intro gb114 hg w2 hbox hb; have n0_ := Aside0.mk (xae (by repeat (first | (with_reducible first | exact HB.out | apply xab | apply xaa | apply xac) | exact HB.out)) hb); have n1_ := Aside0.mk (hbox); have n2_ := Aside0.mk ((by rw [hg]; exact (xao (by repeat (first | (with_reducible first | exact HB.out | apply xab | apply xaa | apply xac) | exact HB.out))) : w.heap.size ≤ gb114)); have n3_ := n2_; clear HB; have HB := n0_; have BK114 := n1_; have GW114 := n2_; have GE114 := n3_; clear n0_ n1_ n2_ n3_; clear hb hbox hg; obtain ⟨hcz3_0, hcz3_1, hcz3_2, hcz3_3⟩ := cz4 BK114.out; obtain ⟨hfz3_0, hfz3_1, hfz3_2, hfz3_3⟩ := fz4 BK114.out))
 go_ret
 exact ⟨by first | rfl | (simp [xan, xam] <;> rfl) | (simp [*, xan, xam] <;> rfl), by repeat (first | (with_reducible first | exact HB.out | apply xab | apply xaa | apply xac | refine xah ?_ GE114.out) | exact HB.out)⟩
end Go.Proofs.YtllcmggmcogokaaDoor.PAll
end
section
namespace Go.Proofs.YtllcmggmcogokaaDoor.PAll
open Go.RowKit Go.Proofs.YtllcmggmcogokaaDoorW.PrintWords Go.Proofs.YtllcmggmcogokaaDoorW.PrintLast Go.Proofs.YtllcmggmcogokaaDoorW.PrintMore
attribute [local go_sem] max2_int min2_int max_two min_two max_three min_three max_four min_four
def term_arity.j0 : Nat → Int → Bool → Option (Int)
 | 0, _, _ => none
 | k + 1, x3, x4 => if x4 = true then (some 1) else (if x3 = 2 then (some 2) else (if x3 = 3 then (some 2) else (if x3 = 4 then (some 2) else (if x3 = 5 then (some 2) else (if x3 = 6 then (some 2) else (if x3 = 7 then (some 2) else (some (-1))))))))
def term_arity.f (k : Nat) (a0 : Int) : Option (Int) := if a0 = 1 then (term_arity.j0 k a0 (a0 == 1)) else (if a0 = 8 then (term_arity.j0 k a0 (a0 == 8)) else (if a0 = 9 then (term_arity.j0 k a0 (a0 == 9)) else (term_arity.j0 k a0 (a0 == 10))))
set_option maxHeartbeats 8000000 in
set_option maxRecDepth 100000 in
theorem term_arity.calls (k : Nat) (a0 : Int) (r : Int) (w : World) (h : term_arity.f k a0 = some r) :
  Calls Tryd.prog 127 #[.int .i8 a0] w fun e w' => e = .returned (.int .i64 r) ∧ Drawn0 w w' := by
 have H : (if a0 = 1 then (term_arity.j0 k a0 (a0 == 1)) else (if a0 = 8 then (term_arity.j0 k a0 (a0 == 8)) else (if a0 = 9 then (term_arity.j0 k a0 (a0 == 9)) else (term_arity.j0 k a0 (a0 == 10))))) = some r := h
 clear h
 have HC2 := Aside0.mk H
 clear H
 go_enter Tryd.func127, Tryd.ntmps127
 go_upto_if 4 with (fail)
 go_cut [4] (fun v4 wc => ∃ (kq : Nat) (x4_1 : Bool), v4 = .bool x4_1 ∧ Aside0 (term_arity.j0 kq a0 x4_1 = some r) ∧ Aside0 (kq ≤ k) ∧ Drawn0 w wc)
 case first =>
  have H := HC2.out
  clear HC2
  by_cases c3 : a0 = 1
  ·rw [if_pos c3] at H
   have c3b0 : (a0 == 1) = true := beq_iff_eq.mpr c3
   have c3b1 : (a0 != 1) = false := bne_eq_false_iff_eq.mpr c3
   clear c3
   (first | rw [c3b0] | (simp only [i64_w, i32_w]; rw [c3b0]) | skip)
   have H' := Aside0.mk H
   clear H
   go_wp2
   go_meet
   case rel => exact ⟨_, ((a0 == 1)), (by first | rfl | (simp; done) | (simp [*]; done)), H', ⟨by first | omega | exact Nat.le_refl _⟩, by repeat (first | exact Drawn0.refl _ | apply Drawn0.step)⟩
  ·rw [if_neg c3] at H
   have c3b0 : (a0 == 1) = false := beq_eq_false_iff_ne.mpr c3
   have c3b1 : (a0 != 1) = true := bne_iff_ne.mpr c3
   (first | rw [c3b0] | (simp only [i64_w, i32_w]; rw [c3b0]) | skip)
   by_cases c4 : a0 = 8
   ·rw [if_pos c4] at H
    have c4b0 : (a0 == 8) = true := beq_iff_eq.mpr c4
    have c4b1 : (a0 != 8) = false := bne_eq_false_iff_eq.mpr c4
    clear c4
    have H' := Aside0.mk H
    clear H
    go_wp2
    go_meet
    case rel => exact ⟨_, ((a0 == 8)), (by first | rfl | (simp; done) | (simp [*]; done)), H', ⟨by first | omega | exact Nat.le_refl _⟩, by repeat (first | exact Drawn0.refl _ | apply Drawn0.step)⟩
   ·rw [if_neg c4] at H
    have c4b0 : (a0 == 8) = false := beq_eq_false_iff_ne.mpr c4
    have c4b1 : (a0 != 8) = true := bne_iff_ne.mpr c4
    by_cases c5 : a0 = 9
    ·rw [if_pos c5] at H
     have c5b0 : (a0 == 9) = true := beq_iff_eq.mpr c5
     have c5b1 : (a0 != 9) = false := bne_eq_false_iff_eq.mpr c5
     clear c5
     have H' := Aside0.mk H
     clear H
     go_wp2
     go_meet
     case rel => exact ⟨_, ((a0 == 9)), (by first | rfl | (simp; done) | (simp [*]; done)), H', ⟨by first | omega | exact Nat.le_refl _⟩, by repeat (first | exact Drawn0.refl _ | apply Drawn0.step)⟩
    ·rw [if_neg c5] at H
     have c5b0 : (a0 == 9) = false := beq_eq_false_iff_ne.mpr c5
     have c5b1 : (a0 != 9) = true := bne_iff_ne.mpr c5
     have H' := Aside0.mk H
     clear H
     go_wp2
     go_meet
     case rel => exact ⟨_, ((a0 == 10)), (by first | rfl | (simp; done) | (simp [*]; done)), H', ⟨by first | omega | exact Nat.le_refl _⟩, by repeat (first | exact Drawn0.refl _ | apply Drawn0.step)⟩
 case rest =>
  clear HC2
  try clear c1
  try clear p2
  try clear c3
  try clear c3b0
  try clear c3b1
  try clear c4
  try clear c4b0
  try clear c4b1
  try clear c5
  try clear c5b0
  try clear c5b1
  obtain ⟨kq, x4_1, rfl, HA, HJ1, ⟨mc1, rfl⟩⟩ := hcut
  cases kq with
  | zero => exact absurd HA.out (by simp [term_arity.j0])
  | succ kj1 =>
   have H := HA.out
   clear HA
   simp only [term_arity.j0] at H
   by_cases c6 : x4_1 = true
   ·subst c6
    have H1 : (some 1) = some r := by rw [if_pos rfl] at H; exact H
    clear H
    have H := H1
    clear H1
    obtain rfl := Option.some.inj H
    go_wp2
    go_ret
    exact ⟨by first | rfl | (simp; done) | (simp [*]; done), by repeat (first | exact Drawn0.refl _ | apply Drawn0.step)⟩
   ·replace c6 := Bool.eq_false_iff.mpr c6
    subst c6
    have H1 : (if a0 = 2 then (some 2) else (if a0 = 3 then (some 2) else (if a0 = 4 then (some 2) else (if a0 = 5 then (some 2) else (if a0 = 6 then (some 2) else (if a0 = 7 then (some 2) else (some (-1)))))))) = some r := by rw [if_neg (show ¬ (false = true) by decide)] at H; exact H
    clear H
    have H := H1
    clear H1
    by_cases c7 : a0 = 2
    ·rw [if_pos c7] at H
     have c7b0 : (a0 == 2) = true := beq_iff_eq.mpr c7
     have c7b1 : (a0 != 2) = false := bne_eq_false_iff_eq.mpr c7
     clear c7
     obtain rfl := Option.some.inj H
     go_wp2
     go_ret
     exact ⟨by first | rfl | (simp; done) | (simp [*]; done), by repeat (first | exact Drawn0.refl _ | apply Drawn0.step)⟩
    ·rw [if_neg c7] at H
     have c7b0 : (a0 == 2) = false := beq_eq_false_iff_ne.mpr c7
     have c7b1 : (a0 != 2) = true := bne_iff_ne.mpr c7
     by_cases c8 : a0 = 3
     ·rw [if_pos c8] at H
      have c8b0 : (a0 == 3) = true := beq_iff_eq.mpr c8
      have c8b1 : (a0 != 3) = false := bne_eq_false_iff_eq.mpr c8
      clear c8
      obtain rfl := Option.some.inj H
      go_wp2
      go_ret
      exact ⟨by first | rfl | (simp; done) | (simp [*]; done), by repeat (first | exact Drawn0.refl _ | apply Drawn0.step)⟩
     ·rw [if_neg c8] at H
      have c8b0 : (a0 == 3) = false := beq_eq_false_iff_ne.mpr c8
      have c8b1 : (a0 != 3) = true := bne_iff_ne.mpr c8
      by_cases c9 : a0 = 4
      ·rw [if_pos c9] at H
       have c9b0 : (a0 == 4) = true := beq_iff_eq.mpr c9
       have c9b1 : (a0 != 4) = false := bne_eq_false_iff_eq.mpr c9
       clear c9
       obtain rfl := Option.some.inj H
       go_wp2
       go_ret
       exact ⟨by first | rfl | (simp; done) | (simp [*]; done), by repeat (first | exact Drawn0.refl _ | apply Drawn0.step)⟩
      ·rw [if_neg c9] at H
       have c9b0 : (a0 == 4) = false := beq_eq_false_iff_ne.mpr c9
       have c9b1 : (a0 != 4) = true := bne_iff_ne.mpr c9
       by_cases c10 : a0 = 5
       ·rw [if_pos c10] at H
        have c10b0 : (a0 == 5) = true := beq_iff_eq.mpr c10
        have c10b1 : (a0 != 5) = false := bne_eq_false_iff_eq.mpr c10
        clear c10
        obtain rfl := Option.some.inj H
        go_wp2
        go_ret
        exact ⟨by first | rfl | (simp; done) | (simp [*]; done), by repeat (first | exact Drawn0.refl _ | apply Drawn0.step)⟩
       ·rw [if_neg c10] at H
        have c10b0 : (a0 == 5) = false := beq_eq_false_iff_ne.mpr c10
        have c10b1 : (a0 != 5) = true := bne_iff_ne.mpr c10
        by_cases c11 : a0 = 6
        ·rw [if_pos c11] at H
         have c11b0 : (a0 == 6) = true := beq_iff_eq.mpr c11
         have c11b1 : (a0 != 6) = false := bne_eq_false_iff_eq.mpr c11
         clear c11
         obtain rfl := Option.some.inj H
         go_wp2
         go_ret
         exact ⟨by first | rfl | (simp; done) | (simp [*]; done), by repeat (first | exact Drawn0.refl _ | apply Drawn0.step)⟩
        ·rw [if_neg c11] at H
         have c11b0 : (a0 == 6) = false := beq_eq_false_iff_ne.mpr c11
         have c11b1 : (a0 != 6) = true := bne_iff_ne.mpr c11
         by_cases c12 : a0 = 7
         ·rw [if_pos c12] at H
          have c12b0 : (a0 == 7) = true := beq_iff_eq.mpr c12
          have c12b1 : (a0 != 7) = false := bne_eq_false_iff_eq.mpr c12
          clear c12
          obtain rfl := Option.some.inj H
          go_wp2
          go_ret
          exact ⟨by first | rfl | (simp; done) | (simp [*]; done), by repeat (first | exact Drawn0.refl _ | apply Drawn0.step)⟩
         ·rw [if_neg c12] at H
          have c12b0 : (a0 == 7) = false := beq_eq_false_iff_ne.mpr c12
          have c12b1 : (a0 != 7) = true := bne_iff_ne.mpr c12
          obtain rfl := Option.some.inj H
          go_wp2
          go_ret
          exact ⟨by first | rfl | (simp; done) | (simp [*]; done), by repeat (first | exact Drawn0.refl _ | apply Drawn0.step)⟩
def term_name.f (a0 : ByteArray) : Option (Bool) := if a0.toList = ([110, 111, 116] : List UInt8) then (some false) else (if a0.toList = ([99, 111, 117, 110, 116] : List UInt8) then (some false) else (if a0.toList = ([115, 117, 109] : List UInt8) then (some false) else (if a0.toList = ([109, 105, 110] : List UInt8) then (some false) else (if a0.toList = ([109, 97, 120] : List UInt8) then (some false) else (if a0.toList = ([108, 101, 110] : List UInt8) then (some false) else (if a0.toList = ([99, 104, 97, 114, 115] : List UInt8) then (some false) else (if a0.toList = ([98, 97, 99, 107] : List UInt8) then (some false) else ((term_word.f a0 97 122).bind fun t139 => (some t139)))))))))
set_option maxHeartbeats 8000000 in
set_option maxRecDepth 100000 in
theorem term_name.calls (a0 : ByteArray) (r : Bool) (w : World) (h : term_name.f a0 = some r) :
  Calls Tryd.prog 73 #[.string a0] w fun e w' => e = .returned (.bool r) ∧ Below w.heap.size w w' := by
 have HB := Aside0.mk (Below.refl w.heap.size w)
 have H : (if a0.toList = ([110, 111, 116] : List UInt8) then (some false) else (if a0.toList = ([99, 111, 117, 110, 116] : List UInt8) then (some false) else (if a0.toList = ([115, 117, 109] : List UInt8) then (some false) else (if a0.toList = ([109, 105, 110] : List UInt8) then (some false) else (if a0.toList = ([109, 97, 120] : List UInt8) then (some false) else (if a0.toList = ([108, 101, 110] : List UInt8) then (some false) else (if a0.toList = ([99, 104, 97, 114, 115] : List UInt8) then (some false) else (if a0.toList = ([98, 97, 99, 107] : List UInt8) then (some false) else ((term_word.f a0 97 122).bind fun t139 => (some t139)))))))))) = some r := h
 clear h
 by_cases c2 : a0.toList = ([110, 111, 116] : List UInt8)
 ·rw [if_pos c2] at H
  have c2b0 : (a0.toList == ([110, 111, 116] : List UInt8)) = true := beq_iff_eq.mpr c2
  have c2b1 : (a0.toList != ([110, 111, 116] : List UInt8)) = false := bne_eq_false_iff_eq.mpr c2
  clear c2
  obtain rfl := Option.some.inj H
  go_enter Tryd.func73, Tryd.ntmps73
  go_wp2
  go_ret
  exact ⟨by first | rfl | (simp [xan, xam] <;> rfl) | (simp [*, xan, xam] <;> rfl), by repeat (first | (with_reducible first | exact HB.out | apply xab | apply xaa | apply xac) | exact HB.out)⟩
 ·rw [if_neg c2] at H
  have c2b0 : (a0.toList == ([110, 111, 116] : List UInt8)) = false := beq_eq_false_iff_ne.mpr c2
  have c2b1 : (a0.toList != ([110, 111, 116] : List UInt8)) = true := bne_iff_ne.mpr c2
  by_cases c3 : a0.toList = ([99, 111, 117, 110, 116] : List UInt8)
  ·rw [if_pos c3] at H
   have c3b0 : (a0.toList == ([99, 111, 117, 110, 116] : List UInt8)) = true := beq_iff_eq.mpr c3
   have c3b1 : (a0.toList != ([99, 111, 117, 110, 116] : List UInt8)) = false := bne_eq_false_iff_eq.mpr c3
   clear c3
   obtain rfl := Option.some.inj H
   go_enter Tryd.func73, Tryd.ntmps73
   go_wp2
   go_ret
   exact ⟨by first | rfl | (simp [xan, xam] <;> rfl) | (simp [*, xan, xam] <;> rfl), by repeat (first | (with_reducible first | exact HB.out | apply xab | apply xaa | apply xac) | exact HB.out)⟩
  ·rw [if_neg c3] at H
   have c3b0 : (a0.toList == ([99, 111, 117, 110, 116] : List UInt8)) = false := beq_eq_false_iff_ne.mpr c3
   have c3b1 : (a0.toList != ([99, 111, 117, 110, 116] : List UInt8)) = true := bne_iff_ne.mpr c3
   by_cases c4 : a0.toList = ([115, 117, 109] : List UInt8)
   ·rw [if_pos c4] at H
    have c4b0 : (a0.toList == ([115, 117, 109] : List UInt8)) = true := beq_iff_eq.mpr c4
    have c4b1 : (a0.toList != ([115, 117, 109] : List UInt8)) = false := bne_eq_false_iff_eq.mpr c4
    clear c4
    obtain rfl := Option.some.inj H
    go_enter Tryd.func73, Tryd.ntmps73
    go_wp2
    go_ret
    exact ⟨by first | rfl | (simp [xan, xam] <;> rfl) | (simp [*, xan, xam] <;> rfl), by repeat (first | (with_reducible first | exact HB.out | apply xab | apply xaa | apply xac) | exact HB.out)⟩
   ·rw [if_neg c4] at H
    have c4b0 : (a0.toList == ([115, 117, 109] : List UInt8)) = false := beq_eq_false_iff_ne.mpr c4
    have c4b1 : (a0.toList != ([115, 117, 109] : List UInt8)) = true := bne_iff_ne.mpr c4
    by_cases c5 : a0.toList = ([109, 105, 110] : List UInt8)
    ·rw [if_pos c5] at H
     have c5b0 : (a0.toList == ([109, 105, 110] : List UInt8)) = true := beq_iff_eq.mpr c5
     have c5b1 : (a0.toList != ([109, 105, 110] : List UInt8)) = false := bne_eq_false_iff_eq.mpr c5
     clear c5
     obtain rfl := Option.some.inj H
     go_enter Tryd.func73, Tryd.ntmps73
     go_wp2
     go_ret
     exact ⟨by first | rfl | (simp [xan, xam] <;> rfl) | (simp [*, xan, xam] <;> rfl), by repeat (first | (with_reducible first | exact HB.out | apply xab | apply xaa | apply xac) | exact HB.out)⟩
    ·rw [if_neg c5] at H
     have c5b0 : (a0.toList == ([109, 105, 110] : List UInt8)) = false := beq_eq_false_iff_ne.mpr c5
     have c5b1 : (a0.toList != ([109, 105, 110] : List UInt8)) = true := bne_iff_ne.mpr c5
     by_cases c6 : a0.toList = ([109, 97, 120] : List UInt8)
     ·rw [if_pos c6] at H
      have c6b0 : (a0.toList == ([109, 97, 120] : List UInt8)) = true := beq_iff_eq.mpr c6
      have c6b1 : (a0.toList != ([109, 97, 120] : List UInt8)) = false := bne_eq_false_iff_eq.mpr c6
      clear c6
      obtain rfl := Option.some.inj H
      go_enter Tryd.func73, Tryd.ntmps73
      go_wp2
      go_ret
      exact ⟨by first | rfl | (simp [xan, xam] <;> rfl) | (simp [*, xan, xam] <;> rfl), by repeat (first | (with_reducible first | exact HB.out | apply xab | apply xaa | apply xac) | exact HB.out)⟩
     ·rw [if_neg c6] at H
      have c6b0 : (a0.toList == ([109, 97, 120] : List UInt8)) = false := beq_eq_false_iff_ne.mpr c6
      have c6b1 : (a0.toList != ([109, 97, 120] : List UInt8)) = true := bne_iff_ne.mpr c6
      by_cases c7 : a0.toList = ([108, 101, 110] : List UInt8)
      ·rw [if_pos c7] at H
       have c7b0 : (a0.toList == ([108, 101, 110] : List UInt8)) = true := beq_iff_eq.mpr c7
       have c7b1 : (a0.toList != ([108, 101, 110] : List UInt8)) = false := bne_eq_false_iff_eq.mpr c7
       clear c7
       obtain rfl := Option.some.inj H
       go_enter Tryd.func73, Tryd.ntmps73
       go_wp2
       go_ret
       exact ⟨by first | rfl | (simp [xan, xam] <;> rfl) | (simp [*, xan, xam] <;> rfl), by repeat (first | (with_reducible first | exact HB.out | apply xab | apply xaa | apply xac) | exact HB.out)⟩
      ·rw [if_neg c7] at H
       have c7b0 : (a0.toList == ([108, 101, 110] : List UInt8)) = false := beq_eq_false_iff_ne.mpr c7
       have c7b1 : (a0.toList != ([108, 101, 110] : List UInt8)) = true := bne_iff_ne.mpr c7
       by_cases c8 : a0.toList = ([99, 104, 97, 114, 115] : List UInt8)
       ·rw [if_pos c8] at H
        have c8b0 : (a0.toList == ([99, 104, 97, 114, 115] : List UInt8)) = true := beq_iff_eq.mpr c8
        have c8b1 : (a0.toList != ([99, 104, 97, 114, 115] : List UInt8)) = false := bne_eq_false_iff_eq.mpr c8
        clear c8
        obtain rfl := Option.some.inj H
        go_enter Tryd.func73, Tryd.ntmps73
        go_wp2
        go_ret
        exact ⟨by first | rfl | (simp [xan, xam] <;> rfl) | (simp [*, xan, xam] <;> rfl), by repeat (first | (with_reducible first | exact HB.out | apply xab | apply xaa | apply xac) | exact HB.out)⟩
       ·rw [if_neg c8] at H
        have c8b0 : (a0.toList == ([99, 104, 97, 114, 115] : List UInt8)) = false := beq_eq_false_iff_ne.mpr c8
        have c8b1 : (a0.toList != ([99, 104, 97, 114, 115] : List UInt8)) = true := bne_iff_ne.mpr c8
        by_cases c9 : a0.toList = ([98, 97, 99, 107] : List UInt8)
        ·rw [if_pos c9] at H
         have c9b0 : (a0.toList == ([98, 97, 99, 107] : List UInt8)) = true := beq_iff_eq.mpr c9
         have c9b1 : (a0.toList != ([98, 97, 99, 107] : List UInt8)) = false := bne_eq_false_iff_eq.mpr c9
         clear c9
         obtain rfl := Option.some.inj H
         go_enter Tryd.func73, Tryd.ntmps73
         go_wp2
         go_ret
         exact ⟨by first | rfl | (simp [xan, xam] <;> rfl) | (simp [*, xan, xam] <;> rfl), by repeat (first | (with_reducible first | exact HB.out | apply xab | apply xaa | apply xac) | exact HB.out)⟩
        ·rw [if_neg c9] at H
         have c9b0 : (a0.toList == ([98, 97, 99, 107] : List UInt8)) = false := beq_eq_false_iff_ne.mpr c9
         have c9b1 : (a0.toList != ([98, 97, 99, 107] : List UInt8)) = true := bne_iff_ne.mpr c9
         replace H := Option.bind_eq_some_iff.mp H
         obtain ⟨t139, A100, H⟩ := H
         replace H : (some t139) = some r := H
         have A10 := Aside0.mk A100
         clear A100
         obtain rfl := Option.some.inj H
         go_enter Tryd.func73, Tryd.ntmps73
         go_wp2_with (first | ((with_reducible refine xay (f := 113) rfl ?_); refine goesL_ (some 14) rfl rfl Tryd.func113 (by kernel_rfl) rfl #[.string a0, .int .u8 97, .int .u8 122] rfl (by (try simp only [List.map_toArray, List.map_cons, List.map_nil]); first | done | rfl | (simp only [List.length_drop, List.length_take]; rfl)) ?_; (with_reducible refine (term_word.calls a0 97 122 t139 _ A10.out).mono ?_); rintro e w11 ⟨rfl, hb⟩; refine ⟨_, rfl, ?_⟩; have n0_ := Aside0.mk (xae (by repeat (first | (with_reducible first | exact HB.out | apply xab | apply xaa | apply xac) | exact HB.out)) hb); clear HB; have HB := n0_; clear n0_; (try clear hb); (try clear hb2); (try clear hk); (try clear hi)))
         go_ret
         exact ⟨by first | rfl | (simp [xan, xam] <;> rfl) | (simp [*, xan, xam] <;> rfl), by repeat (first | (with_reducible first | exact HB.out | apply xab | apply xaa | apply xac) | exact HB.out)⟩
def termBad (x : S28) : Bool := (term_CheckTerm.f x.f0 x.f1.f0 x.f1.f1 x.f1.f2).getD 0 != 0
theorem xbs (x : S28) : term_CheckTerm.f x.f0 x.f1.f0 x.f1.f1 x.f1.f2 = some ((term_CheckTerm.f x.f0 x.f1.f0 x.f1.f1 x.f1.f2).getD 0) := by
 have h : ∃ r, term_CheckTerm.f x.f0 x.f1.f0 x.f1.f1 x.f1.f2 = some r := by
  unfold term_CheckTerm.f value_Check.f term_code.f term_word.f
  simp only [Option.bind_some]
  repeat' split
  all_goals simp
 obtain ⟨r, h⟩ := h
 rw [h]; rfl
set_option maxHeartbeats 1000000 in
theorem term_CheckAtom1.calls (x : S28) (w : World) :
  Calls Tryd.prog 96 #[.agg #[.string x.f0, .int .i8 x.f1.f0, .int .i64 x.f1.f1, .string x.f1.f2]] w fun e w' => e = .returned (.bool (termBad x)) ∧ Below w.heap.size w w' := by
 have ht := Lib.hid (xbs x)
 have hr : Hid (termBad x = ((term_CheckTerm.f x.f0 x.f1.f0 x.f1.f1 x.f1.f2).getD 0 != 0)) := Lib.hid rfl
 generalize (term_CheckTerm.f x.f0 x.f1.f0 x.f1.f1 x.f1.f2).getD 0 = r at *
 go_enter Tryd.func96, Tryd.ntmps96
 go_wp2_with (go_at_call 97; refine (term_CheckTerm.calls _ _ _ _ r _ ht.out).mono ?_; rintro e w1 ⟨rfl, hb⟩)
 go_ret
 exact ⟨by rw [hr.out]; rfl, xae (xab (Below.refl _ _) _) hb⟩
theorem any_take_succ {α : Type} (p : α → Bool) (l : List α) (z : α) (k : Nat) (h : k < l.length) : (l.take (k + 1)).any p = ((l.take k).any p || p (l.getD k z)) := by
 rw [List.take_succ_eq_append_getElem h, List.any_append]
 simp [List.getD_eq_getElem?_getD, List.getElem?_eq_getElem h]
theorem any_true {α : Type} (p : α → Bool) (l : List α) (z : α) (k : Nat) (h : k < l.length) (hp : p (l.getD k z) = true) : l.any p = true := by
 rw [List.any_eq_true]
 refine ⟨l[k], List.getElem_mem h, ?_⟩
 rwa [List.getD_eq_getElem?_getD, List.getElem?_eq_getElem h] at hp
set_option maxHeartbeats 1000000 in
theorem indexTerm (A : Option Addr) (c : Nat) (l : List S28) (w : World) (hr : Kd.C k28 w A l.length l) (hc : l.length ≤ c) (hm : l.length ≤ 9223372036854775807) :
  Calls Tryd.prog 126 #[.slice A l.length c, .func (.func 96) #[] #[]] w fun e w' => (∃ i : Int, e = .returned (.int .i64 i) ∧ decide (0 ≤ i) = l.any termBad) ∧ Below w.heap.size w w' := by
 have HR := Lib.hid hr
 clear hr
 go_enter Tryd.func126, Tryd.ntmps126
 go_wp2_with fail
 go_loopw [8] (fun i wr => ∃ k : Nat, k ≤ l.length ∧ i = .int .i64 k ∧ Hid ((l.take k).any termBad = false) ∧ Hid (Below w.heap.size w wr)) (fun i _ => l.length - (intOf i).toNat)
 case atStart => exact ⟨0, Nat.zero_le _, rfl, Lib.hid rfl, Lib.hid (Below.refl _ _)⟩
 case round =>
  obtain ⟨k, hk, rfl, HP, HB⟩ := hrel
  by_cases hlt : k < l.length
  ·obtain ⟨ad, e0, g0, g1, g2, g3⟩ := at_T28 (Kd.C_below HR.out HB.out) (k : Int) (by omega) (by omega)
   subst e0
   rw [Int.toNat_natCast] at g0 g1 g2 g3
   have HX : Hid (rd_T28 l k = l.getD k z28) := Lib.hid rfl
   have HS := Lib.hid (any_take_succ termBad l z28 k hlt)
   have HT := Lib.hid (any_true termBad l z28 k hlt)
   rw [← HX.out] at HS HT
   generalize rd_T28 l k = x at *
   clear HX
   go_wp2_with fail
   refine (term_CheckAtom1.calls x _).mono ?_
   rintro e w1 ⟨rfl, hb⟩
   have HB1 := Lib.hid (xae HB.out hb)
   clear hb
   have hx : termBad x = true ∨ termBad x = false := by cases termBad x <;> simp
   rcases hx with hx | hx
   ·have HT1 := Lib.hid (HT.out hx)
    rw [hx]
    clear hx
    go_wp2_with fail
    go_ret
    exact ⟨⟨k, rfl, by rw [HT1.out]; simp⟩, HB1.out⟩
   ·have HS1 : Hid ((l.take (k + 1)).any termBad = false) := Lib.hid (by rw [HS.out, HP.out, hx]; rfl)
    rw [hx]
    clear hx
    go_wp2_with fail
    go_roundw
    case rel => exact ⟨k + 1, by omega, by go_num, HS1, HB1⟩
    case measure => simp [intOf]; omega
  ·go_wp2_with fail
   go_ret
   refine ⟨⟨-1, rfl, ?_⟩, HB.out⟩
   have := HP.out
   rw [List.take_of_length_le (by omega)] at this
   rw [this]; rfl
set_option maxHeartbeats 1000000 in
theorem containsTerm (A : Option Addr) (c : Nat) (l : List S28) (w : World) (hr : Kd.C k28 w A l.length l) (hc : l.length ≤ c) (hm : l.length ≤ 9223372036854775807) :
  Calls Tryd.prog 95 #[.slice A l.length c, .func (.func 96) #[] #[]] w fun e w' => e = .returned (.bool (l.any termBad)) ∧ Below w.heap.size w w' := by
 have HI := Lib.hid (indexTerm A c l w hr hc hm)
 clear hr
 go_enter Tryd.func95, Tryd.ntmps95
 go_wp2_with fail
 refine HI.out.mono ?_
 rintro e w1 ⟨⟨i, rfl, hi⟩, hb⟩
 have HH := Lib.hid hi
 clear hi
 go_wp2_with fail
 go_ret
 exact ⟨by rw [← HH.out]; rfl, hb⟩
def term_CheckAtom.f (a0_0 : ByteArray) (l0_1 : List (S28)) : Option (Int) := (term_name.f a0_0).bind fun b => some (if b && decide (l0_1.length ≤ 24) && !l0_1.any termBad then 0 else 40)
set_option maxHeartbeats 1000000 in
theorem term_CheckAtom.calls (a0_0 : ByteArray) (A0_1 : Option Addr) (c0_1 : Nat) (l0_1 : List (S28)) (r : Int) (w : World) (hr0_1 : Kd.C k28 w A0_1 l0_1.length l0_1) (hc0_1 : l0_1.length ≤ c0_1) (h : term_CheckAtom.f a0_0 l0_1 = some r) :
  Calls Tryd.prog 50 #[.agg #[.string a0_0, .slice A0_1 l0_1.length c0_1]] w fun e w' => e = .returned (.int .i64 r) ∧ Below w.heap.size w w' := by
 obtain ⟨b, hb, h⟩ := Option.bind_eq_some_iff.mp h
 have HN := Lib.hid hb
 have HR := Lib.hid hr0_1
 have HH := Lib.hid (Option.some.inj h)
 clear hb hr0_1 h
 have hfin : ∀ q : Bool, (b && decide (l0_1.length ≤ 24) && !l0_1.any termBad) = q → term_code.f q = some r := by
  intro q hq
  rw [← HH.out, hq]
  cases q <;> rfl
 have HF := Lib.hid hfin
 clear hfin
 have hc0 := fun i : Nat => xag (xau w (.cells #[.string a0_0, .slice A0_1 l0_1.length c0_1] 53 (0, 0))) i
 have HC0 := Lib.hid hc0
 clear hc0
 have HW := Lib.hid (xab (Below.refl w.heap.size w) (.cells #[.string a0_0, .slice A0_1 l0_1.length c0_1] 53 (0, 0)))
 have hcode : ∀ (q : Bool) (W : World), (b && decide (l0_1.length ≤ 24) && !l0_1.any termBad) = q → Calls Tryd.prog 75 #[.bool q] W fun e w' => e = .returned (.int .i64 r) ∧ Drawn0 W w' :=
  fun q W hq => term_code.calls q r W (HF.out q hq)
 have HK := Lib.hid hcode
 clear hcode
 cases b with
 | false =>
  go_enter Tryd.func50, Tryd.ntmps50
  go_wp2_with fail
  refine (term_name.calls a0_0 false _ HN.out).mono ?_
  rintro e w1 ⟨rfl, hb⟩
  have HB := Lib.hid (xae HW.out hb)
  clear hb
  go_wp2_with fail
  refine (HK.out false w1 (by rfl)).mono ?_
  rintro e w2 ⟨rfl, hd⟩
  have HB2 := Lib.hid (xae HB.out hd.below)
  clear hd
  go_wp2_with fail
  go_ret
  exact ⟨rfl, HB2.out⟩
 | true =>
  by_cases hl : l0_1.length ≤ 24
  ·go_enter Tryd.func50, Tryd.ntmps50
   go_wp2_with fail
   refine (term_name.calls a0_0 true _ HN.out).mono ?_
   rintro e w1 ⟨rfl, hb⟩
   have hs1 := xaj hb ((HC0.out 1).trans rfl)
   have HB := Lib.hid (xae HW.out hb)
   clear hb
   have hd : decide ((l0_1.length : Int) ≤ 24) = true := decide_eq_true (by omega)
   go_wp2_with fail
   refine (containsTerm A0_1 c0_1 l0_1 w1 (Kd.C_below HR.out HB.out) hc0_1 (by omega)).mono ?_
   rintro e w2 ⟨rfl, hb⟩
   have HB1 := Lib.hid (xae HB.out hb)
   clear hb
   have HA : ∀ q : Bool, l0_1.any termBad = q → (true && decide (l0_1.length ≤ 24) && !l0_1.any termBad) = !q := by intro q hq; rw [hq, decide_eq_true hl]; rfl
   have HAA := Lib.hid HA
   clear HA
   generalize hq : l0_1.any termBad = q at *
   have HQ := Lib.hid (HAA.out q rfl)
   clear hq HAA
   go_wp2_with fail
   refine (HK.out (!q) w2 HQ.out).mono ?_
   rintro e w3 ⟨rfl, hd3⟩
   have HB2 := Lib.hid (xae HB1.out hd3.below)
   clear hd3
   go_wp2_with fail
   go_ret
   exact ⟨rfl, HB2.out⟩
  ·go_enter Tryd.func50, Tryd.ntmps50
   go_wp2_with fail
   refine (term_name.calls a0_0 true _ HN.out).mono ?_
   rintro e w1 ⟨rfl, hb⟩
   have hs1 := xaj hb ((HC0.out 1).trans rfl)
   have HB := Lib.hid (xae HW.out hb)
   clear hb
   have hd : decide ((l0_1.length : Int) ≤ 24) = false := decide_eq_false (by omega)
   go_wp2_with fail
   refine (HK.out false w1 (by rw [decide_eq_false hl]; rfl)).mono ?_
   rintro e w2 ⟨rfl, hd2⟩
   have HB2 := Lib.hid (xae HB.out hd2.below)
   clear hd2
   go_wp2_with fail
   go_ret
   exact ⟨rfl, HB2.out⟩
def arityOf (op : Int) : Int := if op = 1 ∨ 8 ≤ op ∧ op ≤ 10 then 1 else if 2 ≤ op ∧ op ≤ 7 then 2 else -1
theorem term_arity_eq (op : Int) : term_arity.f 1 op = some (arityOf op) := by
 unfold term_arity.f arityOf term_arity.j0
 repeat' split
 all_goals first | rfl | omega | (simp_all; done) | (simp_all; omega)
def noneB (x : S28) : Bool := (term_none.f x.f0 x.f1.f0 x.f1.f1 x.f1.f2).getD false
theorem term_none_tot (x : S28) : term_none.f x.f0 x.f1.f0 x.f1.f1 x.f1.f2 = some (noneB x) := rfl
def solidB (x : S28) : Bool := (term_solid.f x.f0 x.f1.f0 x.f1.f1 x.f1.f2).getD false
theorem term_solid_tot (x : S28) : term_solid.f x.f0 x.f1.f0 x.f1.f1 x.f1.f2 = some (solidB x) := by
 unfold solidB term_solid.f
 rw [xbs x]
 split <;> rfl
def deepB : Nat → S31 → Bool
 | 0, _ => false
 | n + 1, e => if e.f0 = 0 then (decide (e.f2.length = 0) && solidB e.f1) else (noneB e.f1 && decide ((e.f2.length : Int) = arityOf e.f0) && e.f2.all (deepB n))
def DeepAt (n : Nat) : Prop := ∀ (a0_0 : Int) (a0_1 : ByteArray) (a0_2 : Int) (a0_3 : Int) (a0_4 : ByteArray) (A0_5 : Option Addr) (c0_5 : Nat) (l0_5 : List (S31)) (w : World) (hr0_5 : Kd.C k31 w A0_5 l0_5.length l0_5) (hc0_5 : l0_5.length ≤ c0_5),
  Calls Tryd.prog 98 #[.agg #[.int .i8 a0_0, .string a0_1, .int .i8 a0_2, .int .i64 a0_3, .string a0_4, .slice A0_5 l0_5.length c0_5], .int .i64 (n : Int)] w fun e w' => e = .returned (.bool (deepB n ⟨a0_0, ⟨a0_1, ⟨a0_2, a0_3, a0_4⟩⟩, l0_5⟩)) ∧ Below w.heap.size w w'
set_option maxHeartbeats 1000000 in
theorem term_deep1.calls (n : Nat) (hn : n < 100) (ih : Hid (DeepAt n)) (b : Nat) (x : S31) (A : Option Addr) (c : Nat) (w : World) (hr : Kd.C k31 w A x.f2.length x.f2) (hc : x.f2.length ≤ c) (hb : w.cell? ⟨b, 0, none⟩ = some (.int .i64 ((n : Int) + 1))) :
  Calls Tryd.prog 129 #[.agg #[.int .i8 x.f0, .string x.f1.f0, .int .i8 x.f1.f1.f0, .int .i64 x.f1.f1.f1, .string x.f1.f1.f2, .slice A x.f2.length c], .pointer (some ⟨b, 0, none⟩)] w fun e w' => e = .returned (.bool (!deepB n x)) ∧ Below w.heap.size w w' := by
 have HR := Lib.hid hr
 clear hr
 have hb1 := xaj (xab (Below.refl w.heap.size w) (.cells #[.int .i8 x.f0, .string x.f1.f0, .int .i8 x.f1.f1.f0, .int .i64 x.f1.f1.f1, .string x.f1.f1.f2, .slice A x.f2.length c] 31 (0, 0))) hb
 go_enter Tryd.func129, Tryd.ntmps129
 go_wp2_with fail
 refine (ih.out _ _ _ _ _ _ _ _ _ (Kd.C_below HR.out (xab (Below.refl _ _) _)) hc).mono ?_
 rintro e w1 ⟨rfl, hb2⟩
 have HB := Lib.hid (xae (xab (Below.refl _ _) _) hb2)
 have HX : Hid (deepB n ⟨x.f0, ⟨x.f1.f0, ⟨x.f1.f1.f0, x.f1.f1.f1, x.f1.f1.f2⟩⟩, x.f2⟩ = deepB n x) := Lib.hid (by cases x; rfl)
 rw [HX.out]
 clear hb2 hb1 hb
 go_wp2_with fail
 go_ret
 exact ⟨rfl, HB.out⟩
set_option maxHeartbeats 1000000 in
theorem indexExpr (n : Nat) (hn : n < 100) (ih : Hid (DeepAt n)) (b : Nat) (A : Option Addr) (c : Nat) (l : List S31) (w : World) (hr : Kd.C k31 w A l.length l) (hc : l.length ≤ c) (hb : w.cell? ⟨b, 0, none⟩ = some (.int .i64 ((n : Int) + 1))) :
  Calls Tryd.prog 143 #[.slice A l.length c, .func (.func 129) #[] #[.pointer (some ⟨b, 0, none⟩)]] w fun e w' => (∃ i : Int, e = .returned (.int .i64 i) ∧ decide (0 ≤ i) = l.any fun x => !deepB n x) ∧ Below w.heap.size w w' := by
 have hm : l.length ≤ 9223372036854775807 := hr.2.1
 have HR := Lib.hid hr
 have HCB := Lib.hid hb
 clear hr hb
 go_enter Tryd.func143, Tryd.ntmps143
 go_wp2_with fail
 go_loopw [8] (fun i wr => ∃ k : Nat, k ≤ l.length ∧ i = .int .i64 k ∧ Hid ((l.take k).any (fun x => !deepB n x) = false) ∧ Hid (Below w.heap.size w wr)) (fun i _ => l.length - (intOf i).toNat)
 case atStart => exact ⟨0, Nat.zero_le _, rfl, Lib.hid rfl, Lib.hid (Below.refl _ _)⟩
 case round =>
  obtain ⟨k, hk, rfl, HP, HB⟩ := hrel
  by_cases hlt : k < l.length
  ·obtain ⟨ad, A5, c5, e0, g0, g1, g2, g3, g4, g5, gl, gC⟩ := at_T31 (Kd.C_below HR.out HB.out) (k : Int) (by omega) (by omega)
   subst e0
   rw [Int.toNat_natCast] at g0 g1 g2 g3 g4 g5
   have HX : Hid (rd_T31 l k = l.getD k z31) := Lib.hid rfl
   have HS := Lib.hid (any_take_succ (fun x => !deepB n x) l z31 k hlt)
   have HT := Lib.hid (any_true (fun x => !deepB n x) l z31 k hlt)
   rw [← HX.out] at HS HT
   have HG := Lib.hid gC
   have HL := Lib.hid gl
   clear gC gl
   generalize rd_T31 l k = x at *
   clear HX
   go_wp2_with fail
   refine (term_deep1.calls n hn ih b x A5 c5 _ HG.out HL.out (xaj HB.out HCB.out)).mono ?_
   rintro e w1 ⟨rfl, hb⟩
   have HB1 := Lib.hid (xae HB.out hb)
   clear hb
   have hx : deepB n x = true ∨ deepB n x = false := by cases deepB n x <;> simp
   rcases hx with hx | hx
   ·have HS1 : Hid ((l.take (k + 1)).any (fun x => !deepB n x) = false) := Lib.hid (by rw [HS.out, HP.out, hx]; rfl)
    rw [hx]
    clear hx
    go_wp2_with fail
    go_roundw
    case rel => exact ⟨k + 1, by omega, by go_num, HS1, HB1⟩
    case measure => simp [intOf]; omega
   ·have HT1 := Lib.hid (HT.out (by rw [hx]; rfl))
    rw [hx]
    clear hx
    go_wp2_with fail
    go_ret
    exact ⟨⟨k, rfl, by rw [HT1.out]; simp⟩, HB1.out⟩
  ·go_wp2_with fail
   go_ret
   refine ⟨⟨-1, rfl, ?_⟩, HB.out⟩
   have := HP.out
   rw [List.take_of_length_le (by omega)] at this
   rw [this]; rfl
set_option maxHeartbeats 1000000 in
theorem containsExpr (n : Nat) (hn : n < 100) (ih : Hid (DeepAt n)) (b : Nat) (A : Option Addr) (c : Nat) (l : List S31) (w : World) (hr : Kd.C k31 w A l.length l) (hc : l.length ≤ c) (hb : w.cell? ⟨b, 0, none⟩ = some (.int .i64 ((n : Int) + 1))) :
  Calls Tryd.prog 128 #[.slice A l.length c, .func (.func 129) #[] #[.pointer (some ⟨b, 0, none⟩)]] w fun e w' => e = .returned (.bool (!l.all (deepB n))) ∧ Below w.heap.size w w' := by
 have HI := Lib.hid (indexExpr n hn ih b A c l w hr hc hb)
 clear hr hb
 go_enter Tryd.func128, Tryd.ntmps128
 go_wp2_with fail
 refine HI.out.mono ?_
 rintro e w1 ⟨⟨i, rfl, hi⟩, hb⟩
 have HH := Lib.hid hi
 clear hi
 go_wp2_with fail
 go_ret
 exact ⟨by rw [List.not_all_eq_any_not, ← HH.out]; rfl, hb⟩
set_option maxHeartbeats 4000000 in
set_option maxRecDepth 100000 in
theorem deep_step (n : Nat) (hn : n < 100) (ih : Hid (DeepAt n)) : DeepAt (n + 1) := by
 intro a0_0 a0_1 a0_2 a0_3 a0_4 A0_5 c0_5 l0_5 w hr hc
 have hm : l0_5.length ≤ 9223372036854775807 := hr.2.1
 have HR := Lib.hid hr
 clear hr
 rw [show ((n + 1 : Nat) : Int) = (n : Int) + 1 from by omega]
 have e0 : (((n : Int) + 1) == 0) = false := by rw [beq_eq_false_iff_ne]; omega
 have HD : Hid (∀ q, (if a0_0 = 0 then (decide (l0_5.length = 0) && solidB ⟨a0_1, ⟨a0_2, a0_3, a0_4⟩⟩) else (noneB ⟨a0_1, ⟨a0_2, a0_3, a0_4⟩⟩ && decide ((l0_5.length : Int) = arityOf a0_0) && l0_5.all (deepB n))) = q → deepB (n + 1) ⟨a0_0, ⟨a0_1, ⟨a0_2, a0_3, a0_4⟩⟩, l0_5⟩ = q) := Lib.hid (fun q h => by rw [deepB]; exact h)
 by_cases h0 : a0_0 = 0
 ·subst h0
  by_cases hl : l0_5.length = 0
  ·have hs := Lib.hid (term_solid_tot ⟨a0_1, ⟨a0_2, a0_3, a0_4⟩⟩)
   have HQ := Lib.hid (HD.out _ (by rw [if_pos rfl, decide_eq_true hl, Bool.true_and]))
   generalize solidB ⟨a0_1, ⟨a0_2, a0_3, a0_4⟩⟩ = q at *
   have hl1 : ((l0_5.length : Int) == 0) = true := by rw [beq_iff_eq]; omega
   clear hl HD
   go_enter Tryd.func98, Tryd.ntmps98
   go_wp2_with fail
   refine (term_solid.calls _ _ _ _ q _ hs.out).mono ?_
   rintro e w1 ⟨rfl, hb⟩
   have HB := Lib.hid (xae (xab (xab (Below.refl _ _) _) _) hb)
   clear hb
   go_wp2_with fail
   go_ret
   exact ⟨by rw [HQ.out]; rfl, HB.out⟩
  ·have HQ := Lib.hid (HD.out false (by rw [if_pos rfl, decide_eq_false hl, Bool.false_and]))
   have hl1 : ((l0_5.length : Int) == 0) = false := by rw [beq_eq_false_iff_ne]; omega
   clear hl HD
   go_enter Tryd.func98, Tryd.ntmps98
   go_wp2_with fail
   go_ret
   exact ⟨by rw [HQ.out]; rfl, xab (xab (Below.refl _ _) _) _⟩
 ·have h1 : (a0_0 == 0) = false := by rw [beq_eq_false_iff_ne]; exact h0
  have HN := Lib.hid (term_none_tot ⟨a0_1, ⟨a0_2, a0_3, a0_4⟩⟩)
  have HA := Lib.hid (term_arity_eq a0_0)
  have HQ := Lib.hid (fun q (hq : (noneB ⟨a0_1, ⟨a0_2, a0_3, a0_4⟩⟩ && decide ((l0_5.length : Int) = arityOf a0_0) && l0_5.all (deepB n)) = q) => HD.out q (by rw [if_neg h0]; exact hq))
  generalize noneB ⟨a0_1, ⟨a0_2, a0_3, a0_4⟩⟩ = nb at *
  generalize arityOf a0_0 = ar at *
  have HC0 := Lib.hid (fun i : Nat => (xag (xai (xad (xau w (.cells #[.int .i8 a0_0, .string a0_1, .int .i8 a0_2, .int .i64 a0_3, .string a0_4, .slice A0_5 l0_5.length c0_5] 31 (0, 0))) (.cells #[.int .i64 ((n : Int) + 1)] 3 (0, 0)))) i))
  have HC1 := Lib.hid (show (((w.alloc (.cells #[.int .i8 a0_0, .string a0_1, .int .i8 a0_2, .int .i64 a0_3, .string a0_4, .slice A0_5 l0_5.length c0_5] 31 (0, 0))).alloc (.cells #[.int .i64 ((n : Int) + 1)] 3 (0, 0))).drew).cell? ⟨w.heap.size + 1, 0, none⟩ = some (.int .i64 ((n : Int) + 1)) by simp)
  have HW := Lib.hid (xaw (xab (xab (Below.refl w.heap.size w) (.cells #[.int .i8 a0_0, .string a0_1, .int .i8 a0_2, .int .i64 a0_3, .string a0_4, .slice A0_5 l0_5.length c0_5] 31 (0, 0))) (.cells #[.int .i64 ((n : Int) + 1)] 3 (0, 0))))
  clear HD h0
  cases nb with
  | false =>
   go_enter Tryd.func98, Tryd.ntmps98
   go_wp2_with fail
   generalize ((w.alloc (.cells #[.int .i8 a0_0, .string a0_1, .int .i8 a0_2, .int .i64 a0_3, .string a0_4, .slice A0_5 l0_5.length c0_5] 31 (0, 0))).alloc (.cells #[.int .i64 ((n : Int) + 1)] 3 (0, 0))) = w2 at *
   refine start_ (n := 13) (S := fun w' => w'.cell? ⟨w.heap.size, 0, none⟩ = some (.int .i8 a0_0) ∧ w'.cell? ⟨w.heap.size, 1, none⟩ = some (.string a0_1) ∧ w'.cell? ⟨w.heap.size, 2, none⟩ = some (.int .i8 a0_2) ∧ w'.cell? ⟨w.heap.size, 3, none⟩ = some (.int .i64 a0_3) ∧ w'.cell? ⟨w.heap.size, 4, none⟩ = some (.string a0_4) ∧ w'.cell? ⟨w.heap.size, 5, none⟩ = some (.slice A0_5 l0_5.length c0_5) ∧ w'.cell? ⟨w.heap.size + 1, 0, none⟩ = some (.int .i64 ((n : Int) + 1)) ∧ Hid (Below w.heap.size w w')) (ds := []) #[false, false, false, false, false, false, false, false, false, false, false, false, false] (by kernel_rfl) rfl rfl ⟨(HC0.out 0), (HC0.out 1), (HC0.out 2), (HC0.out 3), (HC0.out 4), (HC0.out 5), HC1.out, HW.out⟩ (fun hHeld => ?_)
   refine pure_ (i := 0) (N := some 19) (v := ?_) (a' := ?_) #[true, false, false, false, false, false, false, false, false, false, false, false, false] rfl rfl (by kernel_rfl) (fun _ _ _ h => h) (Or.inl ⟨by rfl, ?_⟩) ?_ ?_
   rotate_left
   ·intro w'
    go_simp
    with_reducible rfl
   rotate_left
   ·simp only [Act.put, sI, sZ, sS, i64_w, i32_w]
    rfl
   refine take_ (i := 1) (N := some 20) (v := ?_) (a' := ?_) #[true, true, false, false, false, false, false, false, false, false, false, false, false] rfl rfl (by kernel_rfl) (fun _ _ _ h => h) (Or.inl ⟨by rfl, ?_⟩) hHeld ?_ ?_
   rotate_left
   ·rintro w' ⟨s0, s1, s2, s3, s4, s5, s6, s7⟩
    go_simp
    with_reducible rfl
   rotate_left
   ·simp only [Act.put, sI, sZ, sS, i64_w, i32_w]
    rfl
   refine one_ (i := 2) (N := some 21) #[true, true, true, false, false, false, false, false, false, false, false, false, false] rfl rfl (by kernel_rfl) (by decide) (fun K hK => ?_)
   refine goes_ Tryd.func106 (by kernel_rfl) rfl #[.agg #[.string a0_1, .int .i8 a0_2, .int .i64 a0_3, .string a0_4]] (by rfl) rfl rfl (by simp only [List.map_toArray, List.map_cons, List.map_nil]; rfl) ?_
   with_reducible refine (term_none.calls a0_1 a0_2 a0_3 a0_4 false _ HN.out).mono ?_
   rintro e w3 ⟨rfl, hb3⟩
   refine ⟨_, rfl, ?_⟩
   obtain ⟨s0, s1, s2, s3, s4, s5, s6, s7⟩ := hHeld
   refine hK.out _ _ ⟨(xaj hb3 s0), (xaj hb3 s1), (xaj hb3 s2), (xaj hb3 s3), (xaj hb3 s4), (xaj hb3 s5), (xaj hb3 s6), (Lib.hid (xae s7.out hb3))⟩ (fun hHeld => ?_)
   clear hK K
   refine norm_ (a' := ?_) ?_ ?_
   rotate_left
   ·show Act.put _ (some 21) _ = _
    simp only [Act.put, sI, sZ, sS, i64_w, i32_w]
    rfl
   refine pure_ (i := 3) (N := some 22) (v := ?_) (a' := ?_) #[true, true, true, true, false, false, false, false, false, false, false, false, false] rfl rfl (by kernel_rfl) (fun _ _ _ h => h) (Or.inl ⟨by rfl, ?_⟩) ?_ ?_
   rotate_left
   ·intro w'
    go_simp
    with_reducible rfl
   rotate_left
   ·simp only [Act.put, sI, sZ, sS, i64_w, i32_w]
    rfl
   refine pure_ (i := 4) (N := some 23) (v := ?_) (a' := ?_) #[true, true, true, true, true, false, false, false, false, false, false, false, false] rfl rfl (by kernel_rfl) (fun _ _ _ h => h) (Or.inl ⟨by rfl, ?_⟩) ?_ ?_
   rotate_left
   ·intro w'
    go_simp
    with_reducible rfl
   rotate_left
   ·simp only [Act.put, sI, sZ, sS, i64_w, i32_w]
    rfl
   refine pure_ (i := 5) (N := some 24) (v := undef) (a' := ?_) #[true, true, true, true, true, true, false, false, false, false, false, false, false] rfl rfl (by kernel_rfl) (fun _ _ _ h => h) (Or.inr ⟨by rfl, rfl⟩) ?_ ?_
   rotate_left
   ·simp only [Act.put, sI, sZ, sS, i64_w, i32_w]
    rfl
   refine pure_ (i := 6) (N := some 25) (v := undef) (a' := ?_) #[true, true, true, true, true, true, true, false, false, false, false, false, false] rfl rfl (by kernel_rfl) (fun _ _ _ h => h) (Or.inr ⟨by rfl, rfl⟩) ?_ ?_
   rotate_left
   ·simp only [Act.put, sI, sZ, sS, i64_w, i32_w]
    rfl
   refine pure_ (i := 7) (N := some 26) (v := undef) (a' := ?_) #[true, true, true, true, true, true, true, true, false, false, false, false, false] rfl rfl (by kernel_rfl) (fun _ _ _ h => h) (Or.inr ⟨by rfl, rfl⟩) ?_ ?_
   rotate_left
   ·simp only [Act.put, sI, sZ, sS, i64_w, i32_w]
    rfl
   refine pure_ (i := 8) (N := some 27) (v := undef) (a' := ?_) #[true, true, true, true, true, true, true, true, true, false, false, false, false] rfl rfl (by kernel_rfl) (fun _ _ _ h => h) (Or.inr ⟨by rfl, rfl⟩) ?_ ?_
   rotate_left
   ·simp only [Act.put, sI, sZ, sS, i64_w, i32_w]
    rfl
   refine pure_ (i := 9) (N := some 28) (v := undef) (a' := ?_) #[true, true, true, true, true, true, true, true, true, true, false, false, false] rfl rfl (by kernel_rfl) (fun _ _ _ h => h) (Or.inr ⟨by rfl, rfl⟩) ?_ ?_
   rotate_left
   ·simp only [Act.put, sI, sZ, sS, i64_w, i32_w]
    rfl
   refine pure_ (i := 10) (N := some 29) (v := undef) (a' := ?_) #[true, true, true, true, true, true, true, true, true, true, true, false, false] rfl rfl (by kernel_rfl) (fun _ _ _ h => h) (Or.inr ⟨by rfl, rfl⟩) ?_ ?_
   rotate_left
   ·simp only [Act.put, sI, sZ, sS, i64_w, i32_w]
    rfl
   refine pure_ (i := 11) (N := some 30) (v := undef) (a' := ?_) #[true, true, true, true, true, true, true, true, true, true, true, true, false] rfl rfl (by kernel_rfl) (fun _ _ _ h => h) (Or.inr ⟨by rfl, rfl⟩) ?_ ?_
   rotate_left
   ·simp only [Act.put, sI, sZ, sS, i64_w, i32_w]
    rfl
   refine pure_ (i := 12) (N := some 31) (v := ?_) (a' := ?_) #[true, true, true, true, true, true, true, true, true, true, true, true, true] rfl rfl (by kernel_rfl) (fun _ _ _ h => h) (Or.inl ⟨by rfl, ?_⟩) ?_ ?_
   rotate_left
   ·intro w'
    go_simp
    with_reducible rfl
   rotate_left
   ·simp only [Act.put, sI, sZ, sS, i64_w, i32_w]
    rfl
   refine done_ (by kernel_rfl) ?_
   obtain ⟨_, _, _, _, _, _, _, HB⟩ := hHeld
   have HQ1 := Lib.hid (HQ.out false rfl)
   go_wp2_with fail
   go_ret
   exact ⟨by rw [HQ1.out]; rfl, HB.out⟩
  | true =>
   have HAR : Hid (∀ q : Bool, (((l0_5.length : Int) != ar) = q) → decide ((l0_5.length : Int) = ar) = !q) := Lib.hid (fun q hq => by rw [← hq]; simp [bne, decide_eq_decide]; rfl)
   by_cases hne : ((l0_5.length : Int) != ar) = true
   ·have HQ1 := Lib.hid (HQ.out false (by rw [HAR.out true hne]; simp))
    go_enter Tryd.func98, Tryd.ntmps98
    go_wp2_with fail
    generalize ((w.alloc (.cells #[.int .i8 a0_0, .string a0_1, .int .i8 a0_2, .int .i64 a0_3, .string a0_4, .slice A0_5 l0_5.length c0_5] 31 (0, 0))).alloc (.cells #[.int .i64 ((n : Int) + 1)] 3 (0, 0))) = w2 at *
    refine start_ (n := 13) (S := fun w' => w'.cell? ⟨w.heap.size, 0, none⟩ = some (.int .i8 a0_0) ∧ w'.cell? ⟨w.heap.size, 1, none⟩ = some (.string a0_1) ∧ w'.cell? ⟨w.heap.size, 2, none⟩ = some (.int .i8 a0_2) ∧ w'.cell? ⟨w.heap.size, 3, none⟩ = some (.int .i64 a0_3) ∧ w'.cell? ⟨w.heap.size, 4, none⟩ = some (.string a0_4) ∧ w'.cell? ⟨w.heap.size, 5, none⟩ = some (.slice A0_5 l0_5.length c0_5) ∧ w'.cell? ⟨w.heap.size + 1, 0, none⟩ = some (.int .i64 ((n : Int) + 1)) ∧ Hid (Below w.heap.size w w')) (ds := []) #[false, false, false, false, false, false, false, false, false, false, false, false, false] (by kernel_rfl) rfl rfl ⟨(HC0.out 0), (HC0.out 1), (HC0.out 2), (HC0.out 3), (HC0.out 4), (HC0.out 5), HC1.out, HW.out⟩ (fun hHeld => ?_)
    refine pure_ (i := 0) (N := some 19) (v := ?_) (a' := ?_) #[true, false, false, false, false, false, false, false, false, false, false, false, false] rfl rfl (by kernel_rfl) (fun _ _ _ h => h) (Or.inl ⟨by rfl, ?_⟩) ?_ ?_
    rotate_left
    ·intro w'
     go_simp
     with_reducible rfl
    rotate_left
    ·simp only [Act.put, sI, sZ, sS, i64_w, i32_w]
     rfl
    refine take_ (i := 1) (N := some 20) (v := ?_) (a' := ?_) #[true, true, false, false, false, false, false, false, false, false, false, false, false] rfl rfl (by kernel_rfl) (fun _ _ _ h => h) (Or.inl ⟨by rfl, ?_⟩) hHeld ?_ ?_
    rotate_left
    ·rintro w' ⟨s0, s1, s2, s3, s4, s5, s6, s7⟩
     go_simp
     with_reducible rfl
    rotate_left
    ·simp only [Act.put, sI, sZ, sS, i64_w, i32_w]
     rfl
    refine one_ (i := 2) (N := some 21) #[true, true, true, false, false, false, false, false, false, false, false, false, false] rfl rfl (by kernel_rfl) (by decide) (fun K hK => ?_)
    refine goes_ Tryd.func106 (by kernel_rfl) rfl #[.agg #[.string a0_1, .int .i8 a0_2, .int .i64 a0_3, .string a0_4]] (by rfl) rfl rfl (by simp only [List.map_toArray, List.map_cons, List.map_nil]; rfl) ?_
    with_reducible refine (term_none.calls a0_1 a0_2 a0_3 a0_4 true _ HN.out).mono ?_
    rintro e w3 ⟨rfl, hb3⟩
    refine ⟨_, rfl, ?_⟩
    obtain ⟨s0, s1, s2, s3, s4, s5, s6, s7⟩ := hHeld
    refine hK.out _ _ ⟨(xaj hb3 s0), (xaj hb3 s1), (xaj hb3 s2), (xaj hb3 s3), (xaj hb3 s4), (xaj hb3 s5), (xaj hb3 s6), (Lib.hid (xae s7.out hb3))⟩ (fun hHeld => ?_)
    clear hK K
    refine norm_ (a' := ?_) ?_ ?_
    rotate_left
    ·show Act.put _ (some 21) _ = _
     simp only [Act.put, sI, sZ, sS, i64_w, i32_w]
     rfl
    refine pure_ (i := 3) (N := some 22) (v := ?_) (a' := ?_) #[true, true, true, true, false, false, false, false, false, false, false, false, false] rfl rfl (by kernel_rfl) (fun _ _ _ h => h) (Or.inl ⟨by rfl, ?_⟩) ?_ ?_
    rotate_left
    ·intro w'
     go_simp
     with_reducible rfl
    rotate_left
    ·simp only [Act.put, sI, sZ, sS, i64_w, i32_w]
     rfl
    refine pure_ (i := 4) (N := some 23) (v := ?_) (a' := ?_) #[true, true, true, true, true, false, false, false, false, false, false, false, false] rfl rfl (by kernel_rfl) (fun _ _ _ h => h) (Or.inl ⟨by rfl, ?_⟩) ?_ ?_
    rotate_left
    ·intro w'
     go_simp
     with_reducible rfl
    rotate_left
    ·simp only [Act.put, sI, sZ, sS, i64_w, i32_w]
     rfl
    refine pure_ (i := 5) (N := some 24) (v := ?_) (a' := ?_) #[true, true, true, true, true, true, false, false, false, false, false, false, false] rfl rfl (by kernel_rfl) (fun _ _ _ h => h) (Or.inl ⟨by rfl, ?_⟩) ?_ ?_
    rotate_left
    ·intro w'
     go_simp
     with_reducible rfl
    rotate_left
    ·simp only [Act.put, sI, sZ, sS, i64_w, i32_w]
     rfl
    refine pure_ (i := 8) (N := some 27) (v := ?_) (a' := ?_) #[true, true, true, true, true, true, false, false, true, false, false, false, false] rfl rfl (by kernel_rfl) (fun _ _ _ h => h) (Or.inl ⟨by rfl, ?_⟩) ?_ ?_
    rotate_left
    ·intro w'
     go_simp
     with_reducible rfl
    rotate_left
    ·simp only [Act.put, sI, sZ, sS, i64_w, i32_w]
     rfl
    refine take_ (i := 6) (N := some 25) (v := ?_) (a' := ?_) #[true, true, true, true, true, true, true, false, true, false, false, false, false] rfl rfl (by kernel_rfl) (fun _ _ _ h => h) (Or.inl ⟨by rfl, ?_⟩) hHeld ?_ ?_
    rotate_left
    ·rintro w' ⟨s0, s1, s2, s3, s4, s5, s6, s7⟩
     go_simp
     with_reducible rfl
    rotate_left
    ·simp only [Act.put, sI, sZ, sS, i64_w, i32_w]
     rfl
    refine pure_ (i := 7) (N := some 26) (v := ?_) (a' := ?_) #[true, true, true, true, true, true, true, true, true, false, false, false, false] rfl rfl (by kernel_rfl) (fun _ _ _ h => h) (Or.inl ⟨by rfl, ?_⟩) ?_ ?_
    rotate_left
    ·intro w'
     go_simp
     with_reducible rfl
    rotate_left
    ·simp only [Act.put, sI, sZ, sS, i64_w, i32_w]
     rfl
    refine take_ (i := 9) (N := some 28) (v := ?_) (a' := ?_) #[true, true, true, true, true, true, true, true, true, true, false, false, false] rfl rfl (by kernel_rfl) (fun _ _ _ h => h) (Or.inl ⟨by rfl, ?_⟩) hHeld ?_ ?_
    rotate_left
    ·rintro w' ⟨s0, s1, s2, s3, s4, s5, s6, s7⟩
     go_simp
     with_reducible rfl
    rotate_left
    ·simp only [Act.put, sI, sZ, sS, i64_w, i32_w]
     rfl
    refine one_ (i := 10) (N := some 29) #[true, true, true, true, true, true, true, true, true, true, true, false, false] rfl rfl (by kernel_rfl) (by decide) (fun K hK => ?_)
    refine goes_ Tryd.func127 (by kernel_rfl) rfl #[.int .i8 a0_0] (by rfl) rfl rfl (by simp only [List.map_toArray, List.map_cons, List.map_nil]; rfl) ?_
    with_reducible refine (term_arity.calls 1 a0_0 ar _ HA.out).mono ?_
    rintro e w4 ⟨rfl, hd4⟩
    refine ⟨_, rfl, ?_⟩
    obtain ⟨s0, s1, s2, s3, s4, s5, s6, s7⟩ := hHeld
    refine hK.out _ _ ⟨(xaj hd4.below s0), (xaj hd4.below s1), (xaj hd4.below s2), (xaj hd4.below s3), (xaj hd4.below s4), (xaj hd4.below s5), (xaj hd4.below s6), (Lib.hid (xae s7.out hd4.below))⟩ (fun hHeld => ?_)
    clear hK K
    refine norm_ (a' := ?_) ?_ ?_
    rotate_left
    ·show Act.put _ (some 29) _ = _
     simp only [Act.put, sI, sZ, sS, i64_w, i32_w]
     rfl
    refine pure_ (i := 11) (N := some 30) (v := ?_) (a' := ?_) #[true, true, true, true, true, true, true, true, true, true, true, true, false] rfl rfl (by kernel_rfl) (fun _ _ _ h => h) (Or.inl ⟨by rfl, ?_⟩) ?_ ?_
    rotate_left
    ·intro w'
     go_simp
     with_reducible rfl
    rotate_left
    ·simp only [Act.put, sI, sZ, sS, i64_w, i32_w]
     rfl
    refine pure_ (i := 12) (N := some 31) (v := ?_) (a' := ?_) #[true, true, true, true, true, true, true, true, true, true, true, true, true] rfl rfl (by kernel_rfl) (fun _ _ _ h => h) (Or.inl ⟨by rfl, ?_⟩) ?_ ?_
    rotate_left
    ·intro w'
     go_simp
     with_reducible rfl
    rotate_left
    ·simp only [Act.put, sI, sZ, sS, i64_w, i32_w]
     rfl
    refine done_ (by kernel_rfl) ?_
    obtain ⟨_, _, _, _, _, _, _, HB⟩ := hHeld
    go_wp2_with fail
    go_ret
    exact ⟨by rw [HQ1.out]; rfl, HB.out⟩
   ·replace hne := Bool.eq_false_iff.mpr hne
    have HQ1 := Lib.hid (HQ.out (l0_5.all (deepB n)) (by rw [HAR.out false hne]; simp))
    go_enter Tryd.func98, Tryd.ntmps98
    go_wp2_with fail
    generalize ((w.alloc (.cells #[.int .i8 a0_0, .string a0_1, .int .i8 a0_2, .int .i64 a0_3, .string a0_4, .slice A0_5 l0_5.length c0_5] 31 (0, 0))).alloc (.cells #[.int .i64 ((n : Int) + 1)] 3 (0, 0))) = w2 at *
    refine start_ (n := 13) (S := fun w' => w'.cell? ⟨w.heap.size, 0, none⟩ = some (.int .i8 a0_0) ∧ w'.cell? ⟨w.heap.size, 1, none⟩ = some (.string a0_1) ∧ w'.cell? ⟨w.heap.size, 2, none⟩ = some (.int .i8 a0_2) ∧ w'.cell? ⟨w.heap.size, 3, none⟩ = some (.int .i64 a0_3) ∧ w'.cell? ⟨w.heap.size, 4, none⟩ = some (.string a0_4) ∧ w'.cell? ⟨w.heap.size, 5, none⟩ = some (.slice A0_5 l0_5.length c0_5) ∧ w'.cell? ⟨w.heap.size + 1, 0, none⟩ = some (.int .i64 ((n : Int) + 1)) ∧ Hid (Below w.heap.size w w')) (ds := []) #[false, false, false, false, false, false, false, false, false, false, false, false, false] (by kernel_rfl) rfl rfl ⟨(HC0.out 0), (HC0.out 1), (HC0.out 2), (HC0.out 3), (HC0.out 4), (HC0.out 5), HC1.out, HW.out⟩ (fun hHeld => ?_)
    refine pure_ (i := 0) (N := some 19) (v := ?_) (a' := ?_) #[true, false, false, false, false, false, false, false, false, false, false, false, false] rfl rfl (by kernel_rfl) (fun _ _ _ h => h) (Or.inl ⟨by rfl, ?_⟩) ?_ ?_
    rotate_left
    ·intro w'
     go_simp
     with_reducible rfl
    rotate_left
    ·simp only [Act.put, sI, sZ, sS, i64_w, i32_w]
     rfl
    refine take_ (i := 1) (N := some 20) (v := ?_) (a' := ?_) #[true, true, false, false, false, false, false, false, false, false, false, false, false] rfl rfl (by kernel_rfl) (fun _ _ _ h => h) (Or.inl ⟨by rfl, ?_⟩) hHeld ?_ ?_
    rotate_left
    ·rintro w' ⟨s0, s1, s2, s3, s4, s5, s6, s7⟩
     go_simp
     with_reducible rfl
    rotate_left
    ·simp only [Act.put, sI, sZ, sS, i64_w, i32_w]
     rfl
    refine one_ (i := 2) (N := some 21) #[true, true, true, false, false, false, false, false, false, false, false, false, false] rfl rfl (by kernel_rfl) (by decide) (fun K hK => ?_)
    refine goes_ Tryd.func106 (by kernel_rfl) rfl #[.agg #[.string a0_1, .int .i8 a0_2, .int .i64 a0_3, .string a0_4]] (by rfl) rfl rfl (by simp only [List.map_toArray, List.map_cons, List.map_nil]; rfl) ?_
    with_reducible refine (term_none.calls a0_1 a0_2 a0_3 a0_4 true _ HN.out).mono ?_
    rintro e w3 ⟨rfl, hb3⟩
    refine ⟨_, rfl, ?_⟩
    obtain ⟨s0, s1, s2, s3, s4, s5, s6, s7⟩ := hHeld
    refine hK.out _ _ ⟨(xaj hb3 s0), (xaj hb3 s1), (xaj hb3 s2), (xaj hb3 s3), (xaj hb3 s4), (xaj hb3 s5), (xaj hb3 s6), (Lib.hid (xae s7.out hb3))⟩ (fun hHeld => ?_)
    clear hK K
    refine norm_ (a' := ?_) ?_ ?_
    rotate_left
    ·show Act.put _ (some 21) _ = _
     simp only [Act.put, sI, sZ, sS, i64_w, i32_w]
     rfl
    refine pure_ (i := 3) (N := some 22) (v := ?_) (a' := ?_) #[true, true, true, true, false, false, false, false, false, false, false, false, false] rfl rfl (by kernel_rfl) (fun _ _ _ h => h) (Or.inl ⟨by rfl, ?_⟩) ?_ ?_
    rotate_left
    ·intro w'
     go_simp
     with_reducible rfl
    rotate_left
    ·simp only [Act.put, sI, sZ, sS, i64_w, i32_w]
     rfl
    refine pure_ (i := 4) (N := some 23) (v := ?_) (a' := ?_) #[true, true, true, true, true, false, false, false, false, false, false, false, false] rfl rfl (by kernel_rfl) (fun _ _ _ h => h) (Or.inl ⟨by rfl, ?_⟩) ?_ ?_
    rotate_left
    ·intro w'
     go_simp
     with_reducible rfl
    rotate_left
    ·simp only [Act.put, sI, sZ, sS, i64_w, i32_w]
     rfl
    refine pure_ (i := 5) (N := some 24) (v := ?_) (a' := ?_) #[true, true, true, true, true, true, false, false, false, false, false, false, false] rfl rfl (by kernel_rfl) (fun _ _ _ h => h) (Or.inl ⟨by rfl, ?_⟩) ?_ ?_
    rotate_left
    ·intro w'
     go_simp
     with_reducible rfl
    rotate_left
    ·simp only [Act.put, sI, sZ, sS, i64_w, i32_w]
     rfl
    refine pure_ (i := 8) (N := some 27) (v := ?_) (a' := ?_) #[true, true, true, true, true, true, false, false, true, false, false, false, false] rfl rfl (by kernel_rfl) (fun _ _ _ h => h) (Or.inl ⟨by rfl, ?_⟩) ?_ ?_
    rotate_left
    ·intro w'
     go_simp
     with_reducible rfl
    rotate_left
    ·simp only [Act.put, sI, sZ, sS, i64_w, i32_w]
     rfl
    refine take_ (i := 6) (N := some 25) (v := ?_) (a' := ?_) #[true, true, true, true, true, true, true, false, true, false, false, false, false] rfl rfl (by kernel_rfl) (fun _ _ _ h => h) (Or.inl ⟨by rfl, ?_⟩) hHeld ?_ ?_
    rotate_left
    ·rintro w' ⟨s0, s1, s2, s3, s4, s5, s6, s7⟩
     go_simp
     with_reducible rfl
    rotate_left
    ·simp only [Act.put, sI, sZ, sS, i64_w, i32_w]
     rfl
    refine pure_ (i := 7) (N := some 26) (v := ?_) (a' := ?_) #[true, true, true, true, true, true, true, true, true, false, false, false, false] rfl rfl (by kernel_rfl) (fun _ _ _ h => h) (Or.inl ⟨by rfl, ?_⟩) ?_ ?_
    rotate_left
    ·intro w'
     go_simp
     with_reducible rfl
    rotate_left
    ·simp only [Act.put, sI, sZ, sS, i64_w, i32_w]
     rfl
    refine take_ (i := 9) (N := some 28) (v := ?_) (a' := ?_) #[true, true, true, true, true, true, true, true, true, true, false, false, false] rfl rfl (by kernel_rfl) (fun _ _ _ h => h) (Or.inl ⟨by rfl, ?_⟩) hHeld ?_ ?_
    rotate_left
    ·rintro w' ⟨s0, s1, s2, s3, s4, s5, s6, s7⟩
     go_simp
     with_reducible rfl
    rotate_left
    ·simp only [Act.put, sI, sZ, sS, i64_w, i32_w]
     rfl
    refine one_ (i := 10) (N := some 29) #[true, true, true, true, true, true, true, true, true, true, true, false, false] rfl rfl (by kernel_rfl) (by decide) (fun K hK => ?_)
    refine goes_ Tryd.func127 (by kernel_rfl) rfl #[.int .i8 a0_0] (by rfl) rfl rfl (by simp only [List.map_toArray, List.map_cons, List.map_nil]; rfl) ?_
    with_reducible refine (term_arity.calls 1 a0_0 ar _ HA.out).mono ?_
    rintro e w4 ⟨rfl, hd4⟩
    refine ⟨_, rfl, ?_⟩
    obtain ⟨s0, s1, s2, s3, s4, s5, s6, s7⟩ := hHeld
    refine hK.out _ _ ⟨(xaj hd4.below s0), (xaj hd4.below s1), (xaj hd4.below s2), (xaj hd4.below s3), (xaj hd4.below s4), (xaj hd4.below s5), (xaj hd4.below s6), (Lib.hid (xae s7.out hd4.below))⟩ (fun hHeld => ?_)
    clear hK K
    refine norm_ (a' := ?_) ?_ ?_
    rotate_left
    ·show Act.put _ (some 29) _ = _
     simp only [Act.put, sI, sZ, sS, i64_w, i32_w]
     rfl
    refine pure_ (i := 11) (N := some 30) (v := ?_) (a' := ?_) #[true, true, true, true, true, true, true, true, true, true, true, true, false] rfl rfl (by kernel_rfl) (fun _ _ _ h => h) (Or.inl ⟨by rfl, ?_⟩) ?_ ?_
    rotate_left
    ·intro w'
     go_simp
     with_reducible rfl
    rotate_left
    ·simp only [Act.put, sI, sZ, sS, i64_w, i32_w]
     rfl
    refine pure_ (i := 12) (N := some 31) (v := ?_) (a' := ?_) #[true, true, true, true, true, true, true, true, true, true, true, true, true] rfl rfl (by kernel_rfl) (fun _ _ _ h => h) (Or.inl ⟨by rfl, ?_⟩) ?_ ?_
    rotate_left
    ·intro w'
     go_simp
     with_reducible rfl
    rotate_left
    ·simp only [Act.put, sI, sZ, sS, i64_w, i32_w]
     rfl
    refine done_ (by kernel_rfl) ?_
    obtain ⟨_, _, _, _, _, s5, s6, HB⟩ := hHeld
    go_wp2_with fail
    refine (containsExpr n hn ih _ A0_5 c0_5 l0_5 w4 (Kd.C_below HR.out HB.out) hc s6).mono ?_
    rintro e w5 ⟨rfl, hb5⟩
    have HB5 := Lib.hid (xae HB.out hb5)
    clear hb5
    generalize l0_5.all (deepB n) = q at *
    go_wp2_with fail
    go_ret
    exact ⟨by rw [HQ1.out]; simp, HB5.out⟩
theorem deep_all : ∀ n : Nat, n ≤ 100 → DeepAt n
 | 0, _ => by
  intro a0_0 a0_1 a0_2 a0_3 a0_4 A0_5 c0_5 l0_5 w hr hc
  clear hr
  go_enter Tryd.func98, Tryd.ntmps98
  go_wp2_with fail
  go_ret
  exact ⟨rfl, xab (xab (Below.refl _ _) _) _⟩
 | n + 1, h => deep_step n (by omega) (Lib.hid (deep_all n (by omega)))
def term_deep.f (a0_0 : Int) (a0_1 : ByteArray) (a0_2 : Int) (a0_3 : Int) (a0_4 : ByteArray) (l0_5 : List (S31)) (a1 : Int) : Option (Bool) := if 0 ≤ a1 ∧ a1 ≤ 100 then some (deepB a1.toNat ⟨a0_0, ⟨a0_1, ⟨a0_2, a0_3, a0_4⟩⟩, l0_5⟩) else none
theorem term_deep.calls (a0_0 : Int) (a0_1 : ByteArray) (a0_2 : Int) (a0_3 : Int) (a0_4 : ByteArray) (A0_5 : Option Addr) (c0_5 : Nat) (l0_5 : List (S31)) (a1 : Int) (r : Bool) (w : World) (hr0_5 : Kd.C k31 w A0_5 l0_5.length l0_5) (hc0_5 : l0_5.length ≤ c0_5) (h : term_deep.f a0_0 a0_1 a0_2 a0_3 a0_4 l0_5 a1 = some r) :
  Calls Tryd.prog 98 #[.agg #[.int .i8 a0_0, .string a0_1, .int .i8 a0_2, .int .i64 a0_3, .string a0_4, .slice A0_5 l0_5.length c0_5], .int .i64 a1] w fun e w' => e = .returned (.bool r) ∧ Below w.heap.size w w' := by
 unfold term_deep.f at h
 split at h
 ·rename_i ha
  obtain rfl := Option.some.inj h
  have := deep_all a1.toNat (by omega) a0_0 a0_1 a0_2 a0_3 a0_4 A0_5 c0_5 l0_5 w hr0_5 hc0_5
  rwa [show ((a1.toNat : Nat) : Int) = a1 from by omega] at this
 ·cases h
def term_CheckExpr.f (a0_0 : Int) (a0_1 : ByteArray) (a0_2 : Int) (a0_3 : Int) (a0_4 : ByteArray) (l0_5 : List (S31)) : Option (Int) := (term_deep.f a0_0 a0_1 a0_2 a0_3 a0_4 l0_5 8).bind fun t126 => ((term_code.f t126).bind fun t127 => (some t127))
set_option maxHeartbeats 8000000 in
set_option maxRecDepth 100000 in
theorem term_CheckExpr.calls (a0_0 : Int) (a0_1 : ByteArray) (a0_2 : Int) (a0_3 : Int) (a0_4 : ByteArray) (A0_5 : Option Addr) (c0_5 : Nat) (l0_5 : List (S31)) (r : Int) (w : World) (hr0_5 : Kd.C k31 w A0_5 l0_5.length l0_5) (hc0_5 : l0_5.length ≤ c0_5) (h : term_CheckExpr.f a0_0 a0_1 a0_2 a0_3 a0_4 l0_5 = some r) :
  Calls Tryd.prog 51 #[.agg #[.int .i8 a0_0, .string a0_1, .int .i8 a0_2, .int .i64 a0_3, .string a0_4, .slice A0_5 l0_5.length c0_5]] w fun e w' => e = .returned (.int .i64 r) ∧ Below w.heap.size w w' := by
 have hu31 := Tryd.underlying31
 have HR0_5 := Aside0.mk hr0_5
 have HC0_5 := Aside0.mk hc0_5
 clear hr0_5 hc0_5
 have HB := Aside0.mk (Below.refl w.heap.size w)
 have H : ((term_deep.f a0_0 a0_1 a0_2 a0_3 a0_4 l0_5 8).bind fun t126 => ((term_code.f t126).bind fun t127 => (some t127))) = some r := h
 clear h
 replace H := Option.bind_eq_some_iff.mp H
 obtain ⟨t126, A20, H⟩ := H
 replace H : ((term_code.f t126).bind fun t127 => (some t127)) = some r := H
 have A2 := Aside0.mk A20
 clear A20
 replace H := Option.bind_eq_some_iff.mp H
 obtain ⟨t127, A30, H⟩ := H
 replace H : (some t127) = some r := H
 have A3 := Aside0.mk A30
 clear A30
 obtain rfl := Option.some.inj H
 go_enter Tryd.func51, Tryd.ntmps51
 go_wp2_with (first | ((with_reducible refine xap (N := 1) rfl ?_); refine xaq ?hg (N := 1) ?hd (cs := #[.int .i8 a0_0, .string a0_1, .int .i8 a0_2, .int .i64 a0_3, .string a0_4, .slice A0_5 l0_5.length c0_5]) (t := 31) ?hr ?_; (case hd => rfl); (case hg => rfl); (case hr => first | (go_simp; done) | (go_simp; rfl)); intro gb125 hg w4 hbox hb; have n0_ := Aside0.mk (xae (by repeat (first | (with_reducible first | exact HB.out | apply xab | apply xaa | apply xac) | exact HB.out)) hb); have n1_ := Aside0.mk (hbox); have n2_ := Aside0.mk ((by rw [hg]; exact (xao (by repeat (first | (with_reducible first | exact HB.out | apply xab | apply xaa | apply xac) | exact HB.out))) : w.heap.size ≤ gb125)); have n3_ := n2_; clear HB; have HB := n0_; have BK125 := n1_; have GW125 := n2_; have GE125 := n3_; clear n0_ n1_ n2_ n3_; clear hb hbox hg; obtain ⟨hcz5_0, hcz5_1, hcz5_2, hcz5_3, hcz5_4, hcz5_5⟩ := cz6 BK125.out; obtain ⟨hfz5_0, hfz5_1, hfz5_2, hfz5_3, hfz5_4, hfz5_5⟩ := fz6 BK125.out) | ((with_reducible refine xay (f := 98) rfl ?_); refine goesL_ (some 4) rfl rfl Tryd.func98 (by kernel_rfl) rfl #[.agg #[.int .i8 a0_0, .string a0_1, .int .i8 a0_2, .int .i64 a0_3, .string a0_4, .slice A0_5 l0_5.length c0_5], .int .i64 8] rfl (by (try simp only [List.map_toArray, List.map_cons, List.map_nil]); first | done | rfl | (simp only [List.length_drop, List.length_take]; rfl)) ?_; (with_reducible refine (term_deep.calls a0_0 a0_1 a0_2 a0_3 a0_4 _ _ l0_5 8 t126 _ ?side1 ?side2 A2.out).mono ?_); (case side1 => repeat (first | exact (Kd.C_below HR0_5.out HB.out) | (with_reducible refine Kd.C_alloc ?_ _) | (with_reducible refine Kd.C_drewN ?_ _) | (with_reducible refine Kd.C_drew ?_))); (case side2 => exact HC0_5.out); rintro e w6 ⟨rfl, hb⟩; refine ⟨_, rfl, ?_⟩; have n0_ := Aside0.mk (xak (g := gb125) (o := .cells #[.int .i8 a0_0, .string a0_1, .int .i8 a0_2, .int .i64 a0_3, .string a0_4, .slice A0_5 l0_5.length c0_5] 31 (0, 0)) (by (with_reducible repeat (first | refine xaf ?_ _ | refine xai ?_ | refine xad ?_ _)); exact BK125.out) hb); have n1_ := Aside0.mk (xae (by repeat (first | (with_reducible first | exact HB.out | apply xab | apply xaa | apply xac | refine xah ?_ GE125.out) | exact HB.out)) hb); clear BK125; clear HB; have BK125 := n0_; have HB := n1_; clear n0_ n1_; (try clear hb); (try clear hb2); (try clear hk); (try clear hi)) | ((with_reducible refine xay (f := 75) rfl ?_); refine goesL_ (some 5) rfl rfl Tryd.func75 (by kernel_rfl) rfl #[.bool t126] rfl (by (try simp only [List.map_toArray, List.map_cons, List.map_nil]); first | done | rfl | (simp only [List.length_drop, List.length_take]; rfl)) ?_; (with_reducible refine (term_code.calls t126 t127 _ A3.out).mono ?_); rintro e w' ⟨rfl, ⟨nd, rfl⟩⟩; refine ⟨_, rfl, ?_⟩))
 go_ret
 exact ⟨by first | rfl | (simp [xan, xam] <;> rfl) | (simp [*, xan, xam] <;> rfl), by repeat (first | (with_reducible first | exact HB.out | apply xab | apply xaa | apply xac | refine xah ?_ GE125.out) | exact HB.out)⟩
def r1_Check.f (a0_0 : Int) (a0_1 : Int) (a0_2 : ByteArray) : Option (Int) := if a0_0 = 1 then (if a0_2.toList = ([] : List UInt8) then (some 0) else (if a0_0 = 2 then (if a0_1 = 0 then (if (a0_2.size : Int) ≤ 200 then (some 0) else (some 10)) else (some 10)) else (some 10))) else (if a0_0 = 2 then (if a0_1 = 0 then (if (a0_2.size : Int) ≤ 200 then (some 0) else (some 10)) else (some 10)) else (some 10))
set_option maxHeartbeats 8000000 in
set_option maxRecDepth 100000 in
theorem r1_Check.calls (a0_0 : Int) (a0_1 : Int) (a0_2 : ByteArray) (r : Int) (w : World) (h : r1_Check.f a0_0 a0_1 a0_2 = some r) :
  Calls Tryd.prog 13 #[.agg #[.int .i8 a0_0, .int .i64 a0_1, .string a0_2]] w fun e w' => e = .returned (.int .i64 r) ∧ Below w.heap.size w w' := by
 have hu26 := Tryd.underlying26
 have HB := Aside0.mk (Below.refl w.heap.size w)
 have H : (if a0_0 = 1 then (if a0_2.toList = ([] : List UInt8) then (some 0) else (if a0_0 = 2 then (if a0_1 = 0 then (if (a0_2.size : Int) ≤ 200 then (some 0) else (some 10)) else (some 10)) else (some 10))) else (if a0_0 = 2 then (if a0_1 = 0 then (if (a0_2.size : Int) ≤ 200 then (some 0) else (some 10)) else (some 10)) else (some 10))) = some r := h
 clear h
 by_cases c2 : a0_0 = 1
 ·rw [if_pos c2] at H
  have c2b0 : (a0_0 == 1) = true := beq_iff_eq.mpr c2
  have c2b1 : (a0_0 != 1) = false := bne_eq_false_iff_eq.mpr c2
  clear c2
  by_cases c3 : a0_2.toList = ([] : List UInt8)
  ·rw [if_pos c3] at H
   have c3b0 : (a0_2.toList == ([] : List UInt8)) = true := beq_iff_eq.mpr c3
   have c3b1 : (a0_2.toList != ([] : List UInt8)) = false := bne_eq_false_iff_eq.mpr c3
   clear c3
   obtain rfl := Option.some.inj H
   go_enter Tryd.func13, Tryd.ntmps13
   go_wp2_with (first | ((with_reducible refine xap (N := 1) rfl ?_); (try (refine xat (by rfl) ?_; dsimp only)); refine xaq ?hg (N := 1) ?hd (cs := #[.int .i8 a0_0, .int .i64 a0_1, .string a0_2]) (t := 26) ?hr ?_; (case hd => rfl); (case hg => rfl); (case hr => first | (go_simp; done) | (go_simp; rfl)); intro gb140 hg w4 hbox hb; have n0_ := Aside0.mk (xae (by repeat (first | (with_reducible first | exact HB.out | apply xab | apply xaa | apply xac) | exact HB.out)) hb); have n1_ := Aside0.mk (hbox); have n2_ := Aside0.mk ((by rw [hg]; exact (xao (by repeat (first | (with_reducible first | exact HB.out | apply xab | apply xaa | apply xac) | exact HB.out))) : w.heap.size ≤ gb140)); have n3_ := n2_; clear HB; have HB := n0_; have BK140 := n1_; have GW140 := n2_; have GE140 := n3_; clear n0_ n1_ n2_ n3_; clear hb hbox hg; obtain ⟨hcz5_0, hcz5_1, hcz5_2⟩ := cz3 BK140.out; obtain ⟨hfz5_0, hfz5_1, hfz5_2⟩ := fz3 BK140.out))
   go_ret
   exact ⟨by first | rfl | (simp [xan, xam] <;> rfl) | (simp [*, xan, xam] <;> rfl), by repeat (first | (with_reducible first | exact HB.out | apply xab | apply xaa | apply xac | refine xah ?_ GE140.out) | exact HB.out)⟩
  ·rw [if_neg c3] at H
   have c3b0 : (a0_2.toList == ([] : List UInt8)) = false := beq_eq_false_iff_ne.mpr c3
   have c3b1 : (a0_2.toList != ([] : List UInt8)) = true := bne_iff_ne.mpr c3
   by_cases c6 : a0_0 = 2
   ·rw [if_pos c6] at H
    have c6b0 : (a0_0 == 2) = true := beq_iff_eq.mpr c6
    have c6b1 : (a0_0 != 2) = false := bne_eq_false_iff_eq.mpr c6
    clear c6
    by_cases c7 : a0_1 = 0
    ·rw [if_pos c7] at H
     have c7b0 : (a0_1 == 0) = true := beq_iff_eq.mpr c7
     have c7b1 : (a0_1 != 0) = false := bne_eq_false_iff_eq.mpr c7
     clear c7
     by_cases c8 : (a0_2.size : Int) ≤ 200
     ·rw [if_pos c8] at H
      have c8b0 : decide ((a0_2.size : Int) ≤ 200) = true := decide_eq_true c8
      have c8b1 : decide (a0_2.size ≤ 200) = true := decide_eq_true (by omega)
      clear c8
      obtain rfl := Option.some.inj H
      go_enter Tryd.func13, Tryd.ntmps13
      go_wp2_with (first | ((with_reducible refine xap (N := 1) rfl ?_); (try (refine xat (by rfl) ?_; dsimp only)); refine xaq ?hg (N := 1) ?hd (cs := #[.int .i8 a0_0, .int .i64 a0_1, .string a0_2]) (t := 26) ?hr ?_; (case hd => rfl); (case hg => rfl); (case hr => first | (go_simp; done) | (go_simp; rfl)); intro gb140 hg w9 hbox hb; have n0_ := Aside0.mk (xae (by repeat (first | (with_reducible first | exact HB.out | apply xab | apply xaa | apply xac) | exact HB.out)) hb); have n1_ := Aside0.mk (hbox); have n2_ := Aside0.mk ((by rw [hg]; exact (xao (by repeat (first | (with_reducible first | exact HB.out | apply xab | apply xaa | apply xac) | exact HB.out))) : w.heap.size ≤ gb140)); have n3_ := n2_; clear HB; have HB := n0_; have BK140 := n1_; have GW140 := n2_; have GE140 := n3_; clear n0_ n1_ n2_ n3_; clear hb hbox hg; obtain ⟨hcz10_0, hcz10_1, hcz10_2⟩ := cz3 BK140.out; obtain ⟨hfz10_0, hfz10_1, hfz10_2⟩ := fz3 BK140.out))
      go_ret
      exact ⟨by first | rfl | (simp [xan, xam] <;> rfl) | (simp [*, xan, xam] <;> rfl), by repeat (first | (with_reducible first | exact HB.out | apply xab | apply xaa | apply xac | refine xah ?_ GE140.out) | exact HB.out)⟩
     ·rw [if_neg c8] at H
      have c8b0 : decide ((a0_2.size : Int) ≤ 200) = false := decide_eq_false c8
      have c8b1 : decide (a0_2.size ≤ 200) = false := decide_eq_false (by omega)
      clear c8
      obtain rfl := Option.some.inj H
      go_enter Tryd.func13, Tryd.ntmps13
      go_wp2_with (first | ((with_reducible refine xap (N := 1) rfl ?_); (try (refine xat (by rfl) ?_; dsimp only)); refine xaq ?hg (N := 1) ?hd (cs := #[.int .i8 a0_0, .int .i64 a0_1, .string a0_2]) (t := 26) ?hr ?_; (case hd => rfl); (case hg => rfl); (case hr => first | (go_simp; done) | (go_simp; rfl)); intro gb140 hg w11 hbox hb; have n0_ := Aside0.mk (xae (by repeat (first | (with_reducible first | exact HB.out | apply xab | apply xaa | apply xac) | exact HB.out)) hb); have n1_ := Aside0.mk (hbox); have n2_ := Aside0.mk ((by rw [hg]; exact (xao (by repeat (first | (with_reducible first | exact HB.out | apply xab | apply xaa | apply xac) | exact HB.out))) : w.heap.size ≤ gb140)); have n3_ := n2_; clear HB; have HB := n0_; have BK140 := n1_; have GW140 := n2_; have GE140 := n3_; clear n0_ n1_ n2_ n3_; clear hb hbox hg; obtain ⟨hcz12_0, hcz12_1, hcz12_2⟩ := cz3 BK140.out; obtain ⟨hfz12_0, hfz12_1, hfz12_2⟩ := fz3 BK140.out))
      go_ret
      exact ⟨by first | rfl | (simp [xan, xam] <;> rfl) | (simp [*, xan, xam] <;> rfl), by repeat (first | (with_reducible first | exact HB.out | apply xab | apply xaa | apply xac | refine xah ?_ GE140.out) | exact HB.out)⟩
    ·rw [if_neg c7] at H
     have c7b0 : (a0_1 == 0) = false := beq_eq_false_iff_ne.mpr c7
     have c7b1 : (a0_1 != 0) = true := bne_iff_ne.mpr c7
     obtain rfl := Option.some.inj H
     go_enter Tryd.func13, Tryd.ntmps13
     go_wp2_with (first | ((with_reducible refine xap (N := 1) rfl ?_); (try (refine xat (by rfl) ?_; dsimp only)); refine xaq ?hg (N := 1) ?hd (cs := #[.int .i8 a0_0, .int .i64 a0_1, .string a0_2]) (t := 26) ?hr ?_; (case hd => rfl); (case hg => rfl); (case hr => first | (go_simp; done) | (go_simp; rfl)); intro gb140 hg w13 hbox hb; have n0_ := Aside0.mk (xae (by repeat (first | (with_reducible first | exact HB.out | apply xab | apply xaa | apply xac) | exact HB.out)) hb); have n1_ := Aside0.mk (hbox); have n2_ := Aside0.mk ((by rw [hg]; exact (xao (by repeat (first | (with_reducible first | exact HB.out | apply xab | apply xaa | apply xac) | exact HB.out))) : w.heap.size ≤ gb140)); have n3_ := n2_; clear HB; have HB := n0_; have BK140 := n1_; have GW140 := n2_; have GE140 := n3_; clear n0_ n1_ n2_ n3_; clear hb hbox hg; obtain ⟨hcz14_0, hcz14_1, hcz14_2⟩ := cz3 BK140.out; obtain ⟨hfz14_0, hfz14_1, hfz14_2⟩ := fz3 BK140.out))
     go_ret
     exact ⟨by first | rfl | (simp [xan, xam] <;> rfl) | (simp [*, xan, xam] <;> rfl), by repeat (first | (with_reducible first | exact HB.out | apply xab | apply xaa | apply xac | refine xah ?_ GE140.out) | exact HB.out)⟩
   ·rw [if_neg c6] at H
    have c6b0 : (a0_0 == 2) = false := beq_eq_false_iff_ne.mpr c6
    have c6b1 : (a0_0 != 2) = true := bne_iff_ne.mpr c6
    obtain rfl := Option.some.inj H
    go_enter Tryd.func13, Tryd.ntmps13
    go_wp2_with (first | ((with_reducible refine xap (N := 1) rfl ?_); (try (refine xat (by rfl) ?_; dsimp only)); refine xaq ?hg (N := 1) ?hd (cs := #[.int .i8 a0_0, .int .i64 a0_1, .string a0_2]) (t := 26) ?hr ?_; (case hd => rfl); (case hg => rfl); (case hr => first | (go_simp; done) | (go_simp; rfl)); intro gb140 hg w15 hbox hb; have n0_ := Aside0.mk (xae (by repeat (first | (with_reducible first | exact HB.out | apply xab | apply xaa | apply xac) | exact HB.out)) hb); have n1_ := Aside0.mk (hbox); have n2_ := Aside0.mk ((by rw [hg]; exact (xao (by repeat (first | (with_reducible first | exact HB.out | apply xab | apply xaa | apply xac) | exact HB.out))) : w.heap.size ≤ gb140)); have n3_ := n2_; clear HB; have HB := n0_; have BK140 := n1_; have GW140 := n2_; have GE140 := n3_; clear n0_ n1_ n2_ n3_; clear hb hbox hg; obtain ⟨hcz16_0, hcz16_1, hcz16_2⟩ := cz3 BK140.out; obtain ⟨hfz16_0, hfz16_1, hfz16_2⟩ := fz3 BK140.out))
    go_ret
    exact ⟨by first | rfl | (simp [xan, xam] <;> rfl) | (simp [*, xan, xam] <;> rfl), by repeat (first | (with_reducible first | exact HB.out | apply xab | apply xaa | apply xac | refine xah ?_ GE140.out) | exact HB.out)⟩
 ·rw [if_neg c2] at H
  have c2b0 : (a0_0 == 1) = false := beq_eq_false_iff_ne.mpr c2
  have c2b1 : (a0_0 != 1) = true := bne_iff_ne.mpr c2
  by_cases c17 : a0_0 = 2
  ·rw [if_pos c17] at H
   have c17b0 : (a0_0 == 2) = true := beq_iff_eq.mpr c17
   have c17b1 : (a0_0 != 2) = false := bne_eq_false_iff_eq.mpr c17
   clear c17
   by_cases c18 : a0_1 = 0
   ·rw [if_pos c18] at H
    have c18b0 : (a0_1 == 0) = true := beq_iff_eq.mpr c18
    have c18b1 : (a0_1 != 0) = false := bne_eq_false_iff_eq.mpr c18
    clear c18
    by_cases c19 : (a0_2.size : Int) ≤ 200
    ·rw [if_pos c19] at H
     have c19b0 : decide ((a0_2.size : Int) ≤ 200) = true := decide_eq_true c19
     have c19b1 : decide (a0_2.size ≤ 200) = true := decide_eq_true (by omega)
     clear c19
     obtain rfl := Option.some.inj H
     go_enter Tryd.func13, Tryd.ntmps13
     go_wp2_with (first | ((with_reducible refine xap (N := 1) rfl ?_); (try (refine xat (by rfl) ?_; dsimp only)); refine xaq ?hg (N := 1) ?hd (cs := #[.int .i8 a0_0, .int .i64 a0_1, .string a0_2]) (t := 26) ?hr ?_; (case hd => rfl); (case hg => rfl); (case hr => first | (go_simp; done) | (go_simp; rfl)); intro gb140 hg w20 hbox hb; have n0_ := Aside0.mk (xae (by repeat (first | (with_reducible first | exact HB.out | apply xab | apply xaa | apply xac) | exact HB.out)) hb); have n1_ := Aside0.mk (hbox); have n2_ := Aside0.mk ((by rw [hg]; exact (xao (by repeat (first | (with_reducible first | exact HB.out | apply xab | apply xaa | apply xac) | exact HB.out))) : w.heap.size ≤ gb140)); have n3_ := n2_; clear HB; have HB := n0_; have BK140 := n1_; have GW140 := n2_; have GE140 := n3_; clear n0_ n1_ n2_ n3_; clear hb hbox hg; obtain ⟨hcz21_0, hcz21_1, hcz21_2⟩ := cz3 BK140.out; obtain ⟨hfz21_0, hfz21_1, hfz21_2⟩ := fz3 BK140.out))
     go_ret
     exact ⟨by first | rfl | (simp [xan, xam] <;> rfl) | (simp [*, xan, xam] <;> rfl), by repeat (first | (with_reducible first | exact HB.out | apply xab | apply xaa | apply xac | refine xah ?_ GE140.out) | exact HB.out)⟩
    ·rw [if_neg c19] at H
     have c19b0 : decide ((a0_2.size : Int) ≤ 200) = false := decide_eq_false c19
     have c19b1 : decide (a0_2.size ≤ 200) = false := decide_eq_false (by omega)
     clear c19
     obtain rfl := Option.some.inj H
     go_enter Tryd.func13, Tryd.ntmps13
     go_wp2_with (first | ((with_reducible refine xap (N := 1) rfl ?_); (try (refine xat (by rfl) ?_; dsimp only)); refine xaq ?hg (N := 1) ?hd (cs := #[.int .i8 a0_0, .int .i64 a0_1, .string a0_2]) (t := 26) ?hr ?_; (case hd => rfl); (case hg => rfl); (case hr => first | (go_simp; done) | (go_simp; rfl)); intro gb140 hg w22 hbox hb; have n0_ := Aside0.mk (xae (by repeat (first | (with_reducible first | exact HB.out | apply xab | apply xaa | apply xac) | exact HB.out)) hb); have n1_ := Aside0.mk (hbox); have n2_ := Aside0.mk ((by rw [hg]; exact (xao (by repeat (first | (with_reducible first | exact HB.out | apply xab | apply xaa | apply xac) | exact HB.out))) : w.heap.size ≤ gb140)); have n3_ := n2_; clear HB; have HB := n0_; have BK140 := n1_; have GW140 := n2_; have GE140 := n3_; clear n0_ n1_ n2_ n3_; clear hb hbox hg; obtain ⟨hcz23_0, hcz23_1, hcz23_2⟩ := cz3 BK140.out; obtain ⟨hfz23_0, hfz23_1, hfz23_2⟩ := fz3 BK140.out))
     go_ret
     exact ⟨by first | rfl | (simp [xan, xam] <;> rfl) | (simp [*, xan, xam] <;> rfl), by repeat (first | (with_reducible first | exact HB.out | apply xab | apply xaa | apply xac | refine xah ?_ GE140.out) | exact HB.out)⟩
   ·rw [if_neg c18] at H
    have c18b0 : (a0_1 == 0) = false := beq_eq_false_iff_ne.mpr c18
    have c18b1 : (a0_1 != 0) = true := bne_iff_ne.mpr c18
    obtain rfl := Option.some.inj H
    go_enter Tryd.func13, Tryd.ntmps13
    go_wp2_with (first | ((with_reducible refine xap (N := 1) rfl ?_); (try (refine xat (by rfl) ?_; dsimp only)); refine xaq ?hg (N := 1) ?hd (cs := #[.int .i8 a0_0, .int .i64 a0_1, .string a0_2]) (t := 26) ?hr ?_; (case hd => rfl); (case hg => rfl); (case hr => first | (go_simp; done) | (go_simp; rfl)); intro gb140 hg w24 hbox hb; have n0_ := Aside0.mk (xae (by repeat (first | (with_reducible first | exact HB.out | apply xab | apply xaa | apply xac) | exact HB.out)) hb); have n1_ := Aside0.mk (hbox); have n2_ := Aside0.mk ((by rw [hg]; exact (xao (by repeat (first | (with_reducible first | exact HB.out | apply xab | apply xaa | apply xac) | exact HB.out))) : w.heap.size ≤ gb140)); have n3_ := n2_; clear HB; have HB := n0_; have BK140 := n1_; have GW140 := n2_; have GE140 := n3_; clear n0_ n1_ n2_ n3_; clear hb hbox hg; obtain ⟨hcz25_0, hcz25_1, hcz25_2⟩ := cz3 BK140.out; obtain ⟨hfz25_0, hfz25_1, hfz25_2⟩ := fz3 BK140.out))
    go_ret
    exact ⟨by first | rfl | (simp [xan, xam] <;> rfl) | (simp [*, xan, xam] <;> rfl), by repeat (first | (with_reducible first | exact HB.out | apply xab | apply xaa | apply xac | refine xah ?_ GE140.out) | exact HB.out)⟩
  ·rw [if_neg c17] at H
   have c17b0 : (a0_0 == 2) = false := beq_eq_false_iff_ne.mpr c17
   have c17b1 : (a0_0 != 2) = true := bne_iff_ne.mpr c17
   obtain rfl := Option.some.inj H
   go_enter Tryd.func13, Tryd.ntmps13
   go_wp2_with (first | ((with_reducible refine xap (N := 1) rfl ?_); (try (refine xat (by rfl) ?_; dsimp only)); refine xaq ?hg (N := 1) ?hd (cs := #[.int .i8 a0_0, .int .i64 a0_1, .string a0_2]) (t := 26) ?hr ?_; (case hd => rfl); (case hg => rfl); (case hr => first | (go_simp; done) | (go_simp; rfl)); intro gb140 hg w26 hbox hb; have n0_ := Aside0.mk (xae (by repeat (first | (with_reducible first | exact HB.out | apply xab | apply xaa | apply xac) | exact HB.out)) hb); have n1_ := Aside0.mk (hbox); have n2_ := Aside0.mk ((by rw [hg]; exact (xao (by repeat (first | (with_reducible first | exact HB.out | apply xab | apply xaa | apply xac) | exact HB.out))) : w.heap.size ≤ gb140)); have n3_ := n2_; clear HB; have HB := n0_; have BK140 := n1_; have GW140 := n2_; have GE140 := n3_; clear n0_ n1_ n2_ n3_; clear hb hbox hg; obtain ⟨hcz27_0, hcz27_1, hcz27_2⟩ := cz3 BK140.out; obtain ⟨hfz27_0, hfz27_1, hfz27_2⟩ := fz3 BK140.out))
   go_ret
   exact ⟨by first | rfl | (simp [xan, xam] <;> rfl) | (simp [*, xan, xam] <;> rfl), by repeat (first | (with_reducible first | exact HB.out | apply xab | apply xaa | apply xac | refine xah ?_ GE140.out) | exact HB.out)⟩
def r1_letter.f (a0 : Int) : Option (Bool) := if a0 ≥ 97 then (if a0 ≤ 122 then (some true) else (if a0 ≥ 65 then (if a0 ≤ 90 then (some true) else (if a0 ≥ 48 then (if a0 ≤ 57 then (some true) else (some (a0 == 95))) else (some (a0 == 95)))) else (if a0 ≥ 48 then (if a0 ≤ 57 then (some true) else (some (a0 == 95))) else (some (a0 == 95))))) else (if a0 ≥ 65 then (if a0 ≤ 90 then (some true) else (if a0 ≥ 48 then (if a0 ≤ 57 then (some true) else (some (a0 == 95))) else (some (a0 == 95)))) else (if a0 ≥ 48 then (if a0 ≤ 57 then (some true) else (some (a0 == 95))) else (some (a0 == 95))))
set_option maxHeartbeats 8000000 in
set_option maxRecDepth 100000 in
theorem r1_letter.calls (a0 : Int) (r : Bool) (w : World) (h : r1_letter.f a0 = some r) :
  Calls Tryd.prog 144 #[.int .u8 a0] w fun e w' => e = .returned (.bool r) ∧ Drawn0 w w' := by
 have H : (if a0 ≥ 97 then (if a0 ≤ 122 then (some true) else (if a0 ≥ 65 then (if a0 ≤ 90 then (some true) else (if a0 ≥ 48 then (if a0 ≤ 57 then (some true) else (some (a0 == 95))) else (some (a0 == 95)))) else (if a0 ≥ 48 then (if a0 ≤ 57 then (some true) else (some (a0 == 95))) else (some (a0 == 95))))) else (if a0 ≥ 65 then (if a0 ≤ 90 then (some true) else (if a0 ≥ 48 then (if a0 ≤ 57 then (some true) else (some (a0 == 95))) else (some (a0 == 95)))) else (if a0 ≥ 48 then (if a0 ≤ 57 then (some true) else (some (a0 == 95))) else (some (a0 == 95))))) = some r := h
 clear h
 by_cases c2 : a0 ≥ 97
 ·rw [if_pos c2] at H
  have c2b0 : decide (97 ≤ a0) = true := decide_eq_true c2
  clear c2
  by_cases c3 : a0 ≤ 122
  ·rw [if_pos c3] at H
   have c3b0 : decide (a0 ≤ 122) = true := decide_eq_true c3
   clear c3
   obtain rfl := Option.some.inj H
   go_enter Tryd.func144, Tryd.ntmps144
   go_wp2
   go_ret
   exact ⟨by first | rfl | (simp; done) | (simp [*]; done), by repeat (first | exact Drawn0.refl _ | apply Drawn0.step)⟩
  ·rw [if_neg c3] at H
   have c3b0 : decide (a0 ≤ 122) = false := decide_eq_false c3
   clear c3
   by_cases c4 : a0 ≥ 65
   ·rw [if_pos c4] at H
    have c4b0 : decide (65 ≤ a0) = true := decide_eq_true c4
    clear c4
    by_cases c5 : a0 ≤ 90
    ·rw [if_pos c5] at H
     have c5b0 : decide (a0 ≤ 90) = true := decide_eq_true c5
     clear c5
     obtain rfl := Option.some.inj H
     go_enter Tryd.func144, Tryd.ntmps144
     go_wp2
     go_ret
     exact ⟨by first | rfl | (simp; done) | (simp [*]; done), by repeat (first | exact Drawn0.refl _ | apply Drawn0.step)⟩
    ·rw [if_neg c5] at H
     have c5b0 : decide (a0 ≤ 90) = false := decide_eq_false c5
     clear c5
     by_cases c6 : a0 ≥ 48
     ·rw [if_pos c6] at H
      have c6b0 : decide (48 ≤ a0) = true := decide_eq_true c6
      clear c6
      by_cases c7 : a0 ≤ 57
      ·rw [if_pos c7] at H
       have c7b0 : decide (a0 ≤ 57) = true := decide_eq_true c7
       clear c7
       obtain rfl := Option.some.inj H
       go_enter Tryd.func144, Tryd.ntmps144
       go_wp2
       go_ret
       exact ⟨by first | rfl | (simp; done) | (simp [*]; done), by repeat (first | exact Drawn0.refl _ | apply Drawn0.step)⟩
      ·rw [if_neg c7] at H
       have c7b0 : decide (a0 ≤ 57) = false := decide_eq_false c7
       clear c7
       obtain rfl := Option.some.inj H
       go_enter Tryd.func144, Tryd.ntmps144
       go_wp2
       go_ret
       exact ⟨by first | rfl | (simp; done) | (simp [*]; done), by repeat (first | exact Drawn0.refl _ | apply Drawn0.step)⟩
     ·rw [if_neg c6] at H
      have c6b0 : decide (48 ≤ a0) = false := decide_eq_false c6
      clear c6
      obtain rfl := Option.some.inj H
      go_enter Tryd.func144, Tryd.ntmps144
      go_wp2
      go_ret
      exact ⟨by first | rfl | (simp; done) | (simp [*]; done), by repeat (first | exact Drawn0.refl _ | apply Drawn0.step)⟩
   ·rw [if_neg c4] at H
    have c4b0 : decide (65 ≤ a0) = false := decide_eq_false c4
    clear c4
    by_cases c8 : a0 ≥ 48
    ·rw [if_pos c8] at H
     have c8b0 : decide (48 ≤ a0) = true := decide_eq_true c8
     clear c8
     by_cases c9 : a0 ≤ 57
     ·rw [if_pos c9] at H
      have c9b0 : decide (a0 ≤ 57) = true := decide_eq_true c9
      clear c9
      obtain rfl := Option.some.inj H
      go_enter Tryd.func144, Tryd.ntmps144
      go_wp2
      go_ret
      exact ⟨by first | rfl | (simp; done) | (simp [*]; done), by repeat (first | exact Drawn0.refl _ | apply Drawn0.step)⟩
     ·rw [if_neg c9] at H
      have c9b0 : decide (a0 ≤ 57) = false := decide_eq_false c9
      clear c9
      obtain rfl := Option.some.inj H
      go_enter Tryd.func144, Tryd.ntmps144
      go_wp2
      go_ret
      exact ⟨by first | rfl | (simp; done) | (simp [*]; done), by repeat (first | exact Drawn0.refl _ | apply Drawn0.step)⟩
    ·rw [if_neg c8] at H
     have c8b0 : decide (48 ≤ a0) = false := decide_eq_false c8
     clear c8
     obtain rfl := Option.some.inj H
     go_enter Tryd.func144, Tryd.ntmps144
     go_wp2
     go_ret
     exact ⟨by first | rfl | (simp; done) | (simp [*]; done), by repeat (first | exact Drawn0.refl _ | apply Drawn0.step)⟩
 ·rw [if_neg c2] at H
  have c2b0 : decide (97 ≤ a0) = false := decide_eq_false c2
  clear c2
  by_cases c10 : a0 ≥ 65
  ·rw [if_pos c10] at H
   have c10b0 : decide (65 ≤ a0) = true := decide_eq_true c10
   clear c10
   by_cases c11 : a0 ≤ 90
   ·rw [if_pos c11] at H
    have c11b0 : decide (a0 ≤ 90) = true := decide_eq_true c11
    clear c11
    obtain rfl := Option.some.inj H
    go_enter Tryd.func144, Tryd.ntmps144
    go_wp2
    go_ret
    exact ⟨by first | rfl | (simp; done) | (simp [*]; done), by repeat (first | exact Drawn0.refl _ | apply Drawn0.step)⟩
   ·rw [if_neg c11] at H
    have c11b0 : decide (a0 ≤ 90) = false := decide_eq_false c11
    clear c11
    by_cases c12 : a0 ≥ 48
    ·rw [if_pos c12] at H
     have c12b0 : decide (48 ≤ a0) = true := decide_eq_true c12
     clear c12
     by_cases c13 : a0 ≤ 57
     ·rw [if_pos c13] at H
      have c13b0 : decide (a0 ≤ 57) = true := decide_eq_true c13
      clear c13
      obtain rfl := Option.some.inj H
      go_enter Tryd.func144, Tryd.ntmps144
      go_wp2
      go_ret
      exact ⟨by first | rfl | (simp; done) | (simp [*]; done), by repeat (first | exact Drawn0.refl _ | apply Drawn0.step)⟩
     ·rw [if_neg c13] at H
      have c13b0 : decide (a0 ≤ 57) = false := decide_eq_false c13
      clear c13
      obtain rfl := Option.some.inj H
      go_enter Tryd.func144, Tryd.ntmps144
      go_wp2
      go_ret
      exact ⟨by first | rfl | (simp; done) | (simp [*]; done), by repeat (first | exact Drawn0.refl _ | apply Drawn0.step)⟩
    ·rw [if_neg c12] at H
     have c12b0 : decide (48 ≤ a0) = false := decide_eq_false c12
     clear c12
     obtain rfl := Option.some.inj H
     go_enter Tryd.func144, Tryd.ntmps144
     go_wp2
     go_ret
     exact ⟨by first | rfl | (simp; done) | (simp [*]; done), by repeat (first | exact Drawn0.refl _ | apply Drawn0.step)⟩
  ·rw [if_neg c10] at H
   have c10b0 : decide (65 ≤ a0) = false := decide_eq_false c10
   clear c10
   by_cases c14 : a0 ≥ 48
   ·rw [if_pos c14] at H
    have c14b0 : decide (48 ≤ a0) = true := decide_eq_true c14
    clear c14
    by_cases c15 : a0 ≤ 57
    ·rw [if_pos c15] at H
     have c15b0 : decide (a0 ≤ 57) = true := decide_eq_true c15
     clear c15
     obtain rfl := Option.some.inj H
     go_enter Tryd.func144, Tryd.ntmps144
     go_wp2
     go_ret
     exact ⟨by first | rfl | (simp; done) | (simp [*]; done), by repeat (first | exact Drawn0.refl _ | apply Drawn0.step)⟩
    ·rw [if_neg c15] at H
     have c15b0 : decide (a0 ≤ 57) = false := decide_eq_false c15
     clear c15
     obtain rfl := Option.some.inj H
     go_enter Tryd.func144, Tryd.ntmps144
     go_wp2
     go_ret
     exact ⟨by first | rfl | (simp; done) | (simp [*]; done), by repeat (first | exact Drawn0.refl _ | apply Drawn0.step)⟩
   ·rw [if_neg c14] at H
    have c14b0 : decide (48 ≤ a0) = false := decide_eq_false c14
    clear c14
    obtain rfl := Option.some.inj H
    go_enter Tryd.func144, Tryd.ntmps144
    go_wp2
    go_ret
    exact ⟨by first | rfl | (simp; done) | (simp [*]; done), by repeat (first | exact Drawn0.refl _ | apply Drawn0.step)⟩
mutual
def r1_written.j0 : Nat → ByteArray → Bool → Option (Bool)
 | 0, _, _ => none
 | k + 1, x0, x27 => if x27 = true then (some false) else (r1_written.l0 k x0 1)
def r1_written.l0 : Nat → ByteArray → Int → Option (Bool)
 | 0, _, _ => none
 | k + 1, x0, x7 => if x7 < (x0.size : Int) then (if 0 ≤ x7 then ((r1_letter.f (bt x0 x7)).bind fun t141 => (if t141 = true then (r1_written.l0 k x0 (wrap64 (x7 + 1))) else (some false))) else (none)) else (some true)
end
def r1_written.f (k : Nat) (a0 : ByteArray) (a1 : Int) (a2 : Int) : Option (Bool) := if (a0.size : Int) < 1 then (r1_written.j0 k a0 true) else (if (a0.size : Int) > 120 then (r1_written.j0 k a0 true) else (if 0 < (a0.size : Int) then (if (bt a0 0) < a1 then (r1_written.j0 k a0 true) else (r1_written.j0 k a0 (decide ((bt a0 0) > a2)))) else (none)))
set_option maxHeartbeats 8000000 in
set_option maxRecDepth 100000 in
theorem r1_written.calls (k : Nat) (a0 : ByteArray) (a1 : Int) (a2 : Int) (r : Bool) (w : World) (h : r1_written.f k a0 a1 a2 = some r) :
  Calls Tryd.prog 133 #[.string a0, .int .u8 a1, .int .u8 a2] w fun e w' => e = .returned (.bool r) ∧ Drawn0 w w' := by
 have H : (if (a0.size : Int) < 1 then (r1_written.j0 k a0 true) else (if (a0.size : Int) > 120 then (r1_written.j0 k a0 true) else (if 0 < (a0.size : Int) then (if (bt a0 0) < a1 then (r1_written.j0 k a0 true) else (r1_written.j0 k a0 (decide ((bt a0 0) > a2)))) else (none)))) = some r := h
 clear h
 have HC4 := Aside0.mk H
 clear H
 go_enter Tryd.func133, Tryd.ntmps133
 go_upto_region 1 with (fail)
 go_cut [27] (fun v27 wc => ∃ (kq : Nat) (x27_3 : Bool), v27 = .bool x27_3 ∧ Aside0 (r1_written.j0 kq a0 x27_3 = some r) ∧ Aside0 (kq ≤ k) ∧ Drawn0 w wc)
 case first =>
  have H := HC4.out
  clear HC4
  by_cases c5 : (a0.size : Int) < 1
  ·rw [if_pos c5] at H
   have c5b0 : decide ((a0.size : Int) < 1) = true := decide_eq_true c5
   have c5b1 : decide (a0.size < 1) = true := decide_eq_true (by omega)
   clear c5
   (first | rw [c5b0] | (simp only [i64_w, i32_w]; rw [c5b0]) | skip)
   have H' := Aside0.mk H
   clear H
   go_wp2
   go_meet
   case rel => exact ⟨_, (true), (by first | rfl | (simp; done) | (simp [*]; done)), H', ⟨by first | omega | exact Nat.le_refl _⟩, by repeat (first | exact Drawn0.refl _ | apply Drawn0.step)⟩
  ·rw [if_neg c5] at H
   have c5b0 : decide ((a0.size : Int) < 1) = false := decide_eq_false c5
   have c5b1 : decide (a0.size < 1) = false := decide_eq_false (by omega)
   clear c5
   (first | rw [c5b0] | (simp only [i64_w, i32_w]; rw [c5b0]) | skip)
   by_cases c6 : (a0.size : Int) > 120
   ·rw [if_pos c6] at H
    have c6b0 : decide (120 < (a0.size : Int)) = true := decide_eq_true c6
    have c6b1 : decide (120 < a0.size) = true := decide_eq_true (by omega)
    clear c6
    have H' := Aside0.mk H
    clear H
    go_wp2
    go_meet
    case rel => exact ⟨_, (true), (by first | rfl | (simp; done) | (simp [*]; done)), H', ⟨by first | omega | exact Nat.le_refl _⟩, by repeat (first | exact Drawn0.refl _ | apply Drawn0.step)⟩
   ·rw [if_neg c6] at H
    have c6b0 : decide (120 < (a0.size : Int)) = false := decide_eq_false c6
    have c6b1 : decide (120 < a0.size) = false := decide_eq_false (by omega)
    clear c6
    by_cases c7 : 0 < (a0.size : Int)
    ·rw [if_pos c7] at H
     have c7b0 : decide (0 < (a0.size : Int)) = true := decide_eq_true c7
     have c7b1 : decide (0 < a0.size) = true := decide_eq_true (by omega)
     clear c7
     by_cases c9 : (bt a0 0) < a1
     ·rw [if_pos c9] at H
      have c9b0 : decide ((bt a0 0) < a1) = true := decide_eq_true c9
      clear c9
      have H' := Aside0.mk H
      clear H
      have p8 : 0 ≤ (0 : Int) := (by omega)
      have q8 : 0 < a0.size := (by have : (0 : Int) < (a0.size : Int) := of_decide_eq_true (by first | (with_reducible assumption) | assumption); omega)
      have hx8 : ∀ h : 0 < a0.size, ((a0[0]'h).toNat : Int) = bt a0 0 := bt_at a0 0
      clear p8
      have qi8 : (0 < (a0.size : Int)) = True := eq_true (of_decide_eq_true (by first | (with_reducible assumption) | assumption))
      replace q8 := eq_true q8
      go_wp2
      go_meet
      case rel => exact ⟨_, (true), (by first | rfl | (simp; done) | (simp [*]; done)), H', ⟨by first | omega | exact Nat.le_refl _⟩, by repeat (first | exact Drawn0.refl _ | apply Drawn0.step)⟩
     ·rw [if_neg c9] at H
      have c9b0 : decide ((bt a0 0) < a1) = false := decide_eq_false c9
      clear c9
      have H' := Aside0.mk H
      clear H
      have p8 : 0 ≤ (0 : Int) := (by omega)
      have q8 : 0 < a0.size := (by have : (0 : Int) < (a0.size : Int) := of_decide_eq_true (by first | (with_reducible assumption) | assumption); omega)
      have hx8 : ∀ h : 0 < a0.size, ((a0[0]'h).toNat : Int) = bt a0 0 := bt_at a0 0
      clear p8
      have qi8 : (0 < (a0.size : Int)) = True := eq_true (of_decide_eq_true (by first | (with_reducible assumption) | assumption))
      replace q8 := eq_true q8
      have p10 : 0 ≤ (0 : Int) := (by omega)
      have q10 : 0 < a0.size := (by have : (0 : Int) < (a0.size : Int) := of_decide_eq_true (by first | (with_reducible assumption) | assumption); omega)
      have hx10 : ∀ h : 0 < a0.size, ((a0[0]'h).toNat : Int) = bt a0 0 := bt_at a0 0
      clear p10
      have qi10 : (0 < (a0.size : Int)) = True := eq_true (of_decide_eq_true (by first | (with_reducible assumption) | assumption))
      replace q10 := eq_true q10
      go_wp2
      go_meet
      case rel => exact ⟨_, (decide ((bt a0 0) > a2)), (by first | rfl | (simp; done) | (simp [*]; done)), H', ⟨by first | omega | exact Nat.le_refl _⟩, by repeat (first | exact Drawn0.refl _ | apply Drawn0.step)⟩
    ·rw [if_neg c7] at H
     exact absurd H (by simp)
 case rest =>
  clear HC4
  try clear c1
  try clear p1
  try clear q1
  try clear hx1
  try clear qi1
  try clear p2
  try clear c5
  try clear c5b0
  try clear c5b1
  try clear c6
  try clear c6b0
  try clear c6b1
  try clear c7
  try clear c7b0
  try clear c7b1
  try clear p8
  try clear q8
  try clear hx8
  try clear qi8
  try clear c9
  try clear c9b0
  try clear p10
  try clear q10
  try clear hx10
  try clear qi10
  try clear p10
  try clear p8
  try clear q10
  try clear q8
  obtain ⟨kq, x27_3, rfl, HA, HJ3, ⟨mc3, rfl⟩⟩ := hcut
  cases kq with
  | zero => exact absurd HA.out (by simp [r1_written.j0])
  | succ kj3 =>
   have H := HA.out
   clear HA
   simp only [r1_written.j0] at H
   by_cases c11 : x27_3 = true
   ·subst c11
    have H1 : (some false) = some r := by rw [if_pos rfl] at H; exact H
    clear H
    have H := H1
    clear H1
    obtain rfl := Option.some.inj H
    go_wp2
    go_ret
    exact ⟨by first | rfl | (simp; done) | (simp [*]; done), by repeat (first | exact Drawn0.refl _ | apply Drawn0.step)⟩
   ·replace c11 := Bool.eq_false_iff.mpr c11
    subst c11
    have H1 : (r1_written.l0 kj3 a0 1) = some r := by rw [if_neg (show ¬ (false = true) by decide)] at H; exact H
    clear H
    have H := H1
    clear H1
    have H' := Aside0.mk H
    clear H
    go_wp2
    go_loopg [7] kj3 (fun kq v7 w' => ∃ (x7_2 : Int), v7 = .int .i64 x7_2 ∧ Aside0 (r1_written.l0 kq a0 x7_2 = some r) ∧ Aside0 (kq ≤ kj3) ∧ Drawn0 w w')
    case atStart => exact ⟨(1), (by first | rfl | (simp; done) | (simp [*]; done)), H', ⟨Nat.le_refl _⟩, by repeat (first | exact Drawn0.refl _ | apply Drawn0.step)⟩
    case round =>
     clear H'
     try clear c1
     try clear p1
     try clear q1
     try clear hx1
     try clear qi1
     try clear p2
     try clear c3
     try clear c5
     try clear c5b0
     try clear c5b1
     try clear c6
     try clear c6b0
     try clear c6b1
     try clear c7
     try clear c7b0
     try clear c7b1
     try clear p8
     try clear q8
     try clear hx8
     try clear qi8
     try clear c9
     try clear c9b0
     try clear p10
     try clear q10
     try clear hx10
     try clear qi10
     try clear c11
     try clear p1
     try clear p10
     try clear p2
     try clear p8
     try clear q1
     try clear q10
     try clear q8
     obtain ⟨x7_2, rfl, HA, HK2, ⟨m2, rfl⟩⟩ := hrel
     cases gk with
     | zero => exact absurd HA.out (by simp [r1_written.l0])
     | succ k2 =>
      have H := HA.out
      clear HA
      simp only [r1_written.l0] at H
      by_cases c12 : x7_2 < (a0.size : Int)
      ·rw [if_pos c12] at H
       have c12b0 : decide (x7_2 < (a0.size : Int)) = true := decide_eq_true c12
       clear c12
       by_cases c13 : 0 ≤ x7_2
       ·rw [if_pos c13] at H
        have c13b0 : decide (0 ≤ x7_2) = true := decide_eq_true c13
        clear c13
        replace H := Option.bind_eq_some_iff.mp H
        obtain ⟨t141, A150, H⟩ := H
        replace H : (if t141 = true then (r1_written.l0 k2 a0 (wrap64 (x7_2 + 1))) else (some false)) = some r := H
        have A15 := Aside0.mk A150
        clear A150
        by_cases c16 : t141 = true
        ·subst c16
         have H1 : (r1_written.l0 k2 a0 (wrap64 (x7_2 + 1))) = some r := by rw [if_pos rfl] at H; exact H
         clear H
         have H := H1
         clear H1
         have H' := Aside0.mk H
         clear H
         have p14 : 0 ≤ (x7_2 : Int) := of_decide_eq_true (by first | (with_reducible assumption) | assumption)
         have q14 : x7_2 < (a0.size : Int) := of_decide_eq_true (by first | (with_reducible assumption) | assumption)
         have hx14 := bt_at a0 x7_2
         replace p14 := eq_true p14
         replace q14 := eq_true q14
         go_wp2_with (first | ((with_reducible refine xay (f := 144) rfl ?_); refine goesL_ (some 37) rfl rfl Tryd.func144 (by kernel_rfl) rfl #[.int .u8 (bt a0 x7_2)] rfl (by (try simp only [List.map_toArray, List.map_cons, List.map_nil]); first | done | rfl | (simp only [List.length_drop, List.length_take]; rfl)) ?_; (with_reducible refine (r1_letter.calls (bt a0 x7_2) true _ A15.out).mono ?_); rintro e w' ⟨rfl, ⟨nd, rfl⟩⟩; refine ⟨_, rfl, ?_⟩))
         go_roundg k2
         case measure => have := HJ3.out; have := HK2.out; omega
         case rel => exact ⟨(wrap64 (x7_2 + 1)), (by first | rfl | (simp; done) | (simp [*]; done)), H', ⟨by have := HJ3.out; have := HK2.out; omega⟩, by repeat (first | exact Drawn0.refl _ | apply Drawn0.step)⟩
        ·replace c16 := Bool.eq_false_iff.mpr c16
         subst c16
         have H1 : (some false) = some r := by rw [if_neg (show ¬ (false = true) by decide)] at H; exact H
         clear H
         have H := H1
         clear H1
         obtain rfl := Option.some.inj H
         have p14 : 0 ≤ (x7_2 : Int) := of_decide_eq_true (by first | (with_reducible assumption) | assumption)
         have q14 : x7_2 < (a0.size : Int) := of_decide_eq_true (by first | (with_reducible assumption) | assumption)
         have hx14 := bt_at a0 x7_2
         replace p14 := eq_true p14
         replace q14 := eq_true q14
         go_wp2_with (first | ((with_reducible refine xay (f := 144) rfl ?_); refine goesL_ (some 37) rfl rfl Tryd.func144 (by kernel_rfl) rfl #[.int .u8 (bt a0 x7_2)] rfl (by (try simp only [List.map_toArray, List.map_cons, List.map_nil]); first | done | rfl | (simp only [List.length_drop, List.length_take]; rfl)) ?_; (with_reducible refine (r1_letter.calls (bt a0 x7_2) false _ A15.out).mono ?_); rintro e w' ⟨rfl, ⟨nd, rfl⟩⟩; refine ⟨_, rfl, ?_⟩))
         go_ret
         exact ⟨by first | rfl | (simp; done) | (simp [*]; done), by repeat (first | exact Drawn0.refl _ | apply Drawn0.step)⟩
       ·rw [if_neg c13] at H
        exact absurd H (by simp)
      ·rw [if_neg c12] at H
       have c12b0 : decide (x7_2 < (a0.size : Int)) = false := decide_eq_false c12
       clear c12
       obtain rfl := Option.some.inj H
       go_wp2
       go_ret
       exact ⟨by first | rfl | (simp; done) | (simp [*]; done), by repeat (first | exact Drawn0.refl _ | apply Drawn0.step)⟩
def r1_Variable.f (k : Nat) (a0 : ByteArray) : Option (Bool) := (r1_written.f k a0 65 90).bind fun t142 => (some t142)
set_option maxHeartbeats 8000000 in
set_option maxRecDepth 100000 in
theorem r1_Variable.calls (k : Nat) (a0 : ByteArray) (r : Bool) (w : World) (h : r1_Variable.f k a0 = some r) :
  Calls Tryd.prog 130 #[.string a0] w fun e w' => e = .returned (.bool r) ∧ Drawn0 w w' := by
 have H : ((r1_written.f k a0 65 90).bind fun t142 => (some t142)) = some r := h
 clear h
 replace H := Option.bind_eq_some_iff.mp H
 obtain ⟨t142, A20, H⟩ := H
 replace H : (some t142) = some r := H
 have A2 := Aside0.mk A20
 clear A20
 obtain rfl := Option.some.inj H
 go_enter Tryd.func130, Tryd.ntmps130
 go_wp2_with (first | ((with_reducible refine xay (f := 133) rfl ?_); refine goesL_ (some 4) rfl rfl Tryd.func133 (by kernel_rfl) rfl #[.string a0, .int .u8 65, .int .u8 90] rfl (by (try simp only [List.map_toArray, List.map_cons, List.map_nil]); first | done | rfl | (simp only [List.length_drop, List.length_take]; rfl)) ?_; (with_reducible refine (r1_written.calls k a0 65 90 t142 _ A2.out).mono ?_); rintro e w' ⟨rfl, ⟨nd, rfl⟩⟩; refine ⟨_, rfl, ?_⟩))
 go_ret
 exact ⟨by first | rfl | (simp; done) | (simp [*]; done), by repeat (first | exact Drawn0.refl _ | apply Drawn0.step)⟩
end Go.Proofs.YtllcmggmcogokaaDoor.PAll
end
section
namespace Go.Proofs.YtllcmggmcogokaaDoor.PAll
open Go.RowKit Go.Proofs.YtllcmggmcogokaaDoorW.PrintWords Go.Proofs.YtllcmggmcogokaaDoorW.PrintLast Go.Proofs.YtllcmggmcogokaaDoorW.PrintMore
attribute [local go_sem] max2_int min2_int max_two min_two max_three min_three max_four min_four
attribute [local go_sem high] eqA26
def r4_term.f (k : Nat) (a0_0 : ByteArray) (a0_1 : Int) (a0_2 : Int) (a0_3 : ByteArray) : Option (Bool) := if a0_0.toList = ([] : List UInt8) then ((r1_Check.f a0_1 a0_2 a0_3).bind fun t145 => (some (t145 == 0))) else (if a0_0.toList = ([95] : List UInt8) then (some (a0_1 == 0 && (a0_2 == 0 && (a0_3.toList == ([] : List UInt8))))) else ((r1_Variable.f k a0_0).bind fun t146 => (if t146 = true then (some (a0_1 == 0 && (a0_2 == 0 && (a0_3.toList == ([] : List UInt8))))) else (some false))))
set_option maxHeartbeats 8000000 in
set_option maxRecDepth 100000 in
theorem r4_term.calls (k : Nat) (a0_0 : ByteArray) (a0_1 : Int) (a0_2 : Int) (a0_3 : ByteArray) (r : Bool) (w : World) (h : r4_term.f k a0_0 a0_1 a0_2 a0_3 = some r) :
  Calls Tryd.prog 100 #[.agg #[.string a0_0, .int .i8 a0_1, .int .i64 a0_2, .string a0_3]] w fun e w' => e = .returned (.bool r) ∧ Below w.heap.size w w' := by
 have hu28 := Tryd.underlying28
 have hu26 := Tryd.underlying26
 have HB := Aside0.mk (Below.refl w.heap.size w)
 have H : (if a0_0.toList = ([] : List UInt8) then ((r1_Check.f a0_1 a0_2 a0_3).bind fun t145 => (some (t145 == 0))) else (if a0_0.toList = ([95] : List UInt8) then (some (a0_1 == 0 && (a0_2 == 0 && (a0_3.toList == ([] : List UInt8))))) else ((r1_Variable.f k a0_0).bind fun t146 => (if t146 = true then (some (a0_1 == 0 && (a0_2 == 0 && (a0_3.toList == ([] : List UInt8))))) else (some false))))) = some r := h
 clear h
 by_cases c2 : a0_0.toList = ([] : List UInt8)
 ·rw [if_pos c2] at H
  have c2b0 : (a0_0.toList == ([] : List UInt8)) = true := beq_iff_eq.mpr c2
  have c2b1 : (a0_0.toList != ([] : List UInt8)) = false := bne_eq_false_iff_eq.mpr c2
  clear c2
  replace H := Option.bind_eq_some_iff.mp H
  obtain ⟨t145, A30, H⟩ := H
  replace H : (some (t145 == 0)) = some r := H
  have A3 := Aside0.mk A30
  clear A30
  obtain rfl := Option.some.inj H
  go_enter Tryd.func100, Tryd.ntmps100
  go_wp2_with (first | ((with_reducible refine xap (N := 1) rfl ?_); refine xaq ?hg (N := 1) ?hd (cs := #[.string a0_0, .int .i8 a0_1, .int .i64 a0_2, .string a0_3]) (t := 28) ?hr ?_; (case hd => rfl); (case hg => rfl); (case hr => first | (go_simp; done) | (go_simp; rfl)); intro gb143 hg w4 hbox hb; have n0_ := Aside0.mk (xae (by repeat (first | (with_reducible first | exact HB.out | apply xab | apply xaa | apply xac) | exact HB.out)) hb); have n1_ := Aside0.mk (hbox); have n2_ := Aside0.mk ((by rw [hg]; exact (xao (by repeat (first | (with_reducible first | exact HB.out | apply xab | apply xaa | apply xac) | exact HB.out))) : w.heap.size ≤ gb143)); have n3_ := n2_; clear HB; have HB := n0_; have BK143 := n1_; have GW143 := n2_; have GE143 := n3_; clear n0_ n1_ n2_ n3_; clear hb hbox hg) | ((with_reducible refine xap (N := 3) rfl ?_); refine xaq ?hg (N := 3) ?hd (cs := #[.int .i8 0, .int .i64 0, .string (⟨#[]⟩ : ByteArray)]) (t := 26) ?hr ?_; (case hd => rfl); (case hg => rfl); (case hr => first | (go_simp; done) | (go_simp; rfl)); intro gb144 hg w5 hbox hb; have n0_ := Aside0.mk (xak (g := gb143) (o := .cells #[.string a0_0, .int .i8 a0_1, .int .i64 a0_2, .string a0_3] 28 (0, 0)) (by (with_reducible repeat (first | refine xaf ?_ _ | refine xai ?_ | refine xad ?_ _)); exact BK143.out) hb); have n1_ := Aside0.mk (xae (by repeat (first | (with_reducible first | exact HB.out | apply xab | apply xaa | apply xac | refine xah ?_ GE143.out) | exact HB.out)) hb); have n2_ := Aside0.mk (hbox); have n3_ := Aside0.mk ((by rw [hg]; exact (xao (by repeat (first | (with_reducible first | exact HB.out | apply xab | apply xaa | apply xac | refine xah ?_ GE143.out) | exact HB.out))) : w.heap.size ≤ gb144)); have n4_ := n3_; have n5_ := Aside0.mk ((by rw [hg]; exact Nat.ne_of_lt (blk_lt (g := gb143) (o := .cells #[.string a0_0, .int .i8 a0_1, .int .i64 a0_2, .string a0_3] 28 (0, 0)) (by (with_reducible repeat (first | refine xaf ?_ _ | refine xai ?_ | refine xad ?_ _)); exact BK143.out)) : gb143 ≠ gb144)); have n6_ := Aside0.mk ((by rw [hg]; exact Nat.ne_of_gt (blk_lt (g := gb143) (o := .cells #[.string a0_0, .int .i8 a0_1, .int .i64 a0_2, .string a0_3] 28 (0, 0)) (by (with_reducible repeat (first | refine xaf ?_ _ | refine xai ?_ | refine xad ?_ _)); exact BK143.out)) : gb144 ≠ gb143)); clear BK143; clear HB; have BK143 := n0_; have HB := n1_; have BK144 := n2_; have GW144 := n3_; have GE144 := n4_; have NB143_144 := n5_; have NB144_143 := n6_; clear n0_ n1_ n2_ n3_ n4_ n5_ n6_; clear hb hbox hg; have hnb6 := NB144_143.out; have hnc6 := NB143_144.out; obtain ⟨hcz7_0, hcz7_1, hcz7_2⟩ := cz3 BK144.out; obtain ⟨hfz7_0, hfz7_1, hfz7_2⟩ := fz3 BK144.out; obtain ⟨hcz8_0, hcz8_1, hcz8_2, hcz8_3⟩ := cz4 BK143.out; obtain ⟨hfz8_0, hfz8_1, hfz8_2, hfz8_3⟩ := fz4 BK143.out) | ((with_reducible refine xay (f := 13) rfl ?_); refine goesL_ (some 11) rfl rfl Tryd.func13 (by kernel_rfl) rfl #[.agg #[.int .i8 a0_1, .int .i64 a0_2, .string a0_3]] rfl (by (try simp only [List.map_toArray, List.map_cons, List.map_nil]); first | done | rfl | (simp only [List.length_drop, List.length_take]; rfl)) ?_; (with_reducible refine (r1_Check.calls a0_1 a0_2 a0_3 t145 _ A3.out).mono ?_); rintro e w9 ⟨rfl, hb⟩; refine ⟨_, rfl, ?_⟩; have n0_ := Aside0.mk (xak (g := gb143) (o := .cells #[.string a0_0, .int .i8 a0_1, .int .i64 a0_2, .string a0_3] 28 (0, 0)) (by (with_reducible repeat (first | refine xaf ?_ _ | refine xai ?_ | refine xad ?_ _)); refine xax ?_ NB143_144.out _; (with_reducible repeat (first | refine xaf ?_ _ | refine xai ?_ | refine xad ?_ _)); refine xax ?_ NB143_144.out _; (with_reducible repeat (first | refine xaf ?_ _ | refine xai ?_ | refine xad ?_ _)); refine xax ?_ NB143_144.out _; (with_reducible repeat (first | refine xaf ?_ _ | refine xai ?_ | refine xad ?_ _)); exact BK143.out) hb); have n1_ := Aside0.mk (xak (g := gb144) (o := .cells #[.int .i8 0, .int .i64 0, .string (⟨#[]⟩ : ByteArray)] 26 (0, 0)) (by (with_reducible repeat (first | refine xaf ?_ _ | refine xai ?_ | refine xad ?_ _)); refine xas (cs := #[.int .i8 0, .int .i64 0, .string (⟨#[]⟩ : ByteArray)]) ?_ 2 _ rfl; (with_reducible repeat (first | refine xaf ?_ _ | refine xai ?_ | refine xad ?_ _)); refine xas (cs := #[.int .i8 0, .int .i64 0, .string (⟨#[]⟩ : ByteArray)]) ?_ 1 _ rfl; (with_reducible repeat (first | refine xaf ?_ _ | refine xai ?_ | refine xad ?_ _)); refine xas (cs := #[.int .i8 0, .int .i64 0, .string (⟨#[]⟩ : ByteArray)]) ?_ 0 _ rfl; (with_reducible repeat (first | refine xaf ?_ _ | refine xai ?_ | refine xad ?_ _)); exact BK144.out) hb); have n2_ := Aside0.mk (xae (by repeat (first | (with_reducible first | exact HB.out | apply xab | apply xaa | apply xac | refine xah ?_ GE143.out | refine xah ?_ GE144.out) | exact HB.out)) hb); clear BK143; clear BK144; clear HB; have BK143 := n0_; have BK144 := n1_; have HB := n2_; clear n0_ n1_ n2_; (try clear hb); (try clear hb2); (try clear hk); (try clear hi)))
  go_ret
  exact ⟨by first | rfl | (simp [xan, xam] <;> rfl) | (simp [*, xan, xam] <;> rfl), by repeat (first | (with_reducible first | exact HB.out | apply xab | apply xaa | apply xac | refine xah ?_ GE143.out | refine xah ?_ GE144.out) | exact HB.out)⟩
 ·rw [if_neg c2] at H
  have c2b0 : (a0_0.toList == ([] : List UInt8)) = false := beq_eq_false_iff_ne.mpr c2
  have c2b1 : (a0_0.toList != ([] : List UInt8)) = true := bne_iff_ne.mpr c2
  by_cases c10 : a0_0.toList = ([95] : List UInt8)
  ·rw [if_pos c10] at H
   have c10b0 : (a0_0.toList == ([95] : List UInt8)) = true := beq_iff_eq.mpr c10
   have c10b1 : (a0_0.toList != ([95] : List UInt8)) = false := bne_eq_false_iff_eq.mpr c10
   clear c10
   obtain rfl := Option.some.inj H
   go_enter Tryd.func100, Tryd.ntmps100
   go_wp2_with (first | ((with_reducible refine xap (N := 1) rfl ?_); refine xaq ?hg (N := 1) ?hd (cs := #[.string a0_0, .int .i8 a0_1, .int .i64 a0_2, .string a0_3]) (t := 28) ?hr ?_; (case hd => rfl); (case hg => rfl); (case hr => first | (go_simp; done) | (go_simp; rfl)); intro gb143 hg w11 hbox hb; have n0_ := Aside0.mk (xae (by repeat (first | (with_reducible first | exact HB.out | apply xab | apply xaa | apply xac) | exact HB.out)) hb); have n1_ := Aside0.mk (hbox); have n2_ := Aside0.mk ((by rw [hg]; exact (xao (by repeat (first | (with_reducible first | exact HB.out | apply xab | apply xaa | apply xac) | exact HB.out))) : w.heap.size ≤ gb143)); have n3_ := n2_; clear HB; have HB := n0_; have BK143 := n1_; have GW143 := n2_; have GE143 := n3_; clear n0_ n1_ n2_ n3_; clear hb hbox hg) | ((with_reducible refine xap (N := 3) rfl ?_); refine xaq ?hg (N := 3) ?hd (cs := #[.int .i8 0, .int .i64 0, .string (⟨#[]⟩ : ByteArray)]) (t := 26) ?hr ?_; (case hd => rfl); (case hg => rfl); (case hr => first | (go_simp; done) | (go_simp; rfl)); intro gb144 hg w12 hbox hb; have n0_ := Aside0.mk (xak (g := gb143) (o := .cells #[.string a0_0, .int .i8 a0_1, .int .i64 a0_2, .string a0_3] 28 (0, 0)) (by (with_reducible repeat (first | refine xaf ?_ _ | refine xai ?_ | refine xad ?_ _)); exact BK143.out) hb); have n1_ := Aside0.mk (xae (by repeat (first | (with_reducible first | exact HB.out | apply xab | apply xaa | apply xac | refine xah ?_ GE143.out) | exact HB.out)) hb); have n2_ := Aside0.mk (hbox); have n3_ := Aside0.mk ((by rw [hg]; exact (xao (by repeat (first | (with_reducible first | exact HB.out | apply xab | apply xaa | apply xac | refine xah ?_ GE143.out) | exact HB.out))) : w.heap.size ≤ gb144)); have n4_ := n3_; have n5_ := Aside0.mk ((by rw [hg]; exact Nat.ne_of_lt (blk_lt (g := gb143) (o := .cells #[.string a0_0, .int .i8 a0_1, .int .i64 a0_2, .string a0_3] 28 (0, 0)) (by (with_reducible repeat (first | refine xaf ?_ _ | refine xai ?_ | refine xad ?_ _)); exact BK143.out)) : gb143 ≠ gb144)); have n6_ := Aside0.mk ((by rw [hg]; exact Nat.ne_of_gt (blk_lt (g := gb143) (o := .cells #[.string a0_0, .int .i8 a0_1, .int .i64 a0_2, .string a0_3] 28 (0, 0)) (by (with_reducible repeat (first | refine xaf ?_ _ | refine xai ?_ | refine xad ?_ _)); exact BK143.out)) : gb144 ≠ gb143)); clear BK143; clear HB; have BK143 := n0_; have HB := n1_; have BK144 := n2_; have GW144 := n3_; have GE144 := n4_; have NB143_144 := n5_; have NB144_143 := n6_; clear n0_ n1_ n2_ n3_ n4_ n5_ n6_; clear hb hbox hg; have hnb13 := NB144_143.out; have hnc13 := NB143_144.out; obtain ⟨hcz14_0, hcz14_1, hcz14_2⟩ := cz3 BK144.out; obtain ⟨hfz14_0, hfz14_1, hfz14_2⟩ := fz3 BK144.out; obtain ⟨hcz15_0, hcz15_1, hcz15_2, hcz15_3⟩ := cz4 BK143.out; obtain ⟨hfz15_0, hfz15_1, hfz15_2, hfz15_3⟩ := fz4 BK143.out))
   go_ret
   exact ⟨by first | rfl | (simp [xan, xam] <;> rfl) | (simp [*, xan, xam] <;> rfl), by repeat (first | (with_reducible first | exact HB.out | apply xab | apply xaa | apply xac | refine xah ?_ GE143.out | refine xah ?_ GE144.out) | exact HB.out)⟩
  ·rw [if_neg c10] at H
   have c10b0 : (a0_0.toList == ([95] : List UInt8)) = false := beq_eq_false_iff_ne.mpr c10
   have c10b1 : (a0_0.toList != ([95] : List UInt8)) = true := bne_iff_ne.mpr c10
   replace H := Option.bind_eq_some_iff.mp H
   obtain ⟨t146, A160, H⟩ := H
   replace H : (if t146 = true then (some (a0_1 == 0 && (a0_2 == 0 && (a0_3.toList == ([] : List UInt8))))) else (some false)) = some r := H
   have A16 := Aside0.mk A160
   clear A160
   by_cases c17 : t146 = true
   ·subst c17
    have H1 : (some (a0_1 == 0 && (a0_2 == 0 && (a0_3.toList == ([] : List UInt8))))) = some r := by rw [if_pos rfl] at H; exact H
    clear H
    have H := H1
    clear H1
    obtain rfl := Option.some.inj H
    go_enter Tryd.func100, Tryd.ntmps100
    go_wp2_with (first | ((with_reducible refine xap (N := 1) rfl ?_); refine xaq ?hg (N := 1) ?hd (cs := #[.string a0_0, .int .i8 a0_1, .int .i64 a0_2, .string a0_3]) (t := 28) ?hr ?_; (case hd => rfl); (case hg => rfl); (case hr => first | (go_simp; done) | (go_simp; rfl)); intro gb143 hg w18 hbox hb; have n0_ := Aside0.mk (xae (by repeat (first | (with_reducible first | exact HB.out | apply xab | apply xaa | apply xac) | exact HB.out)) hb); have n1_ := Aside0.mk (hbox); have n2_ := Aside0.mk ((by rw [hg]; exact (xao (by repeat (first | (with_reducible first | exact HB.out | apply xab | apply xaa | apply xac) | exact HB.out))) : w.heap.size ≤ gb143)); have n3_ := n2_; clear HB; have HB := n0_; have BK143 := n1_; have GW143 := n2_; have GE143 := n3_; clear n0_ n1_ n2_ n3_; clear hb hbox hg) | ((with_reducible refine xap (N := 3) rfl ?_); refine xaq ?hg (N := 3) ?hd (cs := #[.int .i8 0, .int .i64 0, .string (⟨#[]⟩ : ByteArray)]) (t := 26) ?hr ?_; (case hd => rfl); (case hg => rfl); (case hr => first | (go_simp; done) | (go_simp; rfl)); intro gb144 hg w19 hbox hb; have n0_ := Aside0.mk (xak (g := gb143) (o := .cells #[.string a0_0, .int .i8 a0_1, .int .i64 a0_2, .string a0_3] 28 (0, 0)) (by (with_reducible repeat (first | refine xaf ?_ _ | refine xai ?_ | refine xad ?_ _)); exact BK143.out) hb); have n1_ := Aside0.mk (xae (by repeat (first | (with_reducible first | exact HB.out | apply xab | apply xaa | apply xac | refine xah ?_ GE143.out) | exact HB.out)) hb); have n2_ := Aside0.mk (hbox); have n3_ := Aside0.mk ((by rw [hg]; exact (xao (by repeat (first | (with_reducible first | exact HB.out | apply xab | apply xaa | apply xac | refine xah ?_ GE143.out) | exact HB.out))) : w.heap.size ≤ gb144)); have n4_ := n3_; have n5_ := Aside0.mk ((by rw [hg]; exact Nat.ne_of_lt (blk_lt (g := gb143) (o := .cells #[.string a0_0, .int .i8 a0_1, .int .i64 a0_2, .string a0_3] 28 (0, 0)) (by (with_reducible repeat (first | refine xaf ?_ _ | refine xai ?_ | refine xad ?_ _)); exact BK143.out)) : gb143 ≠ gb144)); have n6_ := Aside0.mk ((by rw [hg]; exact Nat.ne_of_gt (blk_lt (g := gb143) (o := .cells #[.string a0_0, .int .i8 a0_1, .int .i64 a0_2, .string a0_3] 28 (0, 0)) (by (with_reducible repeat (first | refine xaf ?_ _ | refine xai ?_ | refine xad ?_ _)); exact BK143.out)) : gb144 ≠ gb143)); clear BK143; clear HB; have BK143 := n0_; have HB := n1_; have BK144 := n2_; have GW144 := n3_; have GE144 := n4_; have NB143_144 := n5_; have NB144_143 := n6_; clear n0_ n1_ n2_ n3_ n4_ n5_ n6_; clear hb hbox hg; have hnb20 := NB144_143.out; have hnc20 := NB143_144.out; obtain ⟨hcz21_0, hcz21_1, hcz21_2⟩ := cz3 BK144.out; obtain ⟨hfz21_0, hfz21_1, hfz21_2⟩ := fz3 BK144.out; obtain ⟨hcz22_0, hcz22_1, hcz22_2, hcz22_3⟩ := cz4 BK143.out; obtain ⟨hfz22_0, hfz22_1, hfz22_2, hfz22_3⟩ := fz4 BK143.out) | ((with_reducible refine xay (f := 130) rfl ?_); refine goesL_ (some 21) rfl rfl Tryd.func130 (by kernel_rfl) rfl #[.string a0_0] rfl (by (try simp only [List.map_toArray, List.map_cons, List.map_nil]); first | done | rfl | (simp only [List.length_drop, List.length_take]; rfl)) ?_; (with_reducible refine (r1_Variable.calls k a0_0 true _ A16.out).mono ?_); rintro e w' ⟨rfl, ⟨nd, rfl⟩⟩; refine ⟨_, rfl, ?_⟩))
    go_ret
    exact ⟨by first | rfl | (simp [xan, xam] <;> rfl) | (simp [*, xan, xam] <;> rfl), by repeat (first | (with_reducible first | exact HB.out | apply xab | apply xaa | apply xac | refine xah ?_ GE143.out | refine xah ?_ GE144.out) | exact HB.out)⟩
   ·replace c17 := Bool.eq_false_iff.mpr c17
    subst c17
    have H1 : (some false) = some r := by rw [if_neg (show ¬ (false = true) by decide)] at H; exact H
    clear H
    have H := H1
    clear H1
    obtain rfl := Option.some.inj H
    go_enter Tryd.func100, Tryd.ntmps100
    go_wp2_with (first | ((with_reducible refine xap (N := 1) rfl ?_); refine xaq ?hg (N := 1) ?hd (cs := #[.string a0_0, .int .i8 a0_1, .int .i64 a0_2, .string a0_3]) (t := 28) ?hr ?_; (case hd => rfl); (case hg => rfl); (case hr => first | (go_simp; done) | (go_simp; rfl)); intro gb143 hg w23 hbox hb; have n0_ := Aside0.mk (xae (by repeat (first | (with_reducible first | exact HB.out | apply xab | apply xaa | apply xac) | exact HB.out)) hb); have n1_ := Aside0.mk (hbox); have n2_ := Aside0.mk ((by rw [hg]; exact (xao (by repeat (first | (with_reducible first | exact HB.out | apply xab | apply xaa | apply xac) | exact HB.out))) : w.heap.size ≤ gb143)); have n3_ := n2_; clear HB; have HB := n0_; have BK143 := n1_; have GW143 := n2_; have GE143 := n3_; clear n0_ n1_ n2_ n3_; clear hb hbox hg) | ((with_reducible refine xap (N := 3) rfl ?_); refine xaq ?hg (N := 3) ?hd (cs := #[.int .i8 0, .int .i64 0, .string (⟨#[]⟩ : ByteArray)]) (t := 26) ?hr ?_; (case hd => rfl); (case hg => rfl); (case hr => first | (go_simp; done) | (go_simp; rfl)); intro gb144 hg w24 hbox hb; have n0_ := Aside0.mk (xak (g := gb143) (o := .cells #[.string a0_0, .int .i8 a0_1, .int .i64 a0_2, .string a0_3] 28 (0, 0)) (by (with_reducible repeat (first | refine xaf ?_ _ | refine xai ?_ | refine xad ?_ _)); exact BK143.out) hb); have n1_ := Aside0.mk (xae (by repeat (first | (with_reducible first | exact HB.out | apply xab | apply xaa | apply xac | refine xah ?_ GE143.out) | exact HB.out)) hb); have n2_ := Aside0.mk (hbox); have n3_ := Aside0.mk ((by rw [hg]; exact (xao (by repeat (first | (with_reducible first | exact HB.out | apply xab | apply xaa | apply xac | refine xah ?_ GE143.out) | exact HB.out))) : w.heap.size ≤ gb144)); have n4_ := n3_; have n5_ := Aside0.mk ((by rw [hg]; exact Nat.ne_of_lt (blk_lt (g := gb143) (o := .cells #[.string a0_0, .int .i8 a0_1, .int .i64 a0_2, .string a0_3] 28 (0, 0)) (by (with_reducible repeat (first | refine xaf ?_ _ | refine xai ?_ | refine xad ?_ _)); exact BK143.out)) : gb143 ≠ gb144)); have n6_ := Aside0.mk ((by rw [hg]; exact Nat.ne_of_gt (blk_lt (g := gb143) (o := .cells #[.string a0_0, .int .i8 a0_1, .int .i64 a0_2, .string a0_3] 28 (0, 0)) (by (with_reducible repeat (first | refine xaf ?_ _ | refine xai ?_ | refine xad ?_ _)); exact BK143.out)) : gb144 ≠ gb143)); clear BK143; clear HB; have BK143 := n0_; have HB := n1_; have BK144 := n2_; have GW144 := n3_; have GE144 := n4_; have NB143_144 := n5_; have NB144_143 := n6_; clear n0_ n1_ n2_ n3_ n4_ n5_ n6_; clear hb hbox hg; have hnb25 := NB144_143.out; have hnc25 := NB143_144.out; obtain ⟨hcz26_0, hcz26_1, hcz26_2⟩ := cz3 BK144.out; obtain ⟨hfz26_0, hfz26_1, hfz26_2⟩ := fz3 BK144.out; obtain ⟨hcz27_0, hcz27_1, hcz27_2, hcz27_3⟩ := cz4 BK143.out; obtain ⟨hfz27_0, hfz27_1, hfz27_2, hfz27_3⟩ := fz4 BK143.out) | ((with_reducible refine xay (f := 130) rfl ?_); refine goesL_ (some 21) rfl rfl Tryd.func130 (by kernel_rfl) rfl #[.string a0_0] rfl (by (try simp only [List.map_toArray, List.map_cons, List.map_nil]); first | done | rfl | (simp only [List.length_drop, List.length_take]; rfl)) ?_; (with_reducible refine (r1_Variable.calls k a0_0 false _ A16.out).mono ?_); rintro e w' ⟨rfl, ⟨nd, rfl⟩⟩; refine ⟨_, rfl, ?_⟩))
    go_ret
    exact ⟨by first | rfl | (simp [xan, xam] <;> rfl) | (simp [*, xan, xam] <;> rfl), by repeat (first | (with_reducible first | exact HB.out | apply xab | apply xaa | apply xac | refine xah ?_ GE143.out | refine xah ?_ GE144.out) | exact HB.out)⟩
end Go.Proofs.YtllcmggmcogokaaDoor.PAll
end
section
namespace Go.Proofs.YtllcmggmcogokaaDoor.PAll
open Go.RowKit Go.Proofs.YtllcmggmcogokaaDoorW.PrintWords Go.Proofs.YtllcmggmcogokaaDoorW.PrintLast Go.Proofs.YtllcmggmcogokaaDoorW.PrintMore
attribute [local go_sem] max2_int min2_int max_two min_two max_three min_three max_four min_four
def r4_kids.j0 : Nat → Int → Bool → Option (Int)
 | 0, _, _ => none
 | k + 1, x0, x3 => if x3 = true then (some 1) else (if x0 ≥ 2 then (if x0 ≤ 7 then (some 2) else (some (-1))) else (some (-1)))
def r4_kids.f (k : Nat) (a0 : Int) : Option (Int) := if a0 = 1 then (r4_kids.j0 k a0 true) else (if a0 ≥ 8 then (r4_kids.j0 k a0 (decide (a0 ≤ 10))) else (r4_kids.j0 k a0 false))
set_option maxHeartbeats 8000000 in
set_option maxRecDepth 100000 in
theorem r4_kids.calls (k : Nat) (a0 : Int) (r : Int) (w : World) (h : r4_kids.f k a0 = some r) :
  Calls Tryd.prog 101 #[.int .i8 a0] w fun e w' => e = .returned (.int .i64 r) ∧ Drawn0 w w' := by
 have H : (if a0 = 1 then (r4_kids.j0 k a0 true) else (if a0 ≥ 8 then (r4_kids.j0 k a0 (decide (a0 ≤ 10))) else (r4_kids.j0 k a0 false))) = some r := h
 clear h
 have HC2 := Aside0.mk H
 clear H
 go_enter Tryd.func101, Tryd.ntmps101
 go_upto_region 1 with (fail)
 go_cut [3] (fun v3 wc => ∃ (kq : Nat) (x3_1 : Bool), v3 = .bool x3_1 ∧ Aside0 (r4_kids.j0 kq a0 x3_1 = some r) ∧ Aside0 (kq ≤ k) ∧ Drawn0 w wc)
 case first =>
  have H := HC2.out
  clear HC2
  by_cases c3 : a0 = 1
  ·rw [if_pos c3] at H
   have c3b0 : (a0 == 1) = true := beq_iff_eq.mpr c3
   have c3b1 : (a0 != 1) = false := bne_eq_false_iff_eq.mpr c3
   clear c3
   (first | rw [c3b0] | (simp only [i64_w, i32_w]; rw [c3b0]) | skip)
   have H' := Aside0.mk H
   clear H
   go_wp2
   go_meet
   case rel => exact ⟨_, (true), (by first | rfl | (simp; done) | (simp [*]; done)), H', ⟨by first | omega | exact Nat.le_refl _⟩, by repeat (first | exact Drawn0.refl _ | apply Drawn0.step)⟩
  ·rw [if_neg c3] at H
   have c3b0 : (a0 == 1) = false := beq_eq_false_iff_ne.mpr c3
   have c3b1 : (a0 != 1) = true := bne_iff_ne.mpr c3
   (first | rw [c3b0] | (simp only [i64_w, i32_w]; rw [c3b0]) | skip)
   by_cases c4 : a0 ≥ 8
   ·rw [if_pos c4] at H
    have c4b0 : decide (8 ≤ a0) = true := decide_eq_true c4
    clear c4
    have H' := Aside0.mk H
    clear H
    go_wp2
    go_meet
    case rel => exact ⟨_, (decide (a0 ≤ 10)), (by first | rfl | (simp; done) | (simp [*]; done)), H', ⟨by first | omega | exact Nat.le_refl _⟩, by repeat (first | exact Drawn0.refl _ | apply Drawn0.step)⟩
   ·rw [if_neg c4] at H
    have c4b0 : decide (8 ≤ a0) = false := decide_eq_false c4
    clear c4
    have H' := Aside0.mk H
    clear H
    go_wp2
    go_meet
    case rel => exact ⟨_, (false), (by first | rfl | (simp; done) | (simp [*]; done)), H', ⟨by first | omega | exact Nat.le_refl _⟩, by repeat (first | exact Drawn0.refl _ | apply Drawn0.step)⟩
 case rest =>
  clear HC2
  try clear c1
  try clear p2
  try clear c3
  try clear c3b0
  try clear c3b1
  try clear c4
  try clear c4b0
  obtain ⟨kq, x3_1, rfl, HA, HJ1, ⟨mc1, rfl⟩⟩ := hcut
  cases kq with
  | zero => exact absurd HA.out (by simp [r4_kids.j0])
  | succ kj1 =>
   have H := HA.out
   clear HA
   simp only [r4_kids.j0] at H
   by_cases c5 : x3_1 = true
   ·subst c5
    have H1 : (some 1) = some r := by rw [if_pos rfl] at H; exact H
    clear H
    have H := H1
    clear H1
    obtain rfl := Option.some.inj H
    go_wp2
    go_ret
    exact ⟨by first | rfl | (simp; done) | (simp [*]; done), by repeat (first | exact Drawn0.refl _ | apply Drawn0.step)⟩
   ·replace c5 := Bool.eq_false_iff.mpr c5
    subst c5
    have H1 : (if a0 ≥ 2 then (if a0 ≤ 7 then (some 2) else (some (-1))) else (some (-1))) = some r := by rw [if_neg (show ¬ (false = true) by decide)] at H; exact H
    clear H
    have H := H1
    clear H1
    by_cases c6 : a0 ≥ 2
    ·rw [if_pos c6] at H
     have c6b0 : decide (2 ≤ a0) = true := decide_eq_true c6
     clear c6
     by_cases c7 : a0 ≤ 7
     ·rw [if_pos c7] at H
      have c7b0 : decide (a0 ≤ 7) = true := decide_eq_true c7
      clear c7
      obtain rfl := Option.some.inj H
      go_wp2
      go_ret
      exact ⟨by first | rfl | (simp; done) | (simp [*]; done), by repeat (first | exact Drawn0.refl _ | apply Drawn0.step)⟩
     ·rw [if_neg c7] at H
      have c7b0 : decide (a0 ≤ 7) = false := decide_eq_false c7
      clear c7
      obtain rfl := Option.some.inj H
      go_wp2
      go_ret
      exact ⟨by first | rfl | (simp; done) | (simp [*]; done), by repeat (first | exact Drawn0.refl _ | apply Drawn0.step)⟩
    ·rw [if_neg c6] at H
     have c6b0 : decide (2 ≤ a0) = false := decide_eq_false c6
     clear c6
     obtain rfl := Option.some.inj H
     go_wp2
     go_ret
     exact ⟨by first | rfl | (simp; done) | (simp [*]; done), by repeat (first | exact Drawn0.refl _ | apply Drawn0.step)⟩
end Go.Proofs.YtllcmggmcogokaaDoor.PAll
end
section
namespace Go.Proofs.YtllcmggmcogokaaDoor.PAll
open Go.RowKit Go.Proofs.YtllcmggmcogokaaDoorW.PrintWords Go.Proofs.YtllcmggmcogokaaDoorW.PrintLast Go.Proofs.YtllcmggmcogokaaDoorW.PrintMore
attribute [local go_sem] max2_int min2_int max_two min_two max_three min_three max_four min_four
attribute [local go_sem high] eqA28
mutual
def r4_expr.j0 : Nat → Int → Bool → Int → ByteArray → Int → Int → ByteArray → List (S31) → Option (Bool)
 | 0, _, _, _, _, _, _, _, _ => none
 | k + 1, x1, x40, x148000, x148001, x148002, x148003, x148004, x148005 => if x40 = true then (some false) else (r4_expr.l0 k x1 0 x148000 x148001 x148002 x148003 x148004 x148005)
def r4_expr.l0 : Nat → Int → Int → Int → ByteArray → Int → Int → ByteArray → List (S31) → Option (Bool)
 | 0, _, _, _, _, _, _, _, _ => none
 | k + 1, x1, x6, x148000, x148001, x148002, x148003, x148004, x148005 => if x6 < (x148005.length : Int) then (if 0 ≤ x6 then ((r4_expr.f k ((rd_T31 x148005 x6).f0) ((rd_T31 x148005 x6).f1.f0) ((rd_T31 x148005 x6).f1.f1.f0) ((rd_T31 x148005 x6).f1.f1.f1) ((rd_T31 x148005 x6).f1.f1.f2) ((rd_T31 x148005 x6).f2) (wrap64 (x1 - 1))).bind fun t152 => (if t152 = true then (r4_expr.l0 k x1 (wrap64 (x6 + 1)) x148000 x148001 x148002 x148003 x148004 x148005) else (some false))) else (none)) else (some true)
def r4_expr.f : Nat → Int → ByteArray → Int → Int → ByteArray → List (S31) → Int → Option (Bool)
 | 0, _, _, _, _, _, _, _ => none
 | k + 1, a0_0, a0_1, a0_2, a0_3, a0_4, l0_5, a1 => if a1 = 0 then (some false) else (if a0_0 = 0 then (if (l0_5.length : Int) = 0 then (if a0_1.toList = ([95] : List UInt8) then (some false) else ((r4_term.f k a0_1 a0_2 a0_3 a0_4).bind fun t148 => (some t148))) else (some false)) else (if (!(a0_1.toList == ([] : List UInt8)) || ((!(a0_2 == 0) || (!(a0_3 == 0) || (!(a0_4.toList == ([] : List UInt8))))))) = true then (r4_expr.j0 k a1 true a0_0 a0_1 a0_2 a0_3 a0_4 l0_5) else ((r4_kids.f k a0_0).bind fun t150 => (r4_expr.j0 k a1 ((l0_5.length : Int) != t150) a0_0 a0_1 a0_2 a0_3 a0_4 l0_5))))
end
end Go.Proofs.YtllcmggmcogokaaDoor.PAll
end
