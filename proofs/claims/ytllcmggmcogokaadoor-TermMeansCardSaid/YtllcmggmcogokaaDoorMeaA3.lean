-- Written by programs of this work and by hand, joined by a program. Lean checks it.
import Derived.Lib.BufferWrite
import Derived.Laws.RangeAny
import Derived.Laws.OwnMore
import Derived.Laws.BytesString
import Derived.Laws.CopyOwn
import Derived.Laws.DeepStrings4
import Derived.Maps.OwnOps
import Derived.Maps.OwnSet
import Derived.Lib.LaidTab
import Derived.WalkSmall
import Derived.Recover
import Derived.Defers
import Derived.Test.YtllcmggmcogokaaDoorMeaA2
set_option linter.unusedVariables false
set_option linter.unusedSimpArgs false
section
namespace Go.Proofs.YtllcmggmcogokaaDoor.PAll
open Go.RowKit Go.Proofs.YtllcmggmcogokaaDoorW.PrintWords Go.Proofs.YtllcmggmcogokaaDoorW.PrintLast Go.Proofs.YtllcmggmcogokaaDoorW.PrintMore
attribute [local go_sem] max2_int min2_int max_two min_two max_three min_three max_four min_four
attribute [local go_sem high] eqA28
set_option maxHeartbeats 8000000 in
set_option maxRecDepth 100000 in
theorem r4_expr.calls (k : Nat) : ∀ (a0_0 : Int) (a0_1 : ByteArray) (a0_2 : Int) (a0_3 : Int) (a0_4 : ByteArray) (A0_5 : Option Addr) (c0_5 : Nat) (l0_5 : List (S31)) (a1 : Int) (r : Bool) (w : World) (hr0_5 : Kd.C k31 w A0_5 l0_5.length l0_5) (hc0_5 : l0_5.length ≤ c0_5) (h : r4_expr.f k a0_0 a0_1 a0_2 a0_3 a0_4 l0_5 a1 = some r),
  Calls Tryd.prog 55 #[.agg #[.int .i8 a0_0, .string a0_1, .int .i8 a0_2, .int .i64 a0_3, .string a0_4, .slice A0_5 l0_5.length c0_5], .int .i64 a1] w fun e w' => e = .returned (.bool r) ∧ Below w.heap.size w w' := by
 induction k using Nat.strongRecOn with
 | _ k ih =>
 intro a0_0 a0_1 a0_2 a0_3 a0_4 A0_5 c0_5 l0_5 a1 r w hr0_5 hc0_5 h
 cases k with
 | zero => exact absurd h (by simp [r4_expr.f])
 | succ k =>
 simp only [r4_expr.f] at h
 have hu31 := Tryd.underlying31
 have hu28 := Tryd.underlying28
 have HR0_5 := Aside0.mk hr0_5
 have HC0_5 := Aside0.mk hc0_5
 clear hr0_5 hc0_5
 have HB := Aside0.mk (Below.refl w.heap.size w)
 have H : (if a1 = 0 then (some false) else (if a0_0 = 0 then (if (l0_5.length : Int) = 0 then (if a0_1.toList = ([95] : List UInt8) then (some false) else ((r4_term.f k a0_1 a0_2 a0_3 a0_4).bind fun t148 => (some t148))) else (some false)) else (if (!(a0_1.toList == ([] : List UInt8)) || ((!(a0_2 == 0) || (!(a0_3 == 0) || (!(a0_4.toList == ([] : List UInt8))))))) = true then (r4_expr.j0 k a1 true a0_0 a0_1 a0_2 a0_3 a0_4 l0_5) else ((r4_kids.f k a0_0).bind fun t150 => (r4_expr.j0 k a1 ((l0_5.length : Int) != t150) a0_0 a0_1 a0_2 a0_3 a0_4 l0_5))))) = some r := h
 clear h
 by_cases c3 : a1 = 0
 ·rw [if_pos c3] at H
  have c3b0 : (a1 == 0) = true := beq_iff_eq.mpr c3
  have c3b1 : (a1 != 0) = false := bne_eq_false_iff_eq.mpr c3
  clear c3
  obtain rfl := Option.some.inj H
  go_enter Tryd.func55, Tryd.ntmps55
  go_wp2_with (first | ((with_reducible refine xap (N := 2) rfl ?_); (try (refine xat (by rfl) ?_; dsimp only)); refine xaq ?hg (N := 2) ?hd (cs := #[.int .i8 a0_0, .string a0_1, .int .i8 a0_2, .int .i64 a0_3, .string a0_4, .slice A0_5 l0_5.length c0_5]) (t := 31) ?hr ?_; (case hd => rfl); (case hg => rfl); (case hr => first | (go_simp; done) | (go_simp; rfl)); intro gb147 hg w4 hbox hb; have n0_ := Aside0.mk (xae (by repeat (first | (with_reducible first | exact HB.out | apply xab | apply xaa | apply xac) | exact HB.out)) hb); have n1_ := Aside0.mk (hbox); have n2_ := Aside0.mk ((by rw [hg]; exact (xao (by repeat (first | (with_reducible first | exact HB.out | apply xab | apply xaa | apply xac) | exact HB.out))) : w.heap.size ≤ gb147)); have n3_ := n2_; clear HB; have HB := n0_; have BK147 := n1_; have GW147 := n2_; have GE147 := n3_; clear n0_ n1_ n2_ n3_; clear hb hbox hg))
  repeat (go_quiet (first | ((with_reducible refine xap (N := 2) rfl ?_); (try (refine xat (by rfl) ?_; dsimp only)); refine xaq ?hg (N := 2) ?hd (cs := #[.int .i8 a0_0, .string a0_1, .int .i8 a0_2, .int .i64 a0_3, .string a0_4, .slice A0_5 l0_5.length c0_5]) (t := 31) ?hr ?_; (case hd => rfl); (case hg => rfl); (case hr => first | (go_simp; done) | (go_simp; rfl)); intro gb147 hg w4 hbox hb; have n0_ := Aside0.mk (xae (by repeat (first | (with_reducible first | exact HB.out | apply xab | apply xaa | apply xac) | exact HB.out)) hb); have n1_ := Aside0.mk (hbox); have n2_ := Aside0.mk ((by rw [hg]; exact (xao (by repeat (first | (with_reducible first | exact HB.out | apply xab | apply xaa | apply xac) | exact HB.out))) : w.heap.size ≤ gb147)); have n3_ := n2_; clear HB; have HB := n0_; have BK147 := n1_; have GW147 := n2_; have GE147 := n3_; clear n0_ n1_ n2_ n3_; clear hb hbox hg)); try go_wp2_with (first | ((with_reducible refine xap (N := 2) rfl ?_); (try (refine xat (by rfl) ?_; dsimp only)); refine xaq ?hg (N := 2) ?hd (cs := #[.int .i8 a0_0, .string a0_1, .int .i8 a0_2, .int .i64 a0_3, .string a0_4, .slice A0_5 l0_5.length c0_5]) (t := 31) ?hr ?_; (case hd => rfl); (case hg => rfl); (case hr => first | (go_simp; done) | (go_simp; rfl)); intro gb147 hg w4 hbox hb; have n0_ := Aside0.mk (xae (by repeat (first | (with_reducible first | exact HB.out | apply xab | apply xaa | apply xac) | exact HB.out)) hb); have n1_ := Aside0.mk (hbox); have n2_ := Aside0.mk ((by rw [hg]; exact (xao (by repeat (first | (with_reducible first | exact HB.out | apply xab | apply xaa | apply xac) | exact HB.out))) : w.heap.size ≤ gb147)); have n3_ := n2_; clear HB; have HB := n0_; have BK147 := n1_; have GW147 := n2_; have GE147 := n3_; clear n0_ n1_ n2_ n3_; clear hb hbox hg)))
  go_ret
  exact ⟨by first | rfl | (simp [xan, xam] <;> rfl) | (simp [*, xan, xam] <;> rfl), by repeat (first | (with_reducible first | exact HB.out | apply xab | apply xaa | apply xac | refine xah ?_ GE147.out) | exact HB.out)⟩
 ·rw [if_neg c3] at H
  have c3b0 : (a1 == 0) = false := beq_eq_false_iff_ne.mpr c3
  have c3b1 : (a1 != 0) = true := bne_iff_ne.mpr c3
  by_cases c5 : a0_0 = 0
  ·rw [if_pos c5] at H
   have c5b0 : (a0_0 == 0) = true := beq_iff_eq.mpr c5
   have c5b1 : (a0_0 != 0) = false := bne_eq_false_iff_eq.mpr c5
   clear c5
   by_cases c6 : (l0_5.length : Int) = 0
   ·rw [if_pos c6] at H
    have c6b0 : ((l0_5.length : Int) == 0) = true := beq_iff_eq.mpr c6
    have c6b1 : ((l0_5.length : Int) != 0) = false := bne_eq_false_iff_eq.mpr c6
    clear c6
    by_cases c7 : a0_1.toList = ([95] : List UInt8)
    ·rw [if_pos c7] at H
     have c7b0 : (a0_1.toList == ([95] : List UInt8)) = true := beq_iff_eq.mpr c7
     have c7b1 : (a0_1.toList != ([95] : List UInt8)) = false := bne_eq_false_iff_eq.mpr c7
     clear c7
     obtain rfl := Option.some.inj H
     go_enter Tryd.func55, Tryd.ntmps55
     go_wp2_with (first | ((with_reducible refine xap (N := 2) rfl ?_); (try (refine xat (by rfl) ?_; dsimp only)); refine xaq ?hg (N := 2) ?hd (cs := #[.int .i8 a0_0, .string a0_1, .int .i8 a0_2, .int .i64 a0_3, .string a0_4, .slice A0_5 l0_5.length c0_5]) (t := 31) ?hr ?_; (case hd => rfl); (case hg => rfl); (case hr => first | (go_simp; done) | (go_simp; rfl)); intro gb147 hg w8 hbox hb; have n0_ := Aside0.mk (xae (by repeat (first | (with_reducible first | exact HB.out | apply xab | apply xaa | apply xac) | exact HB.out)) hb); have n1_ := Aside0.mk (hbox); have n2_ := Aside0.mk ((by rw [hg]; exact (xao (by repeat (first | (with_reducible first | exact HB.out | apply xab | apply xaa | apply xac) | exact HB.out))) : w.heap.size ≤ gb147)); have n3_ := n2_; clear HB; have HB := n0_; have BK147 := n1_; have GW147 := n2_; have GE147 := n3_; clear n0_ n1_ n2_ n3_; clear hb hbox hg; obtain ⟨hcz9_0, hcz9_1, hcz9_2, hcz9_3, hcz9_4, hcz9_5⟩ := cz6 BK147.out; obtain ⟨hfz9_0, hfz9_1, hfz9_2, hfz9_3, hfz9_4, hfz9_5⟩ := fz6 BK147.out))
     repeat (go_quiet (first | ((with_reducible refine xap (N := 2) rfl ?_); (try (refine xat (by rfl) ?_; dsimp only)); refine xaq ?hg (N := 2) ?hd (cs := #[.int .i8 a0_0, .string a0_1, .int .i8 a0_2, .int .i64 a0_3, .string a0_4, .slice A0_5 l0_5.length c0_5]) (t := 31) ?hr ?_; (case hd => rfl); (case hg => rfl); (case hr => first | (go_simp; done) | (go_simp; rfl)); intro gb147 hg w8 hbox hb; have n0_ := Aside0.mk (xae (by repeat (first | (with_reducible first | exact HB.out | apply xab | apply xaa | apply xac) | exact HB.out)) hb); have n1_ := Aside0.mk (hbox); have n2_ := Aside0.mk ((by rw [hg]; exact (xao (by repeat (first | (with_reducible first | exact HB.out | apply xab | apply xaa | apply xac) | exact HB.out))) : w.heap.size ≤ gb147)); have n3_ := n2_; clear HB; have HB := n0_; have BK147 := n1_; have GW147 := n2_; have GE147 := n3_; clear n0_ n1_ n2_ n3_; clear hb hbox hg; obtain ⟨hcz9_0, hcz9_1, hcz9_2, hcz9_3, hcz9_4, hcz9_5⟩ := cz6 BK147.out; obtain ⟨hfz9_0, hfz9_1, hfz9_2, hfz9_3, hfz9_4, hfz9_5⟩ := fz6 BK147.out)); try go_wp2_with (first | ((with_reducible refine xap (N := 2) rfl ?_); (try (refine xat (by rfl) ?_; dsimp only)); refine xaq ?hg (N := 2) ?hd (cs := #[.int .i8 a0_0, .string a0_1, .int .i8 a0_2, .int .i64 a0_3, .string a0_4, .slice A0_5 l0_5.length c0_5]) (t := 31) ?hr ?_; (case hd => rfl); (case hg => rfl); (case hr => first | (go_simp; done) | (go_simp; rfl)); intro gb147 hg w8 hbox hb; have n0_ := Aside0.mk (xae (by repeat (first | (with_reducible first | exact HB.out | apply xab | apply xaa | apply xac) | exact HB.out)) hb); have n1_ := Aside0.mk (hbox); have n2_ := Aside0.mk ((by rw [hg]; exact (xao (by repeat (first | (with_reducible first | exact HB.out | apply xab | apply xaa | apply xac) | exact HB.out))) : w.heap.size ≤ gb147)); have n3_ := n2_; clear HB; have HB := n0_; have BK147 := n1_; have GW147 := n2_; have GE147 := n3_; clear n0_ n1_ n2_ n3_; clear hb hbox hg; obtain ⟨hcz9_0, hcz9_1, hcz9_2, hcz9_3, hcz9_4, hcz9_5⟩ := cz6 BK147.out; obtain ⟨hfz9_0, hfz9_1, hfz9_2, hfz9_3, hfz9_4, hfz9_5⟩ := fz6 BK147.out)))
     go_ret
     exact ⟨by first | rfl | (simp [xan, xam] <;> rfl) | (simp [*, xan, xam] <;> rfl), by repeat (first | (with_reducible first | exact HB.out | apply xab | apply xaa | apply xac | refine xah ?_ GE147.out) | exact HB.out)⟩
    ·rw [if_neg c7] at H
     have c7b0 : (a0_1.toList == ([95] : List UInt8)) = false := beq_eq_false_iff_ne.mpr c7
     have c7b1 : (a0_1.toList != ([95] : List UInt8)) = true := bne_iff_ne.mpr c7
     replace H := Option.bind_eq_some_iff.mp H
     obtain ⟨t148, A100, H⟩ := H
     replace H : (some t148) = some r := H
     have A10 := Aside0.mk A100
     clear A100
     obtain rfl := Option.some.inj H
     go_enter Tryd.func55, Tryd.ntmps55
     go_wp2_with (first | ((with_reducible refine xap (N := 2) rfl ?_); (try (refine xat (by rfl) ?_; dsimp only)); refine xaq ?hg (N := 2) ?hd (cs := #[.int .i8 a0_0, .string a0_1, .int .i8 a0_2, .int .i64 a0_3, .string a0_4, .slice A0_5 l0_5.length c0_5]) (t := 31) ?hr ?_; (case hd => rfl); (case hg => rfl); (case hr => first | (go_simp; done) | (go_simp; rfl)); intro gb147 hg w11 hbox hb; have n0_ := Aside0.mk (xae (by repeat (first | (with_reducible first | exact HB.out | apply xab | apply xaa | apply xac) | exact HB.out)) hb); have n1_ := Aside0.mk (hbox); have n2_ := Aside0.mk ((by rw [hg]; exact (xao (by repeat (first | (with_reducible first | exact HB.out | apply xab | apply xaa | apply xac) | exact HB.out))) : w.heap.size ≤ gb147)); have n3_ := n2_; clear HB; have HB := n0_; have BK147 := n1_; have GW147 := n2_; have GE147 := n3_; clear n0_ n1_ n2_ n3_; clear hb hbox hg; obtain ⟨hcz12_0, hcz12_1, hcz12_2, hcz12_3, hcz12_4, hcz12_5⟩ := cz6 BK147.out; obtain ⟨hfz12_0, hfz12_1, hfz12_2, hfz12_3, hfz12_4, hfz12_5⟩ := fz6 BK147.out) | (go_at_call 100; (with_reducible refine (r4_term.calls k a0_1 a0_2 a0_3 a0_4 t148 _ A10.out).mono ?_); rintro e w13 ⟨rfl, hb⟩; have n0_ := Aside0.mk (xak (g := gb147) (o := .cells #[.int .i8 a0_0, .string a0_1, .int .i8 a0_2, .int .i64 a0_3, .string a0_4, .slice A0_5 l0_5.length c0_5] 31 (0, 0)) (by (with_reducible repeat (first | refine xaf ?_ _ | refine xai ?_ | refine xad ?_ _)); exact BK147.out) hb); have n1_ := Aside0.mk (xae (by repeat (first | (with_reducible first | exact HB.out | apply xab | apply xaa | apply xac | refine xah ?_ GE147.out) | exact HB.out)) hb); clear BK147; clear HB; have BK147 := n0_; have HB := n1_; clear n0_ n1_; (try clear hb); (try clear hb2); (try clear hk); (try clear hi)))
     repeat (go_quiet (first | ((with_reducible refine xap (N := 2) rfl ?_); (try (refine xat (by rfl) ?_; dsimp only)); refine xaq ?hg (N := 2) ?hd (cs := #[.int .i8 a0_0, .string a0_1, .int .i8 a0_2, .int .i64 a0_3, .string a0_4, .slice A0_5 l0_5.length c0_5]) (t := 31) ?hr ?_; (case hd => rfl); (case hg => rfl); (case hr => first | (go_simp; done) | (go_simp; rfl)); intro gb147 hg w11 hbox hb; have n0_ := Aside0.mk (xae (by repeat (first | (with_reducible first | exact HB.out | apply xab | apply xaa | apply xac) | exact HB.out)) hb); have n1_ := Aside0.mk (hbox); have n2_ := Aside0.mk ((by rw [hg]; exact (xao (by repeat (first | (with_reducible first | exact HB.out | apply xab | apply xaa | apply xac) | exact HB.out))) : w.heap.size ≤ gb147)); have n3_ := n2_; clear HB; have HB := n0_; have BK147 := n1_; have GW147 := n2_; have GE147 := n3_; clear n0_ n1_ n2_ n3_; clear hb hbox hg; obtain ⟨hcz12_0, hcz12_1, hcz12_2, hcz12_3, hcz12_4, hcz12_5⟩ := cz6 BK147.out; obtain ⟨hfz12_0, hfz12_1, hfz12_2, hfz12_3, hfz12_4, hfz12_5⟩ := fz6 BK147.out) | (go_at_call 100; (with_reducible refine (r4_term.calls k a0_1 a0_2 a0_3 a0_4 t148 _ A10.out).mono ?_); rintro e w13 ⟨rfl, hb⟩; have n0_ := Aside0.mk (xak (g := gb147) (o := .cells #[.int .i8 a0_0, .string a0_1, .int .i8 a0_2, .int .i64 a0_3, .string a0_4, .slice A0_5 l0_5.length c0_5] 31 (0, 0)) (by (with_reducible repeat (first | refine xaf ?_ _ | refine xai ?_ | refine xad ?_ _)); exact BK147.out) hb); have n1_ := Aside0.mk (xae (by repeat (first | (with_reducible first | exact HB.out | apply xab | apply xaa | apply xac | refine xah ?_ GE147.out) | exact HB.out)) hb); clear BK147; clear HB; have BK147 := n0_; have HB := n1_; clear n0_ n1_; (try clear hb); (try clear hb2); (try clear hk); (try clear hi))); try go_wp2_with (first | ((with_reducible refine xap (N := 2) rfl ?_); (try (refine xat (by rfl) ?_; dsimp only)); refine xaq ?hg (N := 2) ?hd (cs := #[.int .i8 a0_0, .string a0_1, .int .i8 a0_2, .int .i64 a0_3, .string a0_4, .slice A0_5 l0_5.length c0_5]) (t := 31) ?hr ?_; (case hd => rfl); (case hg => rfl); (case hr => first | (go_simp; done) | (go_simp; rfl)); intro gb147 hg w11 hbox hb; have n0_ := Aside0.mk (xae (by repeat (first | (with_reducible first | exact HB.out | apply xab | apply xaa | apply xac) | exact HB.out)) hb); have n1_ := Aside0.mk (hbox); have n2_ := Aside0.mk ((by rw [hg]; exact (xao (by repeat (first | (with_reducible first | exact HB.out | apply xab | apply xaa | apply xac) | exact HB.out))) : w.heap.size ≤ gb147)); have n3_ := n2_; clear HB; have HB := n0_; have BK147 := n1_; have GW147 := n2_; have GE147 := n3_; clear n0_ n1_ n2_ n3_; clear hb hbox hg; obtain ⟨hcz12_0, hcz12_1, hcz12_2, hcz12_3, hcz12_4, hcz12_5⟩ := cz6 BK147.out; obtain ⟨hfz12_0, hfz12_1, hfz12_2, hfz12_3, hfz12_4, hfz12_5⟩ := fz6 BK147.out) | (go_at_call 100; (with_reducible refine (r4_term.calls k a0_1 a0_2 a0_3 a0_4 t148 _ A10.out).mono ?_); rintro e w13 ⟨rfl, hb⟩; have n0_ := Aside0.mk (xak (g := gb147) (o := .cells #[.int .i8 a0_0, .string a0_1, .int .i8 a0_2, .int .i64 a0_3, .string a0_4, .slice A0_5 l0_5.length c0_5] 31 (0, 0)) (by (with_reducible repeat (first | refine xaf ?_ _ | refine xai ?_ | refine xad ?_ _)); exact BK147.out) hb); have n1_ := Aside0.mk (xae (by repeat (first | (with_reducible first | exact HB.out | apply xab | apply xaa | apply xac | refine xah ?_ GE147.out) | exact HB.out)) hb); clear BK147; clear HB; have BK147 := n0_; have HB := n1_; clear n0_ n1_; (try clear hb); (try clear hb2); (try clear hk); (try clear hi))))
     go_ret
     exact ⟨by first | rfl | (simp [xan, xam] <;> rfl) | (simp [*, xan, xam] <;> rfl), by repeat (first | (with_reducible first | exact HB.out | apply xab | apply xaa | apply xac | refine xah ?_ GE147.out) | exact HB.out)⟩
   ·rw [if_neg c6] at H
    have c6b0 : ((l0_5.length : Int) == 0) = false := beq_eq_false_iff_ne.mpr c6
    have c6b1 : ((l0_5.length : Int) != 0) = true := bne_iff_ne.mpr c6
    have c6b2 : ¬ (l0_5 = []) := fun h_ => c6 (by rw [h_]; rfl)
    obtain rfl := Option.some.inj H
    go_enter Tryd.func55, Tryd.ntmps55
    go_wp2_with (first | ((with_reducible refine xap (N := 2) rfl ?_); (try (refine xat (by rfl) ?_; dsimp only)); refine xaq ?hg (N := 2) ?hd (cs := #[.int .i8 a0_0, .string a0_1, .int .i8 a0_2, .int .i64 a0_3, .string a0_4, .slice A0_5 l0_5.length c0_5]) (t := 31) ?hr ?_; (case hd => rfl); (case hg => rfl); (case hr => first | (go_simp; done) | (go_simp; rfl)); intro gb147 hg w14 hbox hb; have n0_ := Aside0.mk (xae (by repeat (first | (with_reducible first | exact HB.out | apply xab | apply xaa | apply xac) | exact HB.out)) hb); have n1_ := Aside0.mk (hbox); have n2_ := Aside0.mk ((by rw [hg]; exact (xao (by repeat (first | (with_reducible first | exact HB.out | apply xab | apply xaa | apply xac) | exact HB.out))) : w.heap.size ≤ gb147)); have n3_ := n2_; clear HB; have HB := n0_; have BK147 := n1_; have GW147 := n2_; have GE147 := n3_; clear n0_ n1_ n2_ n3_; clear hb hbox hg; obtain ⟨hcz15_0, hcz15_1, hcz15_2, hcz15_3, hcz15_4, hcz15_5⟩ := cz6 BK147.out; obtain ⟨hfz15_0, hfz15_1, hfz15_2, hfz15_3, hfz15_4, hfz15_5⟩ := fz6 BK147.out))
    repeat (go_quiet (first | ((with_reducible refine xap (N := 2) rfl ?_); (try (refine xat (by rfl) ?_; dsimp only)); refine xaq ?hg (N := 2) ?hd (cs := #[.int .i8 a0_0, .string a0_1, .int .i8 a0_2, .int .i64 a0_3, .string a0_4, .slice A0_5 l0_5.length c0_5]) (t := 31) ?hr ?_; (case hd => rfl); (case hg => rfl); (case hr => first | (go_simp; done) | (go_simp; rfl)); intro gb147 hg w14 hbox hb; have n0_ := Aside0.mk (xae (by repeat (first | (with_reducible first | exact HB.out | apply xab | apply xaa | apply xac) | exact HB.out)) hb); have n1_ := Aside0.mk (hbox); have n2_ := Aside0.mk ((by rw [hg]; exact (xao (by repeat (first | (with_reducible first | exact HB.out | apply xab | apply xaa | apply xac) | exact HB.out))) : w.heap.size ≤ gb147)); have n3_ := n2_; clear HB; have HB := n0_; have BK147 := n1_; have GW147 := n2_; have GE147 := n3_; clear n0_ n1_ n2_ n3_; clear hb hbox hg; obtain ⟨hcz15_0, hcz15_1, hcz15_2, hcz15_3, hcz15_4, hcz15_5⟩ := cz6 BK147.out; obtain ⟨hfz15_0, hfz15_1, hfz15_2, hfz15_3, hfz15_4, hfz15_5⟩ := fz6 BK147.out)); try go_wp2_with (first | ((with_reducible refine xap (N := 2) rfl ?_); (try (refine xat (by rfl) ?_; dsimp only)); refine xaq ?hg (N := 2) ?hd (cs := #[.int .i8 a0_0, .string a0_1, .int .i8 a0_2, .int .i64 a0_3, .string a0_4, .slice A0_5 l0_5.length c0_5]) (t := 31) ?hr ?_; (case hd => rfl); (case hg => rfl); (case hr => first | (go_simp; done) | (go_simp; rfl)); intro gb147 hg w14 hbox hb; have n0_ := Aside0.mk (xae (by repeat (first | (with_reducible first | exact HB.out | apply xab | apply xaa | apply xac) | exact HB.out)) hb); have n1_ := Aside0.mk (hbox); have n2_ := Aside0.mk ((by rw [hg]; exact (xao (by repeat (first | (with_reducible first | exact HB.out | apply xab | apply xaa | apply xac) | exact HB.out))) : w.heap.size ≤ gb147)); have n3_ := n2_; clear HB; have HB := n0_; have BK147 := n1_; have GW147 := n2_; have GE147 := n3_; clear n0_ n1_ n2_ n3_; clear hb hbox hg; obtain ⟨hcz15_0, hcz15_1, hcz15_2, hcz15_3, hcz15_4, hcz15_5⟩ := cz6 BK147.out; obtain ⟨hfz15_0, hfz15_1, hfz15_2, hfz15_3, hfz15_4, hfz15_5⟩ := fz6 BK147.out)))
    go_ret
    exact ⟨by first | rfl | (simp [xan, xam] <;> rfl) | (simp [*, xan, xam] <;> rfl), by repeat (first | (with_reducible first | exact HB.out | apply xab | apply xaa | apply xac | refine xah ?_ GE147.out) | exact HB.out)⟩
  ·rw [if_neg c5] at H
   have c5b0 : (a0_0 == 0) = false := beq_eq_false_iff_ne.mpr c5
   have c5b1 : (a0_0 != 0) = true := bne_iff_ne.mpr c5
   have HC16 := Aside0.mk H
   clear H
   go_enter Tryd.func55, Tryd.ntmps55
   go_upto_region 6 with (first | ((with_reducible refine xap (N := 2) rfl ?_); (try (refine xat (by rfl) ?_; dsimp only)); refine xaq ?hg (N := 2) ?hd (cs := #[.int .i8 a0_0, .string a0_1, .int .i8 a0_2, .int .i64 a0_3, .string a0_4, .slice A0_5 l0_5.length c0_5]) (t := 31) ?hr ?_; (case hd => rfl); (case hg => rfl); (case hr => first | (go_simp; done) | (go_simp; rfl)); intro gb147 hg w17 hbox hb; have n0_ := Aside0.mk (xae (by repeat (first | (with_reducible first | exact HB.out | apply xab | apply xaa | apply xac) | exact HB.out)) hb); have n1_ := Aside0.mk (hbox); have n2_ := Aside0.mk ((by rw [hg]; exact (xao (by repeat (first | (with_reducible first | exact HB.out | apply xab | apply xaa | apply xac) | exact HB.out))) : w.heap.size ≤ gb147)); have n3_ := n2_; clear HB; have HB := n0_; have BK147 := n1_; have GW147 := n2_; have GE147 := n3_; clear n0_ n1_ n2_ n3_; clear hb hbox hg; obtain ⟨hcz18_0, hcz18_1, hcz18_2, hcz18_3, hcz18_4, hcz18_5⟩ := cz6 BK147.out; obtain ⟨hfz18_0, hfz18_1, hfz18_2, hfz18_3, hfz18_4, hfz18_5⟩ := fz6 BK147.out) | ((with_reducible refine xap (N := 5) rfl ?_); (try (refine xat (by rfl) ?_; dsimp only)); refine xaq ?hg (N := 5) ?hd (cs := #[.string (⟨#[]⟩ : ByteArray), .int .i8 0, .int .i64 0, .string (⟨#[]⟩ : ByteArray)]) (t := 28) ?hr ?_; (case hd => rfl); (case hg => rfl); (case hr => first | (go_simp; done) | (go_simp; rfl)); intro gb149 hg w19 hbox hb; have n0_ := Aside0.mk (xak (g := gb147) (o := .cells #[.int .i8 a0_0, .string a0_1, .int .i8 a0_2, .int .i64 a0_3, .string a0_4, .slice A0_5 l0_5.length c0_5] 31 (0, 0)) (by (with_reducible repeat (first | refine xaf ?_ _ | refine xai ?_ | refine xad ?_ _)); exact BK147.out) hb); have n1_ := Aside0.mk (xae (by repeat (first | (with_reducible first | exact HB.out | apply xab | apply xaa | apply xac | refine xah ?_ GE147.out) | exact HB.out)) hb); have n2_ := Aside0.mk (hbox); have n3_ := Aside0.mk ((by rw [hg]; exact (xao (by repeat (first | (with_reducible first | exact HB.out | apply xab | apply xaa | apply xac | refine xah ?_ GE147.out) | exact HB.out))) : w.heap.size ≤ gb149)); have n4_ := n3_; have n5_ := Aside0.mk ((by rw [hg]; exact Nat.ne_of_lt (blk_lt (g := gb147) (o := .cells #[.int .i8 a0_0, .string a0_1, .int .i8 a0_2, .int .i64 a0_3, .string a0_4, .slice A0_5 l0_5.length c0_5] 31 (0, 0)) (by (with_reducible repeat (first | refine xaf ?_ _ | refine xai ?_ | refine xad ?_ _)); exact BK147.out)) : gb147 ≠ gb149)); have n6_ := Aside0.mk ((by rw [hg]; exact Nat.ne_of_gt (blk_lt (g := gb147) (o := .cells #[.int .i8 a0_0, .string a0_1, .int .i8 a0_2, .int .i64 a0_3, .string a0_4, .slice A0_5 l0_5.length c0_5] 31 (0, 0)) (by (with_reducible repeat (first | refine xaf ?_ _ | refine xai ?_ | refine xad ?_ _)); exact BK147.out)) : gb149 ≠ gb147)); clear BK147; clear HB; have BK147 := n0_; have HB := n1_; have BK149 := n2_; have GW149 := n3_; have GE149 := n4_; have NB147_149 := n5_; have NB149_147 := n6_; clear n0_ n1_ n2_ n3_ n4_ n5_ n6_; clear hb hbox hg; have hnb20 := NB149_147.out; have hnc20 := NB147_149.out; obtain ⟨hcz21_0, hcz21_1, hcz21_2, hcz21_3⟩ := cz4 BK149.out; obtain ⟨hfz21_0, hfz21_1, hfz21_2, hfz21_3⟩ := fz4 BK149.out))
   repeat (go_quiet (first | ((with_reducible refine xap (N := 2) rfl ?_); (try (refine xat (by rfl) ?_; dsimp only)); refine xaq ?hg (N := 2) ?hd (cs := #[.int .i8 a0_0, .string a0_1, .int .i8 a0_2, .int .i64 a0_3, .string a0_4, .slice A0_5 l0_5.length c0_5]) (t := 31) ?hr ?_; (case hd => rfl); (case hg => rfl); (case hr => first | (go_simp; done) | (go_simp; rfl)); intro gb147 hg w17 hbox hb; have n0_ := Aside0.mk (xae (by repeat (first | (with_reducible first | exact HB.out | apply xab | apply xaa | apply xac) | exact HB.out)) hb); have n1_ := Aside0.mk (hbox); have n2_ := Aside0.mk ((by rw [hg]; exact (xao (by repeat (first | (with_reducible first | exact HB.out | apply xab | apply xaa | apply xac) | exact HB.out))) : w.heap.size ≤ gb147)); have n3_ := n2_; clear HB; have HB := n0_; have BK147 := n1_; have GW147 := n2_; have GE147 := n3_; clear n0_ n1_ n2_ n3_; clear hb hbox hg; obtain ⟨hcz18_0, hcz18_1, hcz18_2, hcz18_3, hcz18_4, hcz18_5⟩ := cz6 BK147.out; obtain ⟨hfz18_0, hfz18_1, hfz18_2, hfz18_3, hfz18_4, hfz18_5⟩ := fz6 BK147.out) | ((with_reducible refine xap (N := 5) rfl ?_); (try (refine xat (by rfl) ?_; dsimp only)); refine xaq ?hg (N := 5) ?hd (cs := #[.string (⟨#[]⟩ : ByteArray), .int .i8 0, .int .i64 0, .string (⟨#[]⟩ : ByteArray)]) (t := 28) ?hr ?_; (case hd => rfl); (case hg => rfl); (case hr => first | (go_simp; done) | (go_simp; rfl)); intro gb149 hg w19 hbox hb; have n0_ := Aside0.mk (xak (g := gb147) (o := .cells #[.int .i8 a0_0, .string a0_1, .int .i8 a0_2, .int .i64 a0_3, .string a0_4, .slice A0_5 l0_5.length c0_5] 31 (0, 0)) (by (with_reducible repeat (first | refine xaf ?_ _ | refine xai ?_ | refine xad ?_ _)); exact BK147.out) hb); have n1_ := Aside0.mk (xae (by repeat (first | (with_reducible first | exact HB.out | apply xab | apply xaa | apply xac | refine xah ?_ GE147.out) | exact HB.out)) hb); have n2_ := Aside0.mk (hbox); have n3_ := Aside0.mk ((by rw [hg]; exact (xao (by repeat (first | (with_reducible first | exact HB.out | apply xab | apply xaa | apply xac | refine xah ?_ GE147.out) | exact HB.out))) : w.heap.size ≤ gb149)); have n4_ := n3_; have n5_ := Aside0.mk ((by rw [hg]; exact Nat.ne_of_lt (blk_lt (g := gb147) (o := .cells #[.int .i8 a0_0, .string a0_1, .int .i8 a0_2, .int .i64 a0_3, .string a0_4, .slice A0_5 l0_5.length c0_5] 31 (0, 0)) (by (with_reducible repeat (first | refine xaf ?_ _ | refine xai ?_ | refine xad ?_ _)); exact BK147.out)) : gb147 ≠ gb149)); have n6_ := Aside0.mk ((by rw [hg]; exact Nat.ne_of_gt (blk_lt (g := gb147) (o := .cells #[.int .i8 a0_0, .string a0_1, .int .i8 a0_2, .int .i64 a0_3, .string a0_4, .slice A0_5 l0_5.length c0_5] 31 (0, 0)) (by (with_reducible repeat (first | refine xaf ?_ _ | refine xai ?_ | refine xad ?_ _)); exact BK147.out)) : gb149 ≠ gb147)); clear BK147; clear HB; have BK147 := n0_; have HB := n1_; have BK149 := n2_; have GW149 := n3_; have GE149 := n4_; have NB147_149 := n5_; have NB149_147 := n6_; clear n0_ n1_ n2_ n3_ n4_ n5_ n6_; clear hb hbox hg; have hnb20 := NB149_147.out; have hnc20 := NB147_149.out; obtain ⟨hcz21_0, hcz21_1, hcz21_2, hcz21_3⟩ := cz4 BK149.out; obtain ⟨hfz21_0, hfz21_1, hfz21_2, hfz21_3⟩ := fz4 BK149.out)); go_upto_region 6 with (first | ((with_reducible refine xap (N := 2) rfl ?_); (try (refine xat (by rfl) ?_; dsimp only)); refine xaq ?hg (N := 2) ?hd (cs := #[.int .i8 a0_0, .string a0_1, .int .i8 a0_2, .int .i64 a0_3, .string a0_4, .slice A0_5 l0_5.length c0_5]) (t := 31) ?hr ?_; (case hd => rfl); (case hg => rfl); (case hr => first | (go_simp; done) | (go_simp; rfl)); intro gb147 hg w17 hbox hb; have n0_ := Aside0.mk (xae (by repeat (first | (with_reducible first | exact HB.out | apply xab | apply xaa | apply xac) | exact HB.out)) hb); have n1_ := Aside0.mk (hbox); have n2_ := Aside0.mk ((by rw [hg]; exact (xao (by repeat (first | (with_reducible first | exact HB.out | apply xab | apply xaa | apply xac) | exact HB.out))) : w.heap.size ≤ gb147)); have n3_ := n2_; clear HB; have HB := n0_; have BK147 := n1_; have GW147 := n2_; have GE147 := n3_; clear n0_ n1_ n2_ n3_; clear hb hbox hg; obtain ⟨hcz18_0, hcz18_1, hcz18_2, hcz18_3, hcz18_4, hcz18_5⟩ := cz6 BK147.out; obtain ⟨hfz18_0, hfz18_1, hfz18_2, hfz18_3, hfz18_4, hfz18_5⟩ := fz6 BK147.out) | ((with_reducible refine xap (N := 5) rfl ?_); (try (refine xat (by rfl) ?_; dsimp only)); refine xaq ?hg (N := 5) ?hd (cs := #[.string (⟨#[]⟩ : ByteArray), .int .i8 0, .int .i64 0, .string (⟨#[]⟩ : ByteArray)]) (t := 28) ?hr ?_; (case hd => rfl); (case hg => rfl); (case hr => first | (go_simp; done) | (go_simp; rfl)); intro gb149 hg w19 hbox hb; have n0_ := Aside0.mk (xak (g := gb147) (o := .cells #[.int .i8 a0_0, .string a0_1, .int .i8 a0_2, .int .i64 a0_3, .string a0_4, .slice A0_5 l0_5.length c0_5] 31 (0, 0)) (by (with_reducible repeat (first | refine xaf ?_ _ | refine xai ?_ | refine xad ?_ _)); exact BK147.out) hb); have n1_ := Aside0.mk (xae (by repeat (first | (with_reducible first | exact HB.out | apply xab | apply xaa | apply xac | refine xah ?_ GE147.out) | exact HB.out)) hb); have n2_ := Aside0.mk (hbox); have n3_ := Aside0.mk ((by rw [hg]; exact (xao (by repeat (first | (with_reducible first | exact HB.out | apply xab | apply xaa | apply xac | refine xah ?_ GE147.out) | exact HB.out))) : w.heap.size ≤ gb149)); have n4_ := n3_; have n5_ := Aside0.mk ((by rw [hg]; exact Nat.ne_of_lt (blk_lt (g := gb147) (o := .cells #[.int .i8 a0_0, .string a0_1, .int .i8 a0_2, .int .i64 a0_3, .string a0_4, .slice A0_5 l0_5.length c0_5] 31 (0, 0)) (by (with_reducible repeat (first | refine xaf ?_ _ | refine xai ?_ | refine xad ?_ _)); exact BK147.out)) : gb147 ≠ gb149)); have n6_ := Aside0.mk ((by rw [hg]; exact Nat.ne_of_gt (blk_lt (g := gb147) (o := .cells #[.int .i8 a0_0, .string a0_1, .int .i8 a0_2, .int .i64 a0_3, .string a0_4, .slice A0_5 l0_5.length c0_5] 31 (0, 0)) (by (with_reducible repeat (first | refine xaf ?_ _ | refine xai ?_ | refine xad ?_ _)); exact BK147.out)) : gb149 ≠ gb147)); clear BK147; clear HB; have BK147 := n0_; have HB := n1_; have BK149 := n2_; have GW149 := n3_; have GE149 := n4_; have NB147_149 := n5_; have NB149_147 := n6_; clear n0_ n1_ n2_ n3_ n4_ n5_ n6_; clear hb hbox hg; have hnb20 := NB149_147.out; have hnc20 := NB147_149.out; obtain ⟨hcz21_0, hcz21_1, hcz21_2, hcz21_3⟩ := cz4 BK149.out; obtain ⟨hfz21_0, hfz21_1, hfz21_2, hfz21_3⟩ := fz4 BK149.out)))
   (try simp only [Act.put, sI, sZ, sS])
   go_cut [40] (fun v40 wc => ∃ (kq : Nat) (x40_15 : Bool), v40 = .bool x40_15 ∧ Aside0 (r4_expr.j0 kq a1 x40_15 a0_0 a0_1 a0_2 a0_3 a0_4 l0_5 = some r) ∧ Aside0 (kq ≤ k) ∧ Aside0 (wc.heap[gb147]? = some (.cells #[.int .i8 a0_0, .string a0_1, .int .i8 a0_2, .int .i64 a0_3, .string a0_4, (.slice A0_5 l0_5.length c0_5)] 31 (0, 0))) ∧ Aside0 (wc.heap[gb149]? = some (.cells #[.string (⟨#[]⟩ : ByteArray), .int .i8 0, .int .i64 0, .string (⟨#[]⟩ : ByteArray)] 28 (0, 0))) ∧ Aside0 (Below w.heap.size w wc))
   case first =>
    have H := HC16.out
    clear HC16
    by_cases c22 : (!(a0_1.toList == ([] : List UInt8)) || ((!(a0_2 == 0) || (!(a0_3 == 0) || (!(a0_4.toList == ([] : List UInt8))))))) = true
    ·rw [if_pos c22] at H
     have c22b0 : (!(a0_1.toList == ([] : List UInt8)) || ((!(a0_2 == 0) || (!(a0_3 == 0) || (!(a0_4.toList == ([] : List UInt8))))))) = true := c22
     (try (have c22b1 : (!(a0_1.toList.isEmpty) || ((!(a0_2 == 0) || (!(a0_3 == 0) || (!(a0_4.toList.isEmpty)))))) = true := by simpa using c22))
     clear c22
     (first | rw [c22b0] | (simp only [i64_w, i32_w]; rw [c22b0]) | skip)
     have H' := Aside0.mk H
     clear H
     have hnb23 := NB147_149.out
     have hnc23 := NB149_147.out
     obtain ⟨hcz24_0, hcz24_1, hcz24_2, hcz24_3, hcz24_4, hcz24_5⟩ := cz6 BK147.out
     obtain ⟨hfz24_0, hfz24_1, hfz24_2, hfz24_3, hfz24_4, hfz24_5⟩ := fz6 BK147.out
     obtain ⟨hcz25_0, hcz25_1, hcz25_2, hcz25_3⟩ := cz4 BK149.out
     obtain ⟨hfz25_0, hfz25_1, hfz25_2, hfz25_3⟩ := fz4 BK149.out
     go_wp2
     repeat (go_quiet (fail); try go_wp2)
     go_meet
     case rel => exact ⟨_, (true), (by first | rfl | (simp; done) | (simp [*]; done)), H', ⟨by first | omega | exact Nat.le_refl _⟩, ⟨by (with_reducible repeat (first | refine xaf ?_ _ | refine xai ?_ | refine xad ?_ _)); refine xax ?_ NB147_149.out _; (with_reducible repeat (first | refine xaf ?_ _ | refine xai ?_ | refine xad ?_ _)); refine xax ?_ NB147_149.out _; (with_reducible repeat (first | refine xaf ?_ _ | refine xai ?_ | refine xad ?_ _)); refine xax ?_ NB147_149.out _; (with_reducible repeat (first | refine xaf ?_ _ | refine xai ?_ | refine xad ?_ _)); refine xax ?_ NB147_149.out _; (with_reducible repeat (first | refine xaf ?_ _ | refine xai ?_ | refine xad ?_ _)); exact BK147.out⟩, ⟨by (with_reducible repeat (first | refine xaf ?_ _ | refine xai ?_ | refine xad ?_ _)); refine xas (cs := #[.string (⟨#[]⟩ : ByteArray), .int .i8 0, .int .i64 0, .string (⟨#[]⟩ : ByteArray)]) ?_ 3 _ rfl; (with_reducible repeat (first | refine xaf ?_ _ | refine xai ?_ | refine xad ?_ _)); refine xas (cs := #[.string (⟨#[]⟩ : ByteArray), .int .i8 0, .int .i64 0, .string (⟨#[]⟩ : ByteArray)]) ?_ 2 _ rfl; (with_reducible repeat (first | refine xaf ?_ _ | refine xai ?_ | refine xad ?_ _)); refine xas (cs := #[.string (⟨#[]⟩ : ByteArray), .int .i8 0, .int .i64 0, .string (⟨#[]⟩ : ByteArray)]) ?_ 1 _ rfl; (with_reducible repeat (first | refine xaf ?_ _ | refine xai ?_ | refine xad ?_ _)); refine xas (cs := #[.string (⟨#[]⟩ : ByteArray), .int .i8 0, .int .i64 0, .string (⟨#[]⟩ : ByteArray)]) ?_ 0 _ rfl; (with_reducible repeat (first | refine xaf ?_ _ | refine xai ?_ | refine xad ?_ _)); exact BK149.out⟩, ⟨by repeat (first | (with_reducible first | exact HB.out | apply xab | apply xaa | apply xac | refine xah ?_ GE147.out | refine xah ?_ GE149.out) | exact HB.out)⟩⟩
    ·rw [if_neg c22] at H
     have c22b0 : (!(a0_1.toList == ([] : List UInt8)) || ((!(a0_2 == 0) || (!(a0_3 == 0) || (!(a0_4.toList == ([] : List UInt8))))))) = false := by simpa using c22
     (try (have c22b1 : (!(a0_1.toList.isEmpty) || ((!(a0_2 == 0) || (!(a0_3 == 0) || (!(a0_4.toList.isEmpty)))))) = false := by simpa using c22))
     clear c22
     (first | rw [c22b0] | (simp only [i64_w, i32_w]; rw [c22b0]) | skip)
     replace H := Option.bind_eq_some_iff.mp H
     obtain ⟨t150, A260, H⟩ := H
     replace H : (r4_expr.j0 k a1 ((l0_5.length : Int) != t150) a0_0 a0_1 a0_2 a0_3 a0_4 l0_5) = some r := H
     have A26 := Aside0.mk A260
     clear A260
     have H' := Aside0.mk H
     clear H
     have hnb27 := NB147_149.out
     have hnc27 := NB149_147.out
     obtain ⟨hcz28_0, hcz28_1, hcz28_2, hcz28_3, hcz28_4, hcz28_5⟩ := cz6 BK147.out
     obtain ⟨hfz28_0, hfz28_1, hfz28_2, hfz28_3, hfz28_4, hfz28_5⟩ := fz6 BK147.out
     obtain ⟨hcz29_0, hcz29_1, hcz29_2, hcz29_3⟩ := cz4 BK149.out
     obtain ⟨hfz29_0, hfz29_1, hfz29_2, hfz29_3⟩ := fz4 BK149.out
     go_wp2_with (first | (go_at_call 101; (with_reducible refine (r4_kids.calls k a0_0 t150 _ A26.out).mono ?_); rintro e w' ⟨rfl, ⟨nd, rfl⟩⟩; (try first | exact ⟨rfl, _, World.drewN_drewN _ _ _⟩ | exact ⟨rfl, _, Eq.trans (World.drewN_drewN _ _ _) (congrArg (World.drewN _) (Nat.add_assoc _ _ _))⟩)))
     repeat (go_quiet (first | (go_at_call 101; (with_reducible refine (r4_kids.calls k a0_0 t150 _ A26.out).mono ?_); rintro e w' ⟨rfl, ⟨nd, rfl⟩⟩; (try first | exact ⟨rfl, _, World.drewN_drewN _ _ _⟩ | exact ⟨rfl, _, Eq.trans (World.drewN_drewN _ _ _) (congrArg (World.drewN _) (Nat.add_assoc _ _ _))⟩))); try go_wp2_with (first | (go_at_call 101; (with_reducible refine (r4_kids.calls k a0_0 t150 _ A26.out).mono ?_); rintro e w' ⟨rfl, ⟨nd, rfl⟩⟩; (try first | exact ⟨rfl, _, World.drewN_drewN _ _ _⟩ | exact ⟨rfl, _, Eq.trans (World.drewN_drewN _ _ _) (congrArg (World.drewN _) (Nat.add_assoc _ _ _))⟩))))
     go_meet
     case rel => exact ⟨_, (((l0_5.length : Int) != t150)), (by first | rfl | (simp; done) | (simp [*]; done)), H', ⟨by first | omega | exact Nat.le_refl _⟩, ⟨by (with_reducible repeat (first | refine xaf ?_ _ | refine xai ?_ | refine xad ?_ _)); refine xax ?_ NB147_149.out _; (with_reducible repeat (first | refine xaf ?_ _ | refine xai ?_ | refine xad ?_ _)); refine xax ?_ NB147_149.out _; (with_reducible repeat (first | refine xaf ?_ _ | refine xai ?_ | refine xad ?_ _)); refine xax ?_ NB147_149.out _; (with_reducible repeat (first | refine xaf ?_ _ | refine xai ?_ | refine xad ?_ _)); refine xax ?_ NB147_149.out _; (with_reducible repeat (first | refine xaf ?_ _ | refine xai ?_ | refine xad ?_ _)); exact BK147.out⟩, ⟨by (with_reducible repeat (first | refine xaf ?_ _ | refine xai ?_ | refine xad ?_ _)); refine xas (cs := #[.string (⟨#[]⟩ : ByteArray), .int .i8 0, .int .i64 0, .string (⟨#[]⟩ : ByteArray)]) ?_ 3 _ rfl; (with_reducible repeat (first | refine xaf ?_ _ | refine xai ?_ | refine xad ?_ _)); refine xas (cs := #[.string (⟨#[]⟩ : ByteArray), .int .i8 0, .int .i64 0, .string (⟨#[]⟩ : ByteArray)]) ?_ 2 _ rfl; (with_reducible repeat (first | refine xaf ?_ _ | refine xai ?_ | refine xad ?_ _)); refine xas (cs := #[.string (⟨#[]⟩ : ByteArray), .int .i8 0, .int .i64 0, .string (⟨#[]⟩ : ByteArray)]) ?_ 1 _ rfl; (with_reducible repeat (first | refine xaf ?_ _ | refine xai ?_ | refine xad ?_ _)); refine xas (cs := #[.string (⟨#[]⟩ : ByteArray), .int .i8 0, .int .i64 0, .string (⟨#[]⟩ : ByteArray)]) ?_ 0 _ rfl; (with_reducible repeat (first | refine xaf ?_ _ | refine xai ?_ | refine xad ?_ _)); exact BK149.out⟩, ⟨by repeat (first | (with_reducible first | exact HB.out | apply xab | apply xaa | apply xac | refine xah ?_ GE147.out | refine xah ?_ GE149.out) | exact HB.out)⟩⟩
   case rest =>
    clear HC16
    try clear c2
    try clear p2
    try clear c3
    try clear c3b0
    try clear c3b1
    try clear c5
    try clear c5b0
    try clear c5b1
    try clear c6
    try clear c6b0
    try clear c6b1
    try clear c6b2
    try clear c7
    try clear c7b0
    try clear c7b1
    try clear c20
    try clear c22
    try clear c22b0
    try clear c22b1
    try clear c23
    try clear c27
    try clear hcz12_0
    try clear hcz12_1
    try clear hcz12_2
    try clear hcz12_3
    try clear hcz12_4
    try clear hcz12_5
    try clear hcz15_0
    try clear hcz15_1
    try clear hcz15_2
    try clear hcz15_3
    try clear hcz15_4
    try clear hcz15_5
    try clear hcz18_0
    try clear hcz18_1
    try clear hcz18_2
    try clear hcz18_3
    try clear hcz18_4
    try clear hcz18_5
    try clear hcz21_0
    try clear hcz21_1
    try clear hcz21_2
    try clear hcz21_3
    try clear hcz24_0
    try clear hcz24_1
    try clear hcz24_2
    try clear hcz24_3
    try clear hcz24_4
    try clear hcz24_5
    try clear hcz25_0
    try clear hcz25_1
    try clear hcz25_2
    try clear hcz25_3
    try clear hcz28_0
    try clear hcz28_1
    try clear hcz28_2
    try clear hcz28_3
    try clear hcz28_4
    try clear hcz28_5
    try clear hcz29_0
    try clear hcz29_1
    try clear hcz29_2
    try clear hcz29_3
    try clear hcz9_0
    try clear hcz9_1
    try clear hcz9_2
    try clear hcz9_3
    try clear hcz9_4
    try clear hcz9_5
    try clear hfz12_0
    try clear hfz12_1
    try clear hfz12_2
    try clear hfz12_3
    try clear hfz12_4
    try clear hfz12_5
    try clear hfz15_0
    try clear hfz15_1
    try clear hfz15_2
    try clear hfz15_3
    try clear hfz15_4
    try clear hfz15_5
    try clear hfz18_0
    try clear hfz18_1
    try clear hfz18_2
    try clear hfz18_3
    try clear hfz18_4
    try clear hfz18_5
    try clear hfz21_0
    try clear hfz21_1
    try clear hfz21_2
    try clear hfz21_3
    try clear hfz24_0
    try clear hfz24_1
    try clear hfz24_2
    try clear hfz24_3
    try clear hfz24_4
    try clear hfz24_5
    try clear hfz25_0
    try clear hfz25_1
    try clear hfz25_2
    try clear hfz25_3
    try clear hfz28_0
    try clear hfz28_1
    try clear hfz28_2
    try clear hfz28_3
    try clear hfz28_4
    try clear hfz28_5
    try clear hfz29_0
    try clear hfz29_1
    try clear hfz29_2
    try clear hfz29_3
    try clear hfz9_0
    try clear hfz9_1
    try clear hfz9_2
    try clear hfz9_3
    try clear hfz9_4
    try clear hfz9_5
    obtain ⟨kq, x40_15, rfl, HA, HJ15, BK147, BK149, HB⟩ := hcut
    cases kq with
    | zero => exact absurd HA.out (by simp [r4_expr.j0])
    | succ kj15 =>
     have H := HA.out
     clear HA
     simp only [r4_expr.j0] at H
     by_cases c30 : x40_15 = true
     ·subst c30
      have H1 : (some false) = some r := by rw [if_pos rfl] at H; exact H
      clear H
      have H := H1
      clear H1
      obtain rfl := Option.some.inj H
      go_wp2
      repeat (go_quiet (fail); try go_wp2)
      go_ret
      exact ⟨by first | rfl | (simp [xan, xam] <;> rfl) | (simp [*, xan, xam] <;> rfl), by repeat (first | (with_reducible first | exact HB.out | apply xab | apply xaa | apply xac | refine xah ?_ GE147.out | refine xah ?_ GE149.out) | exact HB.out)⟩
     ·replace c30 := Bool.eq_false_iff.mpr c30
      subst c30
      have H1 : (r4_expr.l0 kj15 a1 0 a0_0 a0_1 a0_2 a0_3 a0_4 l0_5) = some r := by rw [if_neg (show ¬ (false = true) by decide)] at H; exact H
      clear H
      have H := H1
      clear H1
      have H' := Aside0.mk H
      clear H
      go_wp2
      repeat (go_quiet (fail); try go_wp2)
      go_loopg [6] kj15 (fun kq v6 w' => ∃ (x6_2 : Int), v6 = .int .i64 x6_2 ∧ Aside0 (r4_expr.l0 kq a1 x6_2 a0_0 a0_1 a0_2 a0_3 a0_4 l0_5 = some r) ∧ Aside0 (kq ≤ kj15) ∧ Aside0 (w'.heap[gb147]? = some (.cells #[.int .i8 a0_0, .string a0_1, .int .i8 a0_2, .int .i64 a0_3, .string a0_4, (.slice A0_5 l0_5.length c0_5)] 31 (0, 0))) ∧ Aside0 (w'.heap[gb149]? = some (.cells #[.string (⟨#[]⟩ : ByteArray), .int .i8 0, .int .i64 0, .string (⟨#[]⟩ : ByteArray)] 28 (0, 0))) ∧ Aside0 (Below w.heap.size w w'))
      case atStart => exact ⟨(0), (by first | rfl | (simp; done) | (simp [*]; done)), H', ⟨Nat.le_refl _⟩, ⟨by (with_reducible repeat (first | refine xaf ?_ _ | refine xai ?_ | refine xad ?_ _)); exact BK147.out⟩, ⟨by (with_reducible repeat (first | refine xaf ?_ _ | refine xai ?_ | refine xad ?_ _)); exact BK149.out⟩, ⟨by repeat (first | (with_reducible first | exact HB.out | apply xab | apply xaa | apply xac | refine xah ?_ GE147.out | refine xah ?_ GE149.out) | exact HB.out)⟩⟩
      case round =>
       clear H'
       try clear c2
       try clear p2
       try clear c3
       try clear c3b0
       try clear c3b1
       try clear c5
       try clear c5b0
       try clear c5b1
       try clear c6
       try clear c6b0
       try clear c6b1
       try clear c6b2
       try clear c7
       try clear c7b0
       try clear c7b1
       try clear c20
       try clear c22
       try clear c22b0
       try clear c22b1
       try clear c23
       try clear c27
       try clear c30
       try clear hcz12_0
       try clear hcz12_1
       try clear hcz12_2
       try clear hcz12_3
       try clear hcz12_4
       try clear hcz12_5
       try clear hcz15_0
       try clear hcz15_1
       try clear hcz15_2
       try clear hcz15_3
       try clear hcz15_4
       try clear hcz15_5
       try clear hcz18_0
       try clear hcz18_1
       try clear hcz18_2
       try clear hcz18_3
       try clear hcz18_4
       try clear hcz18_5
       try clear hcz21_0
       try clear hcz21_1
       try clear hcz21_2
       try clear hcz21_3
       try clear hcz24_0
       try clear hcz24_1
       try clear hcz24_2
       try clear hcz24_3
       try clear hcz24_4
       try clear hcz24_5
       try clear hcz25_0
       try clear hcz25_1
       try clear hcz25_2
       try clear hcz25_3
       try clear hcz28_0
       try clear hcz28_1
       try clear hcz28_2
       try clear hcz28_3
       try clear hcz28_4
       try clear hcz28_5
       try clear hcz29_0
       try clear hcz29_1
       try clear hcz29_2
       try clear hcz29_3
       try clear hcz9_0
       try clear hcz9_1
       try clear hcz9_2
       try clear hcz9_3
       try clear hcz9_4
       try clear hcz9_5
       try clear hfz12_0
       try clear hfz12_1
       try clear hfz12_2
       try clear hfz12_3
       try clear hfz12_4
       try clear hfz12_5
       try clear hfz15_0
       try clear hfz15_1
       try clear hfz15_2
       try clear hfz15_3
       try clear hfz15_4
       try clear hfz15_5
       try clear hfz18_0
       try clear hfz18_1
       try clear hfz18_2
       try clear hfz18_3
       try clear hfz18_4
       try clear hfz18_5
       try clear hfz21_0
       try clear hfz21_1
       try clear hfz21_2
       try clear hfz21_3
       try clear hfz24_0
       try clear hfz24_1
       try clear hfz24_2
       try clear hfz24_3
       try clear hfz24_4
       try clear hfz24_5
       try clear hfz25_0
       try clear hfz25_1
       try clear hfz25_2
       try clear hfz25_3
       try clear hfz28_0
       try clear hfz28_1
       try clear hfz28_2
       try clear hfz28_3
       try clear hfz28_4
       try clear hfz28_5
       try clear hfz29_0
       try clear hfz29_1
       try clear hfz29_2
       try clear hfz29_3
       try clear hfz9_0
       try clear hfz9_1
       try clear hfz9_2
       try clear hfz9_3
       try clear hfz9_4
       try clear hfz9_5
       try clear p2
       obtain ⟨x6_2, rfl, HA, HK2, BK147, BK149, HB⟩ := hrel
       cases gk with
       | zero => exact absurd HA.out (by simp [r4_expr.l0])
       | succ k2 =>
        have H := HA.out
        clear HA
        simp only [r4_expr.l0] at H
        by_cases c31 : x6_2 < (l0_5.length : Int)
        ·rw [if_pos c31] at H
         have c31b0 : decide (x6_2 < (l0_5.length : Int)) = true := decide_eq_true c31
         clear c31
         by_cases c32 : 0 ≤ x6_2
         ·rw [if_pos c32] at H
          have c32b0 : decide (0 ≤ x6_2) = true := decide_eq_true c32
          clear c32
          replace H := Option.bind_eq_some_iff.mp H
          obtain ⟨t152, A330, H⟩ := H
          replace H : (if t152 = true then (r4_expr.l0 k2 a1 (wrap64 (x6_2 + 1)) a0_0 a0_1 a0_2 a0_3 a0_4 l0_5) else (some false)) = some r := H
          have A33 := Aside0.mk A330
          clear A330
          by_cases c34 : t152 = true
          ·subst c34
           have H1 : (r4_expr.l0 k2 a1 (wrap64 (x6_2 + 1)) a0_0 a0_1 a0_2 a0_3 a0_4 l0_5) = some r := by rw [if_pos rfl] at H; exact H
           clear H
           have H := H1
           clear H1
           have H' := Aside0.mk H
           clear H
           have hnb35 := NB147_149.out
           have hnc35 := NB149_147.out
           obtain ⟨hcz36_0, hcz36_1, hcz36_2, hcz36_3, hcz36_4, hcz36_5⟩ := cz6 BK147.out
           obtain ⟨hfz36_0, hfz36_1, hfz36_2, hfz36_3, hfz36_4, hfz36_5⟩ := fz6 BK147.out
           have p151 : 0 ≤ (x6_2 : Int) := of_decide_eq_true (by first | (with_reducible assumption) | assumption)
           have q151 : x6_2 < (l0_5.length : Int) := of_decide_eq_true (by first | (with_reducible assumption) | assumption)
           obtain ⟨ad151, A151_5, c151_5, e151, hx151_0, hx151_1, hx151_2, hx151_3, hx151_4, hx151_5, hl151_5, hi151_5⟩ := at_T31 HR0_5.out x6_2 p151 q151
           cases e151
           replace hx151_0 := (HB.out.cell (World.block_lt_of_cell? w _ hx151_0)).trans hx151_0
           replace hx151_1 := (HB.out.cell (World.block_lt_of_cell? w _ hx151_1)).trans hx151_1
           replace hx151_2 := (HB.out.cell (World.block_lt_of_cell? w _ hx151_2)).trans hx151_2
           replace hx151_3 := (HB.out.cell (World.block_lt_of_cell? w _ hx151_3)).trans hx151_3
           replace hx151_4 := (HB.out.cell (World.block_lt_of_cell? w _ hx151_4)).trans hx151_4
           replace hx151_5 := (HB.out.cell (World.block_lt_of_cell? w _ hx151_5)).trans hx151_5
           have HR151_5 := Aside0.mk hi151_5
           have HC151_5 := Aside0.mk hl151_5
           clear hi151_5 hl151_5
           replace p151 := eq_true p151
           replace q151 := eq_true q151
           go_wp2_with (first | (go_at_call 55; (with_reducible refine (ih k2 (by have := HJ15.out; have := HK2.out; omega) ((rd_T31 l0_5 x6_2).f0) ((rd_T31 l0_5 x6_2).f1.f0) ((rd_T31 l0_5 x6_2).f1.f1.f0) ((rd_T31 l0_5 x6_2).f1.f1.f1) ((rd_T31 l0_5 x6_2).f1.f1.f2) _ _ ((rd_T31 l0_5 x6_2).f2) (wrap64 (a1 - 1)) true _ ?side1 ?side2 A33.out).mono ?_); (case side1 => repeat (first | exact (Kd.C_below HR151_5.out HB.out) | (with_reducible refine Kd.C_alloc ?_ _) | (with_reducible refine Kd.C_drewN ?_ _) | (with_reducible refine Kd.C_drew ?_))); (case side2 => exact HC151_5.out); rintro e w37 ⟨rfl, hb⟩; have n0_ := Aside0.mk (xak (g := gb147) (o := .cells #[.int .i8 a0_0, .string a0_1, .int .i8 a0_2, .int .i64 a0_3, .string a0_4, .slice (some ad151) l0_5.length c0_5] 31 (0, 0)) (by (with_reducible repeat (first | refine xaf ?_ _ | refine xai ?_ | refine xad ?_ _)); exact BK147.out) hb); have n1_ := Aside0.mk (xak (g := gb149) (o := .cells #[.string (⟨#[]⟩ : ByteArray), .int .i8 0, .int .i64 0, .string (⟨#[]⟩ : ByteArray)] 28 (0, 0)) (by (with_reducible repeat (first | refine xaf ?_ _ | refine xai ?_ | refine xad ?_ _)); exact BK149.out) hb); have n2_ := Aside0.mk (xae (by repeat (first | (with_reducible first | exact HB.out | apply xab | apply xaa | apply xac | refine xah ?_ GE147.out | refine xah ?_ GE149.out) | exact HB.out)) hb); clear BK147; clear BK149; clear HB; have BK147 := n0_; have BK149 := n1_; have HB := n2_; clear n0_ n1_ n2_; (try clear hb); (try clear hb2); (try clear hk); (try clear hi)))
           repeat (go_quiet (first | (go_at_call 55; (with_reducible refine (ih k2 (by have := HJ15.out; have := HK2.out; omega) ((rd_T31 l0_5 x6_2).f0) ((rd_T31 l0_5 x6_2).f1.f0) ((rd_T31 l0_5 x6_2).f1.f1.f0) ((rd_T31 l0_5 x6_2).f1.f1.f1) ((rd_T31 l0_5 x6_2).f1.f1.f2) _ _ ((rd_T31 l0_5 x6_2).f2) (wrap64 (a1 - 1)) true _ ?side1 ?side2 A33.out).mono ?_); (case side1 => repeat (first | exact (Kd.C_below HR151_5.out HB.out) | (with_reducible refine Kd.C_alloc ?_ _) | (with_reducible refine Kd.C_drewN ?_ _) | (with_reducible refine Kd.C_drew ?_))); (case side2 => exact HC151_5.out); rintro e w37 ⟨rfl, hb⟩; have n0_ := Aside0.mk (xak (g := gb147) (o := .cells #[.int .i8 a0_0, .string a0_1, .int .i8 a0_2, .int .i64 a0_3, .string a0_4, .slice (some ad151) l0_5.length c0_5] 31 (0, 0)) (by (with_reducible repeat (first | refine xaf ?_ _ | refine xai ?_ | refine xad ?_ _)); exact BK147.out) hb); have n1_ := Aside0.mk (xak (g := gb149) (o := .cells #[.string (⟨#[]⟩ : ByteArray), .int .i8 0, .int .i64 0, .string (⟨#[]⟩ : ByteArray)] 28 (0, 0)) (by (with_reducible repeat (first | refine xaf ?_ _ | refine xai ?_ | refine xad ?_ _)); exact BK149.out) hb); have n2_ := Aside0.mk (xae (by repeat (first | (with_reducible first | exact HB.out | apply xab | apply xaa | apply xac | refine xah ?_ GE147.out | refine xah ?_ GE149.out) | exact HB.out)) hb); clear BK147; clear BK149; clear HB; have BK147 := n0_; have BK149 := n1_; have HB := n2_; clear n0_ n1_ n2_; (try clear hb); (try clear hb2); (try clear hk); (try clear hi))); try go_wp2_with (first | (go_at_call 55; (with_reducible refine (ih k2 (by have := HJ15.out; have := HK2.out; omega) ((rd_T31 l0_5 x6_2).f0) ((rd_T31 l0_5 x6_2).f1.f0) ((rd_T31 l0_5 x6_2).f1.f1.f0) ((rd_T31 l0_5 x6_2).f1.f1.f1) ((rd_T31 l0_5 x6_2).f1.f1.f2) _ _ ((rd_T31 l0_5 x6_2).f2) (wrap64 (a1 - 1)) true _ ?side1 ?side2 A33.out).mono ?_); (case side1 => repeat (first | exact (Kd.C_below HR151_5.out HB.out) | (with_reducible refine Kd.C_alloc ?_ _) | (with_reducible refine Kd.C_drewN ?_ _) | (with_reducible refine Kd.C_drew ?_))); (case side2 => exact HC151_5.out); rintro e w37 ⟨rfl, hb⟩; have n0_ := Aside0.mk (xak (g := gb147) (o := .cells #[.int .i8 a0_0, .string a0_1, .int .i8 a0_2, .int .i64 a0_3, .string a0_4, .slice (some ad151) l0_5.length c0_5] 31 (0, 0)) (by (with_reducible repeat (first | refine xaf ?_ _ | refine xai ?_ | refine xad ?_ _)); exact BK147.out) hb); have n1_ := Aside0.mk (xak (g := gb149) (o := .cells #[.string (⟨#[]⟩ : ByteArray), .int .i8 0, .int .i64 0, .string (⟨#[]⟩ : ByteArray)] 28 (0, 0)) (by (with_reducible repeat (first | refine xaf ?_ _ | refine xai ?_ | refine xad ?_ _)); exact BK149.out) hb); have n2_ := Aside0.mk (xae (by repeat (first | (with_reducible first | exact HB.out | apply xab | apply xaa | apply xac | refine xah ?_ GE147.out | refine xah ?_ GE149.out) | exact HB.out)) hb); clear BK147; clear BK149; clear HB; have BK147 := n0_; have BK149 := n1_; have HB := n2_; clear n0_ n1_ n2_; (try clear hb); (try clear hb2); (try clear hk); (try clear hi))))
           go_roundg k2
           case measure => have := HJ15.out; have := HK2.out; omega
           case rel => exact ⟨(wrap64 (x6_2 + 1)), (by first | rfl | (simp; done) | (simp [*]; done)), H', ⟨by have := HJ15.out; have := HK2.out; omega⟩, ⟨by (with_reducible repeat (first | refine xaf ?_ _ | refine xai ?_ | refine xad ?_ _)); exact BK147.out⟩, ⟨by (with_reducible repeat (first | refine xaf ?_ _ | refine xai ?_ | refine xad ?_ _)); exact BK149.out⟩, ⟨by repeat (first | (with_reducible first | exact HB.out | apply xab | apply xaa | apply xac | refine xah ?_ GE147.out | refine xah ?_ GE149.out) | exact HB.out)⟩⟩
          ·replace c34 := Bool.eq_false_iff.mpr c34
           subst c34
           have H1 : (some false) = some r := by rw [if_neg (show ¬ (false = true) by decide)] at H; exact H
           clear H
           have H := H1
           clear H1
           obtain rfl := Option.some.inj H
           have hnb38 := NB147_149.out
           have hnc38 := NB149_147.out
           obtain ⟨hcz39_0, hcz39_1, hcz39_2, hcz39_3, hcz39_4, hcz39_5⟩ := cz6 BK147.out
           obtain ⟨hfz39_0, hfz39_1, hfz39_2, hfz39_3, hfz39_4, hfz39_5⟩ := fz6 BK147.out
           have p151 : 0 ≤ (x6_2 : Int) := of_decide_eq_true (by first | (with_reducible assumption) | assumption)
           have q151 : x6_2 < (l0_5.length : Int) := of_decide_eq_true (by first | (with_reducible assumption) | assumption)
           obtain ⟨ad151, A151_5, c151_5, e151, hx151_0, hx151_1, hx151_2, hx151_3, hx151_4, hx151_5, hl151_5, hi151_5⟩ := at_T31 HR0_5.out x6_2 p151 q151
           cases e151
           replace hx151_0 := (HB.out.cell (World.block_lt_of_cell? w _ hx151_0)).trans hx151_0
           replace hx151_1 := (HB.out.cell (World.block_lt_of_cell? w _ hx151_1)).trans hx151_1
           replace hx151_2 := (HB.out.cell (World.block_lt_of_cell? w _ hx151_2)).trans hx151_2
           replace hx151_3 := (HB.out.cell (World.block_lt_of_cell? w _ hx151_3)).trans hx151_3
           replace hx151_4 := (HB.out.cell (World.block_lt_of_cell? w _ hx151_4)).trans hx151_4
           replace hx151_5 := (HB.out.cell (World.block_lt_of_cell? w _ hx151_5)).trans hx151_5
           have HR151_5 := Aside0.mk hi151_5
           have HC151_5 := Aside0.mk hl151_5
           clear hi151_5 hl151_5
           replace p151 := eq_true p151
           replace q151 := eq_true q151
           go_wp2_with (first | (go_at_call 55; (with_reducible refine (ih k2 (by have := HJ15.out; have := HK2.out; omega) ((rd_T31 l0_5 x6_2).f0) ((rd_T31 l0_5 x6_2).f1.f0) ((rd_T31 l0_5 x6_2).f1.f1.f0) ((rd_T31 l0_5 x6_2).f1.f1.f1) ((rd_T31 l0_5 x6_2).f1.f1.f2) _ _ ((rd_T31 l0_5 x6_2).f2) (wrap64 (a1 - 1)) false _ ?side1 ?side2 A33.out).mono ?_); (case side1 => repeat (first | exact (Kd.C_below HR151_5.out HB.out) | (with_reducible refine Kd.C_alloc ?_ _) | (with_reducible refine Kd.C_drewN ?_ _) | (with_reducible refine Kd.C_drew ?_))); (case side2 => exact HC151_5.out); rintro e w40 ⟨rfl, hb⟩; have n0_ := Aside0.mk (xak (g := gb147) (o := .cells #[.int .i8 a0_0, .string a0_1, .int .i8 a0_2, .int .i64 a0_3, .string a0_4, .slice (some ad151) l0_5.length c0_5] 31 (0, 0)) (by (with_reducible repeat (first | refine xaf ?_ _ | refine xai ?_ | refine xad ?_ _)); exact BK147.out) hb); have n1_ := Aside0.mk (xak (g := gb149) (o := .cells #[.string (⟨#[]⟩ : ByteArray), .int .i8 0, .int .i64 0, .string (⟨#[]⟩ : ByteArray)] 28 (0, 0)) (by (with_reducible repeat (first | refine xaf ?_ _ | refine xai ?_ | refine xad ?_ _)); exact BK149.out) hb); have n2_ := Aside0.mk (xae (by repeat (first | (with_reducible first | exact HB.out | apply xab | apply xaa | apply xac | refine xah ?_ GE147.out | refine xah ?_ GE149.out) | exact HB.out)) hb); clear BK147; clear BK149; clear HB; have BK147 := n0_; have BK149 := n1_; have HB := n2_; clear n0_ n1_ n2_; (try clear hb); (try clear hb2); (try clear hk); (try clear hi)))
           repeat (go_quiet (first | (go_at_call 55; (with_reducible refine (ih k2 (by have := HJ15.out; have := HK2.out; omega) ((rd_T31 l0_5 x6_2).f0) ((rd_T31 l0_5 x6_2).f1.f0) ((rd_T31 l0_5 x6_2).f1.f1.f0) ((rd_T31 l0_5 x6_2).f1.f1.f1) ((rd_T31 l0_5 x6_2).f1.f1.f2) _ _ ((rd_T31 l0_5 x6_2).f2) (wrap64 (a1 - 1)) false _ ?side1 ?side2 A33.out).mono ?_); (case side1 => repeat (first | exact (Kd.C_below HR151_5.out HB.out) | (with_reducible refine Kd.C_alloc ?_ _) | (with_reducible refine Kd.C_drewN ?_ _) | (with_reducible refine Kd.C_drew ?_))); (case side2 => exact HC151_5.out); rintro e w40 ⟨rfl, hb⟩; have n0_ := Aside0.mk (xak (g := gb147) (o := .cells #[.int .i8 a0_0, .string a0_1, .int .i8 a0_2, .int .i64 a0_3, .string a0_4, .slice (some ad151) l0_5.length c0_5] 31 (0, 0)) (by (with_reducible repeat (first | refine xaf ?_ _ | refine xai ?_ | refine xad ?_ _)); exact BK147.out) hb); have n1_ := Aside0.mk (xak (g := gb149) (o := .cells #[.string (⟨#[]⟩ : ByteArray), .int .i8 0, .int .i64 0, .string (⟨#[]⟩ : ByteArray)] 28 (0, 0)) (by (with_reducible repeat (first | refine xaf ?_ _ | refine xai ?_ | refine xad ?_ _)); exact BK149.out) hb); have n2_ := Aside0.mk (xae (by repeat (first | (with_reducible first | exact HB.out | apply xab | apply xaa | apply xac | refine xah ?_ GE147.out | refine xah ?_ GE149.out) | exact HB.out)) hb); clear BK147; clear BK149; clear HB; have BK147 := n0_; have BK149 := n1_; have HB := n2_; clear n0_ n1_ n2_; (try clear hb); (try clear hb2); (try clear hk); (try clear hi))); try go_wp2_with (first | (go_at_call 55; (with_reducible refine (ih k2 (by have := HJ15.out; have := HK2.out; omega) ((rd_T31 l0_5 x6_2).f0) ((rd_T31 l0_5 x6_2).f1.f0) ((rd_T31 l0_5 x6_2).f1.f1.f0) ((rd_T31 l0_5 x6_2).f1.f1.f1) ((rd_T31 l0_5 x6_2).f1.f1.f2) _ _ ((rd_T31 l0_5 x6_2).f2) (wrap64 (a1 - 1)) false _ ?side1 ?side2 A33.out).mono ?_); (case side1 => repeat (first | exact (Kd.C_below HR151_5.out HB.out) | (with_reducible refine Kd.C_alloc ?_ _) | (with_reducible refine Kd.C_drewN ?_ _) | (with_reducible refine Kd.C_drew ?_))); (case side2 => exact HC151_5.out); rintro e w40 ⟨rfl, hb⟩; have n0_ := Aside0.mk (xak (g := gb147) (o := .cells #[.int .i8 a0_0, .string a0_1, .int .i8 a0_2, .int .i64 a0_3, .string a0_4, .slice (some ad151) l0_5.length c0_5] 31 (0, 0)) (by (with_reducible repeat (first | refine xaf ?_ _ | refine xai ?_ | refine xad ?_ _)); exact BK147.out) hb); have n1_ := Aside0.mk (xak (g := gb149) (o := .cells #[.string (⟨#[]⟩ : ByteArray), .int .i8 0, .int .i64 0, .string (⟨#[]⟩ : ByteArray)] 28 (0, 0)) (by (with_reducible repeat (first | refine xaf ?_ _ | refine xai ?_ | refine xad ?_ _)); exact BK149.out) hb); have n2_ := Aside0.mk (xae (by repeat (first | (with_reducible first | exact HB.out | apply xab | apply xaa | apply xac | refine xah ?_ GE147.out | refine xah ?_ GE149.out) | exact HB.out)) hb); clear BK147; clear BK149; clear HB; have BK147 := n0_; have BK149 := n1_; have HB := n2_; clear n0_ n1_ n2_; (try clear hb); (try clear hb2); (try clear hk); (try clear hi))))
           go_ret
           exact ⟨by first | rfl | (simp [xan, xam] <;> rfl) | (simp [*, xan, xam] <;> rfl), by repeat (first | (with_reducible first | exact HB.out | apply xab | apply xaa | apply xac | refine xah ?_ GE147.out | refine xah ?_ GE149.out) | exact HB.out)⟩
         ·rw [if_neg c32] at H
          exact absurd H (by simp)
        ·rw [if_neg c31] at H
         have c31b0 : decide (x6_2 < (l0_5.length : Int)) = false := decide_eq_false c31
         clear c31
         obtain rfl := Option.some.inj H
         have hnb41 := NB147_149.out
         have hnc41 := NB149_147.out
         obtain ⟨hcz42_0, hcz42_1, hcz42_2, hcz42_3, hcz42_4, hcz42_5⟩ := cz6 BK147.out
         obtain ⟨hfz42_0, hfz42_1, hfz42_2, hfz42_3, hfz42_4, hfz42_5⟩ := fz6 BK147.out
         go_wp2
         repeat (go_quiet (fail); try go_wp2)
         go_ret
         exact ⟨by first | rfl | (simp [xan, xam] <;> rfl) | (simp [*, xan, xam] <;> rfl), by repeat (first | (with_reducible first | exact HB.out | apply xab | apply xaa | apply xac | refine xah ?_ GE147.out | refine xah ?_ GE149.out) | exact HB.out)⟩
end Go.Proofs.YtllcmggmcogokaaDoor.PAll
end
section
namespace Go.Proofs.YtllcmggmcogokaaDoor.PAll
open Go.RowKit Go.Proofs.YtllcmggmcogokaaDoorW.PrintWords Go.Proofs.YtllcmggmcogokaaDoorW.PrintLast Go.Proofs.YtllcmggmcogokaaDoorW.PrintMore
attribute [local go_sem] max2_int min2_int max_two min_two max_three min_three max_four min_four
mutual
def r4_atom.j0 : Nat → Bool → ByteArray → List (S28) → Option (Bool)
 | 0, _, _, _ => none
 | k + 1, x13, x237000, x237001 => if x13 = true then (some false) else (r4_atom.l0 k 0 x237000 x237001)
def r4_atom.l0 : Nat → Int → ByteArray → List (S28) → Option (Bool)
 | 0, _, _, _ => none
 | k + 1, x3, x237000, x237001 => if x3 < (x237001.length : Int) then (if 0 ≤ x3 then ((r4_term.f k ((rd_T28 x237001 x3).f0) ((rd_T28 x237001 x3).f1.f0) ((rd_T28 x237001 x3).f1.f1) ((rd_T28 x237001 x3).f1.f2)).bind fun t239 => (if t239 = true then (r4_atom.l0 k (wrap64 (x3 + 1)) x237000 x237001) else (some false))) else (none)) else (some true)
end
def r4_said.f (a0 : Bool) : Option (Int) := if a0 = true then (some 0) else (some 40)
set_option maxHeartbeats 8000000 in
set_option maxRecDepth 100000 in
theorem r4_said.calls (a0 : Bool) (r : Int) (w : World) (h : r4_said.f a0 = some r) :
  Calls Tryd.prog 54 #[.bool a0] w fun e w' => e = .returned (.int .i64 r) ∧ Drawn0 w w' := by
 have H : (if a0 = true then (some 0) else (some 40)) = some r := h
 clear h
 by_cases c2 : a0 = true
 ·subst c2
  have H1 : (some 0) = some r := by rw [if_pos rfl] at H; exact H
  clear H
  have H := H1
  clear H1
  obtain rfl := Option.some.inj H
  go_enter Tryd.func54, Tryd.ntmps54
  go_wp2
  go_ret
  exact ⟨by first | rfl | (simp; done) | (simp [*]; done), by repeat (first | exact Drawn0.refl _ | apply Drawn0.step)⟩
 ·replace c2 := Bool.eq_false_iff.mpr c2
  subst c2
  have H1 : (some 40) = some r := by rw [if_neg (show ¬ (false = true) by decide)] at H; exact H
  clear H
  have H := H1
  clear H1
  obtain rfl := Option.some.inj H
  go_enter Tryd.func54, Tryd.ntmps54
  go_wp2
  go_ret
  exact ⟨by first | rfl | (simp; done) | (simp [*]; done), by repeat (first | exact Drawn0.refl _ | apply Drawn0.step)⟩
theorem bt_list (s : ByteArray) (i : Nat) (h : i < s.data.toList.length) : bt s (i : Int) = ((s.data.toList[i]).toNat : Int) := by
 have hs : i < s.size := by simpa using h
 rw [← bt_at s (i : Int) (by simpa using hs)]
 rfl
theorem letter_eq (c : Nat) : r1_letter.f (c : Int) = some (letterN c) := by
 unfold r1_letter.f letterN
 repeat' split
 all_goals (refine congrArg some ?_; rw [Bool.eq_iff_iff]; simp; try omega)
theorem written_l0 (s : ByteArray) (hs : s.size ≤ 1000) : ∀ (m i : Nat), s.data.toList.length - i = m → i ≤ s.data.toList.length → Ev (fun k => r1_written.l0 k s (i : Int)) ((s.data.toList.drop i).all fun c => letterN c.toNat)
 | 0, i, hm, hi => by
  have hz : s.data.toList.length = s.size := by simp
  refine Ev.of (fun k => ?_)
  rw [r1_written.l0, if_neg (by omega), List.drop_eq_nil_of_le (by omega)]
  rfl
 | m + 1, i, hm, hi => by
  have hz : s.data.toList.length = s.size := by simp
  have hlt : i < s.data.toList.length := by omega
  have ih := written_l0 s hs m (i + 1) (by omega) (by omega)
  rw [List.drop_eq_getElem_cons hlt, List.all_cons]
  cases hb : letterN (s.data.toList[i]).toNat with
  | false =>
   refine Ev.of (fun k => ?_)
   rw [r1_written.l0, if_pos (by omega), if_pos (by omega), bt_list s i hlt, letter_eq, hb]
   rfl
  | true =>
   rw [Bool.true_and]
   refine ih.step (fun k => ?_)
   rw [r1_written.l0, if_pos (by omega), if_pos (by omega), bt_list s i hlt, letter_eq, hb, w64 (by omega) (by omega)]
   rfl
def wordB (s : ByteArray) (lo hi : Int) : Bool := decide (0 < s.size) && decide (s.size ≤ 120) && decide (lo ≤ bt s 0) && decide (bt s 0 ≤ hi) && lettersFrom s.data.toList
theorem term_word_eq (s : ByteArray) (lo hi : Int) : term_word.f s lo hi = some (wordB s lo hi) := rfl
theorem written_ev (s : ByteArray) (lo hi : Int) (hlo : ∀ c : Nat, lo ≤ (c : Int) → (c : Int) ≤ hi → letterN c = true) : Ev (fun k => r1_written.f k s lo hi) (wordB s lo hi) := by
 have hz : s.data.toList.length = s.size := by simp
 have hj : Ev (fun k => r1_written.j0 k s true) false := Ev.of (fun k => by rw [r1_written.j0, if_pos rfl])
 by_cases h0 : (s.size : Int) < 1
 ·have e : wordB s lo hi = false := by simp [wordB, show ¬ 0 < s.size by omega]
  rw [e]
  exact hj.cong (fun k => by rw [r1_written.f, if_pos h0])
 by_cases h1 : (s.size : Int) > 120
 ·have e : wordB s lo hi = false := by simp [wordB, show ¬ s.size ≤ 120 by omega]
  rw [e]
  exact hj.cong (fun k => by rw [r1_written.f, if_neg h0, if_pos h1])
 by_cases h2 : bt s 0 < lo
 ·have e : wordB s lo hi = false := by simp [wordB, show ¬ lo ≤ bt s 0 by omega]
  rw [e]
  exact hj.cong (fun k => by rw [r1_written.f, if_neg h0, if_neg h1, if_pos (by omega), if_pos h2])
 by_cases h3 : bt s 0 > hi
 ·have e : wordB s lo hi = false := by simp [wordB, show ¬ bt s 0 ≤ hi by omega]
  rw [e]
  exact hj.cong (fun k => by rw [r1_written.f, if_neg h0, if_neg h1, if_pos (by omega), if_neg h2, decide_eq_true h3])
 have hlt : 0 < s.data.toList.length := by omega
 have hb := bt_list s 0 hlt
 have hl : letterN (s.data.toList[0]).toNat = true := hlo _ (by rw [← hb]; simp; omega) (by rw [← hb]; simp; omega)
 have e : wordB s lo hi = ((s.data.toList.drop 1).all fun c => letterN c.toNat) := by
  rw [wordB, decide_eq_true (by omega), decide_eq_true (by omega), decide_eq_true (by omega), decide_eq_true (by omega), lettersFrom]
  conv => lhs; rw [show s.data.toList = s.data.toList[0] :: s.data.toList.drop 1 from by rw [← List.drop_eq_getElem_cons hlt]; rfl]
  rw [List.all_cons, hl]
  rfl
 rw [e]
 have h := written_l0 s (by omega) _ 1 rfl (by omega)
 have h' : Ev (fun k => r1_written.j0 k s false) _ := h.step (fun k => by rw [r1_written.j0, if_neg (by simp)]; rfl)
 exact h'.cong (fun k => by rw [r1_written.f, if_neg h0, if_neg h1, if_pos (by omega), if_neg h2, decide_eq_false h3])
theorem upper_letter (c : Nat) (h : (65 : Int) ≤ c) (h2 : (c : Int) ≤ 90) : letterN c = true := by simp [letterN]; omega
theorem value_same (a b : Int) (s : ByteArray) : r1_Check.f a b s = value_Check.f a b s := by
 unfold r1_Check.f value_Check.f
 by_cases h1 : a = 1
 ·rw [if_pos h1, if_pos h1, if_neg (show ¬ a = 2 by omega)]
 ·rw [if_neg h1, if_neg h1]
theorem value_tot (a b : Int) (s : ByteArray) : ∃ r, value_Check.f a b s = some r := by
 unfold value_Check.f
 repeat' split
 all_goals exact ⟨_, rfl⟩
theorem Ev.of_bind {α β : Type} {f : Nat → Option α} {r : α} {g : α → Option β} {s : β} (h : Ev f r) (h2 : g r = some s) : Ev (fun k => (f k).bind g) s := Ev.bind (g := fun _ => g) h (Ev.const (fun _ => h2))
theorem term_ev (t : S28) : Ev (fun k => r4_term.f k t.f0 t.f1.f0 t.f1.f1 t.f1.f2) (!termBad t) := by
 unfold termBad
 by_cases h0 : t.f0.toList = []
 ·obtain ⟨r, hr⟩ := value_tot t.f1.f0 t.f1.f1 t.f1.f2
  refine Ev.const (fun k => ?_)
  rw [r4_term.f, if_pos h0, value_same, hr, term_CheckTerm.f, if_pos h0, hr]
  show some _ = some _
  congr 1
  by_cases hq : r = 0 <;> simp [term_code.f, hq]
 ·by_cases h1 : t.f0.toList = [95]
  ·refine Ev.const (fun k => ?_)
   rw [r4_term.f, if_neg h0, if_pos h1, term_CheckTerm.f, if_neg h0]
   cases hq : (t.f1.f0 == 0 && (t.f1.f1 == 0 && (t.f1.f2.toList == ([] : List UInt8)))) with
   | true => rw [if_pos rfl, if_pos h1]; simp [term_code.f]
   | false => rw [if_neg (by simp)]; simp [term_code.f]
  ·refine Ev.cong (f := fun k => (r1_Variable.f k t.f0).bind fun t182 => (if t182 = true then (some (t.f1.f0 == 0 && (t.f1.f1 == 0 && (t.f1.f2.toList == ([] : List UInt8))))) else (some false))) ?_ (fun k => by rw [r4_term.f, if_neg h0, if_neg h1])
   have hv : Ev (fun k => r1_Variable.f k t.f0) (wordB t.f0 65 90) := Ev.of_bind (g := fun x => some x) (written_ev t.f0 65 90 upper_letter) rfl
   refine Ev.of_bind hv ?_
   rw [term_CheckTerm.f, if_neg h0, term_word_eq]
   clear hv
   generalize wordB t.f0 65 90 = wb
   cases hq : (t.f1.f0 == 0 && (t.f1.f1 == 0 && (t.f1.f2.toList == ([] : List UInt8)))) with
   | true => rw [if_pos rfl, if_neg h1]; cases wb <;> simp [term_code.f]
   | false => rw [if_neg (show ¬ (false = true) by simp)]; cases wb <;> simp [term_code.f]
theorem solid_bad (t : S28) : solidB t = (decide (t.f0.toList ≠ [95]) && !termBad t) := by
 unfold solidB term_solid.f termBad
 by_cases h : t.f0.toList = [95]
 ·rw [if_pos h]; simp [h]
 ·rw [if_neg h, xbs t]
  simp [h, bne]
theorem kids_eq (op : Int) (k : Nat) : r4_kids.f (k + 1) op = some (arityOf op) := by
 unfold r4_kids.f arityOf r4_kids.j0
 repeat' split
 all_goals first | rfl | omega | (simp_all; done) | (simp_all; omega)
theorem expr_l0 (n : Nat) (hn : n ≤ 100) (ih : ∀ e : S31, Ev (fun k => r4_expr.f k e.f0 e.f1.f0 e.f1.f1.f0 e.f1.f1.f1 e.f1.f1.f2 e.f2 (n : Int)) (deepB n e)) (a0 : Int) (a1 : ByteArray) (a2 a3 : Int) (a4 : ByteArray) (l : List S31) (hl : l.length ≤ 1000) :
  ∀ (m i : Nat), l.length - i = m → i ≤ l.length → Ev (fun k => r4_expr.l0 k ((n + 1 : Nat) : Int) (i : Int) a0 a1 a2 a3 a4 l) ((l.drop i).all (deepB n))
 | 0, i, hm, hi => by
  refine Ev.of (fun k => ?_)
  rw [r4_expr.l0, if_neg (by omega), List.drop_eq_nil_of_le (by omega)]
  rfl
 | m + 1, i, hm, hi => by
  have hlt : i < l.length := by omega
  have e : rd_T31 l (i : Int) = l[i] := by rw [rd_T31, List.getD_eq_getElem?_getD, Int.toNat_natCast, List.getElem?_eq_getElem hlt]; rfl
  have h1 := expr_l0 n hn ih a0 a1 a2 a3 a4 l hl m (i + 1) (by omega) (by omega)
  have h2 := ih l[i]
  rw [List.drop_eq_getElem_cons hlt, List.all_cons]
  rw [← e] at h2 ⊢
  have h3 : Ev (fun k => (r4_expr.f k (rd_T31 l (i : Int)).f0 (rd_T31 l (i : Int)).f1.f0 (rd_T31 l (i : Int)).f1.f1.f0 (rd_T31 l (i : Int)).f1.f1.f1 (rd_T31 l (i : Int)).f1.f1.f2 (rd_T31 l (i : Int)).f2 (n : Int)).bind fun t => if t = true then r4_expr.l0 k ((n + 1 : Nat) : Int) ((i + 1 : Nat) : Int) a0 a1 a2 a3 a4 l else some false) (deepB n (rd_T31 l (i : Int)) && (l.drop (i + 1)).all (deepB n)) := by
   refine Ev.bind (g := fun k t => if t = true then r4_expr.l0 k ((n + 1 : Nat) : Int) ((i + 1 : Nat) : Int) a0 a1 a2 a3 a4 l else some false) h2 ?_
   cases deepB n (rd_T31 l (i : Int)) with
   | false => exact Ev.const (fun k => by simp)
   | true => rw [Bool.true_and]; exact h1.cong (fun k => by simp)
  refine h3.step (fun k => ?_)
  rw [r4_expr.l0, if_pos (by omega), if_pos (by omega), w64 (by omega) (by omega), w64 (by omega) (by omega), show (((n + 1 : Nat) : Int) - 1) = (n : Int) by omega]
  rfl
theorem expr_ev : ∀ (n : Nat), n ≤ 100 → ∀ e : S31, Ev (fun k => r4_expr.f k e.f0 e.f1.f0 e.f1.f1.f0 e.f1.f1.f1 e.f1.f1.f2 e.f2 (n : Int)) (deepB n e)
 | 0, _, e => Ev.of (fun k => by rw [r4_expr.f, if_pos (by simp), deepB])
 | n + 1, hn, e => by
  have ih := expr_ev n (by omega)
  have hne : ¬ ((n + 1 : Nat) : Int) = 0 := by omega
  rw [deepB]
  by_cases h0 : e.f0 = 0
  ·rw [if_pos h0, solid_bad]
   by_cases h1 : (e.f2.length : Int) = 0
   ·by_cases h2 : e.f1.f0.toList = [95]
    ·refine Ev.of (fun k => ?_)
     rw [r4_expr.f, if_neg hne, if_pos h0, if_pos h1, if_pos h2]
     simp [h2]
    ·have h3 : Ev (fun k => (r4_term.f k e.f1.f0 e.f1.f1.f0 e.f1.f1.f1 e.f1.f1.f2).bind fun t => some t) (!termBad e.f1) := Ev.of_bind (g := fun x => some x) (term_ev e.f1) rfl
     rw [show (decide (e.f2.length = 0) && (decide (e.f1.f0.toList ≠ [95]) && !termBad e.f1)) = !termBad e.f1 by simp [h2, show e.f2.length = 0 by omega]]
     refine h3.step (fun k => ?_)
     rw [r4_expr.f, if_neg hne, if_pos h0, if_pos h1, if_neg h2]
   ·refine Ev.of (fun k => ?_)
    rw [r4_expr.f, if_neg hne, if_pos h0, if_neg h1, decide_eq_false (by omega)]
    rfl
  ·rw [if_neg h0]
   have hN : noneB e.f1 = (e.f1.f0.toList == ([] : List UInt8) && ((e.f1.f1.f0 == 0 && (e.f1.f1.f1 == 0 && (e.f1.f1.f2.toList == ([] : List UInt8)))))) := rfl
   have hj : Ev (fun k => r4_expr.j0 k ((n + 1 : Nat) : Int) true e.f0 e.f1.f0 e.f1.f1.f0 e.f1.f1.f1 e.f1.f1.f2 e.f2) false := Ev.of (fun k => by rw [r4_expr.j0, if_pos rfl])
   cases hq : noneB e.f1 with
   | false =>
    rw [Bool.false_and, Bool.false_and]
    refine hj.step (fun k => ?_)
    rw [r4_expr.f, if_neg hne, if_neg h0, if_pos ?_]
    rw [hN] at hq
    rw [← Bool.not_and, ← Bool.not_and, ← Bool.not_and, hq]
    rfl
   | true =>
    rw [Bool.true_and]
    have hc : ¬ ((!(e.f1.f0.toList == ([] : List UInt8)) || ((!(e.f1.f1.f0 == 0) || (!(e.f1.f1.f1 == 0) || (!(e.f1.f1.f2.toList == ([] : List UInt8))))))) = true) := by
     rw [hN] at hq
     rw [← Bool.not_and, ← Bool.not_and, ← Bool.not_and, hq]
     simp
    have main : Ev (fun k => r4_expr.j0 k ((n + 1 : Nat) : Int) ((e.f2.length : Int) != arityOf e.f0) e.f0 e.f1.f0 e.f1.f1.f0 e.f1.f1.f1 e.f1.f1.f2 e.f2) (decide ((e.f2.length : Int) = arityOf e.f0) && e.f2.all (deepB n)) := by
     by_cases hk : (e.f2.length : Int) = arityOf e.f0
     ·have har : arityOf e.f0 ≤ 2 := by unfold arityOf; repeat' split <;> omega
      have h4 := expr_l0 n (by omega) ih e.f0 e.f1.f0 e.f1.f1.f0 e.f1.f1.f1 e.f1.f1.f2 e.f2 (by omega) _ 0 rfl (Nat.zero_le _)
      rw [List.drop_zero] at h4
      rw [decide_eq_true hk, Bool.true_and]
      refine h4.step (fun k => ?_)
      rw [r4_expr.j0, if_neg (by simp [hk])]
      rfl
     ·rw [decide_eq_false hk, Bool.false_and]
      refine Ev.of (fun k => ?_)
      rw [r4_expr.j0, if_pos (by simpa using hk)]
    obtain ⟨k0, hk0⟩ := main
    refine ⟨k0 + 2, fun k hk => ?_⟩
    obtain ⟨j, rfl⟩ : ∃ j, k = j + 2 := ⟨k - 2, by omega⟩
    show r4_expr.f (j + 1 + 1) _ _ _ _ _ _ _ = _
    rw [r4_expr.f, if_neg hne, if_neg h0, if_neg hc, kids_eq]
    exact hk0 (j + 1) (by omega)
def nameB (p : ByteArray) : Bool := (term_name.f p).getD false
theorem name_tot (p : ByteArray) : term_name.f p = some (nameB p) := by
 unfold nameB term_name.f
 rw [term_word_eq]
 repeat' split
 all_goals rfl
def atomB (p : ByteArray) (l : List S28) : Bool := nameB p && decide (l.length ≤ 24) && !l.any termBad
theorem checkAtom_eq (p : ByteArray) (l : List S28) : term_CheckAtom.f p l = some (if atomB p l then 0 else 40) := by
 rw [term_CheckAtom.f, name_tot]
 rfl
theorem checkExpr_eq (x : S31) : term_CheckExpr.f x.f0 x.f1.f0 x.f1.f1.f0 x.f1.f1.f1 x.f1.f1.f2 x.f2 = some (if deepB 8 x then 0 else 40) := by
 rw [term_CheckExpr.f, term_deep.f, if_pos ⟨by decide, by decide⟩, eta_expr]
 show (term_code.f (deepB 8 x)).bind _ = _
 cases deepB 8 x <;> rfl
def OpensAt {α : Type} (P : Program) (d : Kd α) (Fit : α → Prop) (t : TypeId) (fuel : Nat) : Prop :=
 ∀ (H : Type) (enc : TypeId × Value → H) (W : World) (cs : List Value) (x : DataW H × List MemPlace), DataW.trod enc P W 0 (fun _ => true) true fuel t cs = some x → (∀ n ∈ x.1.weights P t, n ≤ reachBytes) → ∃ a, d.K W a cs ∧ Fit a
theorem opens_int {P : Program} {k : IntKind} {t : TypeId} (ht : P.underlying t = some (.int k)) (fuel : Nat) : OpensAt P (Kd.int k) (fun n => (Lit.int k n).wf = true) t fuel := by
 intro H enc W cs x h _
 obtain ⟨n, rfl, _, hw⟩ := DataW.trod_int ht h
 exact ⟨n, rfl, hw⟩
theorem opens_string {P : Program} {t : TypeId} (ht : P.underlying t = some .string) (fuel : Nat) : OpensAt P Kd.string (fun s => s.size ≤ reachBytes) t fuel := by
 intro H enc W cs x h hw
 obtain ⟨s, rfl, rfl, _⟩ := DataW.trod_string ht h
 refine ⟨s, rfl, ?_⟩
 have := hw s.data.toList.length (by simp [DataW.weights])
 simpa using this
theorem mem_weightsAll {H : Type} {P : Program} {e : TypeId} : ∀ {l : List (DataW H)} {d : DataW H} {n : Nat}, d ∈ l → n ∈ d.weights P e → n ∈ DataW.weightsAll P e l
 | c :: l, d, n, hd, hn => by
  rw [DataW.weightsAll]
  rcases List.mem_cons.1 hd with rfl | hd
  ·exact List.mem_append_left _ hn
  ·exact List.mem_append_right _ (mem_weightsAll hd hn)
theorem cells_of_cells? {w : World} {a : Addr} {n : Nat} {cs : List Value} (h : w.cells? 0 a n = some cs) : cs.length = n ∧ ∀ i u, cs[i]? = some u → w.cell? (a.add i) = some u := by
 unfold World.cells? at h
 rw [if_pos (Nat.zero_le _)] at h
 have key : ∀ (l : List Nat) (cs : List Value), (l.mapM fun i => w.cell? (a.add i)) = some cs → cs.length = l.length ∧ ∀ (i : Nat) (u : Value) (j : Nat), l[i]? = some j → cs[i]? = some u → w.cell? (a.add j) = some u := by
  intro l
  induction l with
  | nil => intro cs h; simp at h; subst h; simp
  | cons j l ih =>
   intro cs h
   rw [List.mapM_cons] at h
   cases h1 : w.cell? (a.add j) with
   | none => rw [h1] at h; simp at h
   | some v =>
    rw [h1] at h
    cases h2 : (l.mapM fun i => w.cell? (a.add i)) with
    | none => rw [h2] at h; simp at h
    | some vs =>
     rw [h2] at h
     simp at h
     subst h
     obtain ⟨g1, g2⟩ := ih vs h2
     refine ⟨by simp [g1], fun i u q hq hu => ?_⟩
     cases i with
     | zero => simp at hq hu; subst hq; subst hu; exact h1
     | succ i => exact g2 i u q (by simpa using hq) (by simpa using hu)
 obtain ⟨h1, h2⟩ := key _ _ h
 refine ⟨by simpa using h1, fun i u hu => h2 i u i ?_ hu⟩
 have := (List.getElem?_eq_some_iff.1 hu).1
 simp at h1
 rw [List.getElem?_range (by omega)]
theorem opens_slice {α : Type} {P : Program} {d : Kd α} {Fit : α → Prop} {t e : TypeId} {B fuel : Nat} (ht : P.underlying t = some (.slice e)) (hc : P.cellsOf e = d.sz) (hB : P.bytesOf e = B) (hd : ∀ n, n < fuel → OpensAt P d Fit e n) :
  OpensAt P (Kd.slice e d) (fun xs => xs.length * B ≤ reachBytes ∧ ∀ x ∈ xs, Fit x) t fuel := by
 intro H enc W cs x h hw
 rcases DataW.trod_slice ht h with ⟨rfl, rfl⟩ | ⟨a, len, cap, elems, rest, n, rfl, rfl, rfl, _, hl, hm, he, hel, _, _⟩
 ·exact ⟨[], ⟨none, 0, rfl, Nat.le_refl _, Kd.C_nil _ _⟩, by simp, by simp⟩
 ·have hlen : len * B ≤ reachBytes := by
   have := hw ((elems.length + rest.length) * B) (by simp [DataW.weights, ht, hB])
   exact Nat.le_trans (Nat.mul_le_mul_right _ (by omega)) this
  have hone : ∀ i, i < len → ∃ cs' y a', elems[i]? = some y ∧ W.cells? 0 (a.add (i * d.sz)) d.sz = some cs' ∧ d.K W a' cs' ∧ Fit a' := by
   intro i hi
   have h1 := hel i hi
   rw [hc] at h1
   have hy := List.getElem?_eq_getElem (show i < elems.length by omega)
   rw [hy] at h1
   obtain ⟨cs', hcs, hx⟩ := Option.bind_eq_some_iff.1 h1
   obtain ⟨a', hK, hF⟩ := hd n (Nat.lt_succ_self _) H enc W cs' elems[i] hx (fun q hq => hw q (by
    simp only [DataW.weights, ht]
    refine List.mem_cons_of_mem _ (List.mem_append_left _ (mem_weightsAll (List.mem_map_of_mem (List.getElem_mem (show i < elems.length by omega))) hq))))
   exact ⟨cs', elems[i], a', hy, hcs, hK, hF⟩
  have hall : ∀ m : Nat, m ≤ len → ∃ xs : List α, xs.length = m ∧ ∀ i, (hi : i < xs.length) → ∃ cs', W.cells? 0 (a.add (i * d.sz)) d.sz = some cs' ∧ d.K W xs[i] cs' ∧ Fit xs[i] := by
   intro m
   induction m with
   | zero => exact fun _ => ⟨[], rfl, fun i hi => absurd hi (Nat.not_lt_zero _)⟩
   | succ m ih =>
    intro hm
    obtain ⟨xs, h1, h2⟩ := ih (by omega)
    obtain ⟨cs', y, a', _, hcs, hK, hF⟩ := hone m (by omega)
    refine ⟨xs ++ [a'], by simp [h1], fun i hi => ?_⟩
    rcases Nat.lt_or_ge i xs.length with hlt | hge
    ·rw [List.getElem_append_left hlt]
     exact h2 i hlt
    ·have : i = m := by simp at hi; omega
     subst this
     rw [List.getElem_append_right (by omega)]
     simp only [h1, Nat.sub_self, List.getElem_cons_zero]
     exact ⟨cs', hcs, hK, hF⟩
  obtain ⟨xs, hx1, hx2⟩ := hall len (Nat.le_refl _)
  subst hx1
  refine ⟨xs, ⟨some a, cap, rfl, hl, rfl, Nat.le_trans hl (by simpa [maxLen] using hm), fun _ => ⟨a, rfl, fun j p hj => ?_⟩⟩, hlen, fun y hy => ?_⟩
  ·obtain ⟨hjl, rfl⟩ := List.getElem?_eq_some_iff.1 hj
   obtain ⟨cs', hcs, hK, _⟩ := hx2 j hjl
   obtain ⟨g1, g2⟩ := cells_of_cells? hcs
   refine ⟨cs', g1, hK, fun i u hu => ?_⟩
   rw [← add_add]
   exact g2 i u hu
  ·obtain ⟨j, hj, rfl⟩ := List.getElem_of_mem hy
   obtain ⟨_, _, _, hF⟩ := hx2 j hj
   exact hF
def OpensSeq {α : Type} (P : Program) (d : Kd α) (Fit : α → Prop) (fs : List Field) (off : Nat) (fuel : Nat) : Prop :=
 ∀ (H : Type) (enc : TypeId × Value → H) (W : World) (cs : List Value) (xs : List (DataW H × List MemPlace)), (∀ (i : Nat) (f : Field), fs[i]? = some f → DataW.trod enc P W 0 (fun _ => true) true fuel f.type ((cs.drop f.offset).take (P.cellsOf f.type)) = xs[i]?) → xs.length = fs.length →
  (∀ n ∈ DataW.weightsEach P (fs.map (·.type)) (xs.map (·.1)), n ≤ reachBytes) → cs.length = off + d.sz → ∃ a, d.K W a (cs.drop off) ∧ Fit a
theorem opens_last {α : Type} {P : Program} {d : Kd α} {Fit : α → Prop} {f : Field} {off fuel : Nat} (ho : f.offset = off) (hc : P.cellsOf f.type = d.sz) (hd : OpensAt P d Fit f.type fuel) : OpensSeq P d Fit [f] off fuel := by
 intro H enc W cs xs h hl hw hcs
 match xs, hl with
 | [x], _ =>
  have h0 := h 0 f rfl
  rw [ho, hc, List.take_of_length_le (by rw [List.length_drop]; omega)] at h0
  exact hd H enc W _ x h0 (fun n hn => hw n (by simp [DataW.weightsEach, hn]))
theorem opens_cons {α β : Type} {P : Program} {d : Kd α} {d' : Kd β} {Fit : α → Prop} {Fit' : β → Prop} {f : Field} {fs : List Field} {off fuel : Nat} (ho : f.offset = off) (hc : P.cellsOf f.type = d.sz) (hd : OpensAt P d Fit f.type fuel) (hs : OpensSeq P d' Fit' fs (off + d.sz) fuel) :
  OpensSeq P (Kd.pair d d') (fun x => Fit x.1 ∧ Fit' x.2) (f :: fs) off fuel := by
 intro H enc W cs xs h hl hw hcs
 match xs, hl with
 | x :: xs, hl =>
  have h0 := h 0 f rfl
  rw [ho, hc] at h0
  have hcs' : cs.length = off + (d.sz + d'.sz) := hcs
  obtain ⟨a, hK, hF⟩ := hd H enc W _ x h0 (fun n hn => hw n (by simp only [List.map_cons, DataW.weightsEach]; exact List.mem_append_left _ hn))
  obtain ⟨b, hK2, hF2⟩ := hs H enc W cs xs (fun i g hg => by have := h (i + 1) g (by simpa using hg); simpa using this) (by simpa using hl) (fun n hn => hw n (by simp only [List.map_cons, DataW.weightsEach]; exact List.mem_append_right _ hn)) (by omega)
  refine ⟨(a, b), ⟨(cs.drop off).take d.sz, cs.drop (off + d.sz), ?_, hK, hK2⟩, hF, hF2⟩
  rw [← List.drop_drop, List.take_append_drop]
theorem opens_struct {α : Type} {P : Program} {d : Kd α} {Fit : α → Prop} {t : TypeId} {fs : Array Field} {fuel : Nat} (ht : P.underlying t = some (.struct fs)) (hc : P.cellsOf t = d.sz) (hs : ∀ n, n < fuel → OpensSeq P d Fit fs.toList 0 n) : OpensAt P d Fit t fuel := by
 intro H enc W cs x h hw
 obtain ⟨xs, n, rfl, rfl, hl, hx, hf⟩ := DataW.trod_struct ht h
 have := hs n (Nat.lt_succ_self _) H enc W cs xs (fun i f hi => hf i f (by simpa using hi)) (by simpa using hx) (fun q hq => hw q (by simp only [DataW.weights, ht]; exact hq)) (by omega)
 simpa using this
theorem opensSeq_iso {α β : Type} {P : Program} {d : Kd α} {Fit : α → Prop} {f : β → α} (g : α → β) (hg : ∀ x, f (g x) = x) {fs : List Field} {off fuel : Nat} (h : OpensSeq P d Fit fs off fuel) : OpensSeq P (Kd.iso d f) (fun y => Fit (f y)) fs off fuel := by
 intro H enc W cs xs h1 h2 h3 h4
 obtain ⟨a, hK, hF⟩ := h H enc W cs xs h1 h2 h3 h4
 exact ⟨g a, by show d.K W (f (g a)) _; rw [hg]; exact hK, by show Fit (f (g a)); rw [hg]; exact hF⟩
abbrev FV (x : S26) : Prop := (Lit.int .i8 x.f0).wf = true ∧ (Lit.int .i64 x.f1).wf = true ∧ x.f2.size ≤ reachBytes
theorem opens_value (fuel : Nat) : OpensAt Tryd.prog k26 FV 26 fuel :=
 opens_struct Tryd.underlying26 (by kernel_rfl) (fun n _ => opensSeq_iso (fun q : Int × Int × ByteArray => (⟨q.1, q.2.1, q.2.2⟩ : S26)) (fun _ => rfl) (opens_cons rfl (by kernel_rfl) (opens_int (by kernel_rfl) n) (opens_cons rfl (by kernel_rfl) (opens_int (by kernel_rfl) n) (opens_last rfl (by kernel_rfl) (opens_string (by kernel_rfl) n)))))
abbrev FT (x : S28) : Prop := x.f0.size ≤ reachBytes ∧ FV x.f1
theorem opens_term (fuel : Nat) : OpensAt Tryd.prog k28 FT 28 fuel :=
 opens_struct Tryd.underlying28 (by kernel_rfl) (fun n _ => opensSeq_iso (fun q : ByteArray × S26 => (⟨q.1, q.2⟩ : S28)) (fun _ => rfl) (opens_cons rfl (by kernel_rfl) (opens_string (by kernel_rfl) n) (opens_last rfl (by kernel_rfl) (opens_value n))))
def FE : Nat → S31 → Prop
 | 0, _ => False
 | n + 1, x => (Lit.int .i8 x.f0).wf = true ∧ FT x.f1 ∧ x.f2.length * 80 ≤ reachBytes ∧ ∀ k ∈ x.f2, FE n k
set_option maxRecDepth 100000 in
theorem opens_exprN : ∀ fuel : Nat, ∀ m, m ≤ fuel → OpensAt Tryd.prog (Kd.upto F31 6 [31] fuel) (FE fuel) 31 m
 | 0, m, hm => by
  obtain rfl : m = 0 := by omega
  intro H enc W cs x h _
  simp [DataW.trod] at h
 | fuel + 1, m, hm => by
  have ih := opens_exprN fuel
  refine opens_struct (d := F31 (Kd.upto F31 6 [31] fuel)) Tryd.underlying31 (show _ = 6 from by kernel_rfl) (fun n hn => ?_)
  have hs : (Kd.upto F31 6 [31] fuel).sz = 6 := sz31 fuel
  exact opensSeq_iso (fun q : Int × S28 × List S31 => (⟨q.1, q.2.1, q.2.2⟩ : S31)) (fun _ => rfl) (opens_cons rfl (by kernel_rfl) (opens_int (by kernel_rfl) n) (opens_cons rfl (by kernel_rfl) (opens_term n) (opens_last rfl (by kernel_rfl) (opens_slice Tryd.underlying29 (by rw [hs]; kernel_rfl) (by kernel_rfl) (fun j hj => ih j (by omega))))))
def FX (x : S31) : Prop := ∃ n, FE n x
theorem opens_expr (fuel : Nat) : OpensAt Tryd.prog k31 FX 31 fuel := by
 intro H enc W cs x h hw
 obtain ⟨a, hK, hF⟩ := opens_exprN fuel fuel (Nat.le_refl _) H enc W cs x h hw
 exact ⟨a, ⟨fuel, hK⟩, ⟨fuel, hF⟩⟩
end Go.Proofs.YtllcmggmcogokaaDoor.PAll
end
section
namespace Go.Proofs.YtllcmggmcogokaaDoor.PAll
open Go.RowKit Go.Proofs.YtllcmggmcogokaaDoorW.PrintWords Go.Proofs.YtllcmggmcogokaaDoorW.PrintLast Go.Proofs.YtllcmggmcogokaaDoorW.PrintMore
attribute [local go_sem] max2_int min2_int max_two min_two max_three min_three max_four min_four
open Go.Lib (byteCells byteCells_length byteCells_one)
structure BackAt (w0 : World) (s : ByteArray) (q : Nat) (R : List UInt8) (w : World) : Prop where
 below : Below w0.heap.size w0 w
 size : w0.heap.size + 5 ≤ w.heap.size
 b0 : w.heap[w0.heap.size]? = some (.cells #[.string s] 9 (0, 0))
 row : ∃ cur : Array Value, w.heap[w0.heap.size + 1]? = some (.cells cur 5 (0, 0)) ∧ cur.size = s.size ∧ cur.toList.drop (s.size - q) = byteCells R
 b2 : w.heap[w0.heap.size + 2]? = some (.cells #[.slice (some ⟨w0.heap.size + 1, 0, none⟩) s.size s.size] 150 (0, 0))
 b3 : w.heap[w0.heap.size + 3]? = some (.cells #[.int .i64 ((s.size : Int) - q)] 3 (0, 0))
 b4 : w.heap[w0.heap.size + 4]? = some (.cells #[.int .i64 q] 3 (0, 0))
theorem cut_off {P : Program} (t e : TypeId) (ht : P.underlying t = some (.slice e)) (hs : (P.info? e).map (·.size) = some 1) (g n k : Nat) (hk : k ≤ n) :
  ∃ o : Nat, (k = 0 → o = 0) ∧ (k ≠ 0 → o = n - k) ∧ ∀ W : World, (Instr.slice t (.slice (some ⟨g, 0, none⟩) n n) (some (.int .i64 ((n : Int) - k))) none none).run P W = .ok (.slice (some ⟨g, o, none⟩) k k) W := by
 obtain ⟨i, hi, h1⟩ : ∃ i, P.info? e = some i ∧ i.size = 1 := by
  cases hq : P.info? e with
  | none => simp [hq] at hs
  | some i => exact ⟨i, rfl, by simpa [hq] using hs⟩
 have hel : P.elem t = e := by simp [Program.elem, ht]
 have hu : P.underlying t = some (.slice (P.elem t)) := by rw [hel]; exact ht
 have e1 : ((n : Int) - k).toNat = n - k := by omega
 have hrun : ∀ W : World, (Instr.slice t (.slice (some ⟨g, 0, none⟩) n n) (some (.int .i64 ((n : Int) - k))) none none).run P W = .ok (sliced (some ⟨g, 0, none⟩) (n - k) n n 1) W := by
  intro W
  rw [run_slice_l W t _ n n hu .i64 _ (by omega) (by omega), hel, e1]
  simp [Go.sizeOf, typeInfo, hi, h1, Result.andThen]
 by_cases h0 : k = 0
 ·refine ⟨0, fun _ => rfl, fun h => absurd h0 h, fun W => ?_⟩
  rw [hrun W]
  subst h0
  simp [sliced, Addr.add]
 ·refine ⟨n - k, fun h => absurd h h0, fun _ => rfl, fun W => ?_⟩
  rw [hrun W]
  simp [sliced, Addr.add, show ¬ n = n - k by omega, show n - (n - k) = k by omega]
  omega
theorem cut_text {P : Program} (t : TypeId) (ht : P.underlying t = some .string) (s : ByteArray) (a b : Nat) (h1 : a ≤ b) (h2 : b ≤ s.size) :
  ∀ W : World, (Instr.slice t (.string s) (some (.int .i64 (a : Int))) (some (.int .i64 (b : Int))) none).run P W = .ok (.string (s.extract a b)) W := by
 intro W
 rw [run_slice_string_if W t s .i64 .i64 a b ht, if_pos (by omega), if_pos (by omega)]
 simp
theorem extract_size (s : ByteArray) (a b : Nat) (h1 : a ≤ b) (h2 : b ≤ s.size) : (s.extract a b).size = b - a := by
 rw [ByteArray.size_extract]; omega
set_option maxHeartbeats 1000000 in
set_option maxRecDepth 100000 in
theorem back_put (w0 : World) (s : ByteArray) (q i : Nat) (R : List UInt8) (w : World) (h : BackAt w0 s q R w) (hq : q ≤ i) (hi : i ≤ s.size) (hs : s.size ≤ 140737488351232) (r : Nat) (o : Obj) (hr : w0.heap.size + 5 ≤ r) (hro : w.heap[r]? = some o) :
  Calls Tryd.prog 103 #[.int .i64 i, .pointer (some ⟨w0.heap.size + 3, 0, none⟩), .pointer (some ⟨w0.heap.size + 4, 0, none⟩), .pointer (some ⟨w0.heap.size + 2, 0, none⟩), .pointer (some ⟨w0.heap.size, 0, none⟩)] w fun e w' =>
   e = .returned (.tuple #[]) ∧ BackAt w0 s i ((s.data.toList.drop q).take (i - q) ++ R) w' ∧ w'.heap[r]? = some o := by
 obtain ⟨cur, hg, hcs, hcR⟩ := h.row
 have s3 : w.cell? ⟨w0.heap.size + 3, 0, none⟩ = some (.int .i64 ((s.size : Int) - q)) := (xag h.b3 0).trans rfl
 have f3 := xal h.b3 0
 have s4 : w.cell? ⟨w0.heap.size + 4, 0, none⟩ = some (.int .i64 q) := (xag h.b4 0).trans rfl
 have HH := Lib.hid h
 have HG := Lib.hid hg
 have HRO := Lib.hid hro
 have HCR := Lib.hid hcR
 obtain ⟨off, ho0, ho1, hcut⟩ := cut_off (P := Tryd.prog) 150 5 Tryd.underlying150 (by kernel_rfl) (w0.heap.size + 1) s.size i hi
 have htext := cut_text (P := Tryd.prog) 9 Tryd.underlying9 s q i hq hi
 have hfit : off + (i - q) ≤ s.size := by by_cases h0 : i = 0 <;> simp_all <;> omega
 have hcopy : ∀ W : World, W.heap[w0.heap.size + 1]? = some (.cells cur 5 (0, 0)) → (Builtin.copy_ #[150, 9] 3 #[.slice (some ⟨w0.heap.size + 1, off, none⟩) i i, .string (s.extract q i)]).run Tryd.prog W =
   .ok (goInt (s.extract q i).size) (W.setRow (w0.heap.size + 1) (cur.toList.take off ++ byteCells (s.extract q i).data.toList ++ cur.toList.drop (off + (s.extract q i).size)).toArray) := fun W hW =>
  Go.Lib.run_copy_row_string W 150 9 3 5 (w0.heap.size + 1) off i i (s.extract q i) cur 5 Tryd.underlying150 (by kernel_rfl) hW (by rw [extract_size s q i hq hi]; omega) (by rw [extract_size s q i hq hi]; omega)
 have HCOPY := Lib.hid hcopy
 clear h hg hro hcR hcopy
 go_enter Tryd.func103, Tryd.ntmps103
 go_wp2_with fail
 rw [show ((s.size : Int) - q - ((i : Int) - q)) = (s.size : Int) - i by omega]
 have HB := Lib.hid (xah (j := 0) (v := .int .i64 ((s.size : Int) - i)) HH.out.below (show w0.heap.size ≤ w0.heap.size + 3 by omega))
 have HZ := Lib.hid (show w0.heap.size + 5 ≤ (w.setCell ⟨w0.heap.size + 3, 0, none⟩ (.int .i64 ((s.size : Int) - i))).heap.size by simpa using HH.out.size)
 have HP0 := Lib.hid (xax (p := ⟨w0.heap.size + 3, 0, none⟩) HH.out.b0 (show w0.heap.size ≠ w0.heap.size + 3 by omega) (.int .i64 ((s.size : Int) - i)))
 have HP1 := Lib.hid (xax (p := ⟨w0.heap.size + 3, 0, none⟩) HG.out (show w0.heap.size + 1 ≠ w0.heap.size + 3 by omega) (.int .i64 ((s.size : Int) - i)))
 have HP2 := Lib.hid (xax (p := ⟨w0.heap.size + 3, 0, none⟩) HH.out.b2 (show w0.heap.size + 2 ≠ w0.heap.size + 3 by omega) (.int .i64 ((s.size : Int) - i)))
 have HP4 := Lib.hid (xax (p := ⟨w0.heap.size + 3, 0, none⟩) HH.out.b4 (show w0.heap.size + 4 ≠ w0.heap.size + 3 by omega) (.int .i64 ((s.size : Int) - i)))
 have HPR := Lib.hid ((Below.heap_setCell w ⟨w0.heap.size + 3, 0, none⟩ (.int .i64 ((s.size : Int) - i)) r (show r ≠ w0.heap.size + 3 by omega)).trans HRO.out)
 have HP3 := Lib.hid (xbo HH.out.b3 0 (.int .i64 ((s.size : Int) - i)))
 clear s3 f3 s4 HG HRO HH
 generalize w.setCell ⟨w0.heap.size + 3, 0, none⟩ (.int .i64 ((s.size : Int) - i)) = w1 at *
 refine start_ (n := 8) (S := fun w' => w'.cell? ⟨w0.heap.size + 2, 0, none⟩ = some (.slice (some ⟨w0.heap.size + 1, 0, none⟩) s.size s.size) ∧ w'.cell? ⟨w0.heap.size + 3, 0, none⟩ = some (.int .i64 ((s.size : Int) - i)) ∧ w'.cell? ⟨w0.heap.size, 0, none⟩ = some (.string s) ∧ w'.cell? ⟨w0.heap.size + 4, 0, none⟩ = some (.int .i64 q) ∧ Hid (w'.heap = w1.heap ∧ Below w0.heap.size w0 w')) (ds := [7]) #[false, false, false, false, false, false, false, false] (by kernel_rfl) rfl rfl ⟨((xag HP2.out 0).trans rfl), ((xag HP3.out 0).trans rfl), ((xag HP0.out 0).trans rfl), ((xag HP4.out 0).trans rfl), (Lib.hid ⟨rfl, xaw HB.out⟩)⟩ (fun hHeld => ?_)
 refine pure_ (i := 5) (N := some 16) (v := ?_) (a' := ?_) #[false, false, false, false, false, true, false, false] rfl rfl (by kernel_rfl) (fun _ _ _ h => h) (Or.inl ⟨by rfl, ?_⟩) ?_ ?_
 rotate_left
 ·intro w'
  go_simp
  with_reducible rfl
 rotate_left
 ·simp only [Act.put, sI, sZ, sS, i64_w, i32_w]
  rfl
 refine take_ (i := 0) (N := some 11) (v := ?_) (a' := ?_) #[true, false, false, false, false, true, false, false] rfl rfl (by kernel_rfl) (fun _ _ _ h => h) (Or.inl ⟨by rfl, ?_⟩) hHeld ?_ ?_
 rotate_left
 ·rintro w' ⟨s0, s1, s2, s3, s4⟩
  go_simp
  with_reducible rfl
 rotate_left
 ·simp only [Act.put, sI, sZ, sS, i64_w, i32_w]
  rfl
 refine take_ (i := 1) (N := some 12) (v := ?_) (a' := ?_) #[true, true, false, false, false, true, false, false] rfl rfl (by kernel_rfl) (fun _ _ _ h => h) (Or.inl ⟨by rfl, ?_⟩) hHeld ?_ ?_
 rotate_left
 ·rintro w' ⟨s0, s1, s2, s3, s4⟩
  go_simp
  with_reducible rfl
 rotate_left
 ·simp only [Act.put, sI, sZ, sS, i64_w, i32_w]
  rfl
 refine pure_ (i := 2) (N := some 13) (v := ?_) (a' := ?_) #[true, true, true, false, false, true, false, false] rfl rfl (by kernel_rfl) (fun _ _ _ h => h) (Or.inl ⟨by rfl, ?_⟩) ?_ ?_
 rotate_left
 ·intro w'
  go_simp
  with_reducible rfl
 rotate_left
 ·simp only [Act.put, sI, sZ, sS, i64_w, i32_w]
  rfl
 refine take_ (i := 3) (N := some 14) (v := ?_) (a' := ?_) #[true, true, true, true, false, true, false, false] rfl rfl (by kernel_rfl) (fun _ _ _ h => h) (Or.inl ⟨by rfl, ?_⟩) hHeld ?_ ?_
 rotate_left
 ·rintro w' ⟨s0, s1, s2, s3, s4⟩
  go_simp
  with_reducible rfl
 rotate_left
 ·simp only [Act.put, sI, sZ, sS, i64_w, i32_w]
  rfl
 refine take_ (i := 4) (N := some 15) (v := ?_) (a' := ?_) #[true, true, true, true, true, true, false, false] rfl rfl (by kernel_rfl) (fun _ _ _ h => h) (Or.inl ⟨by rfl, ?_⟩) hHeld ?_ ?_
 rotate_left
 ·rintro w' ⟨s0, s1, s2, s3, s4⟩
  go_simp
  with_reducible rfl
 rotate_left
 ·simp only [Act.put, sI, sZ, sS, i64_w, i32_w]
  rfl
 refine pure_ (i := 6) (N := some 17) (v := ?_) (a' := ?_) #[true, true, true, true, true, true, true, false] rfl rfl (by kernel_rfl) (fun _ _ _ h => h) (Or.inl ⟨by rfl, ?_⟩) ?_ ?_
 rotate_left
 ·intro w'
  go_simp
  with_reducible rfl
 rotate_left
 ·simp only [Act.put, sI, sZ, sS, i64_w, i32_w]
  rfl
 refine last_ (i := 7) (N := some 18) #[true, true, true, true, true, true, true, true] rfl rfl (by kernel_rfl) (by decide) (fun K hK => ?_)
 obtain ⟨s0, s1, s2, s3, s4⟩ := hHeld
 have hcp := HCOPY.out _ ((congrArg (·[w0.heap.size + 1]?) s4.out.1).trans HP1.out)
 refine value_ (w1 := ?_) (v := ?_) (by rfl) rfl ?_ ?_
 rotate_left 2
 ·go_simp
  constructor
  ·rfl
  ·rfl
 refine hK.out _ _ ?_
 clear hK K
 refine norm_ (a' := ?_) ?_ ?_
 rotate_left
 ·show Act.put _ (some 18) _ = _
  simp only [Act.put, sI, sZ, sS, i64_w, i32_w]
  rfl
 refine done_ (by kernel_rfl) ?_
 have hsl : s.data.toList.length = s.size := by simp
 have hcl : cur.toList.length = s.size := by simpa using hcs
 have HN := Lib.hid (show ((List.take off cur.toList ++ (byteCells (List.take (i - q) (List.drop q s.data.toList)) ++ List.drop (off + (i - q)) cur.toList)).toArray).size = s.size ∧ ((List.take off cur.toList ++ (byteCells (List.take (i - q) (List.drop q s.data.toList)) ++ List.drop (off + (i - q)) cur.toList)).toArray).toList.drop (s.size - i) = byteCells ((s.data.toList.drop q).take (i - q) ++ R) by
  refine ⟨by simp only [List.size_toArray, List.length_append, byteCells_length, List.length_take, List.length_drop]; omega, ?_⟩
  by_cases h0 : i = 0
  ·have hq0 : q = 0 := by omega
   have hoff := ho0 h0
   subst h0 hq0 hoff
   simpa [byteCells] using HCR.out
  ·rw [ho1 h0]
   show List.drop (s.size - i) (List.take (s.size - i) cur.toList ++ _) = _
   rw [List.drop_append_of_le_length (by rw [List.length_take]; omega), List.drop_eq_nil_of_le (by rw [List.length_take]; omega), List.nil_append, show s.size - i + (i - q) = s.size - q by omega, HCR.out]
   simp [byteCells])
 have HQ1 := Lib.hid (setRow_heap w1.drew (w0.heap.size + 1) cur ((List.take off cur.toList ++ (byteCells (List.take (i - q) (List.drop q s.data.toList)) ++ List.drop (off + (i - q)) cur.toList)).toArray) 5 (0, 0) HP1.out)
 have HQ0 := Lib.hid ((setRow_other w1.drew (w0.heap.size + 1) w0.heap.size ((List.take off cur.toList ++ (byteCells (List.take (i - q) (List.drop q s.data.toList)) ++ List.drop (off + (i - q)) cur.toList)).toArray) (by omega)).trans HP0.out)
 have HQ2 := Lib.hid ((setRow_other w1.drew (w0.heap.size + 1) (w0.heap.size + 2) ((List.take off cur.toList ++ (byteCells (List.take (i - q) (List.drop q s.data.toList)) ++ List.drop (off + (i - q)) cur.toList)).toArray) (by omega)).trans HP2.out)
 have HQ3 := Lib.hid ((setRow_other w1.drew (w0.heap.size + 1) (w0.heap.size + 3) ((List.take off cur.toList ++ (byteCells (List.take (i - q) (List.drop q s.data.toList)) ++ List.drop (off + (i - q)) cur.toList)).toArray) (by omega)).trans HP3.out)
 have HQ4 := Lib.hid ((setRow_other w1.drew (w0.heap.size + 1) (w0.heap.size + 4) ((List.take off cur.toList ++ (byteCells (List.take (i - q) (List.drop q s.data.toList)) ++ List.drop (off + (i - q)) cur.toList)).toArray) (by omega)).trans HP4.out)
 have HQR := Lib.hid ((setRow_other w1.drew (w0.heap.size + 1) r ((List.take off cur.toList ++ (byteCells (List.take (i - q) (List.drop q s.data.toList)) ++ List.drop (off + (i - q)) cur.toList)).toArray) (by omega)).trans HPR.out)
 have HQB := Lib.hid (below_setRow (xaw HB.out) (show w0.heap.size ≤ w0.heap.size + 1 by omega) ((List.take off cur.toList ++ (byteCells (List.take (i - q) (List.drop q s.data.toList)) ++ List.drop (off + (i - q)) cur.toList)).toArray))
 have HQZ := Lib.hid (show w0.heap.size + 5 ≤ (w1.drew.setRow (w0.heap.size + 1) ((List.take off cur.toList ++ (byteCells (List.take (i - q) (List.drop q s.data.toList)) ++ List.drop (off + (i - q)) cur.toList)).toArray)).heap.size by rw [size_setRow]; exact HZ.out)
 clear HP0 HP1 HP2 HP3 HP4 HPR HB HZ
 generalize w1.drew.setRow (w0.heap.size + 1) ((List.take off cur.toList ++ (byteCells (List.take (i - q) (List.drop q s.data.toList)) ++ List.drop (off + (i - q)) cur.toList)).toArray) = wz at *
 have s4 : wz.cell? ⟨w0.heap.size + 4, 0, none⟩ = some (.int .i64 q) := (xag HQ4.out 0).trans rfl
 have f4 := xal HQ4.out 0
 go_wp2_with fail
 go_end0
 have e4 : (⟨w0.heap.size + 4, 0, none⟩ : Addr).block = w0.heap.size + 4 := rfl
 refine ⟨rfl, ⟨xah HQB.out (by omega), by simpa using HQZ.out, xax HQ0.out (by simp) _, ⟨_, xax HQ1.out (by simp) _, HN.out.1, HN.out.2⟩, xax HQ2.out (by simp) _, xax HQ3.out (by simp) _, by have := xbo HQ4.out 0 (.int .i64 i); simpa using this⟩, ?_⟩
 rw [Below.heap_setCell _ _ _ r (show r ≠ w0.heap.size + 4 by omega)]
 exact HQR.out
def backL (s : ByteArray) : Nat → Nat → List UInt8 → List UInt8
 | 0, _, R => R
 | f + 1, pos, R => if pos < s.size then backL s f (pos + (Utf8.decode s pos).2) ((s.data.toList.drop pos).take (Utf8.decode s pos).2 ++ R) else R
def backOf (s : ByteArray) : ByteArray := ⟨(backL s s.size 0 []).toArray⟩
theorem width_pos (s : ByteArray) (pos : Nat) (h : pos < s.size) : 1 ≤ (Utf8.decode s pos).2 ∧ pos + (Utf8.decode s pos).2 ≤ s.size := by
 simp only [Utf8.decode]
 repeat' split
 all_goals simp_all
 all_goals omega
theorem backL_end (s : ByteArray) (b pos : Nat) (R : List UInt8) (h : ¬ pos < s.size) : backL s b pos R = R := by
 cases b with
 | zero => rfl
 | succ b => rw [backL, if_neg h]
theorem run_next_blk {P : Program} (w : World) (r : Nat) (s : ByteArray) (pos : Nat) (ty : TypeId) (hb : w.heap[r]? = some (.stringIter s pos)) (h : pos < s.size) :
  (Instr.next (.pointer (some ⟨r, 0, none⟩)) true ty).run P w = .ok (.tuple #[.bool true, .int .i64 pos, .int .i32 (Utf8.decode s pos).1]) { w with heap := w.heap.setIfInBounds r (.stringIter s (pos + (Utf8.decode s pos).2)) } := by
 simp only [Instr.next, getObj, setObj, Sem.run_bind, Sem.run, hb, Result.andThen, h, if_true]
 simp [goInt]
theorem run_next_over {P : Program} (w : World) (r : Nat) (s : ByteArray) (pos : Nat) (ty : TypeId) (hb : w.heap[r]? = some (.stringIter s pos)) (h : ¬ pos < s.size) :
  (Instr.next (.pointer (some ⟨r, 0, none⟩)) true ty).run P w = .ok (.tuple #[.bool false]) w := by
 simp [Instr.next, getObj, Sem.run, hb, h]
def atIter (w : World) (r : Nat) (s : ByteArray) (pos : Nat) : World := { w with heap := w.heap.setIfInBounds r (.stringIter s pos) }
theorem atIter_same {w : World} {r : Nat} {s : ByteArray} {pos pos' : Nat} (hb : w.heap[r]? = some (.stringIter s pos)) : (atIter w r s pos').heap[r]? = some (.stringIter s pos') := by
 obtain ⟨h, _⟩ := Array.getElem?_eq_some_iff.1 hb
 show (w.heap.setIfInBounds r _)[r]? = _
 rw [Array.getElem?_setIfInBounds_self_of_lt h]
theorem xbq (w : World) (r k : Nat) (s : ByteArray) (pos : Nat) (h : k ≠ r) : (atIter w r s pos).heap[k]? = w.heap[k]? := by
 show (w.heap.setIfInBounds r _)[k]? = _
 rw [Array.getElem?_setIfInBounds_ne (fun e => h e.symm)]
theorem atIter_below {B : Nat} {w0 w : World} (h : Below B w0 w) {r : Nat} (hr : B ≤ r) (s : ByteArray) (pos : Nat) : Below B w0 (atIter w r s pos) :=
 ⟨h.os, h.tape, h.output, by show _ ≤ (w.heap.setIfInBounds r _).size; rw [Array.size_setIfInBounds]; exact h.size, fun k hk => (xbq w r k s pos (by omega)).trans (h.block k hk)⟩
theorem BackAt.iter {w0 : World} {s : ByteArray} {q : Nat} {R : List UInt8} {w : World} (h : BackAt w0 s q R w) {r : Nat} (hr : w0.heap.size + 5 ≤ r) (t : ByteArray) (pos : Nat) : BackAt w0 s q R (atIter w r t pos) := by
 obtain ⟨cur, h1, h2, h3⟩ := h.row
 refine ⟨atIter_below h.below (by omega) t pos, by show _ ≤ (w.heap.setIfInBounds r _).size; rw [Array.size_setIfInBounds]; exact h.size, ?_, ⟨cur, ?_, h2, h3⟩, ?_, ?_, ?_⟩
 ·rw [xbq _ _ _ _ _ (by omega)]; exact h.b0
 ·rw [xbq _ _ _ _ _ (by omega)]; exact h1
 ·rw [xbq _ _ _ _ _ (by omega)]; exact h.b2
 ·rw [xbq _ _ _ _ _ (by omega)]; exact h.b3
 ·rw [xbq _ _ _ _ _ (by omega)]; exact h.b4
def backWorld (w : World) (s : ByteArray) : World := (((((w.alloc (.cells #[.string s] 9)).alloc (.cells (madeCells #[.int .u8 0] s.size) 5)).alloc (.cells #[.slice (some ⟨w.heap.size + 1, 0, none⟩) s.size s.size] 150)).alloc (.cells #[.int .i64 s.size] 3)).alloc (.cells #[.int .i64 0] 3)).iter s 0
theorem back_start (w : World) (s : ByteArray) : BackAt w s 0 [] (backWorld w s) ∧ (backWorld w s).heap[w.heap.size + 5]? = some (.stringIter s 0) := by
 have g0 : (backWorld w s).heap = (((((w.heap.push (.cells #[.string s] 9)).push (.cells (madeCells #[.int .u8 0] s.size) 5)).push (.cells #[.slice (some ⟨w.heap.size + 1, 0, none⟩) s.size s.size] 150)).push (.cells #[.int .i64 s.size] 3)).push (.cells #[.int .i64 0] 3)).push (.stringIter s 0) := rfl
 refine ⟨⟨xab (xab (xab (xab (xab (xab (Below.refl _ _) _) _) _) _) _) _, by rw [g0]; simp, ?_, ⟨madeCells #[.int .u8 0] s.size, ?_, size_madeCells _ _, ?_⟩, ?_, ?_, ?_⟩, ?_⟩
 ·rw [g0]; simp only [Array.getElem?_push, Array.size_push]; repeat' split
  all_goals first | rfl | (exfalso; omega) | (exfalso; simp_all; done) | (simp; done)
 ·rw [g0]; simp only [Array.getElem?_push, Array.size_push]; repeat' split
  all_goals first | rfl | (exfalso; omega) | (exfalso; simp_all; done) | (simp; done)
 ·rw [List.drop_eq_nil_of_le (by rw [Array.length_toList, size_madeCells]; omega)]; rfl
 ·rw [g0]; simp only [Array.getElem?_push, Array.size_push]; repeat' split
  all_goals first | rfl | (exfalso; omega) | (exfalso; simp_all; done) | (simp; done)
 ·rw [g0]; simp only [Array.getElem?_push, Array.size_push]; repeat' split
  all_goals first | rfl | (exfalso; omega) | (exfalso; simp_all; done) | (simp; done)
 ·rw [g0]; simp only [Array.getElem?_push, Array.size_push]; repeat' split
  all_goals first | rfl | (exfalso; omega) | (exfalso; simp_all; done) | (simp; done)
 ·rw [g0]; simp only [Array.getElem?_push, Array.size_push]; repeat' split
  all_goals first | rfl | (exfalso; omega) | (exfalso; simp_all; done) | (simp; done)
theorem push_all (L : List UInt8) : ∀ r : ByteArray, (L.map (fun b : UInt8 => (b.toNat : Int))).foldl (fun r n => r.push (UInt8.ofNat n.toNat)) r = ⟨r.data ++ L.toArray⟩ := by
 induction L with
 | nil => intro r; simp
 | cons b L ih =>
  intro r
  rw [List.map_cons, List.foldl_cons, ih]
  simp [ByteArray.push]
theorem run_bytes_text {P : Program} (w : World) (src dst e : TypeId) (g : Nat) (cur : Array Value) (t : TypeId) (L : List UInt8) (n : Nat) (hn : n = L.length) (hs : P.underlying src = some (.slice e)) (he : P.underlying e = some (.int .u8)) (hd : P.underlying dst = some .string)
  (hg : w.heap[g]? = some (.cells cur t (0, 0))) (hc : cur.toList = byteCells L) : (convert src dst (.slice (some ⟨g, 0, none⟩) n n)).run P w = .ok (.string ⟨L.toArray⟩) w := by
 subst hn
 have hl := run_loadCells_list (P := P) (w := w) ⟨g, 0, none⟩ (byteCells L) (fun j v hv => by
  have hadd : (⟨g, 0, none⟩ : Addr).add j = ⟨g, j, none⟩ := by unfold Addr.add; split <;> simp_all
  rw [hadd, xag hg j, ← Array.getElem?_toList, hc]
  exact hv)
 rw [byteCells_length] at hl
 have e1 : byteCells L = (L.map (fun b : UInt8 => (b.toNat : Int))).map (Value.int .u8) := by simp [byteCells]
 rw [e1] at hl
 rw [run_convert_bytes_string w src dst e _ _ _ hs he hd, run_bytesToString w _ _ _ _ hl, push_all]
 simp
def value_back.f (s : ByteArray) : Option ByteArray := if s.size ≤ 140737488351232 then some (backOf s) else none
set_option maxHeartbeats 1000000 in
set_option maxRecDepth 100000 in
theorem value_back.calls (s : ByteArray) (r : ByteArray) (w : World) (h : value_back.f s = some r) :
  Calls Tryd.prog 63 #[.string s] w fun e w' => e = .returned (.string r) ∧ Below w.heap.size w w' := by
 have hs : s.size ≤ 140737488351232 := by
  rw [value_back.f] at h; split at h
  ·assumption
  ·simp at h
 rw [value_back.f, if_pos hs] at h
 obtain rfl := Option.some.inj h
 clear h
 have hmf : ∀ (fn : Fn) (first cap : Array Value) (w : World), (Instr.makeFunc fn first cap).run Tryd.prog w = .ok (.func fn first cap) w := fun _ _ _ _ => rfl
 have hmk : ∀ W : World, (Instr.makeSlice 150 (.int .i64 (s.size : Int)) (.int .i64 (s.size : Int))).run Tryd.prog W = .ok (.slice (some ⟨W.heap.size, 0, none⟩) s.size s.size) (W.alloc (.cells (madeCells #[.int .u8 0] s.size) 5)) := by
  intro W
  obtain ⟨i, hi, h1, h2, h3⟩ : ∃ i, Tryd.prog.info? 5 = some i ∧ i.size = 1 ∧ i.bytes = 1 ∧ i.zero = some (.int .u8 0) := by
   refine ⟨_, rfl, ?_, ?_, ?_⟩ <;> kernel_rfl
  have := run_make (P := Tryd.prog) W 150 5 i (.int .u8 0) Tryd.underlying150 hi h3 .i64 .i64 s.size s.size (by omega) (by omega) (by rw [h2]; omega) (by omega)
  rw [h1] at this
  simp at this
  exact this
 go_enter Tryd.func63, Tryd.ntmps63
 go_wp2_with fail
 simp only [Nat.add_assoc, Nat.reduceAdd]
 obtain ⟨hA, hI⟩ := back_start w s
 have HA := Lib.hid hA
 have HI := Lib.hid hI
 clear hA hI hmk hmf
 have HW := Lib.hid (show (((((w.alloc (.cells #[.string s] 9)).alloc (.cells (madeCells #[.int .u8 0] s.size) 5)).alloc (.cells #[.slice (some ⟨w.heap.size + 1, 0, none⟩) s.size s.size] 150)).alloc (.cells #[.int .i64 s.size] 3)).alloc (.cells #[.int .i64 0] 3)).iter s 0 = backWorld w s from rfl)
 rw [HW.out]
 clear HW
 generalize backWorld w s = wa at *
 go_loopw [7] (fun v wr => ∃ (q p b : Nat) (R : List UInt8), Hid (BackAt w s q R wr) ∧ Hid (wr.heap[w.heap.size + 5]? = some (.stringIter s p)) ∧ q ≤ p ∧ p ≤ s.size ∧ R.length = q ∧ s.size ≤ p + b ∧ Hid (backL s b p ((s.data.toList.drop q).take (p - q) ++ R) = backL s s.size 0 [])) (fun _ wr => s.size - wr.iterPos (w.heap.size + 5))
 case atStart => exact ⟨0, 0, s.size, [], HA, HI, Nat.le_refl _, Nat.zero_le _, rfl, by omega, Lib.hid (by simp)⟩
 case round =>
  clear HA HI
  obtain ⟨q, p, b, R, HA, HI, hqp, hps, hRl, hb, HT⟩ := hrel
  have hip : wr.iterPos (w.heap.size + 5) = p := by rw [World.iterPos, HI.out]
  by_cases hp : p < s.size
  ·have hnx : ∀ ty, (Instr.next (.pointer (some ⟨w.heap.size + 5, 0, none⟩)) true ty).run Tryd.prog wr = .ok (.tuple #[.bool true, .int .i64 p, .int .i32 (Utf8.decode s p).1]) (atIter wr (w.heap.size + 5) s (p + (Utf8.decode s p).2)) := fun ty => run_next_blk wr _ s p ty HI.out hp
   go_wp2_with fail
   refine (back_put w s q p R (atIter wr (w.heap.size + 5) s (p + (Utf8.decode s p).2)) (HA.out.iter (Nat.le_refl _) s _) hqp hps hs (w.heap.size + 5) _ (Nat.le_refl _) (atIter_same HI.out)).mono ?_
   rintro e w2 ⟨rfl, hA2, hI2⟩
   obtain ⟨g1, g2⟩ := width_pos s p hp
   have hsl : s.data.toList.length = s.size := by simp
   have HT2 : Hid (backL s (b - 1) (p + (Utf8.decode s p).2) ((s.data.toList.drop p).take (p + (Utf8.decode s p).2 - p) ++ ((s.data.toList.drop q).take (p - q) ++ R)) = backL s s.size 0 []) := Lib.hid (by
    rw [← HT.out, Nat.add_sub_cancel_left]
    cases b with
    | zero => omega
    | succ b => rw [backL, if_pos hp]; rfl)
   have HA2 := Lib.hid hA2
   have HI2 := Lib.hid hI2
   have hl2 : ((s.data.toList.drop q).take (p - q) ++ R).length = p := by rw [List.length_append, List.length_take, List.length_drop]; omega
   have hb2 : s.size ≤ p + (Utf8.decode s p).2 + (b - 1) := by omega
   have hip2 : w2.iterPos (w.heap.size + 5) = p + (Utf8.decode s p).2 := by rw [World.iterPos, hI2]
   clear hA2 hI2 HT HA HI hnx
   generalize (Utf8.decode s p).2 = wd at *
   generalize (s.data.toList.drop q).take (p - q) ++ R = R2 at *
   go_wp2_with fail
   go_roundw
   case rel => exact ⟨p, p + wd, b - 1, R2, HA2, HI2, by omega, by omega, hl2, by omega, HT2⟩
   case measure => rw [hip, hip2]; omega
  ·have hnx : ∀ ty, (Instr.next (.pointer (some ⟨w.heap.size + 5, 0, none⟩)) true ty).run Tryd.prog wr = .ok (.tuple #[.bool false]) wr := fun ty => run_next_over wr _ s p ty HI.out hp
   obtain rfl : p = s.size := by omega
   have hb0 : wr.cell? ⟨w.heap.size, 0, none⟩ = some (.string s) := (xag HA.out.b0 0).trans rfl
   go_wp2_with fail
   refine (back_put w s q s.size R wr HA.out hqp (Nat.le_refl _) hs (w.heap.size + 5) _ (Nat.le_refl _) HI.out).mono ?_
   rintro e w2 ⟨rfl, hA2, hI2⟩
   have hsl : s.data.toList.length = s.size := by simp
   obtain ⟨cur, k1, k2, k3⟩ := hA2.row
   rw [Nat.sub_self, List.drop_zero] at k3
   have hl2 : ((s.data.toList.drop q).take (s.size - q) ++ R).length = s.size := by rw [List.length_append, List.length_take, List.length_drop]; omega
   have hend := HT.out
   rw [backL_end s b s.size _ (by omega)] at hend
   rw [hend] at k3 hl2
   have HCV := Lib.hid (run_bytes_text (P := Tryd.prog) w2 150 9 5 (w.heap.size + 1) cur 5 (backL s s.size 0 []) s.size hl2.symm Tryd.underlying150 (by kernel_rfl) Tryd.underlying9 k1 k3)
   have hcv := HCV.out
   have hb2 : w2.cell? ⟨w.heap.size + 2, 0, none⟩ = some (.slice (some ⟨w.heap.size + 1, 0, none⟩) s.size s.size) := (xag hA2.b2 0).trans rfl
   have HB := Lib.hid hA2.below
   clear HT HA HI hnx hA2 hI2 k1 k2 k3 hend hb0 hip
   go_wp2_with fail
   go_ret
   exact ⟨rfl, HB.out⟩
end Go.Proofs.YtllcmggmcogokaaDoor.PAll
end
section
namespace Go.Proofs.YtllcmggmcogokaaDoor.PAll
open Go.RowKit Go.Proofs.YtllcmggmcogokaaDoorW.PrintWords Go.Proofs.YtllcmggmcogokaaDoorW.PrintLast Go.Proofs.YtllcmggmcogokaaDoorW.PrintMore
attribute [local go_sem] max2_int min2_int max_two min_two max_three min_three max_four min_four
theorem toList_loop_eq (s : ByteArray) (d : Nat) : ∀ (i : Nat) (r : List UInt8), s.size - i = d → i ≤ s.size → ByteArray.toList.loop s i r = r.reverse ++ s.data.toList.drop i := by
 induction d with
 | zero =>
  intro i r hd hi
  unfold ByteArray.toList.loop
  have : ¬ i < s.size := by omega
  rw [if_neg this]
  have hz : s.data.toList.length = s.size := by simp
  rw [List.drop_eq_nil_of_le (by omega)]; simp
 | succ d ih =>
  intro i r hd hi
  unfold ByteArray.toList.loop
  have hlt : i < s.size := by omega
  rw [if_pos hlt, ih (i + 1) _ (by omega) (by omega)]
  have hz : s.data.toList.length = s.size := by simp
  have hl : i < s.data.toList.length := by rw [hz]; exact hlt
  have hg : s.get! i = s.data.toList[i] := by
   simp [ByteArray.get!, getElem!_pos, hlt]
  rw [List.drop_eq_getElem_cons (i := i) (l := s.data.toList) hl, hg]; simp
theorem xaz (s : ByteArray) : s.toList = s.data.toList := by
 unfold ByteArray.toList
 rw [toList_loop_eq s s.size 0 [] (by omega) (by omega)]; simp
def SMap (P : Program) (k : TypeId) (w : World) (b n : Nat) (f : List UInt8 → Option Value) : Prop :=
 ∃ D : DataW Value, w.ownsMap P k (fun v => some (.held v, [])) b n D ∧ Maps.IsMap D ∧ ∀ s : List UInt8, Maps.has D (.string s) = (f s).isSome ∧ ∀ z, D.atKey (.string s) z = ((f s).map DataW.held).getD z
theorem SMap.made (P : Program) (k : TypeId) (w : World) : SMap P k (w.alloc (.map #[] 0)) w.heap.size 0 (fun _ => none) :=
 ⟨.map [], World.ownsMap_made w P k _, World.ownsMap.isMap (World.ownsMap_made w P k (fun v => some (.held v, []))), fun s => ⟨rfl, fun z => rfl⟩⟩
theorem SMap.kept {P : Program} {k : TypeId} {w w' : World} {b n : Nat} {f : List UInt8 → Option Value} (h : SMap P k w b n f) {row : Option Nat} (hg : w.grownBy w' row) (hne : some b ≠ row) : SMap P k w' b n f := by
 obtain ⟨D, h1, h2, h3⟩ := h
 exact ⟨D, h1.kept hg hne, h2, h3⟩
theorem SMap.move {P : Program} {k : TypeId} {w w' : World} {b n : Nat} {f : List UInt8 → Option Value} (h : SMap P k w b n f) (hb : w'.heap[b]? = w.heap[b]?) : SMap P k w' b n f := by
 obtain ⟨D, ⟨es, clock, h0, h1⟩, h2, h3⟩ := h
 exact ⟨D, ⟨es, clock, hb.trans h0, h1⟩, h2, h3⟩
theorem SMap.lt {P : Program} {k : TypeId} {w : World} {b n : Nat} {f : List UInt8 → Option Value} (h : SMap P k w b n f) : b < w.heap.size := by
 obtain ⟨D, h1, _⟩ := h
 exact h1.lt
theorem SMap.block {P : Program} {k : TypeId} {w : World} {b n : Nat} {f : List UInt8 → Option Value} (h : SMap P k w b n f) : ∃ es clock, w.heap[b]? = some (.map es clock) := by
 obtain ⟨D, ⟨es, clock, h0, h1⟩, _⟩ := h
 exact ⟨es, clock, h0⟩
theorem smap_key {P : Program} {k : TypeId} (hk : P.underlying k = some .string) (s : ByteArray) (hs : s.size ≤ maxLen) : keyOf P k (.string s) = some (.string s.data.toList) := by
 rw [keyOf_string hk]
 simp [mapKey, hk, hs]
theorem SMap.look {P : Program} {k t e : TypeId} {w : World} {b n : Nat} {f : List UInt8 → Option Value} (h : SMap P k w b n f) (hk : P.underlying k = some .string) (ht : P.underlying t = some (.map k e)) {z : Value} (hz : (zeroValue e).run P w = .ok z w) (s : ByteArray) (hs : s.size ≤ maxLen) :
  (Instr.lookup t (.map (some b)) (.string s) false).run P w = .ok ((f s.data.toList).getD z) w := by
 obtain ⟨D, h1, h2, h3⟩ := h
 obtain ⟨v, ps, hrun, hv⟩ := h1.lookup (Maps.string_keyed hk) ht hz (zd := .held z) (zp := []) rfl (smap_key hk s hs)
 rw [(h3 s.data.toList).2] at hv
 rw [hrun]
 cases hf : f s.data.toList with
 | none => rw [hf] at hv; simp at hv; simp [hv.1]
 | some u => rw [hf] at hv; simp at hv; simp [hv.1]
theorem SMap.look_ok {P : Program} {k t e : TypeId} {w : World} {b n : Nat} {f : List UInt8 → Option Value} (h : SMap P k w b n f) (hk : P.underlying k = some .string) (ht : P.underlying t = some (.map k e)) {z : Value} (hz : (zeroValue e).run P w = .ok z w) (s : ByteArray) (hs : s.size ≤ maxLen) :
  (Instr.lookup t (.map (some b)) (.string s) true).run P w = .ok (.tuple #[(f s.data.toList).getD z, .bool (f s.data.toList).isSome]) w := by
 obtain ⟨D, h1, h2, h3⟩ := h
 obtain ⟨v, ps, hrun, hv⟩ := h1.look_ok (Maps.string_keyed hk) ht hz (zd := .held z) (zp := []) rfl (smap_key hk s hs)
 rw [(h3 s.data.toList).2] at hv
 rw [hrun, (h3 s.data.toList).1]
 cases hf : f s.data.toList with
 | none => rw [hf] at hv; simp at hv; simp [hv.1]
 | some u => rw [hf] at hv; simp at hv; simp [hv.1]
theorem SMap.put {P : Program} {k t e : TypeId} {w : World} {b n : Nat} {f : List UInt8 → Option Value} (h : SMap P k w b n f) (hk : P.underlying k = some .string) (ht : P.underlying t = some (.map k e)) (hn : n < maxLen) (s : ByteArray) (hs : s.size ≤ maxLen) (v : Value) :
  ∃ w', (Instr.mapUpdate t (.map (some b)) (.string s) v).run P w = .ok () w' ∧ SMap P k w' b (n + 1) (fun q => if q = s.data.toList then some v else f q) ∧ w.grownBy w' (some b) := by
 obtain ⟨D, h1, h2, h3⟩ := h
 obtain ⟨w', hrun, hown, hg⟩ := h1.update (Maps.string_keyed hk) ht hn (smap_key hk s hs) (val := v) (d := .held v) (ps := []) rfl
 have hkl : WideAt.IsKeyLit (.string s.data.toList) := (Maps.string_keyed hk).key (smap_key hk s hs)
 refine ⟨w', hrun, ⟨D.put (.string s.data.toList) (.held v), hown, ?_, fun q => ?_⟩, hg⟩
 ·exact World.ownsMap.isMap hown
 ·by_cases hq : q = s.data.toList
  ·subst hq
   rw [Maps.has_put_same h2 hkl]
   simp [Maps.atKey_put_same h2 hkl]
  ·have hne : (Lit.string q) ≠ .string s.data.toList := fun h => hq (Lit.string.inj h)
   rw [Maps.has_put_other hne]
   simp only [if_neg hq]
   exact ⟨(h3 q).1, fun z => by rw [Maps.atKey_put_other hne]; exact (h3 q).2 z⟩
def TabA (w : World) : Prop := Lib.TabIs Tryd.prog w "pedigree/value.takes" .i8 [0, 1, 2, 2, 2, 2, 2, 4, 3, 3, 3]
theorem TabA.below {w w1 : World} (h : TabA w) (hb : Below w.heap.size w w1) : TabA w1 := by
 have hg : Tryd.prog.globalNamed "pedigree/value.takes" = some 0 := by kernel_rfl
 unfold TabA Lib.TabIs at *
 refine var?_below hb hg ?_ h
 unfold World.var? at h
 simp only [hg, Option.bind_some] at h
 rcases Nat.lt_or_ge 0 w.heap.size with h' | h'
 ·exact h'
 ·simp [Array.getElem?_eq_none h'] at h
mutual
def value_fits.j0 : Nat → List (S26) → Int → Int → Option (Bool)
 | 0, _, _, _ => none
 | k + 1, x1, x5, x6 => if (x1.length : Int) = x5 then (value_fits.l0 k x6 x1 (x1.length : Int) 0) else (some false)
def value_fits.l0 : Nat → Int → List (S26) → Int → Int → Option (Bool)
 | 0, _, _, _, _ => none
 | k + 1, x6, x22, x23, x24 => if x24 < x23 then (if 0 ≤ x24 then (if x24 < (x22.length : Int) then (if ((rd_T26 x22 x24).f0) = x6 then ((value_Check.f ((rd_T26 x22 x24).f0) ((rd_T26 x22 x24).f1) ((rd_T26 x22 x24).f2)).bind fun t130 => (if t130 = 0 then (value_fits.l0 k x6 x22 x23 (wrap64 (x24 + 1))) else (some false))) else (some false)) else (none)) else (none)) else (some true)
end
def value_fits.f (k : Nat) (a0 : Int) (l1 : List (S26)) : Option (Bool) := if a0 = 0 then (some false) else (if a0 = 2 then (value_fits.j0 k l1 2 1) else (if a0 = 4 then (value_fits.j0 k l1 2 2) else (if a0 = 3 then (value_fits.j0 k l1 1 2) else (value_fits.j0 k l1 1 1))))
set_option maxHeartbeats 8000000 in
set_option maxRecDepth 100000 in
theorem value_fits.calls (k : Nat) (a0 : Int) (A1 : Option Addr) (c1 : Nat) (l1 : List (S26)) (r : Bool) (w : World) (hr1 : Kd.C k26 w A1 l1.length l1) (hc1 : l1.length ≤ c1) (h : value_fits.f k a0 l1 = some r) :
  Calls Tryd.prog 59 #[.int .i8 a0, .slice A1 l1.length c1] w fun e w' => e = .returned (.bool r) ∧ Below w.heap.size w w' := by
 have hu26 := Tryd.underlying26
 have HR1 := Aside0.mk hr1
 have HC1 := Aside0.mk hc1
 clear hr1 hc1
 have HB := Aside0.mk (Below.refl w.heap.size w)
 have H : (if a0 = 0 then (some false) else (if a0 = 2 then (value_fits.j0 k l1 2 1) else (if a0 = 4 then (value_fits.j0 k l1 2 2) else (if a0 = 3 then (value_fits.j0 k l1 1 2) else (value_fits.j0 k l1 1 1))))) = some r := h
 clear h
 have HC3 := Aside0.mk H
 clear H
 go_enter Tryd.func59, Tryd.ntmps59
 go_upto_block 0 with (fail)
 go_cut [5, 6] (fun v5 v6 wc => ∃ (kq : Nat) (x5_2 : Int) (x6_2 : Int), v5 = .int .i64 x5_2 ∧ v6 = .int .i8 x6_2 ∧ Aside0 (value_fits.j0 kq l1 x5_2 x6_2 = some r) ∧ Aside0 (kq ≤ k) ∧ Aside0 (Below w.heap.size w wc))
 case first =>
  have H := HC3.out
  clear HC3
  by_cases c4 : a0 = 0
  ·rw [if_pos c4] at H
   have c4b0 : (a0 == 0) = true := beq_iff_eq.mpr c4
   have c4b1 : (a0 != 0) = false := bne_eq_false_iff_eq.mpr c4
   clear c4
   (first | rw [c4b0] | (simp only [i64_w, i32_w]; rw [c4b0]) | skip)
   obtain rfl := Option.some.inj H
   go_wp2
   go_ret
   exact ⟨by first | rfl | (simp [xan, xam] <;> rfl) | (simp [*, xan, xam] <;> rfl), by repeat (first | (with_reducible first | exact HB.out | apply xab | apply xaa | apply xac) | exact HB.out)⟩
  ·rw [if_neg c4] at H
   have c4b0 : (a0 == 0) = false := beq_eq_false_iff_ne.mpr c4
   have c4b1 : (a0 != 0) = true := bne_iff_ne.mpr c4
   (first | rw [c4b0] | (simp only [i64_w, i32_w]; rw [c4b0]) | skip)
   by_cases c5 : a0 = 2
   ·rw [if_pos c5] at H
    have c5b0 : (a0 == 2) = true := beq_iff_eq.mpr c5
    have c5b1 : (a0 != 2) = false := bne_eq_false_iff_eq.mpr c5
    clear c5
    have H' := Aside0.mk H
    clear H
    go_wp2
    go_meet
    case rel => exact ⟨_, (2), (1), (by first | rfl | (simp; done) | (simp [*]; done)), (by first | rfl | (simp; done) | (simp [*]; done)), H', ⟨by first | omega | exact Nat.le_refl _⟩, ⟨by repeat (first | (with_reducible first | exact HB.out | apply xab | apply xaa | apply xac) | exact HB.out)⟩⟩
   ·rw [if_neg c5] at H
    have c5b0 : (a0 == 2) = false := beq_eq_false_iff_ne.mpr c5
    have c5b1 : (a0 != 2) = true := bne_iff_ne.mpr c5
    by_cases c6 : a0 = 4
    ·rw [if_pos c6] at H
     have c6b0 : (a0 == 4) = true := beq_iff_eq.mpr c6
     have c6b1 : (a0 != 4) = false := bne_eq_false_iff_eq.mpr c6
     clear c6
     have H' := Aside0.mk H
     clear H
     go_wp2
     go_meet
     case rel => exact ⟨_, (2), (2), (by first | rfl | (simp; done) | (simp [*]; done)), (by first | rfl | (simp; done) | (simp [*]; done)), H', ⟨by first | omega | exact Nat.le_refl _⟩, ⟨by repeat (first | (with_reducible first | exact HB.out | apply xab | apply xaa | apply xac) | exact HB.out)⟩⟩
    ·rw [if_neg c6] at H
     have c6b0 : (a0 == 4) = false := beq_eq_false_iff_ne.mpr c6
     have c6b1 : (a0 != 4) = true := bne_iff_ne.mpr c6
     by_cases c7 : a0 = 3
     ·rw [if_pos c7] at H
      have c7b0 : (a0 == 3) = true := beq_iff_eq.mpr c7
      have c7b1 : (a0 != 3) = false := bne_eq_false_iff_eq.mpr c7
      clear c7
      have H' := Aside0.mk H
      clear H
      go_wp2
      go_meet
      case rel => exact ⟨_, (1), (2), (by first | rfl | (simp; done) | (simp [*]; done)), (by first | rfl | (simp; done) | (simp [*]; done)), H', ⟨by first | omega | exact Nat.le_refl _⟩, ⟨by repeat (first | (with_reducible first | exact HB.out | apply xab | apply xaa | apply xac) | exact HB.out)⟩⟩
     ·rw [if_neg c7] at H
      have c7b0 : (a0 == 3) = false := beq_eq_false_iff_ne.mpr c7
      have c7b1 : (a0 != 3) = true := bne_iff_ne.mpr c7
      have H' := Aside0.mk H
      clear H
      go_wp2
      go_meet
      case rel => exact ⟨_, (1), (1), (by first | rfl | (simp; done) | (simp [*]; done)), (by first | rfl | (simp; done) | (simp [*]; done)), H', ⟨by first | omega | exact Nat.le_refl _⟩, ⟨by repeat (first | (with_reducible first | exact HB.out | apply xab | apply xaa | apply xac) | exact HB.out)⟩⟩
 case rest =>
  clear HC3
  try clear c1
  try clear p2
  try clear c4
  try clear c4b0
  try clear c4b1
  try clear c5
  try clear c5b0
  try clear c5b1
  try clear c6
  try clear c6b0
  try clear c6b1
  try clear c7
  try clear c7b0
  try clear c7b1
  obtain ⟨kq, x5_2, x6_2, rfl, rfl, HA, HJ2, HB⟩ := hcut
  cases kq with
  | zero => exact absurd HA.out (by simp [value_fits.j0])
  | succ kj2 =>
   have H := HA.out
   clear HA
   simp only [value_fits.j0] at H
   by_cases c8 : (l1.length : Int) = x5_2
   ·rw [if_pos c8] at H
    have c8b0 : ((l1.length : Int) == x5_2) = true := beq_iff_eq.mpr c8
    have c8b1 : ((l1.length : Int) != x5_2) = false := bne_eq_false_iff_eq.mpr c8
    clear c8
    have H' := Aside0.mk H
    clear H
    go_wp2
    go_loopg [24] kj2 (fun kq v24 w' => ∃ (x24_2 : Int), v24 = .int .i64 x24_2 ∧ Aside0 (value_fits.l0 kq x6_2 l1 (l1.length : Int) x24_2 = some r) ∧ Aside0 (kq ≤ kj2) ∧ Aside0 (Below w.heap.size w w'))
    case atStart => exact ⟨(0), (by first | rfl | (simp; done) | (simp [*]; done)), H', ⟨Nat.le_refl _⟩, ⟨by repeat (first | (with_reducible first | exact HB.out | apply xab | apply xaa | apply xac) | exact HB.out)⟩⟩
    case round =>
     clear H'
     try clear c1
     try clear p2
     try clear c4
     try clear c4b0
     try clear c4b1
     try clear c5
     try clear c5b0
     try clear c5b1
     try clear c6
     try clear c6b0
     try clear c6b1
     try clear c7
     try clear c7b0
     try clear c7b1
     try clear c8
     try clear c8b0
     try clear c8b1
     try clear p2
     obtain ⟨x24_2, rfl, HA, HK2, HB⟩ := hrel
     cases gk with
     | zero => exact absurd HA.out (by simp [value_fits.l0])
     | succ k2 =>
      have H := HA.out
      clear HA
      simp only [value_fits.l0] at H
      by_cases c9 : x24_2 < (l1.length : Int)
      ·rw [if_pos c9] at H
       have c9b0 : decide (x24_2 < (l1.length : Int)) = true := decide_eq_true c9
       clear c9
       by_cases c10 : 0 ≤ x24_2
       ·rw [if_pos c10] at H
        have c10b0 : decide (0 ≤ x24_2) = true := decide_eq_true c10
        clear c10
        by_cases c11 : x24_2 < (l1.length : Int)
        ·rw [if_pos c11] at H
         have c11b0 : decide (x24_2 < (l1.length : Int)) = true := decide_eq_true c11
         clear c11
         by_cases c12 : ((rd_T26 l1 x24_2).f0) = x6_2
         ·rw [if_pos c12] at H
          have c12b0 : (((rd_T26 l1 x24_2).f0) == x6_2) = true := beq_iff_eq.mpr c12
          have c12b1 : (((rd_T26 l1 x24_2).f0) != x6_2) = false := bne_eq_false_iff_eq.mpr c12
          clear c12
          replace H := Option.bind_eq_some_iff.mp H
          obtain ⟨t130, A130, H⟩ := H
          replace H : (if t130 = 0 then (value_fits.l0 k2 x6_2 l1 (l1.length : Int) (wrap64 (x24_2 + 1))) else (some false)) = some r := H
          have A13 := Aside0.mk A130
          clear A130
          by_cases c14 : t130 = 0
          ·rw [if_pos c14] at H
           have c14b0 : (t130 == 0) = true := beq_iff_eq.mpr c14
           have c14b1 : (t130 != 0) = false := bne_eq_false_iff_eq.mpr c14
           clear c14
           have H' := Aside0.mk H
           clear H
           have p128 : 0 ≤ (x24_2 : Int) := of_decide_eq_true (by first | (with_reducible assumption) | assumption)
           have q128 : x24_2 < (l1.length : Int) := of_decide_eq_true (by first | (with_reducible assumption) | assumption)
           obtain ⟨ad128, e128, hx128_0, hx128_1, hx128_2⟩ := at_T26 HR1.out x24_2 p128 q128
           cases e128
           replace hx128_0 := (HB.out.cell (World.block_lt_of_cell? w _ hx128_0)).trans hx128_0
           replace hx128_1 := (HB.out.cell (World.block_lt_of_cell? w _ hx128_1)).trans hx128_1
           replace hx128_2 := (HB.out.cell (World.block_lt_of_cell? w _ hx128_2)).trans hx128_2
           replace p128 := eq_true p128
           replace q128 := eq_true q128
           go_wp2_with (first | ((with_reducible refine xap (N := 8) rfl ?_); refine xaq ?hg (N := 8) ?hd (cs := #[.int .i8 0, .int .i64 0, .string (⟨#[]⟩ : ByteArray)]) (t := 26) ?hr ?_; (case hd => rfl); (case hg => rfl); (case hr => first | (go_simp; done) | (go_simp; rfl)); intro gb129 hg w15 hbox hb; have n0_ := Aside0.mk (xae (by repeat (first | (with_reducible first | exact HB.out | apply xab | apply xaa | apply xac) | exact HB.out)) hb); have n1_ := Aside0.mk (hbox); have n2_ := Aside0.mk ((by rw [hg]; exact (xao (by repeat (first | (with_reducible first | exact HB.out | apply xab | apply xaa | apply xac) | exact HB.out))) : w.heap.size ≤ gb129)); have n3_ := n2_; clear HB; have HB := n0_; have BK129 := n1_; have GW129 := n2_; have GE129 := n3_; clear n0_ n1_ n2_ n3_; clear hb hbox hg; obtain ⟨hcz16_0, hcz16_1, hcz16_2⟩ := cz3 BK129.out; obtain ⟨hfz16_0, hfz16_1, hfz16_2⟩ := fz3 BK129.out) | (go_at_call 94; (with_reducible refine (value_Check.calls ((rd_T26 l1 x24_2).f0) ((rd_T26 l1 x24_2).f1) ((rd_T26 l1 x24_2).f2) t130 _ A13.out).mono ?_); rintro e w17 ⟨rfl, hb⟩; have n0_ := Aside0.mk (xak (g := gb129) (o := .cells #[.int .i8 ((rd_T26 l1 x24_2).f0), .int .i64 ((rd_T26 l1 x24_2).f1), .string ((rd_T26 l1 x24_2).f2)] 26 (0, 0)) (by (with_reducible repeat (first | refine xaf ?_ _ | refine xai ?_ | refine xad ?_ _)); refine xas (cs := #[.int .i8 ((rd_T26 l1 x24_2).f0), .int .i64 ((rd_T26 l1 x24_2).f1), .string (⟨#[]⟩ : ByteArray)]) ?_ 2 _ rfl; (with_reducible repeat (first | refine xaf ?_ _ | refine xai ?_ | refine xad ?_ _)); refine xas (cs := #[.int .i8 ((rd_T26 l1 x24_2).f0), .int .i64 0, .string (⟨#[]⟩ : ByteArray)]) ?_ 1 _ rfl; (with_reducible repeat (first | refine xaf ?_ _ | refine xai ?_ | refine xad ?_ _)); refine xas (cs := #[.int .i8 0, .int .i64 0, .string (⟨#[]⟩ : ByteArray)]) ?_ 0 _ rfl; (with_reducible repeat (first | refine xaf ?_ _ | refine xai ?_ | refine xad ?_ _)); exact BK129.out) hb); have n1_ := Aside0.mk (xae (by repeat (first | (with_reducible first | exact HB.out | apply xab | apply xaa | apply xac | refine xah ?_ GE129.out) | exact HB.out)) hb); clear BK129; clear HB; have BK129 := n0_; have HB := n1_; clear n0_ n1_; (try clear hb); (try clear hb2); (try clear hk); (try clear hi)))
           go_roundg k2
           case measure => have := HJ2.out; have := HK2.out; omega
           case rel => exact ⟨(wrap64 (x24_2 + 1)), (by first | rfl | (simp; done) | (simp [*]; done)), H', ⟨by have := HJ2.out; have := HK2.out; omega⟩, ⟨by repeat (first | (with_reducible first | exact HB.out | apply xab | apply xaa | apply xac | refine xah ?_ GE129.out) | exact HB.out)⟩⟩
          ·rw [if_neg c14] at H
           have c14b0 : (t130 == 0) = false := beq_eq_false_iff_ne.mpr c14
           have c14b1 : (t130 != 0) = true := bne_iff_ne.mpr c14
           obtain rfl := Option.some.inj H
           have p128 : 0 ≤ (x24_2 : Int) := of_decide_eq_true (by first | (with_reducible assumption) | assumption)
           have q128 : x24_2 < (l1.length : Int) := of_decide_eq_true (by first | (with_reducible assumption) | assumption)
           obtain ⟨ad128, e128, hx128_0, hx128_1, hx128_2⟩ := at_T26 HR1.out x24_2 p128 q128
           cases e128
           replace hx128_0 := (HB.out.cell (World.block_lt_of_cell? w _ hx128_0)).trans hx128_0
           replace hx128_1 := (HB.out.cell (World.block_lt_of_cell? w _ hx128_1)).trans hx128_1
           replace hx128_2 := (HB.out.cell (World.block_lt_of_cell? w _ hx128_2)).trans hx128_2
           replace p128 := eq_true p128
           replace q128 := eq_true q128
           go_wp2_with (first | ((with_reducible refine xap (N := 8) rfl ?_); refine xaq ?hg (N := 8) ?hd (cs := #[.int .i8 0, .int .i64 0, .string (⟨#[]⟩ : ByteArray)]) (t := 26) ?hr ?_; (case hd => rfl); (case hg => rfl); (case hr => first | (go_simp; done) | (go_simp; rfl)); intro gb129 hg w18 hbox hb; have n0_ := Aside0.mk (xae (by repeat (first | (with_reducible first | exact HB.out | apply xab | apply xaa | apply xac) | exact HB.out)) hb); have n1_ := Aside0.mk (hbox); have n2_ := Aside0.mk ((by rw [hg]; exact (xao (by repeat (first | (with_reducible first | exact HB.out | apply xab | apply xaa | apply xac) | exact HB.out))) : w.heap.size ≤ gb129)); have n3_ := n2_; clear HB; have HB := n0_; have BK129 := n1_; have GW129 := n2_; have GE129 := n3_; clear n0_ n1_ n2_ n3_; clear hb hbox hg; obtain ⟨hcz19_0, hcz19_1, hcz19_2⟩ := cz3 BK129.out; obtain ⟨hfz19_0, hfz19_1, hfz19_2⟩ := fz3 BK129.out) | (go_at_call 94; (with_reducible refine (value_Check.calls ((rd_T26 l1 x24_2).f0) ((rd_T26 l1 x24_2).f1) ((rd_T26 l1 x24_2).f2) t130 _ A13.out).mono ?_); rintro e w20 ⟨rfl, hb⟩; have n0_ := Aside0.mk (xak (g := gb129) (o := .cells #[.int .i8 ((rd_T26 l1 x24_2).f0), .int .i64 ((rd_T26 l1 x24_2).f1), .string ((rd_T26 l1 x24_2).f2)] 26 (0, 0)) (by (with_reducible repeat (first | refine xaf ?_ _ | refine xai ?_ | refine xad ?_ _)); refine xas (cs := #[.int .i8 ((rd_T26 l1 x24_2).f0), .int .i64 ((rd_T26 l1 x24_2).f1), .string (⟨#[]⟩ : ByteArray)]) ?_ 2 _ rfl; (with_reducible repeat (first | refine xaf ?_ _ | refine xai ?_ | refine xad ?_ _)); refine xas (cs := #[.int .i8 ((rd_T26 l1 x24_2).f0), .int .i64 0, .string (⟨#[]⟩ : ByteArray)]) ?_ 1 _ rfl; (with_reducible repeat (first | refine xaf ?_ _ | refine xai ?_ | refine xad ?_ _)); refine xas (cs := #[.int .i8 0, .int .i64 0, .string (⟨#[]⟩ : ByteArray)]) ?_ 0 _ rfl; (with_reducible repeat (first | refine xaf ?_ _ | refine xai ?_ | refine xad ?_ _)); exact BK129.out) hb); have n1_ := Aside0.mk (xae (by repeat (first | (with_reducible first | exact HB.out | apply xab | apply xaa | apply xac | refine xah ?_ GE129.out) | exact HB.out)) hb); clear BK129; clear HB; have BK129 := n0_; have HB := n1_; clear n0_ n1_; (try clear hb); (try clear hb2); (try clear hk); (try clear hi)))
           go_ret
           exact ⟨by first | rfl | (simp [xan, xam] <;> rfl) | (simp [*, xan, xam] <;> rfl), by repeat (first | (with_reducible first | exact HB.out | apply xab | apply xaa | apply xac | refine xah ?_ GE129.out) | exact HB.out)⟩
         ·rw [if_neg c12] at H
          have c12b0 : (((rd_T26 l1 x24_2).f0) == x6_2) = false := beq_eq_false_iff_ne.mpr c12
          have c12b1 : (((rd_T26 l1 x24_2).f0) != x6_2) = true := bne_iff_ne.mpr c12
          obtain rfl := Option.some.inj H
          have p128 : 0 ≤ (x24_2 : Int) := of_decide_eq_true (by first | (with_reducible assumption) | assumption)
          have q128 : x24_2 < (l1.length : Int) := of_decide_eq_true (by first | (with_reducible assumption) | assumption)
          obtain ⟨ad128, e128, hx128_0, hx128_1, hx128_2⟩ := at_T26 HR1.out x24_2 p128 q128
          cases e128
          replace hx128_0 := (HB.out.cell (World.block_lt_of_cell? w _ hx128_0)).trans hx128_0
          replace hx128_1 := (HB.out.cell (World.block_lt_of_cell? w _ hx128_1)).trans hx128_1
          replace hx128_2 := (HB.out.cell (World.block_lt_of_cell? w _ hx128_2)).trans hx128_2
          replace p128 := eq_true p128
          replace q128 := eq_true q128
          go_wp2_with (first | ((with_reducible refine xap (N := 8) rfl ?_); refine xaq ?hg (N := 8) ?hd (cs := #[.int .i8 0, .int .i64 0, .string (⟨#[]⟩ : ByteArray)]) (t := 26) ?hr ?_; (case hd => rfl); (case hg => rfl); (case hr => first | (go_simp; done) | (go_simp; rfl)); intro gb129 hg w21 hbox hb; have n0_ := Aside0.mk (xae (by repeat (first | (with_reducible first | exact HB.out | apply xab | apply xaa | apply xac) | exact HB.out)) hb); have n1_ := Aside0.mk (hbox); have n2_ := Aside0.mk ((by rw [hg]; exact (xao (by repeat (first | (with_reducible first | exact HB.out | apply xab | apply xaa | apply xac) | exact HB.out))) : w.heap.size ≤ gb129)); have n3_ := n2_; clear HB; have HB := n0_; have BK129 := n1_; have GW129 := n2_; have GE129 := n3_; clear n0_ n1_ n2_ n3_; clear hb hbox hg; obtain ⟨hcz22_0, hcz22_1, hcz22_2⟩ := cz3 BK129.out; obtain ⟨hfz22_0, hfz22_1, hfz22_2⟩ := fz3 BK129.out))
          go_ret
          exact ⟨by first | rfl | (simp [xan, xam] <;> rfl) | (simp [*, xan, xam] <;> rfl), by repeat (first | (with_reducible first | exact HB.out | apply xab | apply xaa | apply xac | refine xah ?_ GE129.out) | exact HB.out)⟩
        ·rw [if_neg c11] at H
         exact absurd H (by simp)
       ·rw [if_neg c10] at H
        exact absurd H (by simp)
      ·rw [if_neg c9] at H
       have c9b0 : decide (x24_2 < (l1.length : Int)) = false := decide_eq_false c9
       clear c9
       obtain rfl := Option.some.inj H
       go_wp2
       go_ret
       exact ⟨by first | rfl | (simp [xan, xam] <;> rfl) | (simp [*, xan, xam] <;> rfl), by repeat (first | (with_reducible first | exact HB.out | apply xab | apply xaa | apply xac) | exact HB.out)⟩
   ·rw [if_neg c8] at H
    have c8b0 : ((l1.length : Int) == x5_2) = false := beq_eq_false_iff_ne.mpr c8
    have c8b1 : ((l1.length : Int) != x5_2) = true := bne_iff_ne.mpr c8
    obtain rfl := Option.some.inj H
    go_wp2
    go_ret
    exact ⟨by first | rfl | (simp [xan, xam] <;> rfl) | (simp [*, xan, xam] <;> rfl), by repeat (first | (with_reducible first | exact HB.out | apply xab | apply xaa | apply xac) | exact HB.out)⟩
def value_number.f (a0 : Int) : Option (Int × Int × ByteArray × Bool) := some (1, a0, (⟨#[]⟩ : ByteArray), true)
set_option maxHeartbeats 8000000 in
set_option maxRecDepth 100000 in
theorem value_number.calls (a0 : Int) (r1 : Int) (r2 : Int) (r3 : ByteArray) (r4 : Bool) (w : World) (h : value_number.f a0 = some (r1, r2, r3, r4)) :
  Calls Tryd.prog 60 #[.int .i64 a0] w fun e w' => e = .returned (.tuple #[.agg #[.int .i8 r1, .int .i64 r2, .string r3], .bool r4]) ∧ Below w.heap.size w w' := by
 have hu26 := Tryd.underlying26
 have HB := Aside0.mk (Below.refl w.heap.size w)
 have H : (some (1, a0, (⟨#[]⟩ : ByteArray), true)) = some (r1, r2, r3, r4) := h
 clear h
 simp only [Option.some.injEq, Prod.mk.injEq] at H
 obtain ⟨rfl, rfl, rfl, rfl⟩ := H
 go_enter Tryd.func60, Tryd.ntmps60
 go_wp2_with (first | ((with_reducible refine xap (N := 2) rfl ?_); refine xaq ?hg (N := 2) ?hd (cs := #[.int .i8 0, .int .i64 0, .string (⟨#[]⟩ : ByteArray)]) (t := 26) ?hr ?_; (case hd => rfl); (case hg => rfl); (case hr => first | (go_simp; done) | (go_simp; rfl)); intro gb131 hg w2 hbox hb; have n0_ := Aside0.mk (xae (by repeat (first | (with_reducible first | exact HB.out | apply xab | apply xaa | apply xac) | exact HB.out)) hb); have n1_ := Aside0.mk (hbox); have n2_ := Aside0.mk ((by rw [hg]; exact (xao (by repeat (first | (with_reducible first | exact HB.out | apply xab | apply xaa | apply xac) | exact HB.out))) : w.heap.size ≤ gb131)); have n3_ := n2_; clear HB; have HB := n0_; have BK131 := n1_; have GW131 := n2_; have GE131 := n3_; clear n0_ n1_ n2_ n3_; clear hb hbox hg; obtain ⟨hcz3_0, hcz3_1, hcz3_2⟩ := cz3 BK131.out; obtain ⟨hfz3_0, hfz3_1, hfz3_2⟩ := fz3 BK131.out))
 refine bodyPost_ret (xar rfl _ _ gb131 26 #[.int .i8 1, .int .i64 a0, .string (⟨#[]⟩ : ByteArray)] (0, 0) _ rfl (by (with_reducible repeat (first | refine xaf ?_ _ | refine xai ?_ | refine xad ?_ _)); refine xas (cs := #[.int .i8 1, .int .i64 a0, .string (⟨#[]⟩ : ByteArray)]) ?_ 2 _ rfl; (with_reducible repeat (first | refine xaf ?_ _ | refine xai ?_ | refine xad ?_ _)); refine xas (cs := #[.int .i8 1, .int .i64 0, .string (⟨#[]⟩ : ByteArray)]) ?_ 1 _ rfl; (with_reducible repeat (first | refine xaf ?_ _ | refine xai ?_ | refine xad ?_ _)); refine xas (cs := #[.int .i8 0, .int .i64 0, .string (⟨#[]⟩ : ByteArray)]) ?_ 0 _ rfl; (with_reducible repeat (first | refine xaf ?_ _ | refine xai ?_ | refine xad ?_ _)); exact BK131.out) Tryd.underlying26 rfl (by kernel_rfl)) rfl ?_
 exact ⟨by first | rfl | (simp [xan, xam] <;> rfl) | (simp [*, xan, xam] <;> rfl), by repeat (first | (with_reducible first | exact HB.out | apply xab | apply xaa | apply xac | refine xah ?_ GE131.out) | exact HB.out)⟩
def value_divide.f (a0 : Int) (a1 : Int) (a2 : Int) : Option (Int × Bool) := if a2 = 0 then some (0, false) else if a0 = 5 then some (wrap64 (a1.tdiv a2), true) else some (a1.tmod a2, true)
theorem divide_panicking (p q : Addr) (hp : p.block ≠ q.block) (u : TypeId) (pv : Value) (older : List PanicEntry) (w : World) {x : Int} {y : Bool} (hc : w.cell? p = some (.int .i64 x)) (hz : w.frozen? p = false) (hc2 : w.cell? q = some (.bool y)) (hz2 : w.frozen? q = false) :
  CallsD Tryd.prog 102 #[.pointer (some p), .pointer (some q)] (.panicking ({ v := .iface u pv, recovered := false } :: older)) w fun e u' w' =>
   e = .returned (.tuple #[]) ∧ u' = .panicking ({ v := .iface u pv, recovered := true } :: older) ∧ w' = (w.setCell p (.int .i64 0)).setCell q (.bool false) := by
 have h2 : (w.setCell p (.int .i64 0)).cell? q = some (.bool y) := by rw [World.cell?_setCell_other _ _ _ _ (by exact fun h => hp (by rw [h]))]; exact hc2
 have h3 : (w.setCell p (.int .i64 0)).frozen? q = false := by simpa using hz2
 refine callsD_of_wpS Tryd.func102 rfl fun c₀ cs hu => ?_
 apply wpS_seq
 apply wpS_region
 simp [wpOpsS, go_sem, recoverD, hu, Tryd.ntmps102, Exit.thenS]
 refine wpS_cond (t := true) (by simp [Act.eval, Array.replicate]) ?_
 simp only [if_true]
 apply wpS_region
 simp [wpOpsS, go_sem, hc, hz, h2, h3, bodyPostS, results, Tryd.results102]
theorem divide_idle (p q : Addr) (w : World) :
  CallsD Tryd.prog 102 #[.pointer (some p), .pointer (some q)] .returning w fun e u' w' => e = .returned (.tuple #[]) ∧ u' = .returning ∧ w' = w := by
 refine callsD_of_wpS Tryd.func102 rfl fun c₀ cs hu => ?_
 apply wpS_seq
 apply wpS_region
 simp [wpOpsS, go_sem, recoverD, hu, Tryd.ntmps102, Exit.thenS]
 refine wpS_cond (t := false) (by simp [Act.eval, Array.replicate]) ?_
 simp only [Bool.false_eq_true, if_false]
 refine wpS_of_wp (wp_skip ?_)
 cases c₀
 simp_all [bodyPostS, results, Tryd.results102]
set_option maxHeartbeats 1000000 in
theorem value_divide.calls (a0 a1 a2 : Int) (r1 : Int) (r2 : Bool) (w : World) (h : value_divide.f a0 a1 a2 = some (r1, r2)) :
  Calls Tryd.prog 61 #[.int .i8 a0, .int .i64 a1, .int .i64 a2] w fun e w' => e = .returned (.tuple #[.int .i64 r1, .bool r2]) ∧ Below w.heap.size w w' := by
 have hmf : ∀ (fn : Fn) (first cap : Array Value) (w : World), (Instr.makeFunc fn first cap).run Tryd.prog w = .ok (.func fn first cap) w := fun _ _ _ _ => rfl
 by_cases hz : a2 = 0
 ·subst hz
  rw [value_divide.f, if_pos rfl] at h
  obtain ⟨rfl, rfl⟩ : 0 = r1 ∧ false = r2 := by simpa using h
  by_cases h5 : a0 = 5
  all_goals
   go_enter_defers Tryd.func61, Tryd.ntmps61
   go_wp2
   refine leaves_cons (f := 102) (args := #[.pointer (some ⟨w.heap.size, 0, none⟩), .pointer (some ⟨w.heap.size + 1, 0, none⟩)]) (by simp) (by simp [go_sem]) ?_
   refine (divide_panicking ⟨w.heap.size, 0, none⟩ ⟨w.heap.size + 1, 0, none⟩ (by simp) _ _ [] _ (x := 0) (y := false) ?_ ?_ ?_ ?_).mono ?_
   ·simp [go_sem]
   ·simp [go_sem]
   ·simp [go_sem]
   ·simp [go_sem]
   rintro e u' w'' ⟨rfl, rfl, rfl⟩
   simp [Leaves, settle, results, Tryd.results61, go_sem]
   exact xab (xab (Below.refl _ _) _) _
 ·rw [value_divide.f, if_neg hz] at h
  by_cases h5 : a0 = 5
  ·rw [if_pos h5] at h
   obtain ⟨rfl, rfl⟩ : wrap64 (a1.tdiv a2) = r1 ∧ true = r2 := by simpa using h
   go_enter_defers Tryd.func61, Tryd.ntmps61
   go_wp2
   refine leaves_cons (f := 102) (args := #[.pointer (some ⟨w.heap.size, 0, none⟩), .pointer (some ⟨w.heap.size + 1, 0, none⟩)]) (by simp) (by simp [go_sem]) ?_
   refine (divide_idle ⟨w.heap.size, 0, none⟩ ⟨w.heap.size + 1, 0, none⟩ _).mono ?_
   rintro e u' w'' ⟨rfl, rfl, rfl⟩
   simp [Leaves, settle, results, Tryd.results61, go_sem, wrap64]
   exact xab (xab (Below.refl _ _) _) _
  ·rw [if_neg h5] at h
   obtain ⟨rfl, rfl⟩ : a1.tmod a2 = r1 ∧ true = r2 := by simpa using h
   go_enter_defers Tryd.func61, Tryd.ntmps61
   go_wp2
   refine leaves_cons (f := 102) (args := #[.pointer (some ⟨w.heap.size, 0, none⟩), .pointer (some ⟨w.heap.size + 1, 0, none⟩)]) (by simp) (by simp [go_sem]) ?_
   refine (divide_idle ⟨w.heap.size, 0, none⟩ ⟨w.heap.size + 1, 0, none⟩ _).mono ?_
   rintro e u' w'' ⟨rfl, rfl, rfl⟩
   simp [Leaves, settle, results, Tryd.results61, go_sem, wrap64]
   exact xab (xab (Below.refl _ _) _) _
def value_text.f (a0 : ByteArray) : Option (Int × Int × ByteArray × Bool) := if (a0.size : Int) > 200 then (some (0, 0, (⟨#[]⟩ : ByteArray), false)) else (some (2, 0, a0, true))
set_option maxHeartbeats 8000000 in
set_option maxRecDepth 100000 in
theorem value_text.calls (a0 : ByteArray) (r1 : Int) (r2 : Int) (r3 : ByteArray) (r4 : Bool) (w : World) (h : value_text.f a0 = some (r1, r2, r3, r4)) :
  Calls Tryd.prog 62 #[.string a0] w fun e w' => e = .returned (.tuple #[.agg #[.int .i8 r1, .int .i64 r2, .string r3], .bool r4]) ∧ Below w.heap.size w w' := by
 have hu26 := Tryd.underlying26
 have HB := Aside0.mk (Below.refl w.heap.size w)
 have H : (if (a0.size : Int) > 200 then (some (0, 0, (⟨#[]⟩ : ByteArray), false)) else (some (2, 0, a0, true))) = some (r1, r2, r3, r4) := h
 clear h
 by_cases c2 : (a0.size : Int) > 200
 ·rw [if_pos c2] at H
  have c2b0 : decide (200 < (a0.size : Int)) = true := decide_eq_true c2
  have c2b1 : decide (200 < a0.size) = true := decide_eq_true (by omega)
  clear c2
  simp only [Option.some.injEq, Prod.mk.injEq] at H
  obtain ⟨rfl, rfl, rfl, rfl⟩ := H
  go_enter Tryd.func62, Tryd.ntmps62
  go_wp2_with (first | ((with_reducible refine xap (N := 2) rfl ?_); refine xaq ?hg (N := 2) ?hd (cs := #[.int .i8 0, .int .i64 0, .string (⟨#[]⟩ : ByteArray)]) (t := 26) ?hr ?_; (case hd => rfl); (case hg => rfl); (case hr => first | (go_simp; done) | (go_simp; rfl)); intro gb132 hg w3 hbox hb; have n0_ := Aside0.mk (xae (by repeat (first | (with_reducible first | exact HB.out | apply xab | apply xaa | apply xac) | exact HB.out)) hb); have n1_ := Aside0.mk (hbox); have n2_ := Aside0.mk ((by rw [hg]; exact (xao (by repeat (first | (with_reducible first | exact HB.out | apply xab | apply xaa | apply xac) | exact HB.out))) : w.heap.size ≤ gb132)); have n3_ := n2_; clear HB; have HB := n0_; have BK132 := n1_; have GW132 := n2_; have GE132 := n3_; clear n0_ n1_ n2_ n3_; clear hb hbox hg; obtain ⟨hcz4_0, hcz4_1, hcz4_2⟩ := cz3 BK132.out; obtain ⟨hfz4_0, hfz4_1, hfz4_2⟩ := fz3 BK132.out))
  refine bodyPost_ret (xar rfl _ _ gb132 26 #[.int .i8 0, .int .i64 0, .string (⟨#[]⟩ : ByteArray)] (0, 0) _ rfl (by (with_reducible repeat (first | refine xaf ?_ _ | refine xai ?_ | refine xad ?_ _)); refine xas (cs := #[.int .i8 0, .int .i64 0, .string (⟨#[]⟩ : ByteArray)]) ?_ 2 _ rfl; (with_reducible repeat (first | refine xaf ?_ _ | refine xai ?_ | refine xad ?_ _)); refine xas (cs := #[.int .i8 0, .int .i64 0, .string (⟨#[]⟩ : ByteArray)]) ?_ 1 _ rfl; (with_reducible repeat (first | refine xaf ?_ _ | refine xai ?_ | refine xad ?_ _)); refine xas (cs := #[.int .i8 0, .int .i64 0, .string (⟨#[]⟩ : ByteArray)]) ?_ 0 _ rfl; (with_reducible repeat (first | refine xaf ?_ _ | refine xai ?_ | refine xad ?_ _)); exact BK132.out) Tryd.underlying26 rfl (by kernel_rfl)) rfl ?_
  exact ⟨by first | rfl | (simp [xan, xam] <;> rfl) | (simp [*, xan, xam] <;> rfl), by repeat (first | (with_reducible first | exact HB.out | apply xab | apply xaa | apply xac | refine xah ?_ GE132.out) | exact HB.out)⟩
 ·rw [if_neg c2] at H
  have c2b0 : decide (200 < (a0.size : Int)) = false := decide_eq_false c2
  have c2b1 : decide (200 < a0.size) = false := decide_eq_false (by omega)
  clear c2
  simp only [Option.some.injEq, Prod.mk.injEq] at H
  obtain ⟨rfl, rfl, rfl, rfl⟩ := H
  go_enter Tryd.func62, Tryd.ntmps62
  go_wp2_with (first | ((with_reducible refine xap (N := 2) rfl ?_); refine xaq ?hg (N := 2) ?hd (cs := #[.int .i8 0, .int .i64 0, .string (⟨#[]⟩ : ByteArray)]) (t := 26) ?hr ?_; (case hd => rfl); (case hg => rfl); (case hr => first | (go_simp; done) | (go_simp; rfl)); intro gb132 hg w5 hbox hb; have n0_ := Aside0.mk (xae (by repeat (first | (with_reducible first | exact HB.out | apply xab | apply xaa | apply xac) | exact HB.out)) hb); have n1_ := Aside0.mk (hbox); have n2_ := Aside0.mk ((by rw [hg]; exact (xao (by repeat (first | (with_reducible first | exact HB.out | apply xab | apply xaa | apply xac) | exact HB.out))) : w.heap.size ≤ gb132)); have n3_ := n2_; clear HB; have HB := n0_; have BK132 := n1_; have GW132 := n2_; have GE132 := n3_; clear n0_ n1_ n2_ n3_; clear hb hbox hg; obtain ⟨hcz6_0, hcz6_1, hcz6_2⟩ := cz3 BK132.out; obtain ⟨hfz6_0, hfz6_1, hfz6_2⟩ := fz3 BK132.out))
  refine bodyPost_ret (xar rfl _ _ gb132 26 #[.int .i8 2, .int .i64 0, .string a0] (0, 0) _ rfl (by (with_reducible repeat (first | refine xaf ?_ _ | refine xai ?_ | refine xad ?_ _)); refine xas (cs := #[.int .i8 2, .int .i64 0, .string (⟨#[]⟩ : ByteArray)]) ?_ 2 _ rfl; (with_reducible repeat (first | refine xaf ?_ _ | refine xai ?_ | refine xad ?_ _)); refine xas (cs := #[.int .i8 2, .int .i64 0, .string (⟨#[]⟩ : ByteArray)]) ?_ 1 _ rfl; (with_reducible repeat (first | refine xaf ?_ _ | refine xai ?_ | refine xad ?_ _)); refine xas (cs := #[.int .i8 0, .int .i64 0, .string (⟨#[]⟩ : ByteArray)]) ?_ 0 _ rfl; (with_reducible repeat (first | refine xaf ?_ _ | refine xai ?_ | refine xad ?_ _)); exact BK132.out) Tryd.underlying26 rfl (by kernel_rfl)) rfl ?_
  exact ⟨by first | rfl | (simp [xan, xam] <;> rfl) | (simp [*, xan, xam] <;> rfl), by repeat (first | (with_reducible first | exact HB.out | apply xab | apply xaa | apply xac | refine xah ?_ GE132.out) | exact HB.out)⟩
def valueOk (x : S26) : Bool := (value_Check.f x.f0 x.f1 x.f2).getD 1 == 0
def howOf (op : Int) : Int := if op = 1 then 1 else if 2 ≤ op ∧ op ≤ 6 then 2 else if op = 7 then 4 else if 8 ≤ op ∧ op ≤ 10 then 3 else 0
def fitsV (how : Int) (l : List S26) : Bool :=
 if how = 0 then false else decide (l.length = (if how = 2 ∨ how = 4 then 2 else 1)) && l.all (fun v => decide (v.f0 = (if how = 4 ∨ how = 3 then 2 else 1)) && valueOk v)
theorem valueOk_tot (x : S26) : ∃ r, value_Check.f x.f0 x.f1 x.f2 = some r ∧ valueOk x = (r == 0) := by
 unfold valueOk value_Check.f
 repeat' split
 all_goals exact ⟨_, rfl, rfl⟩
theorem fits_l0 (kd : Int) (l : List S26) (hl : l.length ≤ 100) : ∀ (m i : Nat), l.length - i = m → i ≤ l.length → Ev (fun k => value_fits.l0 k kd l (l.length : Int) (i : Int)) ((l.drop i).all (fun v => decide (v.f0 = kd) && valueOk v))
 | 0, i, hm, hi => by
  rw [List.drop_eq_nil_of_le (by omega)]
  exact Ev.of (fun k => by rw [value_fits.l0, if_neg (by omega)]; rfl)
 | m + 1, i, hm, hi => by
  have hlt : i < l.length := by omega
  have e : rd_T26 l (i : Int) = l[i] := by rw [rd_T26, List.getD_eq_getElem?_getD, Int.toNat_natCast, List.getElem?_eq_getElem hlt]; rfl
  have ih := fits_l0 kd l hl m (i + 1) (by omega) (by omega)
  obtain ⟨r, hr, hv⟩ := valueOk_tot l[i]
  rw [List.drop_eq_getElem_cons hlt, List.all_cons]
  by_cases h : l[i].f0 = kd
  ·by_cases h0 : r = 0
   ·rw [show (decide (l[i].f0 = kd) && valueOk l[i]) = true by rw [hv, h0, decide_eq_true h]; rfl, Bool.true_and]
    refine ih.step (fun k => ?_)
    rw [value_fits.l0, if_pos (by omega), if_pos (by omega), if_pos (by omega), e, if_pos h, hr]
    show (if r = 0 then _ else _) = _
    rw [if_pos h0, w64 (by omega) (by omega)]
    rfl
   ·rw [show (decide (l[i].f0 = kd) && valueOk l[i]) = false by rw [hv, show (r == 0) = false by simpa using h0, Bool.and_false], Bool.false_and]
    refine Ev.of (fun k => ?_)
    rw [value_fits.l0, if_pos (by omega), if_pos (by omega), if_pos (by omega), e, if_pos h, hr]
    show (if r = 0 then _ else _) = _
    rw [if_neg h0]
  ·rw [decide_eq_false h, Bool.false_and, Bool.false_and]
   refine Ev.of (fun k => ?_)
   rw [value_fits.l0, if_pos (by omega), if_pos (by omega), if_pos (by omega), e, if_neg h]
theorem fits_j0 (n kd : Int) (hn : n ≤ 100) (l : List S26) : Ev (fun k => value_fits.j0 k l n kd) (decide ((l.length : Int) = n) && l.all (fun v => decide (v.f0 = kd) && valueOk v)) := by
 by_cases h : (l.length : Int) = n
 ·have h1 := fits_l0 kd l (by omega) _ 0 rfl (Nat.zero_le _)
  rw [List.drop_zero] at h1
  rw [decide_eq_true h, Bool.true_and]
  exact h1.step (fun k => by rw [value_fits.j0, if_pos h]; rfl)
 ·rw [decide_eq_false h, Bool.false_and]
  exact Ev.of (fun k => by rw [value_fits.j0, if_neg h])
theorem fits_ev (how : Int) (hh : 0 ≤ how ∧ how ≤ 4) (l : List S26) : Ev (fun k => value_fits.f k how l) (fitsV how l) := by
 rw [fitsV]
 by_cases h0 : how = 0
 ·exact Ev.const (fun k => by rw [value_fits.f, if_pos h0, if_pos h0])
 ·rw [if_neg h0]
  by_cases h2 : how = 2
  ·subst h2
   have e : (decide (l.length = if (2 : Int) = 2 ∨ (2 : Int) = 4 then 2 else 1)) = decide ((l.length : Int) = 2) := by simp; omega
   rw [e]
   exact (fits_j0 2 1 (by omega) l).cong (fun k => by rw [value_fits.f, if_neg (by omega), if_pos rfl])
  ·by_cases h4 : how = 4
   ·subst h4
    have e : (decide (l.length = if (4 : Int) = 2 ∨ (4 : Int) = 4 then 2 else 1)) = decide ((l.length : Int) = 2) := by simp; omega
    rw [e]
    exact (fits_j0 2 2 (by omega) l).cong (fun k => by rw [value_fits.f, if_neg (by omega), if_neg (by omega), if_pos rfl])
   ·by_cases h3 : how = 3
    ·subst h3
     have e : (decide (l.length = if (3 : Int) = 2 ∨ (3 : Int) = 4 then 2 else 1)) = decide ((l.length : Int) = 1) := by simp; omega
     rw [e]
     exact (fits_j0 1 2 (by omega) l).cong (fun k => by rw [value_fits.f, if_neg (by omega), if_neg (by omega), if_neg (by omega), if_pos rfl])
    ·obtain rfl : how = 1 := by omega
     have e : (decide (l.length = if (1 : Int) = 2 ∨ (1 : Int) = 4 then 2 else 1)) = decide ((l.length : Int) = 1) := by simp; omega
     rw [e]
     exact (fits_j0 1 1 (by omega) l).cong (fun k => by rw [value_fits.f, if_neg (by omega), if_neg (by omega), if_neg (by omega), if_neg (by omega)])
def charsL (s : ByteArray) : Nat → Nat → Int → Int
 | 0, _, n => n
 | f + 1, pos, n => if pos < s.size then charsL s f (pos + (Utf8.decode s pos).2) (n + 1) else n
def arithV (op : Int) (l : List S26) : Int × Int × ByteArray × Bool :=
 if op < 0 ∨ 11 ≤ op ∨ fitsV (howOf op) l = false then (0, 0, ⟨#[]⟩, false)
 else if op = 1 then (1, wrap64 (-(l.getD 0 z26).f1), ⟨#[]⟩, true)
 else if op = 2 then (1, wrap64 ((l.getD 0 z26).f1 + (l.getD 1 z26).f1), ⟨#[]⟩, true)
 else if op = 3 then (1, wrap64 ((l.getD 0 z26).f1 - (l.getD 1 z26).f1), ⟨#[]⟩, true)
 else if op = 4 then (1, wrap64 ((l.getD 0 z26).f1 * (l.getD 1 z26).f1), ⟨#[]⟩, true)
 else if op = 5 ∨ op = 6 then (if (l.getD 1 z26).f1 = 0 then (0, 0, ⟨#[]⟩, false) else (1, (if op = 5 then wrap64 ((l.getD 0 z26).f1.tdiv (l.getD 1 z26).f1) else (l.getD 0 z26).f1.tmod (l.getD 1 z26).f1), ⟨#[]⟩, true))
 else if op = 7 then (if (((l.getD 0 z26).f2 ++ (l.getD 1 z26).f2).size : Int) > 200 then (0, 0, ⟨#[]⟩, false) else (2, 0, (l.getD 0 z26).f2 ++ (l.getD 1 z26).f2, true))
 else if op = 8 then (1, ((l.getD 0 z26).f2.size : Int), ⟨#[]⟩, true)
 else if op = 9 then (1, charsL (l.getD 0 z26).f2 (l.getD 0 z26).f2.size 0 0, ⟨#[]⟩, true)
 else (if ((backOf (l.getD 0 z26).f2).size : Int) > 200 then (0, 0, ⟨#[]⟩, false) else (2, 0, backOf (l.getD 0 z26).f2, true))
theorem xbh {w : World} (h : TabA w) (o : Obj) (i : Nat) (hi : i < 11) : (w.alloc o).cell? ⟨0, i, none⟩ = some (.int .i8 ([0, 1, 2, 2, 2, 2, 2, 4, 3, 3, 3].getD i 0)) := by
 have h1 := h.below (xab (Below.refl _ _) o)
 have h2 := Lib.TabIs.cell h1 (show Tryd.prog.globalNamed "pedigree/value.takes" = some 0 by kernel_rfl) i hi
 exact h2
theorem xbe (a : Addr) (j : Nat) : (⟨(a.add 3).block, (a.add 3).off + j, none⟩ : Addr) = ⟨a.block, a.off + 3 + j, none⟩ := by unfold Addr.add; split <;> simp_all
theorem put3 {w : World} {g : Nat} {t : TypeId} {x y z a b c : Value} (h : w.heap[g]? = some (.cells #[x, y, z] t (0, 0))) : (((w.setCell ⟨g, 0, none⟩ a).setCell ⟨g, 1, none⟩ b).setCell ⟨g, 2, none⟩ c).heap[g]? = some (.cells #[a, b, c] t (0, 0)) := by
 have := xbo (xbo (xbo h 0 a) 1 b) 2 c
 simpa using this
theorem below3 {w0 w : World} {g : Nat} (h : Below w0.heap.size w0 w) (hg : w0.heap.size ≤ g) (a b c : Value) : Below w0.heap.size w0 (((w.setCell ⟨g, 0, none⟩ a).setCell ⟨g, 1, none⟩ b).setCell ⟨g, 2, none⟩ c) := xah (xah (xah h hg) hg) hg
theorem xbr {op : Int} {l : List S26} (h : fitsV (howOf op) l = false) : arithV op l = (0, 0, ⟨#[]⟩, false) := by rw [arithV, if_pos (.inr (.inr h))]
theorem xbl {op : Int} {l : List S26} (h0 : ¬ op < 0) (h1 : ¬ 11 ≤ op) (h : fitsV (howOf op) l = true) : ¬ (op < 0 ∨ 11 ≤ op ∨ fitsV (howOf op) l = false) := by
 rintro (h2 | h2 | h2)
 ·exact h0 h2
 ·exact h1 h2
 ·rw [h] at h2; cases h2
theorem xbt {how : Int} {l : List S26} (h : fitsV how l = true) : l.length = (if how = 2 ∨ how = 4 then 2 else 1) := by
 rw [fitsV] at h
 split at h
 ·simp at h
 ·rw [Bool.and_eq_true] at h
  exact of_decide_eq_true h.1
theorem fits_size {how : Int} {l : List S26} (h : fitsV how l = true) : ∀ v ∈ l, v.f2.size ≤ 200 := by
 rw [fitsV] at h
 split at h
 ·simp at h
 ·rw [Bool.and_eq_true] at h
  intro v hv
  have h2 := List.all_eq_true.1 h.2 v hv
  rw [Bool.and_eq_true] at h2
  obtain ⟨q, hq, hv2⟩ := valueOk_tot v
  have h3 := h2.2
  rw [hv2] at h3
  have hq0 : q = 0 := by simpa using h3
  subst hq0
  have ht : v.f2.toList = [] → v.f2.size = 0 := fun ht => by
   rw [xaz] at ht
   have := congrArg List.length ht
   simpa using this
  unfold value_Check.f at hq
  repeat' split at hq
  all_goals first | (have := ht (by assumption); omega) | omega | (simp at hq; done)
set_option maxHeartbeats 2000000 in
set_option maxRecDepth 100000 in
theorem arith_0 (A : Option Addr) (c : Nat) (l : List S26) (r : Int × Int × ByteArray × Bool) (w : World) (hr : Kd.C k26 w A l.length l) (hc : l.length ≤ c) (hT : TabA w) (h : arithV 0 l = r) :
  Calls Tryd.prog 17 #[.int .i8 0, .slice A l.length c] w fun e w' => e = .returned (.tuple #[.agg #[.int .i8 r.1, .int .i64 r.2.1, .string r.2.2.1], .bool r.2.2.2]) ∧ Below w.heap.size w w' := by
 have hcell := xbh hT (.cells #[.int .i8 0, .int .i64 0, .string ⟨#[]⟩] 26) 0 (by decide)
 have HR := Lib.hid hr
 have HK := Lib.hid (xau w (.cells #[.int .i8 0, .int .i64 0, .string ⟨#[]⟩] 26 (0, 0)))
 have HW := Lib.hid (xab (Below.refl w.heap.size w) (.cells #[.int .i8 0, .int .i64 0, .string ⟨#[]⟩] 26))
 clear hr hT
 obtain ⟨k, hk⟩ := (fits_ev 0 (by decide) l).at
 go_enter Tryd.func17, Tryd.ntmps17
 go_wp2_with fail
 refine (value_fits.calls (k := k) (hr1 := Kd.C_below HR.out HW.out) (hc1 := hc) (h := hk)).mono ?_
 rintro e w1 ⟨rfl, hb⟩
 have HB := Lib.hid (xae HW.out hb)
 have HK1 := Lib.hid (xak HK.out hb)
 clear hb hcell HK HW hk
 cases hf : fitsV 0 l with
 | false =>
  have hr0 := (xbr (op := 0) (l := l) hf).symm.trans h
  subst hr0
  have z0 : w1.cell? ⟨w.heap.size, 0, none⟩ = some (.int .i8 0) := (xag HK1.out 0).trans rfl
  have z1 : w1.cell? ⟨w.heap.size, 1, none⟩ = some (.int .i64 0) := (xag HK1.out 1).trans rfl
  have z2 : w1.cell? ⟨w.heap.size, 2, none⟩ = some (.string ⟨#[]⟩) := (xag HK1.out 2).trans rfl
  have y0 := xal HK1.out 0
  have y1 := xal HK1.out 1
  have y2 := xal HK1.out 2
  go_wp2_with fail
  refine bodyPost_ret (xar rfl _ _ w.heap.size 26 #[.int .i8 0, .int .i64 0, .string ⟨#[]⟩] (0, 0) _ rfl (put3 HK1.out) Tryd.underlying26 rfl (by kernel_rfl)) rfl ?_
  exact ⟨rfl, below3 HB.out (Nat.le_refl _) _ _ _⟩
 | true =>
  have hlen := xbt hf
  have hlen' : l.length = 1 := hlen
  exact absurd hf (by simp [fitsV])
set_option maxHeartbeats 2000000 in
set_option maxRecDepth 100000 in
theorem arith_1 (A : Option Addr) (c : Nat) (l : List S26) (r : Int × Int × ByteArray × Bool) (w : World) (hr : Kd.C k26 w A l.length l) (hc : l.length ≤ c) (hT : TabA w) (h : arithV 1 l = r) :
  Calls Tryd.prog 17 #[.int .i8 1, .slice A l.length c] w fun e w' => e = .returned (.tuple #[.agg #[.int .i8 r.1, .int .i64 r.2.1, .string r.2.2.1], .bool r.2.2.2]) ∧ Below w.heap.size w w' := by
 have hcell := xbh hT (.cells #[.int .i8 0, .int .i64 0, .string ⟨#[]⟩] 26) 1 (by decide)
 have HR := Lib.hid hr
 have HK := Lib.hid (xau w (.cells #[.int .i8 0, .int .i64 0, .string ⟨#[]⟩] 26 (0, 0)))
 have HW := Lib.hid (xab (Below.refl w.heap.size w) (.cells #[.int .i8 0, .int .i64 0, .string ⟨#[]⟩] 26))
 clear hr hT
 obtain ⟨k, hk⟩ := (fits_ev 1 (by decide) l).at
 go_enter Tryd.func17, Tryd.ntmps17
 go_wp2_with fail
 refine (value_fits.calls (k := k) (hr1 := Kd.C_below HR.out HW.out) (hc1 := hc) (h := hk)).mono ?_
 rintro e w1 ⟨rfl, hb⟩
 have HB := Lib.hid (xae HW.out hb)
 have HK1 := Lib.hid (xak HK.out hb)
 clear hb hcell HK HW hk
 cases hf : fitsV 1 l with
 | false =>
  have hr0 := (xbr (op := 1) (l := l) hf).symm.trans h
  subst hr0
  have z0 : w1.cell? ⟨w.heap.size, 0, none⟩ = some (.int .i8 0) := (xag HK1.out 0).trans rfl
  have z1 : w1.cell? ⟨w.heap.size, 1, none⟩ = some (.int .i64 0) := (xag HK1.out 1).trans rfl
  have z2 : w1.cell? ⟨w.heap.size, 2, none⟩ = some (.string ⟨#[]⟩) := (xag HK1.out 2).trans rfl
  have y0 := xal HK1.out 0
  have y1 := xal HK1.out 1
  have y2 := xal HK1.out 2
  go_wp2_with fail
  refine bodyPost_ret (xar rfl _ _ w.heap.size 26 #[.int .i8 0, .int .i64 0, .string ⟨#[]⟩] (0, 0) _ rfl (put3 HK1.out) Tryd.underlying26 rfl (by kernel_rfl)) rfl ?_
  exact ⟨rfl, below3 HB.out (Nat.le_refl _) _ _ _⟩
 | true =>
  have hlen := xbt hf
  have hlen' : l.length = 1 := hlen
  rw [arithV, if_neg (xbl (op := 1) (l := l) (by decide) (by decide) hf)] at h
  obtain ⟨ad, rfl, g0, g1, g2⟩ := at_T26 (Kd.C_below HR.out HB.out) (0 : Int) (by omega) (by omega)
  rw [show ad.add ((0 : Int).toNat * 3) = ad by cases ad; simp [Addr.add]] at g0 g1 g2
  have h2 : ((1, wrap64 (-(rd_T26 l (0 : Int)).f1), ⟨#[]⟩, true) : Int × Int × ByteArray × Bool) = r := h
  subst h2
  clear h
  go_wp2_with fail
  refine (value_number.calls (wrap64 (-(rd_T26 l (0 : Int)).f1)) 1 (wrap64 (-(rd_T26 l (0 : Int)).f1)) ⟨#[]⟩ true w1 rfl).mono ?_
  rintro e w2 ⟨rfl, hb⟩
  have HB2 := Lib.hid (xae HB.out hb)
  have HK2 := Lib.hid (xak HK1.out hb)
  clear hb
  have z0 : w2.cell? ⟨w.heap.size, 0, none⟩ = some (.int .i8 0) := (xag HK2.out 0).trans rfl
  have y0 := xal HK2.out 0
  have z1 : w2.cell? ⟨w.heap.size, 1, none⟩ = some (.int .i64 0) := (xag HK2.out 1).trans rfl
  have y1 := xal HK2.out 1
  have z2 : w2.cell? ⟨w.heap.size, 2, none⟩ = some (.string ⟨#[]⟩) := (xag HK2.out 2).trans rfl
  have y2 := xal HK2.out 2
  go_wp2_with fail
  refine bodyPost_ret (xar rfl _ _ w.heap.size 26 #[.int .i8 1, .int .i64 (wrap64 (-(rd_T26 l (0 : Int)).f1)), .string ⟨#[]⟩] (0, 0) _ rfl (put3 HK2.out) Tryd.underlying26 rfl (by kernel_rfl)) rfl ?_
  exact ⟨rfl, below3 HB2.out (Nat.le_refl _) _ _ _⟩
set_option maxHeartbeats 2000000 in
set_option maxRecDepth 100000 in
theorem arith_2 (A : Option Addr) (c : Nat) (l : List S26) (r : Int × Int × ByteArray × Bool) (w : World) (hr : Kd.C k26 w A l.length l) (hc : l.length ≤ c) (hT : TabA w) (h : arithV 2 l = r) :
  Calls Tryd.prog 17 #[.int .i8 2, .slice A l.length c] w fun e w' => e = .returned (.tuple #[.agg #[.int .i8 r.1, .int .i64 r.2.1, .string r.2.2.1], .bool r.2.2.2]) ∧ Below w.heap.size w w' := by
 have hcell := xbh hT (.cells #[.int .i8 0, .int .i64 0, .string ⟨#[]⟩] 26) 2 (by decide)
 have HR := Lib.hid hr
 have HK := Lib.hid (xau w (.cells #[.int .i8 0, .int .i64 0, .string ⟨#[]⟩] 26 (0, 0)))
 have HW := Lib.hid (xab (Below.refl w.heap.size w) (.cells #[.int .i8 0, .int .i64 0, .string ⟨#[]⟩] 26))
 clear hr hT
 obtain ⟨k, hk⟩ := (fits_ev 2 (by decide) l).at
 go_enter Tryd.func17, Tryd.ntmps17
 go_wp2_with fail
 refine (value_fits.calls (k := k) (hr1 := Kd.C_below HR.out HW.out) (hc1 := hc) (h := hk)).mono ?_
 rintro e w1 ⟨rfl, hb⟩
 have HB := Lib.hid (xae HW.out hb)
 have HK1 := Lib.hid (xak HK.out hb)
 clear hb hcell HK HW hk
 cases hf : fitsV 2 l with
 | false =>
  have hr0 := (xbr (op := 2) (l := l) hf).symm.trans h
  subst hr0
  have z0 : w1.cell? ⟨w.heap.size, 0, none⟩ = some (.int .i8 0) := (xag HK1.out 0).trans rfl
  have z1 : w1.cell? ⟨w.heap.size, 1, none⟩ = some (.int .i64 0) := (xag HK1.out 1).trans rfl
  have z2 : w1.cell? ⟨w.heap.size, 2, none⟩ = some (.string ⟨#[]⟩) := (xag HK1.out 2).trans rfl
  have y0 := xal HK1.out 0
  have y1 := xal HK1.out 1
  have y2 := xal HK1.out 2
  go_wp2_with fail
  refine bodyPost_ret (xar rfl _ _ w.heap.size 26 #[.int .i8 0, .int .i64 0, .string ⟨#[]⟩] (0, 0) _ rfl (put3 HK1.out) Tryd.underlying26 rfl (by kernel_rfl)) rfl ?_
  exact ⟨rfl, below3 HB.out (Nat.le_refl _) _ _ _⟩
 | true =>
  have hlen := xbt hf
  have hlen' : l.length = 2 := hlen
  rw [arithV, if_neg (xbl (op := 2) (l := l) (by decide) (by decide) hf)] at h
  obtain ⟨ad, rfl, g0, g1, g2⟩ := at_T26 (Kd.C_below HR.out HB.out) (0 : Int) (by omega) (by omega)
  rw [show ad.add ((0 : Int).toNat * 3) = ad by cases ad; simp [Addr.add]] at g0 g1 g2
  obtain ⟨ad', he, j0, j1, j2⟩ := at_T26 (Kd.C_below HR.out HB.out) (1 : Int) (by omega) (by omega)
  obtain rfl := Option.some.inj he
  rw [show (1 : Int).toNat * 3 = 3 from rfl] at j0 j1 j2
  replace j1 : w1.cell? ⟨ad.block, ad.off + 3 + 1, none⟩ = some (.int .i64 (rd_T26 l (1 : Int)).f1) := by rw [← xbe ad 1]; exact j1
  replace j2 : w1.cell? ⟨ad.block, ad.off + 3 + 2, none⟩ = some (.string (rd_T26 l (1 : Int)).f2) := by rw [← xbe ad 2]; exact j2
  have h2 : ((1, wrap64 ((rd_T26 l (0 : Int)).f1 + (rd_T26 l (1 : Int)).f1), ⟨#[]⟩, true) : Int × Int × ByteArray × Bool) = r := h
  subst h2
  clear h
  go_wp2_with fail
  refine start_ (n := 14) (S := fun w' => w'.cell? ⟨ad.block, ad.off + 1, none⟩ = some (.int .i64 (rd_T26 l (0 : Int)).f1) ∧ w'.cell? ⟨ad.block, ad.off + 3 + 1, none⟩ = some (.int .i64 (rd_T26 l (1 : Int)).f1) ∧ w'.heap[w.heap.size]? = some (.cells #[.int .i8 0, .int .i64 0, .string ⟨#[]⟩] 26 (0, 0)) ∧ Hid (Below w.heap.size w w')) (ds := [12]) #[false, false, false, false, false, false, false, false, false, false, false, false, false, false] (by kernel_rfl) rfl rfl ⟨g1, j1, HK1.out, (Lib.hid (xaw HB.out))⟩ (fun hHeld => ?_)
  refine pure_ (i := 0) (N := some 38) (v := ?_) (a' := ?_) #[true, false, false, false, false, false, false, false, false, false, false, false, false, false] rfl rfl (by kernel_rfl) (fun _ _ _ h => h) (Or.inl ⟨by rfl, ?_⟩) ?_ ?_
  rotate_left
  ·intro w'
   go_simp
   with_reducible rfl
  rotate_left
  ·simp only [Act.put, sI, sZ, sS, i64_w, i32_w]
   rfl
  refine pure_ (i := 1) (N := some 39) (v := ?_) (a' := ?_) #[true, true, false, false, false, false, false, false, false, false, false, false, false, false] rfl rfl (by kernel_rfl) (fun _ _ _ h => h) (Or.inl ⟨by rfl, ?_⟩) ?_ ?_
  rotate_left
  ·intro w'
   go_simp
   with_reducible rfl
  rotate_left
  ·simp only [Act.put, sI, sZ, sS, i64_w, i32_w]
   rfl
  refine pure_ (i := 2) (N := some 40) (v := ?_) (a' := ?_) #[true, true, true, false, false, false, false, false, false, false, false, false, false, false] rfl rfl (by kernel_rfl) (fun _ _ _ h => h) (Or.inl ⟨by rfl, ?_⟩) ?_ ?_
  rotate_left
  ·intro w'
   go_simp
   with_reducible rfl
  rotate_left
  ·simp only [Act.put, sI, sZ, sS, i64_w, i32_w]
   rfl
  refine pure_ (i := 4) (N := some 42) (v := ?_) (a' := ?_) #[true, true, true, false, true, false, false, false, false, false, false, false, false, false] rfl rfl (by kernel_rfl) (fun _ _ _ h => h) (Or.inl ⟨by rfl, ?_⟩) ?_ ?_
  rotate_left
  ·intro w'
   go_simp
   with_reducible rfl
  rotate_left
  ·simp only [Act.put, sI, sZ, sS, i64_w, i32_w]
   rfl
  refine pure_ (i := 5) (N := some 43) (v := ?_) (a' := ?_) #[true, true, true, false, true, true, false, false, false, false, false, false, false, false] rfl rfl (by kernel_rfl) (fun _ _ _ h => h) (Or.inl ⟨by rfl, ?_⟩) ?_ ?_
  rotate_left
  ·intro w'
   go_simp
   with_reducible rfl
  rotate_left
  ·simp only [Act.put, sI, sZ, sS, i64_w, i32_w]
   rfl
  refine pure_ (i := 6) (N := some 44) (v := ?_) (a' := ?_) #[true, true, true, false, true, true, true, false, false, false, false, false, false, false] rfl rfl (by kernel_rfl) (fun _ _ _ h => h) (Or.inl ⟨by rfl, ?_⟩) ?_ ?_
  rotate_left
  ·intro w'
   go_simp
   with_reducible rfl
  rotate_left
  ·simp only [Act.put, sI, sZ, sS, i64_w, i32_w]
   rfl
  refine take_ (i := 3) (N := some 41) (v := ?_) (a' := ?_) #[true, true, true, true, true, true, true, false, false, false, false, false, false, false] rfl rfl (by kernel_rfl) (fun _ _ _ h => h) (Or.inl ⟨by rfl, ?_⟩) hHeld ?_ ?_
  rotate_left
  ·rintro w' ⟨s0, s1, s2, s3⟩
   go_simp
   with_reducible rfl
  rotate_left
  ·simp only [Act.put, sI, sZ, sS, i64_w, i32_w]
   rfl
  refine take_ (i := 7) (N := some 45) (v := ?_) (a' := ?_) #[true, true, true, true, true, true, true, true, false, false, false, false, false, false] rfl rfl (by kernel_rfl) (fun _ _ _ h => h) (Or.inl ⟨by rfl, ?_⟩) hHeld ?_ ?_
  rotate_left
  ·rintro w' ⟨s0, s1, s2, s3⟩
   go_simp
   with_reducible rfl
  rotate_left
  ·simp only [Act.put, sI, sZ, sS, i64_w, i32_w]
   rfl
  refine pure_ (i := 8) (N := some 46) (v := ?_) (a' := ?_) #[true, true, true, true, true, true, true, true, true, false, false, false, false, false] rfl rfl (by kernel_rfl) (fun _ _ _ h => h) (Or.inl ⟨by rfl, ?_⟩) ?_ ?_
  rotate_left
  ·intro w'
   go_simp
   with_reducible rfl
  rotate_left
  ·simp only [Act.put, sI, sZ, sS, i64_w, i32_w]
   rfl
  refine one_ (i := 9) (N := some 47) #[true, true, true, true, true, true, true, true, true, true, false, false, false, false] rfl rfl (by kernel_rfl) (by decide) (fun K hK => ?_)
  obtain ⟨s0, s1, s2, s3⟩ := hHeld
  refine goes_ Tryd.func60 (by kernel_rfl) rfl #[.int .i64 (wrap64 ((rd_T26 l (0 : Int)).f1 + (rd_T26 l (1 : Int)).f1))] (by rfl) rfl rfl (by simp only [List.map_toArray, List.map_cons, List.map_nil]; rfl) ?_
  with_reducible refine (value_number.calls (wrap64 ((rd_T26 l (0 : Int)).f1 + (rd_T26 l (1 : Int)).f1)) 1 (wrap64 ((rd_T26 l (0 : Int)).f1 + (rd_T26 l (1 : Int)).f1)) ⟨#[]⟩ true _ rfl).mono ?_
  rintro ee w3 ⟨rfl, hb⟩
  refine ⟨_, rfl, ?_⟩
  refine hK.out _ _ ⟨(xaj hb s0), (xaj hb s1), (xak s2 hb), (Lib.hid (xae s3.out hb))⟩ (fun hHeld => ?_)
  clear hK K
  refine norm_ (a' := ?_) ?_ ?_
  rotate_left
  ·show Act.put _ (some 47) _ = _
   simp only [Act.put, sI, sZ, sS, i64_w, i32_w]
   rfl
  refine pure_ (i := 10) (N := some 48) (v := ?_) (a' := ?_) #[true, true, true, true, true, true, true, true, true, true, true, false, false, false] rfl rfl (by kernel_rfl) (fun _ _ _ h => h) (Or.inl ⟨by rfl, ?_⟩) ?_ ?_
  rotate_left
  ·intro w'
   go_simp
   with_reducible rfl
  rotate_left
  ·simp only [Act.put, sI, sZ, sS, i64_w, i32_w]
   rfl
  refine pure_ (i := 11) (N := some 49) (v := ?_) (a' := ?_) #[true, true, true, true, true, true, true, true, true, true, true, true, false, false] rfl rfl (by kernel_rfl) (fun _ _ _ h => h) (Or.inl ⟨by rfl, ?_⟩) ?_ ?_
  rotate_left
  ·intro w'
   go_simp
   with_reducible rfl
  rotate_left
  ·simp only [Act.put, sI, sZ, sS, i64_w, i32_w]
   rfl
  refine last_ (i := 12) (N := none) #[true, true, true, true, true, true, true, true, true, true, true, true, true, false] rfl rfl (by kernel_rfl) (by decide) (fun K hK => ?_)
  obtain ⟨s0, s1, s2, s3⟩ := hHeld
  have z0 := (xag s2 0).trans rfl
  have z1 := (xag s2 1).trans rfl
  have z2 := (xag s2 2).trans rfl
  have y0 := xal s2 0
  have y1 := xal s2 1
  have y2 := xal s2 2
  refine skip_ (w1 := ?_) (by rfl) rfl ?_ ?_
  rotate_left
  ·go_simp
   rfl
  refine hK.out _ _ ?_
  clear hK K
  refine pure_ (i := 13) (N := some 5) (v := ?_) (a' := ?_) #[true, true, true, true, true, true, true, true, true, true, true, true, true, true] rfl rfl (by kernel_rfl) (fun _ _ _ h => h) (Or.inl ⟨by rfl, ?_⟩) ?_ ?_
  rotate_left
  ·intro w'
   go_simp
   with_reducible rfl
  rotate_left
  ·simp only [Act.put, sI, sZ, sS, i64_w, i32_w]
   rfl
  refine done_ (by kernel_rfl) ?_
  go_wp2_with fail
  refine bodyPost_ret (xar rfl _ _ w.heap.size 26 #[.int .i8 1, .int .i64 (wrap64 ((rd_T26 l (0 : Int)).f1 + (rd_T26 l (1 : Int)).f1)), .string ⟨#[]⟩] (0, 0) _ rfl (put3 s2) Tryd.underlying26 rfl (by kernel_rfl)) rfl ?_
  exact ⟨rfl, below3 s3.out (Nat.le_refl _) _ _ _⟩
set_option maxHeartbeats 2000000 in
set_option maxRecDepth 100000 in
theorem arith_3 (A : Option Addr) (c : Nat) (l : List S26) (r : Int × Int × ByteArray × Bool) (w : World) (hr : Kd.C k26 w A l.length l) (hc : l.length ≤ c) (hT : TabA w) (h : arithV 3 l = r) :
  Calls Tryd.prog 17 #[.int .i8 3, .slice A l.length c] w fun e w' => e = .returned (.tuple #[.agg #[.int .i8 r.1, .int .i64 r.2.1, .string r.2.2.1], .bool r.2.2.2]) ∧ Below w.heap.size w w' := by
 have hcell := xbh hT (.cells #[.int .i8 0, .int .i64 0, .string ⟨#[]⟩] 26) 3 (by decide)
 have HR := Lib.hid hr
 have HK := Lib.hid (xau w (.cells #[.int .i8 0, .int .i64 0, .string ⟨#[]⟩] 26 (0, 0)))
 have HW := Lib.hid (xab (Below.refl w.heap.size w) (.cells #[.int .i8 0, .int .i64 0, .string ⟨#[]⟩] 26))
 clear hr hT
 obtain ⟨k, hk⟩ := (fits_ev 2 (by decide) l).at
 go_enter Tryd.func17, Tryd.ntmps17
 go_wp2_with fail
 refine (value_fits.calls (k := k) (hr1 := Kd.C_below HR.out HW.out) (hc1 := hc) (h := hk)).mono ?_
 rintro e w1 ⟨rfl, hb⟩
 have HB := Lib.hid (xae HW.out hb)
 have HK1 := Lib.hid (xak HK.out hb)
 clear hb hcell HK HW hk
 cases hf : fitsV 2 l with
 | false =>
  have hr0 := (xbr (op := 3) (l := l) hf).symm.trans h
  subst hr0
  have z0 : w1.cell? ⟨w.heap.size, 0, none⟩ = some (.int .i8 0) := (xag HK1.out 0).trans rfl
  have z1 : w1.cell? ⟨w.heap.size, 1, none⟩ = some (.int .i64 0) := (xag HK1.out 1).trans rfl
  have z2 : w1.cell? ⟨w.heap.size, 2, none⟩ = some (.string ⟨#[]⟩) := (xag HK1.out 2).trans rfl
  have y0 := xal HK1.out 0
  have y1 := xal HK1.out 1
  have y2 := xal HK1.out 2
  go_wp2_with fail
  refine bodyPost_ret (xar rfl _ _ w.heap.size 26 #[.int .i8 0, .int .i64 0, .string ⟨#[]⟩] (0, 0) _ rfl (put3 HK1.out) Tryd.underlying26 rfl (by kernel_rfl)) rfl ?_
  exact ⟨rfl, below3 HB.out (Nat.le_refl _) _ _ _⟩
 | true =>
  have hlen := xbt hf
  have hlen' : l.length = 2 := hlen
  rw [arithV, if_neg (xbl (op := 3) (l := l) (by decide) (by decide) hf)] at h
  obtain ⟨ad, rfl, g0, g1, g2⟩ := at_T26 (Kd.C_below HR.out HB.out) (0 : Int) (by omega) (by omega)
  rw [show ad.add ((0 : Int).toNat * 3) = ad by cases ad; simp [Addr.add]] at g0 g1 g2
  obtain ⟨ad', he, j0, j1, j2⟩ := at_T26 (Kd.C_below HR.out HB.out) (1 : Int) (by omega) (by omega)
  obtain rfl := Option.some.inj he
  rw [show (1 : Int).toNat * 3 = 3 from rfl] at j0 j1 j2
  replace j1 : w1.cell? ⟨ad.block, ad.off + 3 + 1, none⟩ = some (.int .i64 (rd_T26 l (1 : Int)).f1) := by rw [← xbe ad 1]; exact j1
  replace j2 : w1.cell? ⟨ad.block, ad.off + 3 + 2, none⟩ = some (.string (rd_T26 l (1 : Int)).f2) := by rw [← xbe ad 2]; exact j2
  have h2 : ((1, wrap64 ((rd_T26 l (0 : Int)).f1 - (rd_T26 l (1 : Int)).f1), ⟨#[]⟩, true) : Int × Int × ByteArray × Bool) = r := h
  subst h2
  clear h
  go_wp2_with fail
  refine start_ (n := 14) (S := fun w' => w'.cell? ⟨ad.block, ad.off + 1, none⟩ = some (.int .i64 (rd_T26 l (0 : Int)).f1) ∧ w'.cell? ⟨ad.block, ad.off + 3 + 1, none⟩ = some (.int .i64 (rd_T26 l (1 : Int)).f1) ∧ w'.heap[w.heap.size]? = some (.cells #[.int .i8 0, .int .i64 0, .string ⟨#[]⟩] 26 (0, 0)) ∧ Hid (Below w.heap.size w w')) (ds := [12]) #[false, false, false, false, false, false, false, false, false, false, false, false, false, false] (by kernel_rfl) rfl rfl ⟨g1, j1, HK1.out, (Lib.hid (xaw HB.out))⟩ (fun hHeld => ?_)
  refine pure_ (i := 0) (N := some 52) (v := ?_) (a' := ?_) #[true, false, false, false, false, false, false, false, false, false, false, false, false, false] rfl rfl (by kernel_rfl) (fun _ _ _ h => h) (Or.inl ⟨by rfl, ?_⟩) ?_ ?_
  rotate_left
  ·intro w'
   go_simp
   with_reducible rfl
  rotate_left
  ·simp only [Act.put, sI, sZ, sS, i64_w, i32_w]
   rfl
  refine pure_ (i := 1) (N := some 53) (v := ?_) (a' := ?_) #[true, true, false, false, false, false, false, false, false, false, false, false, false, false] rfl rfl (by kernel_rfl) (fun _ _ _ h => h) (Or.inl ⟨by rfl, ?_⟩) ?_ ?_
  rotate_left
  ·intro w'
   go_simp
   with_reducible rfl
  rotate_left
  ·simp only [Act.put, sI, sZ, sS, i64_w, i32_w]
   rfl
  refine pure_ (i := 2) (N := some 54) (v := ?_) (a' := ?_) #[true, true, true, false, false, false, false, false, false, false, false, false, false, false] rfl rfl (by kernel_rfl) (fun _ _ _ h => h) (Or.inl ⟨by rfl, ?_⟩) ?_ ?_
  rotate_left
  ·intro w'
   go_simp
   with_reducible rfl
  rotate_left
  ·simp only [Act.put, sI, sZ, sS, i64_w, i32_w]
   rfl
  refine pure_ (i := 4) (N := some 56) (v := ?_) (a' := ?_) #[true, true, true, false, true, false, false, false, false, false, false, false, false, false] rfl rfl (by kernel_rfl) (fun _ _ _ h => h) (Or.inl ⟨by rfl, ?_⟩) ?_ ?_
  rotate_left
  ·intro w'
   go_simp
   with_reducible rfl
  rotate_left
  ·simp only [Act.put, sI, sZ, sS, i64_w, i32_w]
   rfl
  refine pure_ (i := 5) (N := some 57) (v := ?_) (a' := ?_) #[true, true, true, false, true, true, false, false, false, false, false, false, false, false] rfl rfl (by kernel_rfl) (fun _ _ _ h => h) (Or.inl ⟨by rfl, ?_⟩) ?_ ?_
  rotate_left
  ·intro w'
   go_simp
   with_reducible rfl
  rotate_left
  ·simp only [Act.put, sI, sZ, sS, i64_w, i32_w]
   rfl
  refine pure_ (i := 6) (N := some 58) (v := ?_) (a' := ?_) #[true, true, true, false, true, true, true, false, false, false, false, false, false, false] rfl rfl (by kernel_rfl) (fun _ _ _ h => h) (Or.inl ⟨by rfl, ?_⟩) ?_ ?_
  rotate_left
  ·intro w'
   go_simp
   with_reducible rfl
  rotate_left
  ·simp only [Act.put, sI, sZ, sS, i64_w, i32_w]
   rfl
  refine take_ (i := 3) (N := some 55) (v := ?_) (a' := ?_) #[true, true, true, true, true, true, true, false, false, false, false, false, false, false] rfl rfl (by kernel_rfl) (fun _ _ _ h => h) (Or.inl ⟨by rfl, ?_⟩) hHeld ?_ ?_
  rotate_left
  ·rintro w' ⟨s0, s1, s2, s3⟩
   go_simp
   with_reducible rfl
  rotate_left
  ·simp only [Act.put, sI, sZ, sS, i64_w, i32_w]
   rfl
  refine take_ (i := 7) (N := some 59) (v := ?_) (a' := ?_) #[true, true, true, true, true, true, true, true, false, false, false, false, false, false] rfl rfl (by kernel_rfl) (fun _ _ _ h => h) (Or.inl ⟨by rfl, ?_⟩) hHeld ?_ ?_
  rotate_left
  ·rintro w' ⟨s0, s1, s2, s3⟩
   go_simp
   with_reducible rfl
  rotate_left
  ·simp only [Act.put, sI, sZ, sS, i64_w, i32_w]
   rfl
  refine pure_ (i := 8) (N := some 60) (v := ?_) (a' := ?_) #[true, true, true, true, true, true, true, true, true, false, false, false, false, false] rfl rfl (by kernel_rfl) (fun _ _ _ h => h) (Or.inl ⟨by rfl, ?_⟩) ?_ ?_
  rotate_left
  ·intro w'
   go_simp
   with_reducible rfl
  rotate_left
  ·simp only [Act.put, sI, sZ, sS, i64_w, i32_w]
   rfl
  refine one_ (i := 9) (N := some 61) #[true, true, true, true, true, true, true, true, true, true, false, false, false, false] rfl rfl (by kernel_rfl) (by decide) (fun K hK => ?_)
  obtain ⟨s0, s1, s2, s3⟩ := hHeld
  refine goes_ Tryd.func60 (by kernel_rfl) rfl #[.int .i64 (wrap64 ((rd_T26 l (0 : Int)).f1 - (rd_T26 l (1 : Int)).f1))] (by rfl) rfl rfl (by simp only [List.map_toArray, List.map_cons, List.map_nil]; rfl) ?_
  with_reducible refine (value_number.calls (wrap64 ((rd_T26 l (0 : Int)).f1 - (rd_T26 l (1 : Int)).f1)) 1 (wrap64 ((rd_T26 l (0 : Int)).f1 - (rd_T26 l (1 : Int)).f1)) ⟨#[]⟩ true _ rfl).mono ?_
  rintro ee w3 ⟨rfl, hb⟩
  refine ⟨_, rfl, ?_⟩
  refine hK.out _ _ ⟨(xaj hb s0), (xaj hb s1), (xak s2 hb), (Lib.hid (xae s3.out hb))⟩ (fun hHeld => ?_)
  clear hK K
  refine norm_ (a' := ?_) ?_ ?_
  rotate_left
  ·show Act.put _ (some 61) _ = _
   simp only [Act.put, sI, sZ, sS, i64_w, i32_w]
   rfl
  refine pure_ (i := 10) (N := some 62) (v := ?_) (a' := ?_) #[true, true, true, true, true, true, true, true, true, true, true, false, false, false] rfl rfl (by kernel_rfl) (fun _ _ _ h => h) (Or.inl ⟨by rfl, ?_⟩) ?_ ?_
  rotate_left
  ·intro w'
   go_simp
   with_reducible rfl
  rotate_left
  ·simp only [Act.put, sI, sZ, sS, i64_w, i32_w]
   rfl
  refine pure_ (i := 11) (N := some 63) (v := ?_) (a' := ?_) #[true, true, true, true, true, true, true, true, true, true, true, true, false, false] rfl rfl (by kernel_rfl) (fun _ _ _ h => h) (Or.inl ⟨by rfl, ?_⟩) ?_ ?_
  rotate_left
  ·intro w'
   go_simp
   with_reducible rfl
  rotate_left
  ·simp only [Act.put, sI, sZ, sS, i64_w, i32_w]
   rfl
  refine last_ (i := 12) (N := none) #[true, true, true, true, true, true, true, true, true, true, true, true, true, false] rfl rfl (by kernel_rfl) (by decide) (fun K hK => ?_)
  obtain ⟨s0, s1, s2, s3⟩ := hHeld
  have z0 := (xag s2 0).trans rfl
  have z1 := (xag s2 1).trans rfl
  have z2 := (xag s2 2).trans rfl
  have y0 := xal s2 0
  have y1 := xal s2 1
  have y2 := xal s2 2
  refine skip_ (w1 := ?_) (by rfl) rfl ?_ ?_
  rotate_left
  ·go_simp
   rfl
  refine hK.out _ _ ?_
  clear hK K
  refine pure_ (i := 13) (N := some 5) (v := ?_) (a' := ?_) #[true, true, true, true, true, true, true, true, true, true, true, true, true, true] rfl rfl (by kernel_rfl) (fun _ _ _ h => h) (Or.inl ⟨by rfl, ?_⟩) ?_ ?_
  rotate_left
  ·intro w'
   go_simp
   with_reducible rfl
  rotate_left
  ·simp only [Act.put, sI, sZ, sS, i64_w, i32_w]
   rfl
  refine done_ (by kernel_rfl) ?_
  go_wp2_with fail
  refine bodyPost_ret (xar rfl _ _ w.heap.size 26 #[.int .i8 1, .int .i64 (wrap64 ((rd_T26 l (0 : Int)).f1 - (rd_T26 l (1 : Int)).f1)), .string ⟨#[]⟩] (0, 0) _ rfl (put3 s2) Tryd.underlying26 rfl (by kernel_rfl)) rfl ?_
  exact ⟨rfl, below3 s3.out (Nat.le_refl _) _ _ _⟩
set_option maxHeartbeats 2000000 in
set_option maxRecDepth 100000 in
theorem arith_4 (A : Option Addr) (c : Nat) (l : List S26) (r : Int × Int × ByteArray × Bool) (w : World) (hr : Kd.C k26 w A l.length l) (hc : l.length ≤ c) (hT : TabA w) (h : arithV 4 l = r) :
  Calls Tryd.prog 17 #[.int .i8 4, .slice A l.length c] w fun e w' => e = .returned (.tuple #[.agg #[.int .i8 r.1, .int .i64 r.2.1, .string r.2.2.1], .bool r.2.2.2]) ∧ Below w.heap.size w w' := by
 have hcell := xbh hT (.cells #[.int .i8 0, .int .i64 0, .string ⟨#[]⟩] 26) 4 (by decide)
 have HR := Lib.hid hr
 have HK := Lib.hid (xau w (.cells #[.int .i8 0, .int .i64 0, .string ⟨#[]⟩] 26 (0, 0)))
 have HW := Lib.hid (xab (Below.refl w.heap.size w) (.cells #[.int .i8 0, .int .i64 0, .string ⟨#[]⟩] 26))
 clear hr hT
 obtain ⟨k, hk⟩ := (fits_ev 2 (by decide) l).at
 go_enter Tryd.func17, Tryd.ntmps17
 go_wp2_with fail
 refine (value_fits.calls (k := k) (hr1 := Kd.C_below HR.out HW.out) (hc1 := hc) (h := hk)).mono ?_
 rintro e w1 ⟨rfl, hb⟩
 have HB := Lib.hid (xae HW.out hb)
 have HK1 := Lib.hid (xak HK.out hb)
 clear hb hcell HK HW hk
 cases hf : fitsV 2 l with
 | false =>
  have hr0 := (xbr (op := 4) (l := l) hf).symm.trans h
  subst hr0
  have z0 : w1.cell? ⟨w.heap.size, 0, none⟩ = some (.int .i8 0) := (xag HK1.out 0).trans rfl
  have z1 : w1.cell? ⟨w.heap.size, 1, none⟩ = some (.int .i64 0) := (xag HK1.out 1).trans rfl
  have z2 : w1.cell? ⟨w.heap.size, 2, none⟩ = some (.string ⟨#[]⟩) := (xag HK1.out 2).trans rfl
  have y0 := xal HK1.out 0
  have y1 := xal HK1.out 1
  have y2 := xal HK1.out 2
  go_wp2_with fail
  refine bodyPost_ret (xar rfl _ _ w.heap.size 26 #[.int .i8 0, .int .i64 0, .string ⟨#[]⟩] (0, 0) _ rfl (put3 HK1.out) Tryd.underlying26 rfl (by kernel_rfl)) rfl ?_
  exact ⟨rfl, below3 HB.out (Nat.le_refl _) _ _ _⟩
 | true =>
  have hlen := xbt hf
  have hlen' : l.length = 2 := hlen
  rw [arithV, if_neg (xbl (op := 4) (l := l) (by decide) (by decide) hf)] at h
  obtain ⟨ad, rfl, g0, g1, g2⟩ := at_T26 (Kd.C_below HR.out HB.out) (0 : Int) (by omega) (by omega)
  rw [show ad.add ((0 : Int).toNat * 3) = ad by cases ad; simp [Addr.add]] at g0 g1 g2
  obtain ⟨ad', he, j0, j1, j2⟩ := at_T26 (Kd.C_below HR.out HB.out) (1 : Int) (by omega) (by omega)
  obtain rfl := Option.some.inj he
  rw [show (1 : Int).toNat * 3 = 3 from rfl] at j0 j1 j2
  replace j1 : w1.cell? ⟨ad.block, ad.off + 3 + 1, none⟩ = some (.int .i64 (rd_T26 l (1 : Int)).f1) := by rw [← xbe ad 1]; exact j1
  replace j2 : w1.cell? ⟨ad.block, ad.off + 3 + 2, none⟩ = some (.string (rd_T26 l (1 : Int)).f2) := by rw [← xbe ad 2]; exact j2
  have h2 : ((1, wrap64 ((rd_T26 l (0 : Int)).f1 * (rd_T26 l (1 : Int)).f1), ⟨#[]⟩, true) : Int × Int × ByteArray × Bool) = r := h
  subst h2
  clear h
  go_wp2_with fail
  refine start_ (n := 14) (S := fun w' => w'.cell? ⟨ad.block, ad.off + 1, none⟩ = some (.int .i64 (rd_T26 l (0 : Int)).f1) ∧ w'.cell? ⟨ad.block, ad.off + 3 + 1, none⟩ = some (.int .i64 (rd_T26 l (1 : Int)).f1) ∧ w'.heap[w.heap.size]? = some (.cells #[.int .i8 0, .int .i64 0, .string ⟨#[]⟩] 26 (0, 0)) ∧ Hid (Below w.heap.size w w')) (ds := [12]) #[false, false, false, false, false, false, false, false, false, false, false, false, false, false] (by kernel_rfl) rfl rfl ⟨g1, j1, HK1.out, (Lib.hid (xaw HB.out))⟩ (fun hHeld => ?_)
  refine pure_ (i := 0) (N := some 66) (v := ?_) (a' := ?_) #[true, false, false, false, false, false, false, false, false, false, false, false, false, false] rfl rfl (by kernel_rfl) (fun _ _ _ h => h) (Or.inl ⟨by rfl, ?_⟩) ?_ ?_
  rotate_left
  ·intro w'
   go_simp
   with_reducible rfl
  rotate_left
  ·simp only [Act.put, sI, sZ, sS, i64_w, i32_w]
   rfl
  refine pure_ (i := 1) (N := some 67) (v := ?_) (a' := ?_) #[true, true, false, false, false, false, false, false, false, false, false, false, false, false] rfl rfl (by kernel_rfl) (fun _ _ _ h => h) (Or.inl ⟨by rfl, ?_⟩) ?_ ?_
  rotate_left
  ·intro w'
   go_simp
   with_reducible rfl
  rotate_left
  ·simp only [Act.put, sI, sZ, sS, i64_w, i32_w]
   rfl
  refine pure_ (i := 2) (N := some 68) (v := ?_) (a' := ?_) #[true, true, true, false, false, false, false, false, false, false, false, false, false, false] rfl rfl (by kernel_rfl) (fun _ _ _ h => h) (Or.inl ⟨by rfl, ?_⟩) ?_ ?_
  rotate_left
  ·intro w'
   go_simp
   with_reducible rfl
  rotate_left
  ·simp only [Act.put, sI, sZ, sS, i64_w, i32_w]
   rfl
  refine pure_ (i := 4) (N := some 70) (v := ?_) (a' := ?_) #[true, true, true, false, true, false, false, false, false, false, false, false, false, false] rfl rfl (by kernel_rfl) (fun _ _ _ h => h) (Or.inl ⟨by rfl, ?_⟩) ?_ ?_
  rotate_left
  ·intro w'
   go_simp
   with_reducible rfl
  rotate_left
  ·simp only [Act.put, sI, sZ, sS, i64_w, i32_w]
   rfl
  refine pure_ (i := 5) (N := some 71) (v := ?_) (a' := ?_) #[true, true, true, false, true, true, false, false, false, false, false, false, false, false] rfl rfl (by kernel_rfl) (fun _ _ _ h => h) (Or.inl ⟨by rfl, ?_⟩) ?_ ?_
  rotate_left
  ·intro w'
   go_simp
   with_reducible rfl
  rotate_left
  ·simp only [Act.put, sI, sZ, sS, i64_w, i32_w]
   rfl
  refine pure_ (i := 6) (N := some 72) (v := ?_) (a' := ?_) #[true, true, true, false, true, true, true, false, false, false, false, false, false, false] rfl rfl (by kernel_rfl) (fun _ _ _ h => h) (Or.inl ⟨by rfl, ?_⟩) ?_ ?_
  rotate_left
  ·intro w'
   go_simp
   with_reducible rfl
  rotate_left
  ·simp only [Act.put, sI, sZ, sS, i64_w, i32_w]
   rfl
  refine take_ (i := 3) (N := some 69) (v := ?_) (a' := ?_) #[true, true, true, true, true, true, true, false, false, false, false, false, false, false] rfl rfl (by kernel_rfl) (fun _ _ _ h => h) (Or.inl ⟨by rfl, ?_⟩) hHeld ?_ ?_
  rotate_left
  ·rintro w' ⟨s0, s1, s2, s3⟩
   go_simp
   with_reducible rfl
  rotate_left
  ·simp only [Act.put, sI, sZ, sS, i64_w, i32_w]
   rfl
  refine take_ (i := 7) (N := some 73) (v := ?_) (a' := ?_) #[true, true, true, true, true, true, true, true, false, false, false, false, false, false] rfl rfl (by kernel_rfl) (fun _ _ _ h => h) (Or.inl ⟨by rfl, ?_⟩) hHeld ?_ ?_
  rotate_left
  ·rintro w' ⟨s0, s1, s2, s3⟩
   go_simp
   with_reducible rfl
  rotate_left
  ·simp only [Act.put, sI, sZ, sS, i64_w, i32_w]
   rfl
  refine pure_ (i := 8) (N := some 74) (v := ?_) (a' := ?_) #[true, true, true, true, true, true, true, true, true, false, false, false, false, false] rfl rfl (by kernel_rfl) (fun _ _ _ h => h) (Or.inl ⟨by rfl, ?_⟩) ?_ ?_
  rotate_left
  ·intro w'
   go_simp
   with_reducible rfl
  rotate_left
  ·simp only [Act.put, sI, sZ, sS, i64_w, i32_w]
   rfl
  refine one_ (i := 9) (N := some 75) #[true, true, true, true, true, true, true, true, true, true, false, false, false, false] rfl rfl (by kernel_rfl) (by decide) (fun K hK => ?_)
  obtain ⟨s0, s1, s2, s3⟩ := hHeld
  refine goes_ Tryd.func60 (by kernel_rfl) rfl #[.int .i64 (wrap64 ((rd_T26 l (0 : Int)).f1 * (rd_T26 l (1 : Int)).f1))] (by rfl) rfl rfl (by simp only [List.map_toArray, List.map_cons, List.map_nil]; rfl) ?_
  with_reducible refine (value_number.calls (wrap64 ((rd_T26 l (0 : Int)).f1 * (rd_T26 l (1 : Int)).f1)) 1 (wrap64 ((rd_T26 l (0 : Int)).f1 * (rd_T26 l (1 : Int)).f1)) ⟨#[]⟩ true _ rfl).mono ?_
  rintro ee w3 ⟨rfl, hb⟩
  refine ⟨_, rfl, ?_⟩
  refine hK.out _ _ ⟨(xaj hb s0), (xaj hb s1), (xak s2 hb), (Lib.hid (xae s3.out hb))⟩ (fun hHeld => ?_)
  clear hK K
  refine norm_ (a' := ?_) ?_ ?_
  rotate_left
  ·show Act.put _ (some 75) _ = _
   simp only [Act.put, sI, sZ, sS, i64_w, i32_w]
   rfl
  refine pure_ (i := 10) (N := some 76) (v := ?_) (a' := ?_) #[true, true, true, true, true, true, true, true, true, true, true, false, false, false] rfl rfl (by kernel_rfl) (fun _ _ _ h => h) (Or.inl ⟨by rfl, ?_⟩) ?_ ?_
  rotate_left
  ·intro w'
   go_simp
   with_reducible rfl
  rotate_left
  ·simp only [Act.put, sI, sZ, sS, i64_w, i32_w]
   rfl
  refine pure_ (i := 11) (N := some 77) (v := ?_) (a' := ?_) #[true, true, true, true, true, true, true, true, true, true, true, true, false, false] rfl rfl (by kernel_rfl) (fun _ _ _ h => h) (Or.inl ⟨by rfl, ?_⟩) ?_ ?_
  rotate_left
  ·intro w'
   go_simp
   with_reducible rfl
  rotate_left
  ·simp only [Act.put, sI, sZ, sS, i64_w, i32_w]
   rfl
  refine last_ (i := 12) (N := none) #[true, true, true, true, true, true, true, true, true, true, true, true, true, false] rfl rfl (by kernel_rfl) (by decide) (fun K hK => ?_)
  obtain ⟨s0, s1, s2, s3⟩ := hHeld
  have z0 := (xag s2 0).trans rfl
  have z1 := (xag s2 1).trans rfl
  have z2 := (xag s2 2).trans rfl
  have y0 := xal s2 0
  have y1 := xal s2 1
  have y2 := xal s2 2
  refine skip_ (w1 := ?_) (by rfl) rfl ?_ ?_
  rotate_left
  ·go_simp
   rfl
  refine hK.out _ _ ?_
  clear hK K
  refine pure_ (i := 13) (N := some 5) (v := ?_) (a' := ?_) #[true, true, true, true, true, true, true, true, true, true, true, true, true, true] rfl rfl (by kernel_rfl) (fun _ _ _ h => h) (Or.inl ⟨by rfl, ?_⟩) ?_ ?_
  rotate_left
  ·intro w'
   go_simp
   with_reducible rfl
  rotate_left
  ·simp only [Act.put, sI, sZ, sS, i64_w, i32_w]
   rfl
  refine done_ (by kernel_rfl) ?_
  go_wp2_with fail
  refine bodyPost_ret (xar rfl _ _ w.heap.size 26 #[.int .i8 1, .int .i64 (wrap64 ((rd_T26 l (0 : Int)).f1 * (rd_T26 l (1 : Int)).f1)), .string ⟨#[]⟩] (0, 0) _ rfl (put3 s2) Tryd.underlying26 rfl (by kernel_rfl)) rfl ?_
  exact ⟨rfl, below3 s3.out (Nat.le_refl _) _ _ _⟩
set_option maxHeartbeats 2000000 in
set_option maxRecDepth 100000 in
theorem arith_5 (A : Option Addr) (c : Nat) (l : List S26) (r : Int × Int × ByteArray × Bool) (w : World) (hr : Kd.C k26 w A l.length l) (hc : l.length ≤ c) (hT : TabA w) (h : arithV 5 l = r) :
  Calls Tryd.prog 17 #[.int .i8 5, .slice A l.length c] w fun e w' => e = .returned (.tuple #[.agg #[.int .i8 r.1, .int .i64 r.2.1, .string r.2.2.1], .bool r.2.2.2]) ∧ Below w.heap.size w w' := by
 have hcell := xbh hT (.cells #[.int .i8 0, .int .i64 0, .string ⟨#[]⟩] 26) 5 (by decide)
 have HR := Lib.hid hr
 have HK := Lib.hid (xau w (.cells #[.int .i8 0, .int .i64 0, .string ⟨#[]⟩] 26 (0, 0)))
 have HW := Lib.hid (xab (Below.refl w.heap.size w) (.cells #[.int .i8 0, .int .i64 0, .string ⟨#[]⟩] 26))
 clear hr hT
 obtain ⟨k, hk⟩ := (fits_ev 2 (by decide) l).at
 go_enter Tryd.func17, Tryd.ntmps17
 go_wp2_with fail
 refine (value_fits.calls (k := k) (hr1 := Kd.C_below HR.out HW.out) (hc1 := hc) (h := hk)).mono ?_
 rintro e w1 ⟨rfl, hb⟩
 have HB := Lib.hid (xae HW.out hb)
 have HK1 := Lib.hid (xak HK.out hb)
 clear hb hcell HK HW hk
 cases hf : fitsV 2 l with
 | false =>
  have hr0 := (xbr (op := 5) (l := l) hf).symm.trans h
  subst hr0
  have z0 : w1.cell? ⟨w.heap.size, 0, none⟩ = some (.int .i8 0) := (xag HK1.out 0).trans rfl
  have z1 : w1.cell? ⟨w.heap.size, 1, none⟩ = some (.int .i64 0) := (xag HK1.out 1).trans rfl
  have z2 : w1.cell? ⟨w.heap.size, 2, none⟩ = some (.string ⟨#[]⟩) := (xag HK1.out 2).trans rfl
  have y0 := xal HK1.out 0
  have y1 := xal HK1.out 1
  have y2 := xal HK1.out 2
  go_wp2_with fail
  refine bodyPost_ret (xar rfl _ _ w.heap.size 26 #[.int .i8 0, .int .i64 0, .string ⟨#[]⟩] (0, 0) _ rfl (put3 HK1.out) Tryd.underlying26 rfl (by kernel_rfl)) rfl ?_
  exact ⟨rfl, below3 HB.out (Nat.le_refl _) _ _ _⟩
 | true =>
  have hlen := xbt hf
  have hlen' : l.length = 2 := hlen
  rw [arithV, if_neg (xbl (op := 5) (l := l) (by decide) (by decide) hf)] at h
  obtain ⟨ad, rfl, g0, g1, g2⟩ := at_T26 (Kd.C_below HR.out HB.out) (0 : Int) (by omega) (by omega)
  rw [show ad.add ((0 : Int).toNat * 3) = ad by cases ad; simp [Addr.add]] at g0 g1 g2
  obtain ⟨ad', he, j0, j1, j2⟩ := at_T26 (Kd.C_below HR.out HB.out) (1 : Int) (by omega) (by omega)
  obtain rfl := Option.some.inj he
  rw [show (1 : Int).toNat * 3 = 3 from rfl] at j0 j1 j2
  replace j1 : w1.cell? ⟨ad.block, ad.off + 3 + 1, none⟩ = some (.int .i64 (rd_T26 l (1 : Int)).f1) := by rw [← xbe ad 1]; exact j1
  replace j2 : w1.cell? ⟨ad.block, ad.off + 3 + 2, none⟩ = some (.string (rd_T26 l (1 : Int)).f2) := by rw [← xbe ad 2]; exact j2
  have h2 : (if (rd_T26 l (1 : Int)).f1 = 0 then ((0, 0, ⟨#[]⟩, false) : Int × Int × ByteArray × Bool) else (1, wrap64 ((rd_T26 l (0 : Int)).f1.tdiv (rd_T26 l (1 : Int)).f1), ⟨#[]⟩, true)) = r := h
  clear h
  go_wp2_with fail
  by_cases hz : (rd_T26 l (1 : Int)).f1 = 0
  ·rw [if_pos hz] at h2
   subst h2
   rw [hz] at j1
   refine start_ (n := 15) (S := fun w' => w'.cell? ⟨ad.block, ad.off + 1, none⟩ = some (.int .i64 (rd_T26 l (0 : Int)).f1) ∧ w'.cell? ⟨ad.block, ad.off + 3 + 1, none⟩ = some (.int .i64 0) ∧ w'.heap[w.heap.size]? = some (.cells #[.int .i8 0, .int .i64 0, .string ⟨#[]⟩] 26 (0, 0)) ∧ Hid (Below w.heap.size w w')) (ds := []) #[false, false, false, false, false, false, false, false, false, false, false, false, false, false, false] (by kernel_rfl) rfl rfl ⟨g1, j1, HK1.out, (Lib.hid (xaw HB.out))⟩ (fun hHeld => ?_)
   refine pure_ (i := 0) (N := some 82) (v := ?_) (a' := ?_) #[true, false, false, false, false, false, false, false, false, false, false, false, false, false, false] rfl rfl (by kernel_rfl) (fun _ _ _ h => h) (Or.inl ⟨by rfl, ?_⟩) ?_ ?_
   rotate_left
   ·intro w'
    go_simp
    with_reducible rfl
   rotate_left
   ·simp only [Act.put, sI, sZ, sS, i64_w, i32_w]
    rfl
   refine pure_ (i := 1) (N := some 83) (v := ?_) (a' := ?_) #[true, true, false, false, false, false, false, false, false, false, false, false, false, false, false] rfl rfl (by kernel_rfl) (fun _ _ _ h => h) (Or.inl ⟨by rfl, ?_⟩) ?_ ?_
   rotate_left
   ·intro w'
    go_simp
    with_reducible rfl
   rotate_left
   ·simp only [Act.put, sI, sZ, sS, i64_w, i32_w]
    rfl
   refine pure_ (i := 2) (N := some 84) (v := ?_) (a' := ?_) #[true, true, true, false, false, false, false, false, false, false, false, false, false, false, false] rfl rfl (by kernel_rfl) (fun _ _ _ h => h) (Or.inl ⟨by rfl, ?_⟩) ?_ ?_
   rotate_left
   ·intro w'
    go_simp
    with_reducible rfl
   rotate_left
   ·simp only [Act.put, sI, sZ, sS, i64_w, i32_w]
    rfl
   refine pure_ (i := 3) (N := some 85) (v := ?_) (a' := ?_) #[true, true, true, true, false, false, false, false, false, false, false, false, false, false, false] rfl rfl (by kernel_rfl) (fun _ _ _ h => h) (Or.inl ⟨by rfl, ?_⟩) ?_ ?_
   rotate_left
   ·intro w'
    go_simp
    with_reducible rfl
   rotate_left
   ·simp only [Act.put, sI, sZ, sS, i64_w, i32_w]
    rfl
   refine pure_ (i := 5) (N := some 87) (v := ?_) (a' := ?_) #[true, true, true, true, false, true, false, false, false, false, false, false, false, false, false] rfl rfl (by kernel_rfl) (fun _ _ _ h => h) (Or.inl ⟨by rfl, ?_⟩) ?_ ?_
   rotate_left
   ·intro w'
    go_simp
    with_reducible rfl
   rotate_left
   ·simp only [Act.put, sI, sZ, sS, i64_w, i32_w]
    rfl
   refine pure_ (i := 6) (N := some 88) (v := ?_) (a' := ?_) #[true, true, true, true, false, true, true, false, false, false, false, false, false, false, false] rfl rfl (by kernel_rfl) (fun _ _ _ h => h) (Or.inl ⟨by rfl, ?_⟩) ?_ ?_
   rotate_left
   ·intro w'
    go_simp
    with_reducible rfl
   rotate_left
   ·simp only [Act.put, sI, sZ, sS, i64_w, i32_w]
    rfl
   refine pure_ (i := 7) (N := some 89) (v := ?_) (a' := ?_) #[true, true, true, true, false, true, true, true, false, false, false, false, false, false, false] rfl rfl (by kernel_rfl) (fun _ _ _ h => h) (Or.inl ⟨by rfl, ?_⟩) ?_ ?_
   rotate_left
   ·intro w'
    go_simp
    with_reducible rfl
   rotate_left
   ·simp only [Act.put, sI, sZ, sS, i64_w, i32_w]
    rfl
   refine take_ (i := 4) (N := some 86) (v := ?_) (a' := ?_) #[true, true, true, true, true, true, true, true, false, false, false, false, false, false, false] rfl rfl (by kernel_rfl) (fun _ _ _ h => h) (Or.inl ⟨by rfl, ?_⟩) hHeld ?_ ?_
   rotate_left
   ·rintro w' ⟨s0, s1, s2, s3⟩
    go_simp
    with_reducible rfl
   rotate_left
   ·simp only [Act.put, sI, sZ, sS, i64_w, i32_w]
    rfl
   refine take_ (i := 8) (N := some 90) (v := ?_) (a' := ?_) #[true, true, true, true, true, true, true, true, true, false, false, false, false, false, false] rfl rfl (by kernel_rfl) (fun _ _ _ h => h) (Or.inl ⟨by rfl, ?_⟩) hHeld ?_ ?_
   rotate_left
   ·rintro w' ⟨s0, s1, s2, s3⟩
    go_simp
    with_reducible rfl
   rotate_left
   ·simp only [Act.put, sI, sZ, sS, i64_w, i32_w]
    rfl
   refine one_ (i := 9) (N := some 91) #[true, true, true, true, true, true, true, true, true, true, false, false, false, false, false] rfl rfl (by kernel_rfl) (by decide) (fun K hK => ?_)
   obtain ⟨s0, s1, s2, s3⟩ := hHeld
   refine goes_ Tryd.func61 (by kernel_rfl) rfl #[.int .i8 5, .int .i64 (rd_T26 l (0 : Int)).f1, .int .i64 0] (by rfl) rfl rfl (by simp only [List.map_toArray, List.map_cons, List.map_nil]; rfl) ?_
   with_reducible refine (value_divide.calls 5 (rd_T26 l (0 : Int)).f1 0 (0) false _ (by rw [value_divide.f, if_pos rfl])).mono ?_
   rintro ee w3 ⟨rfl, hb⟩
   refine ⟨_, rfl, ?_⟩
   refine hK.out _ _ ⟨(xaj hb s0), (xaj hb s1), (xak s2 hb), (Lib.hid (xae s3.out hb))⟩ (fun hHeld => ?_)
   clear hK K
   refine norm_ (a' := ?_) ?_ ?_
   rotate_left
   ·show Act.put _ (some 91) _ = _
    simp only [Act.put, sI, sZ, sS, i64_w, i32_w]
    rfl
   refine pure_ (i := 10) (N := some 81) (v := ?_) (a' := ?_) #[true, true, true, true, true, true, true, true, true, true, true, false, false, false, false] rfl rfl (by kernel_rfl) (fun _ _ _ h => h) (Or.inl ⟨by rfl, ?_⟩) ?_ ?_
   rotate_left
   ·intro w'
    go_simp
    with_reducible rfl
   rotate_left
   ·simp only [Act.put, sI, sZ, sS, i64_w, i32_w]
    rfl
   refine pure_ (i := 11) (N := some 92) (v := ?_) (a' := ?_) #[true, true, true, true, true, true, true, true, true, true, true, true, false, false, false] rfl rfl (by kernel_rfl) (fun _ _ _ h => h) (Or.inl ⟨by rfl, ?_⟩) ?_ ?_
   rotate_left
   ·intro w'
    go_simp
    with_reducible rfl
   rotate_left
   ·simp only [Act.put, sI, sZ, sS, i64_w, i32_w]
    rfl
   refine pure_ (i := 12) (N := some 93) (v := ?_) (a' := ?_) #[true, true, true, true, true, true, true, true, true, true, true, true, true, false, false] rfl rfl (by kernel_rfl) (fun _ _ _ h => h) (Or.inl ⟨by rfl, ?_⟩) ?_ ?_
   rotate_left
   ·intro w'
    go_simp
    with_reducible rfl
   rotate_left
   ·simp only [Act.put, sI, sZ, sS, i64_w, i32_w]
    rfl
   refine pure_ (i := 13) (N := some 6) (v := ?_) (a' := ?_) #[true, true, true, true, true, true, true, true, true, true, true, true, true, true, false] rfl rfl (by kernel_rfl) (fun _ _ _ h => h) (Or.inl ⟨by rfl, ?_⟩) ?_ ?_
   rotate_left
   ·intro w'
    go_simp
    with_reducible rfl
   rotate_left
   ·simp only [Act.put, sI, sZ, sS, i64_w, i32_w]
    rfl
   refine pure_ (i := 14) (N := some 7) (v := ?_) (a' := ?_) #[true, true, true, true, true, true, true, true, true, true, true, true, true, true, true] rfl rfl (by kernel_rfl) (fun _ _ _ h => h) (Or.inl ⟨by rfl, ?_⟩) ?_ ?_
   rotate_left
   ·intro w'
    go_simp
    with_reducible rfl
   rotate_left
   ·simp only [Act.put, sI, sZ, sS, i64_w, i32_w]
    rfl
   refine done_ (by kernel_rfl) ?_
   obtain ⟨_, _, s2, s3⟩ := hHeld
   have HK3 := Lib.hid s2
   clear s2
   have z0 : w3.cell? ⟨w.heap.size, 0, none⟩ = some (.int .i8 0) := (xag HK3.out 0).trans rfl
   have y0 := xal HK3.out 0
   have z1 : w3.cell? ⟨w.heap.size, 1, none⟩ = some (.int .i64 0) := (xag HK3.out 1).trans rfl
   have y1 := xal HK3.out 1
   have z2 : w3.cell? ⟨w.heap.size, 2, none⟩ = some (.string ⟨#[]⟩) := (xag HK3.out 2).trans rfl
   have y2 := xal HK3.out 2
   go_wp2_with fail
   refine bodyPost_ret (xar rfl _ _ w.heap.size 26 #[.int .i8 0, .int .i64 0, .string ⟨#[]⟩] (0, 0) _ rfl (put3 HK3.out) Tryd.underlying26 rfl (by kernel_rfl)) rfl ?_
   exact ⟨rfl, below3 s3.out (Nat.le_refl _) _ _ _⟩
  ·rw [if_neg hz] at h2
   subst h2
   refine start_ (n := 15) (S := fun w' => w'.cell? ⟨ad.block, ad.off + 1, none⟩ = some (.int .i64 (rd_T26 l (0 : Int)).f1) ∧ w'.cell? ⟨ad.block, ad.off + 3 + 1, none⟩ = some (.int .i64 (rd_T26 l (1 : Int)).f1) ∧ w'.heap[w.heap.size]? = some (.cells #[.int .i8 0, .int .i64 0, .string ⟨#[]⟩] 26 (0, 0)) ∧ Hid (Below w.heap.size w w')) (ds := []) #[false, false, false, false, false, false, false, false, false, false, false, false, false, false, false] (by kernel_rfl) rfl rfl ⟨g1, j1, HK1.out, (Lib.hid (xaw HB.out))⟩ (fun hHeld => ?_)
   refine pure_ (i := 0) (N := some 82) (v := ?_) (a' := ?_) #[true, false, false, false, false, false, false, false, false, false, false, false, false, false, false] rfl rfl (by kernel_rfl) (fun _ _ _ h => h) (Or.inl ⟨by rfl, ?_⟩) ?_ ?_
   rotate_left
   ·intro w'
    go_simp
    with_reducible rfl
   rotate_left
   ·simp only [Act.put, sI, sZ, sS, i64_w, i32_w]
    rfl
   refine pure_ (i := 1) (N := some 83) (v := ?_) (a' := ?_) #[true, true, false, false, false, false, false, false, false, false, false, false, false, false, false] rfl rfl (by kernel_rfl) (fun _ _ _ h => h) (Or.inl ⟨by rfl, ?_⟩) ?_ ?_
   rotate_left
   ·intro w'
    go_simp
    with_reducible rfl
   rotate_left
   ·simp only [Act.put, sI, sZ, sS, i64_w, i32_w]
    rfl
   refine pure_ (i := 2) (N := some 84) (v := ?_) (a' := ?_) #[true, true, true, false, false, false, false, false, false, false, false, false, false, false, false] rfl rfl (by kernel_rfl) (fun _ _ _ h => h) (Or.inl ⟨by rfl, ?_⟩) ?_ ?_
   rotate_left
   ·intro w'
    go_simp
    with_reducible rfl
   rotate_left
   ·simp only [Act.put, sI, sZ, sS, i64_w, i32_w]
    rfl
   refine pure_ (i := 3) (N := some 85) (v := ?_) (a' := ?_) #[true, true, true, true, false, false, false, false, false, false, false, false, false, false, false] rfl rfl (by kernel_rfl) (fun _ _ _ h => h) (Or.inl ⟨by rfl, ?_⟩) ?_ ?_
   rotate_left
   ·intro w'
    go_simp
    with_reducible rfl
   rotate_left
   ·simp only [Act.put, sI, sZ, sS, i64_w, i32_w]
    rfl
   refine pure_ (i := 5) (N := some 87) (v := ?_) (a' := ?_) #[true, true, true, true, false, true, false, false, false, false, false, false, false, false, false] rfl rfl (by kernel_rfl) (fun _ _ _ h => h) (Or.inl ⟨by rfl, ?_⟩) ?_ ?_
   rotate_left
   ·intro w'
    go_simp
    with_reducible rfl
   rotate_left
   ·simp only [Act.put, sI, sZ, sS, i64_w, i32_w]
    rfl
   refine pure_ (i := 6) (N := some 88) (v := ?_) (a' := ?_) #[true, true, true, true, false, true, true, false, false, false, false, false, false, false, false] rfl rfl (by kernel_rfl) (fun _ _ _ h => h) (Or.inl ⟨by rfl, ?_⟩) ?_ ?_
   rotate_left
   ·intro w'
    go_simp
    with_reducible rfl
   rotate_left
   ·simp only [Act.put, sI, sZ, sS, i64_w, i32_w]
    rfl
   refine pure_ (i := 7) (N := some 89) (v := ?_) (a' := ?_) #[true, true, true, true, false, true, true, true, false, false, false, false, false, false, false] rfl rfl (by kernel_rfl) (fun _ _ _ h => h) (Or.inl ⟨by rfl, ?_⟩) ?_ ?_
   rotate_left
   ·intro w'
    go_simp
    with_reducible rfl
   rotate_left
   ·simp only [Act.put, sI, sZ, sS, i64_w, i32_w]
    rfl
   refine take_ (i := 4) (N := some 86) (v := ?_) (a' := ?_) #[true, true, true, true, true, true, true, true, false, false, false, false, false, false, false] rfl rfl (by kernel_rfl) (fun _ _ _ h => h) (Or.inl ⟨by rfl, ?_⟩) hHeld ?_ ?_
   rotate_left
   ·rintro w' ⟨s0, s1, s2, s3⟩
    go_simp
    with_reducible rfl
   rotate_left
   ·simp only [Act.put, sI, sZ, sS, i64_w, i32_w]
    rfl
   refine take_ (i := 8) (N := some 90) (v := ?_) (a' := ?_) #[true, true, true, true, true, true, true, true, true, false, false, false, false, false, false] rfl rfl (by kernel_rfl) (fun _ _ _ h => h) (Or.inl ⟨by rfl, ?_⟩) hHeld ?_ ?_
   rotate_left
   ·rintro w' ⟨s0, s1, s2, s3⟩
    go_simp
    with_reducible rfl
   rotate_left
   ·simp only [Act.put, sI, sZ, sS, i64_w, i32_w]
    rfl
   refine one_ (i := 9) (N := some 91) #[true, true, true, true, true, true, true, true, true, true, false, false, false, false, false] rfl rfl (by kernel_rfl) (by decide) (fun K hK => ?_)
   obtain ⟨s0, s1, s2, s3⟩ := hHeld
   refine goes_ Tryd.func61 (by kernel_rfl) rfl #[.int .i8 5, .int .i64 (rd_T26 l (0 : Int)).f1, .int .i64 (rd_T26 l (1 : Int)).f1] (by rfl) rfl rfl (by simp only [List.map_toArray, List.map_cons, List.map_nil]; rfl) ?_
   with_reducible refine (value_divide.calls 5 (rd_T26 l (0 : Int)).f1 (rd_T26 l (1 : Int)).f1 (wrap64 ((rd_T26 l (0 : Int)).f1.tdiv (rd_T26 l (1 : Int)).f1)) true _ (by rw [value_divide.f, if_neg hz, if_pos rfl])).mono ?_
   rintro ee w3 ⟨rfl, hb⟩
   refine ⟨_, rfl, ?_⟩
   refine hK.out _ _ ⟨(xaj hb s0), (xaj hb s1), (xak s2 hb), (Lib.hid (xae s3.out hb))⟩ (fun hHeld => ?_)
   clear hK K
   refine norm_ (a' := ?_) ?_ ?_
   rotate_left
   ·show Act.put _ (some 91) _ = _
    simp only [Act.put, sI, sZ, sS, i64_w, i32_w]
    rfl
   refine pure_ (i := 10) (N := some 81) (v := ?_) (a' := ?_) #[true, true, true, true, true, true, true, true, true, true, true, false, false, false, false] rfl rfl (by kernel_rfl) (fun _ _ _ h => h) (Or.inl ⟨by rfl, ?_⟩) ?_ ?_
   rotate_left
   ·intro w'
    go_simp
    with_reducible rfl
   rotate_left
   ·simp only [Act.put, sI, sZ, sS, i64_w, i32_w]
    rfl
   refine pure_ (i := 11) (N := some 92) (v := ?_) (a' := ?_) #[true, true, true, true, true, true, true, true, true, true, true, true, false, false, false] rfl rfl (by kernel_rfl) (fun _ _ _ h => h) (Or.inl ⟨by rfl, ?_⟩) ?_ ?_
   rotate_left
   ·intro w'
    go_simp
    with_reducible rfl
   rotate_left
   ·simp only [Act.put, sI, sZ, sS, i64_w, i32_w]
    rfl
   refine pure_ (i := 12) (N := some 93) (v := ?_) (a' := ?_) #[true, true, true, true, true, true, true, true, true, true, true, true, true, false, false] rfl rfl (by kernel_rfl) (fun _ _ _ h => h) (Or.inl ⟨by rfl, ?_⟩) ?_ ?_
   rotate_left
   ·intro w'
    go_simp
    with_reducible rfl
   rotate_left
   ·simp only [Act.put, sI, sZ, sS, i64_w, i32_w]
    rfl
   refine pure_ (i := 13) (N := some 6) (v := ?_) (a' := ?_) #[true, true, true, true, true, true, true, true, true, true, true, true, true, true, false] rfl rfl (by kernel_rfl) (fun _ _ _ h => h) (Or.inl ⟨by rfl, ?_⟩) ?_ ?_
   rotate_left
   ·intro w'
    go_simp
    with_reducible rfl
   rotate_left
   ·simp only [Act.put, sI, sZ, sS, i64_w, i32_w]
    rfl
   refine pure_ (i := 14) (N := some 7) (v := ?_) (a' := ?_) #[true, true, true, true, true, true, true, true, true, true, true, true, true, true, true] rfl rfl (by kernel_rfl) (fun _ _ _ h => h) (Or.inl ⟨by rfl, ?_⟩) ?_ ?_
   rotate_left
   ·intro w'
    go_simp
    with_reducible rfl
   rotate_left
   ·simp only [Act.put, sI, sZ, sS, i64_w, i32_w]
    rfl
   refine done_ (by kernel_rfl) ?_
   obtain ⟨_, _, s2, s3⟩ := hHeld
   have HK3 := Lib.hid s2
   clear s2
   go_wp2_with fail
   refine (value_number.calls (wrap64 ((rd_T26 l (0 : Int)).f1.tdiv (rd_T26 l (1 : Int)).f1)) 1 (wrap64 ((rd_T26 l (0 : Int)).f1.tdiv (rd_T26 l (1 : Int)).f1)) ⟨#[]⟩ true _ rfl).mono ?_
   rintro e w4 ⟨rfl, hb⟩
   have HB4 := Lib.hid (xae s3.out hb)
   have HK4 := Lib.hid (xak HK3.out hb)
   clear hb
   have z0 : w4.cell? ⟨w.heap.size, 0, none⟩ = some (.int .i8 0) := (xag HK4.out 0).trans rfl
   have y0 := xal HK4.out 0
   have z1 : w4.cell? ⟨w.heap.size, 1, none⟩ = some (.int .i64 0) := (xag HK4.out 1).trans rfl
   have y1 := xal HK4.out 1
   have z2 : w4.cell? ⟨w.heap.size, 2, none⟩ = some (.string ⟨#[]⟩) := (xag HK4.out 2).trans rfl
   have y2 := xal HK4.out 2
   go_wp2_with fail
   refine bodyPost_ret (xar rfl _ _ w.heap.size 26 #[.int .i8 1, .int .i64 (wrap64 ((rd_T26 l (0 : Int)).f1.tdiv (rd_T26 l (1 : Int)).f1)), .string ⟨#[]⟩] (0, 0) _ rfl (put3 HK4.out) Tryd.underlying26 rfl (by kernel_rfl)) rfl ?_
   exact ⟨rfl, below3 HB4.out (Nat.le_refl _) _ _ _⟩
set_option maxHeartbeats 2000000 in
set_option maxRecDepth 100000 in
theorem arith_6 (A : Option Addr) (c : Nat) (l : List S26) (r : Int × Int × ByteArray × Bool) (w : World) (hr : Kd.C k26 w A l.length l) (hc : l.length ≤ c) (hT : TabA w) (h : arithV 6 l = r) :
  Calls Tryd.prog 17 #[.int .i8 6, .slice A l.length c] w fun e w' => e = .returned (.tuple #[.agg #[.int .i8 r.1, .int .i64 r.2.1, .string r.2.2.1], .bool r.2.2.2]) ∧ Below w.heap.size w w' := by
 have hcell := xbh hT (.cells #[.int .i8 0, .int .i64 0, .string ⟨#[]⟩] 26) 6 (by decide)
 have HR := Lib.hid hr
 have HK := Lib.hid (xau w (.cells #[.int .i8 0, .int .i64 0, .string ⟨#[]⟩] 26 (0, 0)))
 have HW := Lib.hid (xab (Below.refl w.heap.size w) (.cells #[.int .i8 0, .int .i64 0, .string ⟨#[]⟩] 26))
 clear hr hT
 obtain ⟨k, hk⟩ := (fits_ev 2 (by decide) l).at
 go_enter Tryd.func17, Tryd.ntmps17
 go_wp2_with fail
 refine (value_fits.calls (k := k) (hr1 := Kd.C_below HR.out HW.out) (hc1 := hc) (h := hk)).mono ?_
 rintro e w1 ⟨rfl, hb⟩
 have HB := Lib.hid (xae HW.out hb)
 have HK1 := Lib.hid (xak HK.out hb)
 clear hb hcell HK HW hk
 cases hf : fitsV 2 l with
 | false =>
  have hr0 := (xbr (op := 6) (l := l) hf).symm.trans h
  subst hr0
  have z0 : w1.cell? ⟨w.heap.size, 0, none⟩ = some (.int .i8 0) := (xag HK1.out 0).trans rfl
  have z1 : w1.cell? ⟨w.heap.size, 1, none⟩ = some (.int .i64 0) := (xag HK1.out 1).trans rfl
  have z2 : w1.cell? ⟨w.heap.size, 2, none⟩ = some (.string ⟨#[]⟩) := (xag HK1.out 2).trans rfl
  have y0 := xal HK1.out 0
  have y1 := xal HK1.out 1
  have y2 := xal HK1.out 2
  go_wp2_with fail
  refine bodyPost_ret (xar rfl _ _ w.heap.size 26 #[.int .i8 0, .int .i64 0, .string ⟨#[]⟩] (0, 0) _ rfl (put3 HK1.out) Tryd.underlying26 rfl (by kernel_rfl)) rfl ?_
  exact ⟨rfl, below3 HB.out (Nat.le_refl _) _ _ _⟩
 | true =>
  have hlen := xbt hf
  have hlen' : l.length = 2 := hlen
  rw [arithV, if_neg (xbl (op := 6) (l := l) (by decide) (by decide) hf)] at h
  obtain ⟨ad, rfl, g0, g1, g2⟩ := at_T26 (Kd.C_below HR.out HB.out) (0 : Int) (by omega) (by omega)
  rw [show ad.add ((0 : Int).toNat * 3) = ad by cases ad; simp [Addr.add]] at g0 g1 g2
  obtain ⟨ad', he, j0, j1, j2⟩ := at_T26 (Kd.C_below HR.out HB.out) (1 : Int) (by omega) (by omega)
  obtain rfl := Option.some.inj he
  rw [show (1 : Int).toNat * 3 = 3 from rfl] at j0 j1 j2
  replace j1 : w1.cell? ⟨ad.block, ad.off + 3 + 1, none⟩ = some (.int .i64 (rd_T26 l (1 : Int)).f1) := by rw [← xbe ad 1]; exact j1
  replace j2 : w1.cell? ⟨ad.block, ad.off + 3 + 2, none⟩ = some (.string (rd_T26 l (1 : Int)).f2) := by rw [← xbe ad 2]; exact j2
  have h2 : (if (rd_T26 l (1 : Int)).f1 = 0 then ((0, 0, ⟨#[]⟩, false) : Int × Int × ByteArray × Bool) else (1, (rd_T26 l (0 : Int)).f1.tmod (rd_T26 l (1 : Int)).f1, ⟨#[]⟩, true)) = r := h
  clear h
  go_wp2_with fail
  by_cases hz : (rd_T26 l (1 : Int)).f1 = 0
  ·rw [if_pos hz] at h2
   subst h2
   rw [hz] at j1
   refine start_ (n := 15) (S := fun w' => w'.cell? ⟨ad.block, ad.off + 1, none⟩ = some (.int .i64 (rd_T26 l (0 : Int)).f1) ∧ w'.cell? ⟨ad.block, ad.off + 3 + 1, none⟩ = some (.int .i64 0) ∧ w'.heap[w.heap.size]? = some (.cells #[.int .i8 0, .int .i64 0, .string ⟨#[]⟩] 26 (0, 0)) ∧ Hid (Below w.heap.size w w')) (ds := []) #[false, false, false, false, false, false, false, false, false, false, false, false, false, false, false] (by kernel_rfl) rfl rfl ⟨g1, j1, HK1.out, (Lib.hid (xaw HB.out))⟩ (fun hHeld => ?_)
   refine pure_ (i := 0) (N := some 82) (v := ?_) (a' := ?_) #[true, false, false, false, false, false, false, false, false, false, false, false, false, false, false] rfl rfl (by kernel_rfl) (fun _ _ _ h => h) (Or.inl ⟨by rfl, ?_⟩) ?_ ?_
   rotate_left
   ·intro w'
    go_simp
    with_reducible rfl
   rotate_left
   ·simp only [Act.put, sI, sZ, sS, i64_w, i32_w]
    rfl
   refine pure_ (i := 1) (N := some 83) (v := ?_) (a' := ?_) #[true, true, false, false, false, false, false, false, false, false, false, false, false, false, false] rfl rfl (by kernel_rfl) (fun _ _ _ h => h) (Or.inl ⟨by rfl, ?_⟩) ?_ ?_
   rotate_left
   ·intro w'
    go_simp
    with_reducible rfl
   rotate_left
   ·simp only [Act.put, sI, sZ, sS, i64_w, i32_w]
    rfl
   refine pure_ (i := 2) (N := some 84) (v := ?_) (a' := ?_) #[true, true, true, false, false, false, false, false, false, false, false, false, false, false, false] rfl rfl (by kernel_rfl) (fun _ _ _ h => h) (Or.inl ⟨by rfl, ?_⟩) ?_ ?_
   rotate_left
   ·intro w'
    go_simp
    with_reducible rfl
   rotate_left
   ·simp only [Act.put, sI, sZ, sS, i64_w, i32_w]
    rfl
   refine pure_ (i := 3) (N := some 85) (v := ?_) (a' := ?_) #[true, true, true, true, false, false, false, false, false, false, false, false, false, false, false] rfl rfl (by kernel_rfl) (fun _ _ _ h => h) (Or.inl ⟨by rfl, ?_⟩) ?_ ?_
   rotate_left
   ·intro w'
    go_simp
    with_reducible rfl
   rotate_left
   ·simp only [Act.put, sI, sZ, sS, i64_w, i32_w]
    rfl
   refine pure_ (i := 5) (N := some 87) (v := ?_) (a' := ?_) #[true, true, true, true, false, true, false, false, false, false, false, false, false, false, false] rfl rfl (by kernel_rfl) (fun _ _ _ h => h) (Or.inl ⟨by rfl, ?_⟩) ?_ ?_
   rotate_left
   ·intro w'
    go_simp
    with_reducible rfl
   rotate_left
   ·simp only [Act.put, sI, sZ, sS, i64_w, i32_w]
    rfl
   refine pure_ (i := 6) (N := some 88) (v := ?_) (a' := ?_) #[true, true, true, true, false, true, true, false, false, false, false, false, false, false, false] rfl rfl (by kernel_rfl) (fun _ _ _ h => h) (Or.inl ⟨by rfl, ?_⟩) ?_ ?_
   rotate_left
   ·intro w'
    go_simp
    with_reducible rfl
   rotate_left
   ·simp only [Act.put, sI, sZ, sS, i64_w, i32_w]
    rfl
   refine pure_ (i := 7) (N := some 89) (v := ?_) (a' := ?_) #[true, true, true, true, false, true, true, true, false, false, false, false, false, false, false] rfl rfl (by kernel_rfl) (fun _ _ _ h => h) (Or.inl ⟨by rfl, ?_⟩) ?_ ?_
   rotate_left
   ·intro w'
    go_simp
    with_reducible rfl
   rotate_left
   ·simp only [Act.put, sI, sZ, sS, i64_w, i32_w]
    rfl
   refine take_ (i := 4) (N := some 86) (v := ?_) (a' := ?_) #[true, true, true, true, true, true, true, true, false, false, false, false, false, false, false] rfl rfl (by kernel_rfl) (fun _ _ _ h => h) (Or.inl ⟨by rfl, ?_⟩) hHeld ?_ ?_
   rotate_left
   ·rintro w' ⟨s0, s1, s2, s3⟩
    go_simp
    with_reducible rfl
   rotate_left
   ·simp only [Act.put, sI, sZ, sS, i64_w, i32_w]
    rfl
   refine take_ (i := 8) (N := some 90) (v := ?_) (a' := ?_) #[true, true, true, true, true, true, true, true, true, false, false, false, false, false, false] rfl rfl (by kernel_rfl) (fun _ _ _ h => h) (Or.inl ⟨by rfl, ?_⟩) hHeld ?_ ?_
   rotate_left
   ·rintro w' ⟨s0, s1, s2, s3⟩
    go_simp
    with_reducible rfl
   rotate_left
   ·simp only [Act.put, sI, sZ, sS, i64_w, i32_w]
    rfl
   refine one_ (i := 9) (N := some 91) #[true, true, true, true, true, true, true, true, true, true, false, false, false, false, false] rfl rfl (by kernel_rfl) (by decide) (fun K hK => ?_)
   obtain ⟨s0, s1, s2, s3⟩ := hHeld
   refine goes_ Tryd.func61 (by kernel_rfl) rfl #[.int .i8 6, .int .i64 (rd_T26 l (0 : Int)).f1, .int .i64 0] (by rfl) rfl rfl (by simp only [List.map_toArray, List.map_cons, List.map_nil]; rfl) ?_
   with_reducible refine (value_divide.calls 6 (rd_T26 l (0 : Int)).f1 0 (0) false _ (by rw [value_divide.f, if_pos rfl])).mono ?_
   rintro ee w3 ⟨rfl, hb⟩
   refine ⟨_, rfl, ?_⟩
   refine hK.out _ _ ⟨(xaj hb s0), (xaj hb s1), (xak s2 hb), (Lib.hid (xae s3.out hb))⟩ (fun hHeld => ?_)
   clear hK K
   refine norm_ (a' := ?_) ?_ ?_
   rotate_left
   ·show Act.put _ (some 91) _ = _
    simp only [Act.put, sI, sZ, sS, i64_w, i32_w]
    rfl
   refine pure_ (i := 10) (N := some 81) (v := ?_) (a' := ?_) #[true, true, true, true, true, true, true, true, true, true, true, false, false, false, false] rfl rfl (by kernel_rfl) (fun _ _ _ h => h) (Or.inl ⟨by rfl, ?_⟩) ?_ ?_
   rotate_left
   ·intro w'
    go_simp
    with_reducible rfl
   rotate_left
   ·simp only [Act.put, sI, sZ, sS, i64_w, i32_w]
    rfl
   refine pure_ (i := 11) (N := some 92) (v := ?_) (a' := ?_) #[true, true, true, true, true, true, true, true, true, true, true, true, false, false, false] rfl rfl (by kernel_rfl) (fun _ _ _ h => h) (Or.inl ⟨by rfl, ?_⟩) ?_ ?_
   rotate_left
   ·intro w'
    go_simp
    with_reducible rfl
   rotate_left
   ·simp only [Act.put, sI, sZ, sS, i64_w, i32_w]
    rfl
   refine pure_ (i := 12) (N := some 93) (v := ?_) (a' := ?_) #[true, true, true, true, true, true, true, true, true, true, true, true, true, false, false] rfl rfl (by kernel_rfl) (fun _ _ _ h => h) (Or.inl ⟨by rfl, ?_⟩) ?_ ?_
   rotate_left
   ·intro w'
    go_simp
    with_reducible rfl
   rotate_left
   ·simp only [Act.put, sI, sZ, sS, i64_w, i32_w]
    rfl
   refine pure_ (i := 13) (N := some 6) (v := ?_) (a' := ?_) #[true, true, true, true, true, true, true, true, true, true, true, true, true, true, false] rfl rfl (by kernel_rfl) (fun _ _ _ h => h) (Or.inl ⟨by rfl, ?_⟩) ?_ ?_
   rotate_left
   ·intro w'
    go_simp
    with_reducible rfl
   rotate_left
   ·simp only [Act.put, sI, sZ, sS, i64_w, i32_w]
    rfl
   refine pure_ (i := 14) (N := some 7) (v := ?_) (a' := ?_) #[true, true, true, true, true, true, true, true, true, true, true, true, true, true, true] rfl rfl (by kernel_rfl) (fun _ _ _ h => h) (Or.inl ⟨by rfl, ?_⟩) ?_ ?_
   rotate_left
   ·intro w'
    go_simp
    with_reducible rfl
   rotate_left
   ·simp only [Act.put, sI, sZ, sS, i64_w, i32_w]
    rfl
   refine done_ (by kernel_rfl) ?_
   obtain ⟨_, _, s2, s3⟩ := hHeld
   have HK3 := Lib.hid s2
   clear s2
   have z0 : w3.cell? ⟨w.heap.size, 0, none⟩ = some (.int .i8 0) := (xag HK3.out 0).trans rfl
   have y0 := xal HK3.out 0
   have z1 : w3.cell? ⟨w.heap.size, 1, none⟩ = some (.int .i64 0) := (xag HK3.out 1).trans rfl
   have y1 := xal HK3.out 1
   have z2 : w3.cell? ⟨w.heap.size, 2, none⟩ = some (.string ⟨#[]⟩) := (xag HK3.out 2).trans rfl
   have y2 := xal HK3.out 2
   go_wp2_with fail
   refine bodyPost_ret (xar rfl _ _ w.heap.size 26 #[.int .i8 0, .int .i64 0, .string ⟨#[]⟩] (0, 0) _ rfl (put3 HK3.out) Tryd.underlying26 rfl (by kernel_rfl)) rfl ?_
   exact ⟨rfl, below3 s3.out (Nat.le_refl _) _ _ _⟩
  ·rw [if_neg hz] at h2
   subst h2
   refine start_ (n := 15) (S := fun w' => w'.cell? ⟨ad.block, ad.off + 1, none⟩ = some (.int .i64 (rd_T26 l (0 : Int)).f1) ∧ w'.cell? ⟨ad.block, ad.off + 3 + 1, none⟩ = some (.int .i64 (rd_T26 l (1 : Int)).f1) ∧ w'.heap[w.heap.size]? = some (.cells #[.int .i8 0, .int .i64 0, .string ⟨#[]⟩] 26 (0, 0)) ∧ Hid (Below w.heap.size w w')) (ds := []) #[false, false, false, false, false, false, false, false, false, false, false, false, false, false, false] (by kernel_rfl) rfl rfl ⟨g1, j1, HK1.out, (Lib.hid (xaw HB.out))⟩ (fun hHeld => ?_)
   refine pure_ (i := 0) (N := some 82) (v := ?_) (a' := ?_) #[true, false, false, false, false, false, false, false, false, false, false, false, false, false, false] rfl rfl (by kernel_rfl) (fun _ _ _ h => h) (Or.inl ⟨by rfl, ?_⟩) ?_ ?_
   rotate_left
   ·intro w'
    go_simp
    with_reducible rfl
   rotate_left
   ·simp only [Act.put, sI, sZ, sS, i64_w, i32_w]
    rfl
   refine pure_ (i := 1) (N := some 83) (v := ?_) (a' := ?_) #[true, true, false, false, false, false, false, false, false, false, false, false, false, false, false] rfl rfl (by kernel_rfl) (fun _ _ _ h => h) (Or.inl ⟨by rfl, ?_⟩) ?_ ?_
   rotate_left
   ·intro w'
    go_simp
    with_reducible rfl
   rotate_left
   ·simp only [Act.put, sI, sZ, sS, i64_w, i32_w]
    rfl
   refine pure_ (i := 2) (N := some 84) (v := ?_) (a' := ?_) #[true, true, true, false, false, false, false, false, false, false, false, false, false, false, false] rfl rfl (by kernel_rfl) (fun _ _ _ h => h) (Or.inl ⟨by rfl, ?_⟩) ?_ ?_
   rotate_left
   ·intro w'
    go_simp
    with_reducible rfl
   rotate_left
   ·simp only [Act.put, sI, sZ, sS, i64_w, i32_w]
    rfl
   refine pure_ (i := 3) (N := some 85) (v := ?_) (a' := ?_) #[true, true, true, true, false, false, false, false, false, false, false, false, false, false, false] rfl rfl (by kernel_rfl) (fun _ _ _ h => h) (Or.inl ⟨by rfl, ?_⟩) ?_ ?_
   rotate_left
   ·intro w'
    go_simp
    with_reducible rfl
   rotate_left
   ·simp only [Act.put, sI, sZ, sS, i64_w, i32_w]
    rfl
   refine pure_ (i := 5) (N := some 87) (v := ?_) (a' := ?_) #[true, true, true, true, false, true, false, false, false, false, false, false, false, false, false] rfl rfl (by kernel_rfl) (fun _ _ _ h => h) (Or.inl ⟨by rfl, ?_⟩) ?_ ?_
   rotate_left
   ·intro w'
    go_simp
    with_reducible rfl
   rotate_left
   ·simp only [Act.put, sI, sZ, sS, i64_w, i32_w]
    rfl
   refine pure_ (i := 6) (N := some 88) (v := ?_) (a' := ?_) #[true, true, true, true, false, true, true, false, false, false, false, false, false, false, false] rfl rfl (by kernel_rfl) (fun _ _ _ h => h) (Or.inl ⟨by rfl, ?_⟩) ?_ ?_
   rotate_left
   ·intro w'
    go_simp
    with_reducible rfl
   rotate_left
   ·simp only [Act.put, sI, sZ, sS, i64_w, i32_w]
    rfl
   refine pure_ (i := 7) (N := some 89) (v := ?_) (a' := ?_) #[true, true, true, true, false, true, true, true, false, false, false, false, false, false, false] rfl rfl (by kernel_rfl) (fun _ _ _ h => h) (Or.inl ⟨by rfl, ?_⟩) ?_ ?_
   rotate_left
   ·intro w'
    go_simp
    with_reducible rfl
   rotate_left
   ·simp only [Act.put, sI, sZ, sS, i64_w, i32_w]
    rfl
   refine take_ (i := 4) (N := some 86) (v := ?_) (a' := ?_) #[true, true, true, true, true, true, true, true, false, false, false, false, false, false, false] rfl rfl (by kernel_rfl) (fun _ _ _ h => h) (Or.inl ⟨by rfl, ?_⟩) hHeld ?_ ?_
   rotate_left
   ·rintro w' ⟨s0, s1, s2, s3⟩
    go_simp
    with_reducible rfl
   rotate_left
   ·simp only [Act.put, sI, sZ, sS, i64_w, i32_w]
    rfl
   refine take_ (i := 8) (N := some 90) (v := ?_) (a' := ?_) #[true, true, true, true, true, true, true, true, true, false, false, false, false, false, false] rfl rfl (by kernel_rfl) (fun _ _ _ h => h) (Or.inl ⟨by rfl, ?_⟩) hHeld ?_ ?_
   rotate_left
   ·rintro w' ⟨s0, s1, s2, s3⟩
    go_simp
    with_reducible rfl
   rotate_left
   ·simp only [Act.put, sI, sZ, sS, i64_w, i32_w]
    rfl
   refine one_ (i := 9) (N := some 91) #[true, true, true, true, true, true, true, true, true, true, false, false, false, false, false] rfl rfl (by kernel_rfl) (by decide) (fun K hK => ?_)
   obtain ⟨s0, s1, s2, s3⟩ := hHeld
   refine goes_ Tryd.func61 (by kernel_rfl) rfl #[.int .i8 6, .int .i64 (rd_T26 l (0 : Int)).f1, .int .i64 (rd_T26 l (1 : Int)).f1] (by rfl) rfl rfl (by simp only [List.map_toArray, List.map_cons, List.map_nil]; rfl) ?_
   with_reducible refine (value_divide.calls 6 (rd_T26 l (0 : Int)).f1 (rd_T26 l (1 : Int)).f1 ((rd_T26 l (0 : Int)).f1.tmod (rd_T26 l (1 : Int)).f1) true _ (by rw [value_divide.f, if_neg hz, if_neg (by decide)])).mono ?_
   rintro ee w3 ⟨rfl, hb⟩
   refine ⟨_, rfl, ?_⟩
   refine hK.out _ _ ⟨(xaj hb s0), (xaj hb s1), (xak s2 hb), (Lib.hid (xae s3.out hb))⟩ (fun hHeld => ?_)
   clear hK K
   refine norm_ (a' := ?_) ?_ ?_
   rotate_left
   ·show Act.put _ (some 91) _ = _
    simp only [Act.put, sI, sZ, sS, i64_w, i32_w]
    rfl
   refine pure_ (i := 10) (N := some 81) (v := ?_) (a' := ?_) #[true, true, true, true, true, true, true, true, true, true, true, false, false, false, false] rfl rfl (by kernel_rfl) (fun _ _ _ h => h) (Or.inl ⟨by rfl, ?_⟩) ?_ ?_
   rotate_left
   ·intro w'
    go_simp
    with_reducible rfl
   rotate_left
   ·simp only [Act.put, sI, sZ, sS, i64_w, i32_w]
    rfl
   refine pure_ (i := 11) (N := some 92) (v := ?_) (a' := ?_) #[true, true, true, true, true, true, true, true, true, true, true, true, false, false, false] rfl rfl (by kernel_rfl) (fun _ _ _ h => h) (Or.inl ⟨by rfl, ?_⟩) ?_ ?_
   rotate_left
   ·intro w'
    go_simp
    with_reducible rfl
   rotate_left
   ·simp only [Act.put, sI, sZ, sS, i64_w, i32_w]
    rfl
   refine pure_ (i := 12) (N := some 93) (v := ?_) (a' := ?_) #[true, true, true, true, true, true, true, true, true, true, true, true, true, false, false] rfl rfl (by kernel_rfl) (fun _ _ _ h => h) (Or.inl ⟨by rfl, ?_⟩) ?_ ?_
   rotate_left
   ·intro w'
    go_simp
    with_reducible rfl
   rotate_left
   ·simp only [Act.put, sI, sZ, sS, i64_w, i32_w]
    rfl
   refine pure_ (i := 13) (N := some 6) (v := ?_) (a' := ?_) #[true, true, true, true, true, true, true, true, true, true, true, true, true, true, false] rfl rfl (by kernel_rfl) (fun _ _ _ h => h) (Or.inl ⟨by rfl, ?_⟩) ?_ ?_
   rotate_left
   ·intro w'
    go_simp
    with_reducible rfl
   rotate_left
   ·simp only [Act.put, sI, sZ, sS, i64_w, i32_w]
    rfl
   refine pure_ (i := 14) (N := some 7) (v := ?_) (a' := ?_) #[true, true, true, true, true, true, true, true, true, true, true, true, true, true, true] rfl rfl (by kernel_rfl) (fun _ _ _ h => h) (Or.inl ⟨by rfl, ?_⟩) ?_ ?_
   rotate_left
   ·intro w'
    go_simp
    with_reducible rfl
   rotate_left
   ·simp only [Act.put, sI, sZ, sS, i64_w, i32_w]
    rfl
   refine done_ (by kernel_rfl) ?_
   obtain ⟨_, _, s2, s3⟩ := hHeld
   have HK3 := Lib.hid s2
   clear s2
   go_wp2_with fail
   refine (value_number.calls ((rd_T26 l (0 : Int)).f1.tmod (rd_T26 l (1 : Int)).f1) 1 ((rd_T26 l (0 : Int)).f1.tmod (rd_T26 l (1 : Int)).f1) ⟨#[]⟩ true _ rfl).mono ?_
   rintro e w4 ⟨rfl, hb⟩
   have HB4 := Lib.hid (xae s3.out hb)
   have HK4 := Lib.hid (xak HK3.out hb)
   clear hb
   have z0 : w4.cell? ⟨w.heap.size, 0, none⟩ = some (.int .i8 0) := (xag HK4.out 0).trans rfl
   have y0 := xal HK4.out 0
   have z1 : w4.cell? ⟨w.heap.size, 1, none⟩ = some (.int .i64 0) := (xag HK4.out 1).trans rfl
   have y1 := xal HK4.out 1
   have z2 : w4.cell? ⟨w.heap.size, 2, none⟩ = some (.string ⟨#[]⟩) := (xag HK4.out 2).trans rfl
   have y2 := xal HK4.out 2
   go_wp2_with fail
   refine bodyPost_ret (xar rfl _ _ w.heap.size 26 #[.int .i8 1, .int .i64 ((rd_T26 l (0 : Int)).f1.tmod (rd_T26 l (1 : Int)).f1), .string ⟨#[]⟩] (0, 0) _ rfl (put3 HK4.out) Tryd.underlying26 rfl (by kernel_rfl)) rfl ?_
   exact ⟨rfl, below3 HB4.out (Nat.le_refl _) _ _ _⟩
set_option maxHeartbeats 2000000 in
set_option maxRecDepth 100000 in
theorem arith_7 (A : Option Addr) (c : Nat) (l : List S26) (r : Int × Int × ByteArray × Bool) (w : World) (hr : Kd.C k26 w A l.length l) (hc : l.length ≤ c) (hT : TabA w) (h : arithV 7 l = r) :
  Calls Tryd.prog 17 #[.int .i8 7, .slice A l.length c] w fun e w' => e = .returned (.tuple #[.agg #[.int .i8 r.1, .int .i64 r.2.1, .string r.2.2.1], .bool r.2.2.2]) ∧ Below w.heap.size w w' := by
 have hcell := xbh hT (.cells #[.int .i8 0, .int .i64 0, .string ⟨#[]⟩] 26) 7 (by decide)
 have HR := Lib.hid hr
 have HK := Lib.hid (xau w (.cells #[.int .i8 0, .int .i64 0, .string ⟨#[]⟩] 26 (0, 0)))
 have HW := Lib.hid (xab (Below.refl w.heap.size w) (.cells #[.int .i8 0, .int .i64 0, .string ⟨#[]⟩] 26))
 clear hr hT
 obtain ⟨k, hk⟩ := (fits_ev 4 (by decide) l).at
 go_enter Tryd.func17, Tryd.ntmps17
 go_wp2_with fail
 refine (value_fits.calls (k := k) (hr1 := Kd.C_below HR.out HW.out) (hc1 := hc) (h := hk)).mono ?_
 rintro e w1 ⟨rfl, hb⟩
 have HB := Lib.hid (xae HW.out hb)
 have HK1 := Lib.hid (xak HK.out hb)
 clear hb hcell HK HW hk
 cases hf : fitsV 4 l with
 | false =>
  have hr0 := (xbr (op := 7) (l := l) hf).symm.trans h
  subst hr0
  have z0 : w1.cell? ⟨w.heap.size, 0, none⟩ = some (.int .i8 0) := (xag HK1.out 0).trans rfl
  have z1 : w1.cell? ⟨w.heap.size, 1, none⟩ = some (.int .i64 0) := (xag HK1.out 1).trans rfl
  have z2 : w1.cell? ⟨w.heap.size, 2, none⟩ = some (.string ⟨#[]⟩) := (xag HK1.out 2).trans rfl
  have y0 := xal HK1.out 0
  have y1 := xal HK1.out 1
  have y2 := xal HK1.out 2
  go_wp2_with fail
  refine bodyPost_ret (xar rfl _ _ w.heap.size 26 #[.int .i8 0, .int .i64 0, .string ⟨#[]⟩] (0, 0) _ rfl (put3 HK1.out) Tryd.underlying26 rfl (by kernel_rfl)) rfl ?_
  exact ⟨rfl, below3 HB.out (Nat.le_refl _) _ _ _⟩
 | true =>
  have hlen := xbt hf
  have hlen' : l.length = 2 := hlen
  rw [arithV, if_neg (xbl (op := 7) (l := l) (by decide) (by decide) hf)] at h
  obtain ⟨ad, rfl, g0, g1, g2⟩ := at_T26 (Kd.C_below HR.out HB.out) (0 : Int) (by omega) (by omega)
  rw [show ad.add ((0 : Int).toNat * 3) = ad by cases ad; simp [Addr.add]] at g0 g1 g2
  obtain ⟨ad', he, j0, j1, j2⟩ := at_T26 (Kd.C_below HR.out HB.out) (1 : Int) (by omega) (by omega)
  obtain rfl := Option.some.inj he
  rw [show (1 : Int).toNat * 3 = 3 from rfl] at j0 j1 j2
  replace j1 : w1.cell? ⟨ad.block, ad.off + 3 + 1, none⟩ = some (.int .i64 (rd_T26 l (1 : Int)).f1) := by rw [← xbe ad 1]; exact j1
  replace j2 : w1.cell? ⟨ad.block, ad.off + 3 + 2, none⟩ = some (.string (rd_T26 l (1 : Int)).f2) := by rw [← xbe ad 2]; exact j2
  have h2 : (if (((rd_T26 l (0 : Int)).f2 ++ (rd_T26 l (1 : Int)).f2).size : Int) > 200 then ((0, 0, ⟨#[]⟩, false) : Int × Int × ByteArray × Bool) else (2, 0, ((rd_T26 l (0 : Int)).f2 ++ (rd_T26 l (1 : Int)).f2), true)) = r := h
  clear h
  have hcat : ¬ 9223372036854775807 < (rd_T26 l (0 : Int)).f2.size + (rd_T26 l (1 : Int)).f2.size := by
   have h1 := fits_size hf _ (show (rd_T26 l (0 : Int)) ∈ l by
    show l.getD 0 z26 ∈ l
    rw [List.getD_eq_getElem?_getD, List.getElem?_eq_getElem (by omega)]
    exact List.getElem_mem _)
   have h2 := fits_size hf _ (show (rd_T26 l (1 : Int)) ∈ l by
    show l.getD 1 z26 ∈ l
    rw [List.getD_eq_getElem?_getD, List.getElem?_eq_getElem (by omega)]
    exact List.getElem_mem _)
   omega
  go_wp2_with fail
  by_cases hz : (((rd_T26 l (0 : Int)).f2 ++ (rd_T26 l (1 : Int)).f2).size : Int) > 200
  ·rw [if_pos hz] at h2
   subst h2
   refine start_ (n := 14) (S := fun w' => w'.cell? ⟨ad.block, ad.off + 2, none⟩ = some (.string (rd_T26 l (0 : Int)).f2) ∧ w'.cell? ⟨ad.block, ad.off + 3 + 2, none⟩ = some (.string (rd_T26 l (1 : Int)).f2) ∧ w'.heap[w.heap.size]? = some (.cells #[.int .i8 0, .int .i64 0, .string ⟨#[]⟩] 26 (0, 0)) ∧ Hid (Below w.heap.size w w')) (ds := [12]) #[false, false, false, false, false, false, false, false, false, false, false, false, false, false] (by kernel_rfl) rfl rfl ⟨g2, j2, HK1.out, (Lib.hid (xaw HB.out))⟩ (fun hHeld => ?_)
   refine pure_ (i := 0) (N := some 102) (v := ?_) (a' := ?_) #[true, false, false, false, false, false, false, false, false, false, false, false, false, false] rfl rfl (by kernel_rfl) (fun _ _ _ h => h) (Or.inl ⟨by rfl, ?_⟩) ?_ ?_
   rotate_left
   ·intro w'
    go_simp
    with_reducible rfl
   rotate_left
   ·simp only [Act.put, sI, sZ, sS, i64_w, i32_w]
    rfl
   refine pure_ (i := 1) (N := some 103) (v := ?_) (a' := ?_) #[true, true, false, false, false, false, false, false, false, false, false, false, false, false] rfl rfl (by kernel_rfl) (fun _ _ _ h => h) (Or.inl ⟨by rfl, ?_⟩) ?_ ?_
   rotate_left
   ·intro w'
    go_simp
    with_reducible rfl
   rotate_left
   ·simp only [Act.put, sI, sZ, sS, i64_w, i32_w]
    rfl
   refine pure_ (i := 2) (N := some 104) (v := ?_) (a' := ?_) #[true, true, true, false, false, false, false, false, false, false, false, false, false, false] rfl rfl (by kernel_rfl) (fun _ _ _ h => h) (Or.inl ⟨by rfl, ?_⟩) ?_ ?_
   rotate_left
   ·intro w'
    go_simp
    with_reducible rfl
   rotate_left
   ·simp only [Act.put, sI, sZ, sS, i64_w, i32_w]
    rfl
   refine pure_ (i := 4) (N := some 106) (v := ?_) (a' := ?_) #[true, true, true, false, true, false, false, false, false, false, false, false, false, false] rfl rfl (by kernel_rfl) (fun _ _ _ h => h) (Or.inl ⟨by rfl, ?_⟩) ?_ ?_
   rotate_left
   ·intro w'
    go_simp
    with_reducible rfl
   rotate_left
   ·simp only [Act.put, sI, sZ, sS, i64_w, i32_w]
    rfl
   refine pure_ (i := 5) (N := some 107) (v := ?_) (a' := ?_) #[true, true, true, false, true, true, false, false, false, false, false, false, false, false] rfl rfl (by kernel_rfl) (fun _ _ _ h => h) (Or.inl ⟨by rfl, ?_⟩) ?_ ?_
   rotate_left
   ·intro w'
    go_simp
    with_reducible rfl
   rotate_left
   ·simp only [Act.put, sI, sZ, sS, i64_w, i32_w]
    rfl
   refine pure_ (i := 6) (N := some 108) (v := ?_) (a' := ?_) #[true, true, true, false, true, true, true, false, false, false, false, false, false, false] rfl rfl (by kernel_rfl) (fun _ _ _ h => h) (Or.inl ⟨by rfl, ?_⟩) ?_ ?_
   rotate_left
   ·intro w'
    go_simp
    with_reducible rfl
   rotate_left
   ·simp only [Act.put, sI, sZ, sS, i64_w, i32_w]
    rfl
   refine take_ (i := 3) (N := some 105) (v := ?_) (a' := ?_) #[true, true, true, true, true, true, true, false, false, false, false, false, false, false] rfl rfl (by kernel_rfl) (fun _ _ _ h => h) (Or.inl ⟨by rfl, ?_⟩) hHeld ?_ ?_
   rotate_left
   ·rintro w' ⟨s0, s1, s2, s3⟩
    go_simp
    with_reducible rfl
   rotate_left
   ·simp only [Act.put, sI, sZ, sS, i64_w, i32_w]
    rfl
   refine take_ (i := 7) (N := some 109) (v := ?_) (a' := ?_) #[true, true, true, true, true, true, true, true, false, false, false, false, false, false] rfl rfl (by kernel_rfl) (fun _ _ _ h => h) (Or.inl ⟨by rfl, ?_⟩) hHeld ?_ ?_
   rotate_left
   ·rintro w' ⟨s0, s1, s2, s3⟩
    go_simp
    with_reducible rfl
   rotate_left
   ·simp only [Act.put, sI, sZ, sS, i64_w, i32_w]
    rfl
   refine pure_ (i := 8) (N := some 110) (v := ?_) (a' := ?_) #[true, true, true, true, true, true, true, true, true, false, false, false, false, false] rfl rfl (by kernel_rfl) (fun _ _ _ h => h) (Or.inl ⟨by rfl, ?_⟩) ?_ ?_
   rotate_left
   ·intro w'
    go_simp
    with_reducible rfl
   rotate_left
   ·simp only [Act.put, sI, sZ, sS, i64_w, i32_w]
    rfl
   refine one_ (i := 9) (N := some 111) #[true, true, true, true, true, true, true, true, true, true, false, false, false, false] rfl rfl (by kernel_rfl) (by decide) (fun K hK => ?_)
   obtain ⟨s0, s1, s2, s3⟩ := hHeld
   refine goes_ Tryd.func62 (by kernel_rfl) rfl #[.string ((rd_T26 l (0 : Int)).f2 ++ (rd_T26 l (1 : Int)).f2)] (by rfl) rfl rfl (by simp only [List.map_toArray, List.map_cons, List.map_nil]; rfl) ?_
   with_reducible refine (value_text.calls ((rd_T26 l (0 : Int)).f2 ++ (rd_T26 l (1 : Int)).f2) 0 0 ⟨#[]⟩ false _ (by rw [value_text.f, if_pos hz])).mono ?_
   rintro ee w3 ⟨rfl, hb⟩
   refine ⟨_, rfl, ?_⟩
   refine hK.out _ _ ⟨(xaj hb s0), (xaj hb s1), (xak s2 hb), (Lib.hid (xae s3.out hb))⟩ (fun hHeld => ?_)
   clear hK K
   refine norm_ (a' := ?_) ?_ ?_
   rotate_left
   ·show Act.put _ (some 111) _ = _
    simp only [Act.put, sI, sZ, sS, i64_w, i32_w]
    rfl
   refine pure_ (i := 10) (N := some 112) (v := ?_) (a' := ?_) #[true, true, true, true, true, true, true, true, true, true, true, false, false, false] rfl rfl (by kernel_rfl) (fun _ _ _ h => h) (Or.inl ⟨by rfl, ?_⟩) ?_ ?_
   rotate_left
   ·intro w'
    go_simp
    with_reducible rfl
   rotate_left
   ·simp only [Act.put, sI, sZ, sS, i64_w, i32_w]
    rfl
   refine pure_ (i := 11) (N := some 113) (v := ?_) (a' := ?_) #[true, true, true, true, true, true, true, true, true, true, true, true, false, false] rfl rfl (by kernel_rfl) (fun _ _ _ h => h) (Or.inl ⟨by rfl, ?_⟩) ?_ ?_
   rotate_left
   ·intro w'
    go_simp
    with_reducible rfl
   rotate_left
   ·simp only [Act.put, sI, sZ, sS, i64_w, i32_w]
    rfl
   refine last_ (i := 12) (N := none) #[true, true, true, true, true, true, true, true, true, true, true, true, true, false] rfl rfl (by kernel_rfl) (by decide) (fun K hK => ?_)
   obtain ⟨s0, s1, s2, s3⟩ := hHeld
   have z0 := (xag s2 0).trans rfl
   have z1 := (xag s2 1).trans rfl
   have z2 := (xag s2 2).trans rfl
   have y0 := xal s2 0
   have y1 := xal s2 1
   have y2 := xal s2 2
   refine skip_ (w1 := ?_) (by rfl) rfl ?_ ?_
   rotate_left
   ·go_simp
    rfl
   refine hK.out _ _ ?_
   clear hK K
   refine pure_ (i := 13) (N := some 5) (v := ?_) (a' := ?_) #[true, true, true, true, true, true, true, true, true, true, true, true, true, true] rfl rfl (by kernel_rfl) (fun _ _ _ h => h) (Or.inl ⟨by rfl, ?_⟩) ?_ ?_
   rotate_left
   ·intro w'
    go_simp
    with_reducible rfl
   rotate_left
   ·simp only [Act.put, sI, sZ, sS, i64_w, i32_w]
    rfl
   refine done_ (by kernel_rfl) ?_
   go_wp2_with fail
   refine bodyPost_ret (xar rfl _ _ w.heap.size 26 #[.int .i8 0, .int .i64 0, .string ⟨#[]⟩] (0, 0) _ rfl (put3 s2) Tryd.underlying26 rfl (by kernel_rfl)) rfl ?_
   exact ⟨rfl, below3 s3.out (Nat.le_refl _) _ _ _⟩
  ·rw [if_neg hz] at h2
   subst h2
   refine start_ (n := 14) (S := fun w' => w'.cell? ⟨ad.block, ad.off + 2, none⟩ = some (.string (rd_T26 l (0 : Int)).f2) ∧ w'.cell? ⟨ad.block, ad.off + 3 + 2, none⟩ = some (.string (rd_T26 l (1 : Int)).f2) ∧ w'.heap[w.heap.size]? = some (.cells #[.int .i8 0, .int .i64 0, .string ⟨#[]⟩] 26 (0, 0)) ∧ Hid (Below w.heap.size w w')) (ds := [12]) #[false, false, false, false, false, false, false, false, false, false, false, false, false, false] (by kernel_rfl) rfl rfl ⟨g2, j2, HK1.out, (Lib.hid (xaw HB.out))⟩ (fun hHeld => ?_)
   refine pure_ (i := 0) (N := some 102) (v := ?_) (a' := ?_) #[true, false, false, false, false, false, false, false, false, false, false, false, false, false] rfl rfl (by kernel_rfl) (fun _ _ _ h => h) (Or.inl ⟨by rfl, ?_⟩) ?_ ?_
   rotate_left
   ·intro w'
    go_simp
    with_reducible rfl
   rotate_left
   ·simp only [Act.put, sI, sZ, sS, i64_w, i32_w]
    rfl
   refine pure_ (i := 1) (N := some 103) (v := ?_) (a' := ?_) #[true, true, false, false, false, false, false, false, false, false, false, false, false, false] rfl rfl (by kernel_rfl) (fun _ _ _ h => h) (Or.inl ⟨by rfl, ?_⟩) ?_ ?_
   rotate_left
   ·intro w'
    go_simp
    with_reducible rfl
   rotate_left
   ·simp only [Act.put, sI, sZ, sS, i64_w, i32_w]
    rfl
   refine pure_ (i := 2) (N := some 104) (v := ?_) (a' := ?_) #[true, true, true, false, false, false, false, false, false, false, false, false, false, false] rfl rfl (by kernel_rfl) (fun _ _ _ h => h) (Or.inl ⟨by rfl, ?_⟩) ?_ ?_
   rotate_left
   ·intro w'
    go_simp
    with_reducible rfl
   rotate_left
   ·simp only [Act.put, sI, sZ, sS, i64_w, i32_w]
    rfl
   refine pure_ (i := 4) (N := some 106) (v := ?_) (a' := ?_) #[true, true, true, false, true, false, false, false, false, false, false, false, false, false] rfl rfl (by kernel_rfl) (fun _ _ _ h => h) (Or.inl ⟨by rfl, ?_⟩) ?_ ?_
   rotate_left
   ·intro w'
    go_simp
    with_reducible rfl
   rotate_left
   ·simp only [Act.put, sI, sZ, sS, i64_w, i32_w]
    rfl
   refine pure_ (i := 5) (N := some 107) (v := ?_) (a' := ?_) #[true, true, true, false, true, true, false, false, false, false, false, false, false, false] rfl rfl (by kernel_rfl) (fun _ _ _ h => h) (Or.inl ⟨by rfl, ?_⟩) ?_ ?_
   rotate_left
   ·intro w'
    go_simp
    with_reducible rfl
   rotate_left
   ·simp only [Act.put, sI, sZ, sS, i64_w, i32_w]
    rfl
   refine pure_ (i := 6) (N := some 108) (v := ?_) (a' := ?_) #[true, true, true, false, true, true, true, false, false, false, false, false, false, false] rfl rfl (by kernel_rfl) (fun _ _ _ h => h) (Or.inl ⟨by rfl, ?_⟩) ?_ ?_
   rotate_left
   ·intro w'
    go_simp
    with_reducible rfl
   rotate_left
   ·simp only [Act.put, sI, sZ, sS, i64_w, i32_w]
    rfl
   refine take_ (i := 3) (N := some 105) (v := ?_) (a' := ?_) #[true, true, true, true, true, true, true, false, false, false, false, false, false, false] rfl rfl (by kernel_rfl) (fun _ _ _ h => h) (Or.inl ⟨by rfl, ?_⟩) hHeld ?_ ?_
   rotate_left
   ·rintro w' ⟨s0, s1, s2, s3⟩
    go_simp
    with_reducible rfl
   rotate_left
   ·simp only [Act.put, sI, sZ, sS, i64_w, i32_w]
    rfl
   refine take_ (i := 7) (N := some 109) (v := ?_) (a' := ?_) #[true, true, true, true, true, true, true, true, false, false, false, false, false, false] rfl rfl (by kernel_rfl) (fun _ _ _ h => h) (Or.inl ⟨by rfl, ?_⟩) hHeld ?_ ?_
   rotate_left
   ·rintro w' ⟨s0, s1, s2, s3⟩
    go_simp
    with_reducible rfl
   rotate_left
   ·simp only [Act.put, sI, sZ, sS, i64_w, i32_w]
    rfl
   refine pure_ (i := 8) (N := some 110) (v := ?_) (a' := ?_) #[true, true, true, true, true, true, true, true, true, false, false, false, false, false] rfl rfl (by kernel_rfl) (fun _ _ _ h => h) (Or.inl ⟨by rfl, ?_⟩) ?_ ?_
   rotate_left
   ·intro w'
    go_simp
    with_reducible rfl
   rotate_left
   ·simp only [Act.put, sI, sZ, sS, i64_w, i32_w]
    rfl
   refine one_ (i := 9) (N := some 111) #[true, true, true, true, true, true, true, true, true, true, false, false, false, false] rfl rfl (by kernel_rfl) (by decide) (fun K hK => ?_)
   obtain ⟨s0, s1, s2, s3⟩ := hHeld
   refine goes_ Tryd.func62 (by kernel_rfl) rfl #[.string ((rd_T26 l (0 : Int)).f2 ++ (rd_T26 l (1 : Int)).f2)] (by rfl) rfl rfl (by simp only [List.map_toArray, List.map_cons, List.map_nil]; rfl) ?_
   with_reducible refine (value_text.calls ((rd_T26 l (0 : Int)).f2 ++ (rd_T26 l (1 : Int)).f2) 2 0 ((rd_T26 l (0 : Int)).f2 ++ (rd_T26 l (1 : Int)).f2) true _ (by rw [value_text.f, if_neg hz])).mono ?_
   rintro ee w3 ⟨rfl, hb⟩
   refine ⟨_, rfl, ?_⟩
   refine hK.out _ _ ⟨(xaj hb s0), (xaj hb s1), (xak s2 hb), (Lib.hid (xae s3.out hb))⟩ (fun hHeld => ?_)
   clear hK K
   refine norm_ (a' := ?_) ?_ ?_
   rotate_left
   ·show Act.put _ (some 111) _ = _
    simp only [Act.put, sI, sZ, sS, i64_w, i32_w]
    rfl
   refine pure_ (i := 10) (N := some 112) (v := ?_) (a' := ?_) #[true, true, true, true, true, true, true, true, true, true, true, false, false, false] rfl rfl (by kernel_rfl) (fun _ _ _ h => h) (Or.inl ⟨by rfl, ?_⟩) ?_ ?_
   rotate_left
   ·intro w'
    go_simp
    with_reducible rfl
   rotate_left
   ·simp only [Act.put, sI, sZ, sS, i64_w, i32_w]
    rfl
   refine pure_ (i := 11) (N := some 113) (v := ?_) (a' := ?_) #[true, true, true, true, true, true, true, true, true, true, true, true, false, false] rfl rfl (by kernel_rfl) (fun _ _ _ h => h) (Or.inl ⟨by rfl, ?_⟩) ?_ ?_
   rotate_left
   ·intro w'
    go_simp
    with_reducible rfl
   rotate_left
   ·simp only [Act.put, sI, sZ, sS, i64_w, i32_w]
    rfl
   refine last_ (i := 12) (N := none) #[true, true, true, true, true, true, true, true, true, true, true, true, true, false] rfl rfl (by kernel_rfl) (by decide) (fun K hK => ?_)
   obtain ⟨s0, s1, s2, s3⟩ := hHeld
   have z0 := (xag s2 0).trans rfl
   have z1 := (xag s2 1).trans rfl
   have z2 := (xag s2 2).trans rfl
   have y0 := xal s2 0
   have y1 := xal s2 1
   have y2 := xal s2 2
   refine skip_ (w1 := ?_) (by rfl) rfl ?_ ?_
   rotate_left
   ·go_simp
    rfl
   refine hK.out _ _ ?_
   clear hK K
   refine pure_ (i := 13) (N := some 5) (v := ?_) (a' := ?_) #[true, true, true, true, true, true, true, true, true, true, true, true, true, true] rfl rfl (by kernel_rfl) (fun _ _ _ h => h) (Or.inl ⟨by rfl, ?_⟩) ?_ ?_
   rotate_left
   ·intro w'
    go_simp
    with_reducible rfl
   rotate_left
   ·simp only [Act.put, sI, sZ, sS, i64_w, i32_w]
    rfl
   refine done_ (by kernel_rfl) ?_
   go_wp2_with fail
   refine bodyPost_ret (xar rfl _ _ w.heap.size 26 #[.int .i8 2, .int .i64 0, .string ((rd_T26 l (0 : Int)).f2 ++ (rd_T26 l (1 : Int)).f2)] (0, 0) _ rfl (put3 s2) Tryd.underlying26 rfl (by kernel_rfl)) rfl ?_
   exact ⟨rfl, below3 s3.out (Nat.le_refl _) _ _ _⟩
set_option maxHeartbeats 2000000 in
set_option maxRecDepth 100000 in
theorem arith_8 (A : Option Addr) (c : Nat) (l : List S26) (r : Int × Int × ByteArray × Bool) (w : World) (hr : Kd.C k26 w A l.length l) (hc : l.length ≤ c) (hT : TabA w) (h : arithV 8 l = r) :
  Calls Tryd.prog 17 #[.int .i8 8, .slice A l.length c] w fun e w' => e = .returned (.tuple #[.agg #[.int .i8 r.1, .int .i64 r.2.1, .string r.2.2.1], .bool r.2.2.2]) ∧ Below w.heap.size w w' := by
 have hcell := xbh hT (.cells #[.int .i8 0, .int .i64 0, .string ⟨#[]⟩] 26) 8 (by decide)
 have HR := Lib.hid hr
 have HK := Lib.hid (xau w (.cells #[.int .i8 0, .int .i64 0, .string ⟨#[]⟩] 26 (0, 0)))
 have HW := Lib.hid (xab (Below.refl w.heap.size w) (.cells #[.int .i8 0, .int .i64 0, .string ⟨#[]⟩] 26))
 clear hr hT
 obtain ⟨k, hk⟩ := (fits_ev 3 (by decide) l).at
 go_enter Tryd.func17, Tryd.ntmps17
 go_wp2_with fail
 refine (value_fits.calls (k := k) (hr1 := Kd.C_below HR.out HW.out) (hc1 := hc) (h := hk)).mono ?_
 rintro e w1 ⟨rfl, hb⟩
 have HB := Lib.hid (xae HW.out hb)
 have HK1 := Lib.hid (xak HK.out hb)
 clear hb hcell HK HW hk
 cases hf : fitsV 3 l with
 | false =>
  have hr0 := (xbr (op := 8) (l := l) hf).symm.trans h
  subst hr0
  have z0 : w1.cell? ⟨w.heap.size, 0, none⟩ = some (.int .i8 0) := (xag HK1.out 0).trans rfl
  have z1 : w1.cell? ⟨w.heap.size, 1, none⟩ = some (.int .i64 0) := (xag HK1.out 1).trans rfl
  have z2 : w1.cell? ⟨w.heap.size, 2, none⟩ = some (.string ⟨#[]⟩) := (xag HK1.out 2).trans rfl
  have y0 := xal HK1.out 0
  have y1 := xal HK1.out 1
  have y2 := xal HK1.out 2
  go_wp2_with fail
  refine bodyPost_ret (xar rfl _ _ w.heap.size 26 #[.int .i8 0, .int .i64 0, .string ⟨#[]⟩] (0, 0) _ rfl (put3 HK1.out) Tryd.underlying26 rfl (by kernel_rfl)) rfl ?_
  exact ⟨rfl, below3 HB.out (Nat.le_refl _) _ _ _⟩
 | true =>
  have hlen := xbt hf
  have hlen' : l.length = 1 := hlen
  rw [arithV, if_neg (xbl (op := 8) (l := l) (by decide) (by decide) hf)] at h
  obtain ⟨ad, rfl, g0, g1, g2⟩ := at_T26 (Kd.C_below HR.out HB.out) (0 : Int) (by omega) (by omega)
  rw [show ad.add ((0 : Int).toNat * 3) = ad by cases ad; simp [Addr.add]] at g0 g1 g2
  have h2 : ((1, ((rd_T26 l (0 : Int)).f2.size : Int), ⟨#[]⟩, true) : Int × Int × ByteArray × Bool) = r := h
  subst h2
  clear h
  go_wp2_with fail
  refine (value_number.calls (((rd_T26 l (0 : Int)).f2.size : Int)) 1 (((rd_T26 l (0 : Int)).f2.size : Int)) ⟨#[]⟩ true w1 rfl).mono ?_
  rintro e w2 ⟨rfl, hb⟩
  have HB2 := Lib.hid (xae HB.out hb)
  have HK2 := Lib.hid (xak HK1.out hb)
  clear hb
  have z0 : w2.cell? ⟨w.heap.size, 0, none⟩ = some (.int .i8 0) := (xag HK2.out 0).trans rfl
  have y0 := xal HK2.out 0
  have z1 : w2.cell? ⟨w.heap.size, 1, none⟩ = some (.int .i64 0) := (xag HK2.out 1).trans rfl
  have y1 := xal HK2.out 1
  have z2 : w2.cell? ⟨w.heap.size, 2, none⟩ = some (.string ⟨#[]⟩) := (xag HK2.out 2).trans rfl
  have y2 := xal HK2.out 2
  go_wp2_with fail
  refine bodyPost_ret (xar rfl _ _ w.heap.size 26 #[.int .i8 1, .int .i64 (((rd_T26 l (0 : Int)).f2.size : Int)), .string ⟨#[]⟩] (0, 0) _ rfl (put3 HK2.out) Tryd.underlying26 rfl (by kernel_rfl)) rfl ?_
  exact ⟨rfl, below3 HB2.out (Nat.le_refl _) _ _ _⟩
set_option maxHeartbeats 2000000 in
set_option maxRecDepth 100000 in
theorem arith_9 (A : Option Addr) (c : Nat) (l : List S26) (r : Int × Int × ByteArray × Bool) (w : World) (hr : Kd.C k26 w A l.length l) (hc : l.length ≤ c) (hT : TabA w) (h : arithV 9 l = r) :
  Calls Tryd.prog 17 #[.int .i8 9, .slice A l.length c] w fun e w' => e = .returned (.tuple #[.agg #[.int .i8 r.1, .int .i64 r.2.1, .string r.2.2.1], .bool r.2.2.2]) ∧ Below w.heap.size w w' := by
 have hcell := xbh hT (.cells #[.int .i8 0, .int .i64 0, .string ⟨#[]⟩] 26) 9 (by decide)
 have HR := Lib.hid hr
 have HK := Lib.hid (xau w (.cells #[.int .i8 0, .int .i64 0, .string ⟨#[]⟩] 26 (0, 0)))
 have HW := Lib.hid (xab (Below.refl w.heap.size w) (.cells #[.int .i8 0, .int .i64 0, .string ⟨#[]⟩] 26))
 clear hr hT
 obtain ⟨k, hk⟩ := (fits_ev 3 (by decide) l).at
 go_enter Tryd.func17, Tryd.ntmps17
 go_wp2_with fail
 refine (value_fits.calls (k := k) (hr1 := Kd.C_below HR.out HW.out) (hc1 := hc) (h := hk)).mono ?_
 rintro e w1 ⟨rfl, hb⟩
 have HB := Lib.hid (xae HW.out hb)
 have HK1 := Lib.hid (xak HK.out hb)
 clear hb hcell HK HW hk
 cases hf : fitsV 3 l with
 | false =>
  have hr0 := (xbr (op := 9) (l := l) hf).symm.trans h
  subst hr0
  have z0 : w1.cell? ⟨w.heap.size, 0, none⟩ = some (.int .i8 0) := (xag HK1.out 0).trans rfl
  have z1 : w1.cell? ⟨w.heap.size, 1, none⟩ = some (.int .i64 0) := (xag HK1.out 1).trans rfl
  have z2 : w1.cell? ⟨w.heap.size, 2, none⟩ = some (.string ⟨#[]⟩) := (xag HK1.out 2).trans rfl
  have y0 := xal HK1.out 0
  have y1 := xal HK1.out 1
  have y2 := xal HK1.out 2
  go_wp2_with fail
  refine bodyPost_ret (xar rfl _ _ w.heap.size 26 #[.int .i8 0, .int .i64 0, .string ⟨#[]⟩] (0, 0) _ rfl (put3 HK1.out) Tryd.underlying26 rfl (by kernel_rfl)) rfl ?_
  exact ⟨rfl, below3 HB.out (Nat.le_refl _) _ _ _⟩
 | true =>
  have hlen := xbt hf
  have hlen' : l.length = 1 := hlen
  rw [arithV, if_neg (xbl (op := 9) (l := l) (by decide) (by decide) hf)] at h
  obtain ⟨ad, rfl, g0, g1, g2⟩ := at_T26 (Kd.C_below HR.out HB.out) (0 : Int) (by omega) (by omega)
  rw [show ad.add ((0 : Int).toNat * 3) = ad by cases ad; simp [Addr.add]] at g0 g1 g2
  have h2 : ((1, charsL (rd_T26 l (0 : Int)).f2 (rd_T26 l (0 : Int)).f2.size 0 0, ⟨#[]⟩, true) : Int × Int × ByteArray × Bool) = r := h
  subst h2
  clear h
  have hs2 := fits_size hf _ (show (rd_T26 l (0 : Int)) ∈ l by
   show l.getD 0 z26 ∈ l
   rw [List.getD_eq_getElem?_getD, List.getElem?_eq_getElem (by omega)]
   exact List.getElem_mem _)
  go_wp2_with fail
  go_loopw [8] (fun v wr => ∃ (pos b : Nat) (n : Nat), wr = w1.iter (rd_T26 l (0 : Int)).f2 pos ∧ v = .int .i64 n ∧ n ≤ pos ∧ pos ≤ (rd_T26 l (0 : Int)).f2.size ∧ (rd_T26 l (0 : Int)).f2.size ≤ pos + b ∧ Hid (charsL (rd_T26 l (0 : Int)).f2 b pos n = charsL (rd_T26 l (0 : Int)).f2 (rd_T26 l (0 : Int)).f2.size 0 0)) (fun _ wr => (rd_T26 l (0 : Int)).f2.size - wr.iterPos w1.heap.size)
  case atStart => exact ⟨0, (rd_T26 l (0 : Int)).f2.size, 0, rfl, rfl, Nat.le_refl _, Nat.zero_le _, by omega, Lib.hid rfl⟩
  case round =>
   obtain ⟨pos, b, n, rfl, rfl, hn, hp1, hb, HT⟩ := hrel
   by_cases hp : pos < (rd_T26 l (0 : Int)).f2.size
   ·have hnx : ∀ ty, (Instr.next (.pointer (some ⟨w1.heap.size, 0, none⟩)) true ty).run Tryd.prog (w1.iter (rd_T26 l (0 : Int)).f2 pos) = _ := fun ty => run_next_any w1 (rd_T26 l (0 : Int)).f2 pos ty hp
    go_wp2_with fail
    obtain ⟨q1, q2⟩ := width_pos (rd_T26 l (0 : Int)).f2 pos hp
    go_roundw
    case rel =>
     refine ⟨pos + (Utf8.decode (rd_T26 l (0 : Int)).f2 pos).2, b - 1, n + 1, rfl, by go_num, by omega, q2, by omega, Lib.hid ?_⟩
     rw [← HT.out]
     cases b with
     | zero => omega
     | succ b => rw [charsL, if_pos hp]; rfl
    case measure =>
     simp
     omega
   ·have hnx : ∀ ty, (Instr.next (.pointer (some ⟨w1.heap.size, 0, none⟩)) true ty).run Tryd.prog (w1.iter (rd_T26 l (0 : Int)).f2 pos) = _ := fun ty => run_next_end w1 (rd_T26 l (0 : Int)).f2 pos ty hp
    go_wp2_with fail
    have HBi := Lib.hid (show Below w.heap.size w (w1.iter (rd_T26 l (0 : Int)).f2 pos) from xab HB.out _)
    have HKi := Lib.hid (show (w1.iter (rd_T26 l (0 : Int)).f2 pos).heap[w.heap.size]? = _ from xad HK1.out _)
    have hend : charsL (rd_T26 l (0 : Int)).f2 b pos n = n := by
     cases b with
     | zero => rfl
     | succ b => rw [charsL, if_neg hp]
    have HN := Lib.hid (hend.symm.trans HT.out)
    clear HT hnx HB HK1 HR
    generalize w1.iter (rd_T26 l (0 : Int)).f2 pos = w2 at *
    refine (value_number.calls (n : Int) 1 (n : Int) ⟨#[]⟩ true w2 rfl).mono ?_
    rintro e w4 ⟨rfl, hb⟩
    have HB4 := Lib.hid (xae HBi.out hb)
    have HK4 := Lib.hid (xak HKi.out hb)
    clear hb
    have z0 : w4.cell? ⟨w.heap.size, 0, none⟩ = some (.int .i8 0) := (xag HK4.out 0).trans rfl
    have y0 := xal HK4.out 0
    have z1 : w4.cell? ⟨w.heap.size, 1, none⟩ = some (.int .i64 0) := (xag HK4.out 1).trans rfl
    have y1 := xal HK4.out 1
    have z2 : w4.cell? ⟨w.heap.size, 2, none⟩ = some (.string ⟨#[]⟩) := (xag HK4.out 2).trans rfl
    have y2 := xal HK4.out 2
    go_wp2_with fail
    rw [← HN.out]
    refine bodyPost_ret (xar rfl _ _ w.heap.size 26 #[.int .i8 1, .int .i64 (n : Int), .string ⟨#[]⟩] (0, 0) _ rfl (put3 HK4.out) Tryd.underlying26 rfl (by kernel_rfl)) rfl ?_
    exact ⟨rfl, below3 HB4.out (Nat.le_refl _) _ _ _⟩
set_option maxHeartbeats 2000000 in
set_option maxRecDepth 100000 in
theorem arith_10 (A : Option Addr) (c : Nat) (l : List S26) (r : Int × Int × ByteArray × Bool) (w : World) (hr : Kd.C k26 w A l.length l) (hc : l.length ≤ c) (hT : TabA w) (h : arithV 10 l = r) :
  Calls Tryd.prog 17 #[.int .i8 10, .slice A l.length c] w fun e w' => e = .returned (.tuple #[.agg #[.int .i8 r.1, .int .i64 r.2.1, .string r.2.2.1], .bool r.2.2.2]) ∧ Below w.heap.size w w' := by
 have hcell := xbh hT (.cells #[.int .i8 0, .int .i64 0, .string ⟨#[]⟩] 26) 10 (by decide)
 have HR := Lib.hid hr
 have HK := Lib.hid (xau w (.cells #[.int .i8 0, .int .i64 0, .string ⟨#[]⟩] 26 (0, 0)))
 have HW := Lib.hid (xab (Below.refl w.heap.size w) (.cells #[.int .i8 0, .int .i64 0, .string ⟨#[]⟩] 26))
 clear hr hT
 obtain ⟨k, hk⟩ := (fits_ev 3 (by decide) l).at
 go_enter Tryd.func17, Tryd.ntmps17
 go_wp2_with fail
 refine (value_fits.calls (k := k) (hr1 := Kd.C_below HR.out HW.out) (hc1 := hc) (h := hk)).mono ?_
 rintro e w1 ⟨rfl, hb⟩
 have HB := Lib.hid (xae HW.out hb)
 have HK1 := Lib.hid (xak HK.out hb)
 clear hb hcell HK HW hk
 cases hf : fitsV 3 l with
 | false =>
  have hr0 := (xbr (op := 10) (l := l) hf).symm.trans h
  subst hr0
  have z0 : w1.cell? ⟨w.heap.size, 0, none⟩ = some (.int .i8 0) := (xag HK1.out 0).trans rfl
  have z1 : w1.cell? ⟨w.heap.size, 1, none⟩ = some (.int .i64 0) := (xag HK1.out 1).trans rfl
  have z2 : w1.cell? ⟨w.heap.size, 2, none⟩ = some (.string ⟨#[]⟩) := (xag HK1.out 2).trans rfl
  have y0 := xal HK1.out 0
  have y1 := xal HK1.out 1
  have y2 := xal HK1.out 2
  go_wp2_with fail
  refine bodyPost_ret (xar rfl _ _ w.heap.size 26 #[.int .i8 0, .int .i64 0, .string ⟨#[]⟩] (0, 0) _ rfl (put3 HK1.out) Tryd.underlying26 rfl (by kernel_rfl)) rfl ?_
  exact ⟨rfl, below3 HB.out (Nat.le_refl _) _ _ _⟩
 | true =>
  have hlen := xbt hf
  have hlen' : l.length = 1 := hlen
  rw [arithV, if_neg (xbl (op := 10) (l := l) (by decide) (by decide) hf)] at h
  obtain ⟨ad, rfl, g0, g1, g2⟩ := at_T26 (Kd.C_below HR.out HB.out) (0 : Int) (by omega) (by omega)
  rw [show ad.add ((0 : Int).toNat * 3) = ad by cases ad; simp [Addr.add]] at g0 g1 g2
  have h2 : (if ((backOf (rd_T26 l (0 : Int)).f2).size : Int) > 200 then ((0, 0, ⟨#[]⟩, false) : Int × Int × ByteArray × Bool) else (2, 0, (backOf (rd_T26 l (0 : Int)).f2), true)) = r := h
  clear h
  have hs2 := fits_size hf _ (show (rd_T26 l (0 : Int)) ∈ l by
   show l.getD 0 z26 ∈ l
   rw [List.getD_eq_getElem?_getD, List.getElem?_eq_getElem (by omega)]
   exact List.getElem_mem _)
  go_wp2_with fail
  refine (value_back.calls (rd_T26 l (0 : Int)).f2 (backOf (rd_T26 l (0 : Int)).f2) w1 (by rw [value_back.f, if_pos (by omega)])).mono ?_
  rintro e w3 ⟨rfl, hb⟩
  have HB3 := Lib.hid (xae HB.out hb)
  have HK3 := Lib.hid (xak HK1.out hb)
  clear hb HB HK1
  by_cases hz : ((backOf (rd_T26 l (0 : Int)).f2).size : Int) > 200
  ·rw [if_pos hz] at h2
   subst h2
   go_wp2_with fail
   refine (value_text.calls (backOf (rd_T26 l (0 : Int)).f2) 0 0 ⟨#[]⟩ false w3 (by rw [value_text.f, if_pos hz])).mono ?_
   rintro e w4 ⟨rfl, hb⟩
   have HB4 := Lib.hid (xae HB3.out hb)
   have HK4 := Lib.hid (xak HK3.out hb)
   clear hb
   have z0 : w4.cell? ⟨w.heap.size, 0, none⟩ = some (.int .i8 0) := (xag HK4.out 0).trans rfl
   have y0 := xal HK4.out 0
   have z1 : w4.cell? ⟨w.heap.size, 1, none⟩ = some (.int .i64 0) := (xag HK4.out 1).trans rfl
   have y1 := xal HK4.out 1
   have z2 : w4.cell? ⟨w.heap.size, 2, none⟩ = some (.string ⟨#[]⟩) := (xag HK4.out 2).trans rfl
   have y2 := xal HK4.out 2
   go_wp2_with fail
   refine bodyPost_ret (xar rfl _ _ w.heap.size 26 #[.int .i8 0, .int .i64 0, .string ⟨#[]⟩] (0, 0) _ rfl (put3 HK4.out) Tryd.underlying26 rfl (by kernel_rfl)) rfl ?_
   exact ⟨rfl, below3 HB4.out (Nat.le_refl _) _ _ _⟩
  ·rw [if_neg hz] at h2
   subst h2
   go_wp2_with fail
   refine (value_text.calls (backOf (rd_T26 l (0 : Int)).f2) 2 0 (backOf (rd_T26 l (0 : Int)).f2) true w3 (by rw [value_text.f, if_neg (by omega)])).mono ?_
   rintro e w4 ⟨rfl, hb⟩
   have HB4 := Lib.hid (xae HB3.out hb)
   have HK4 := Lib.hid (xak HK3.out hb)
   clear hb
   have z0 : w4.cell? ⟨w.heap.size, 0, none⟩ = some (.int .i8 0) := (xag HK4.out 0).trans rfl
   have y0 := xal HK4.out 0
   have z1 : w4.cell? ⟨w.heap.size, 1, none⟩ = some (.int .i64 0) := (xag HK4.out 1).trans rfl
   have y1 := xal HK4.out 1
   have z2 : w4.cell? ⟨w.heap.size, 2, none⟩ = some (.string ⟨#[]⟩) := (xag HK4.out 2).trans rfl
   have y2 := xal HK4.out 2
   go_wp2_with fail
   refine bodyPost_ret (xar rfl _ _ w.heap.size 26 #[.int .i8 2, .int .i64 0, .string (backOf (rd_T26 l (0 : Int)).f2)] (0, 0) _ rfl (put3 HK4.out) Tryd.underlying26 rfl (by kernel_rfl)) rfl ?_
   exact ⟨rfl, below3 HB4.out (Nat.le_refl _) _ _ _⟩
set_option maxHeartbeats 2000000 in
set_option maxRecDepth 100000 in
theorem arith_out (op : Int) (hrg : -128 ≤ op ∧ op ≤ 127) (hop : op < 0 ∨ 11 ≤ op) (A : Option Addr) (c : Nat) (l : List S26) (w : World) :
  Calls Tryd.prog 17 #[.int .i8 op, .slice A l.length c] w fun e w' => e = .returned (.tuple #[.agg #[.int .i8 0, .int .i64 0, .string ⟨#[]⟩], .bool false]) ∧ Below w.heap.size w w' := by
 have HK := Lib.hid (xau w (.cells #[.int .i8 0, .int .i64 0, .string ⟨#[]⟩] 26 (0, 0)))
 have HW := Lib.hid (xab (Below.refl w.heap.size w) (.cells #[.int .i8 0, .int .i64 0, .string ⟨#[]⟩] 26))
 obtain ⟨hrg1, hrg2⟩ := hrg
 rcases hop with h | h
 ·have hd : decide (op < 0) = true := decide_eq_true h
  go_enter Tryd.func17, Tryd.ntmps17
  go_wp2_with fail
  refine bodyPost_ret (xar rfl _ _ w.heap.size 26 #[.int .i8 0, .int .i64 0, .string ⟨#[]⟩] (0, 0) _ rfl HK.out Tryd.underlying26 rfl (by kernel_rfl)) rfl ?_
  exact ⟨rfl, HW.out⟩
 ·have hd : decide (op < 0) = false := decide_eq_false (by omega)
  have hd2 : decide (11 ≤ op) = true := decide_eq_true h
  go_enter Tryd.func17, Tryd.ntmps17
  go_wp2_with fail
  refine bodyPost_ret (xar rfl _ _ w.heap.size 26 #[.int .i8 0, .int .i64 0, .string ⟨#[]⟩] (0, 0) _ rfl HK.out Tryd.underlying26 rfl (by kernel_rfl)) rfl ?_
  exact ⟨rfl, HW.out⟩
def value_Arith.f (op : Int) (l : List S26) : Option (Int × Int × ByteArray × Bool) := if -128 ≤ op ∧ op ≤ 127 then some (arithV op l) else none
theorem value_Arith.calls (a0 : Int) (A1 : Option Addr) (c1 : Nat) (l1 : List (S26)) (r1 : Int) (r2 : Int) (r3 : ByteArray) (r4 : Bool) (w : World) (hr1 : Kd.C k26 w A1 l1.length l1) (hc1 : l1.length ≤ c1) (h : value_Arith.f a0 l1 = some (r1, r2, r3, r4)) (hTA : TabA w) :
  Calls Tryd.prog 17 #[.int .i8 a0, .slice A1 l1.length c1] w fun e w' => e = .returned (.tuple #[.agg #[.int .i8 r1, .int .i64 r2, .string r3], .bool r4]) ∧ Below w.heap.size w w' := by
 have hrg : -128 ≤ a0 ∧ a0 ≤ 127 := by
  rw [value_Arith.f] at h; split at h
  ·assumption
  ·simp at h
 rw [value_Arith.f, if_pos hrg] at h
 have h' : arithV a0 l1 = (r1, r2, r3, r4) := Option.some.inj h
 by_cases hop : a0 < 0 ∨ 11 ≤ a0
 ·have e : arithV a0 l1 = (0, 0, ⟨#[]⟩, false) := by
   rw [arithV, if_pos]
   rcases hop with h | h
   ·exact .inl h
   ·exact .inr (.inl h)
  rw [e] at h'
  obtain ⟨rfl, rfl, rfl, rfl⟩ : 0 = r1 ∧ 0 = r2 ∧ (⟨#[]⟩ : ByteArray) = r3 ∧ false = r4 := by simpa using h'
  exact arith_out a0 hrg hop A1 c1 l1 w
 ·rcases (by omega : a0 = 0 ∨ a0 = 1 ∨ a0 = 2 ∨ a0 = 3 ∨ a0 = 4 ∨ a0 = 5 ∨ a0 = 6 ∨ a0 = 7 ∨ a0 = 8 ∨ a0 = 9 ∨ a0 = 10) with rfl | rfl | rfl | rfl | rfl | rfl | rfl | rfl | rfl | rfl | rfl
  ·exact arith_0 A1 c1 l1 _ w hr1 hc1 hTA h'
  ·exact arith_1 A1 c1 l1 _ w hr1 hc1 hTA h'
  ·exact arith_2 A1 c1 l1 _ w hr1 hc1 hTA h'
  ·exact arith_3 A1 c1 l1 _ w hr1 hc1 hTA h'
  ·exact arith_4 A1 c1 l1 _ w hr1 hc1 hTA h'
  ·exact arith_5 A1 c1 l1 _ w hr1 hc1 hTA h'
  ·exact arith_6 A1 c1 l1 _ w hr1 hc1 hTA h'
  ·exact arith_7 A1 c1 l1 _ w hr1 hc1 hTA h'
  ·exact arith_8 A1 c1 l1 _ w hr1 hc1 hTA h'
  ·exact arith_9 A1 c1 l1 _ w hr1 hc1 hTA h'
  ·exact arith_10 A1 c1 l1 _ w hr1 hc1 hTA h'
def r1_kinds.l0 : Nat → List (S26) → Int → Int → Int → Option (Bool)
 | 0, _, _, _, _ => none
 | k + 1, x0, x1, x2, x7 => if x7 < x1 then (if 0 ≤ x7 then (if x7 < (x0.length : Int) then (if ((rd_T26 x0 x7).f0) = x2 then ((r1_Check.f ((rd_T26 x0 x7).f0) ((rd_T26 x0 x7).f1) ((rd_T26 x0 x7).f2)).bind fun t404 => (if t404 = 0 then (r1_kinds.l0 k x0 x1 x2 (wrap64 (x7 + 1))) else (some false))) else (some false)) else (none)) else (none)) else (some true)
def r1_kinds.f (k : Nat) (l0 : List (S26)) (a1 : Int) (a2 : Int) : Option (Bool) := if (l0.length : Int) = a1 then (r1_kinds.l0 k l0 a1 a2 0) else (some false)
def r1_quotient.f (a0 : Int) (a1 : Int) : Option (Int) := if a1 = (-1) then (some (wrap64 (-a0))) else (if a1 = 0 then (none) else (some (wrap64 (Int.tdiv a0 a1))))
def r1_numbers.f (a0 : Int) (a1 : Int) (a2 : Int) : Option (Int × Int × ByteArray × Bool) := if a0 = 2 then (some (1, wrap64 (a1 + a2), (⟨#[]⟩ : ByteArray), true)) else (if a0 = 3 then (some (1, wrap64 (a1 - a2), (⟨#[]⟩ : ByteArray), true)) else (if a0 = 4 then (some (1, wrap64 (a1 * a2), (⟨#[]⟩ : ByteArray), true)) else (if a2 = 0 then (some (0, 0, (⟨#[]⟩ : ByteArray), false)) else ((r1_quotient.f a1 a2).bind fun t406 => (if a0 = 5 then (some (1, t406, (⟨#[]⟩ : ByteArray), true)) else (some (1, wrap64 (a1 - (wrap64 (t406 * a2))), (⟨#[]⟩ : ByteArray), true)))))))
mutual
def r1_follows.j0 : Nat → Int → Bool → Option (Int × Int × Int)
 | 0, _, _ => none
 | k + 1, x0, x10 => if x10 = true then (some (1, 128, wrap64 ((wrap64 (x0)) - 192))) else (if x0 ≥ 224 then (r1_follows.j1 k x0 (decide (x0 < 240))) else (r1_follows.j1 k x0 false))
def r1_follows.j1 : Nat → Int → Bool → Option (Int × Int × Int)
 | 0, _, _ => none
 | k + 1, x0, x20 => if x20 = true then (some (2, 2048, wrap64 ((wrap64 (x0)) - 224))) else (if x0 ≥ 240 then (if x0 < 248 then (some (3, 65536, wrap64 ((wrap64 (x0)) - 240))) else (some ((-1), 0, 0))) else (some ((-1), 0, 0)))
end
def r1_follows.f (k : Nat) (a0 : Int) : Option (Int × Int × Int) := if a0 < 128 then (some (0, 0, wrap64 (a0))) else (if a0 ≥ 192 then (r1_follows.j0 k a0 (decide (a0 < 224))) else (r1_follows.j0 k a0 false))
mutual
def r1_Char.j0 : Nat → ByteArray → Int → Int → Int → Int → Bool → Option (Int × Bool)
 | 0, _, _, _, _, _, _ => none
 | k + 1, x0, x1, x6, x7, x8, x28 => if x28 = true then (some (1, false)) else (r1_Char.l0 k x0 x1 x6 x7 x8 1)
def r1_Char.l0 : Nat → ByteArray → Int → Int → Int → Int → Int → Option (Int × Bool)
 | 0, _, _, _, _, _, _ => none
 | k + 1, x0, x1, x6, x7, x8, x9 => if x9 ≤ x6 then (if 0 ≤ (wrap64 (x1 + x9)) then (if (wrap64 (x1 + x9)) < (x0.size : Int) then (if (bt x0 (wrap64 (x1 + x9))) < 128 then (some (1, false)) else (if (bt x0 (wrap64 (x1 + x9))) ≥ 192 then (some (1, false)) else (r1_Char.l0 k x0 x1 x6 x7 (wrap64 ((wrap64 ((wrap64 (x8 * 64)) + (wrap64 (bt x0 (wrap64 (x1 + x9)))))) - 128)) (wrap64 (x9 + 1))))) else (none)) else (none)) else (if x8 < x7 then (some (1, false)) else (if x8 > 1114111 then (some (1, false)) else (if x8 ≥ 55296 then (if x8 ≤ 57343 then (some (1, false)) else (some (wrap64 (1 + x6), true))) else (some (wrap64 (1 + x6), true)))))
end
def r1_Char.f (k : Nat) (a0 : ByteArray) (a1 : Int) : Option (Int × Bool) := if 0 ≤ a1 then (if a1 < (a0.size : Int) then ((r1_follows.f k (bt a0 a1)).bind fun bt407 => (if bt407.1 < 0 then (r1_Char.j0 k a0 a1 bt407.1 bt407.2.1 bt407.2.2 true) else (r1_Char.j0 k a0 a1 bt407.1 bt407.2.1 bt407.2.2 (decide ((wrap64 (a1 + bt407.1)) ≥ (a0.size : Int)))))) else (none)) else (none)
def r1_Chars.l0 : Nat → ByteArray → List ByteArray → Int → Option (List ByteArray)
 | 0, _, _, _ => none
 | k + 1, x0, x3, x4 => if x4 < (x0.size : Int) then ((r1_Char.f k x0 x4).bind fun bt410 => (if 0 ≤ x4 then (if x4 ≤ (wrap64 (x4 + bt410.1)) then (if (wrap64 (x4 + bt410.1)) ≤ (x0.size : Int) then (if x3.length < 8796093022208 then (r1_Chars.l0 k x0 (x3 ++ [x0.extract (x4 : Int).toNat ((wrap64 (x4 + bt410.1)) : Int).toNat]) (wrap64 (x4 + bt410.1))) else (none)) else (none)) else (none)) else (none))) else (some x3)
def r1_Chars.f (k : Nat) (a0 : ByteArray) : Option (List ByteArray) := r1_Chars.l0 k a0 ([] : List ByteArray) 0
def r1_texts.l0 : Nat → List ByteArray → ByteArray → Int → Option (Int × Int × ByteArray × Bool)
 | 0, _, _, _ => none
 | k + 1, x6, x7, x8 => if x8 ≥ 0 then (if 0 ≤ x8 then (if x8 < (x6.length : Int) then (if x7.size + (rdOf ByteArray.empty x6 x8).size ≤ 9223372036854775807 then (r1_texts.l0 k x6 (x7 ++ (rdOf ByteArray.empty x6 x8)) (wrap64 (x8 - 1))) else (none)) else (none)) else (none)) else (some (2, 0, x7, true))
def r1_texts.f (k : Nat) (a0 : Int) (a1 : ByteArray) : Option (Int × Int × ByteArray × Bool) := if a0 = 8 then (some (1, (a1.size : Int), (⟨#[]⟩ : ByteArray), true)) else (if a0 = 9 then ((r1_Chars.f k a1).bind fun t416 => (some (1, (t416.length : Int), (⟨#[]⟩ : ByteArray), true))) else ((r1_Chars.f k a1).bind fun t419 => (r1_texts.l0 k t419 (⟨#[]⟩ : ByteArray) (wrap64 ((t419.length : Int) - 1)))))
theorem add_block (a : Addr) (n : Nat) : (a.add n).block = a.block := by unfold Addr.add; split <;> rfl
theorem kid_kept {w : World} {S : Nat → Prop} {A : Option Addr} {n : Nat} {xs : List S31} (h : ∀ W', Kept w W' S → Kd.C k31 W' A n xs) (k : Nat) (hk : k < n) :
  ∃ ad A5 c5, A = some ad ∧ ¬ S ad.block ∧ ad.block < w.heap.size ∧ ExprAt w (ad.add (k * 6)) (rd_T31 xs k) A5 c5 ∧ ∀ W', Kept w W' S → Kd.C k31 W' A5 (rd_T31 xs k).f2.length (rd_T31 xs k).f2 := by
 obtain ⟨ad, A5, c5, e0, hE⟩ := exprAt_elem (h w (Kept.refl w S)) k hk
 subst e0
 have hne := Kd.foot_neS h (by omega) (by decide)
 refine ⟨ad, A5, c5, rfl, hne, Kd.foot_ltS h (by omega) (by decide), hE, fun W' hW => ?_⟩
 obtain ⟨ad', A5', c5', e0', hE'⟩ := exprAt_elem (h W' hW) k hk
 injection e0' with e0'
 subst e0'
 have hc := cell_kept hE.c5 hW (by show ¬ S (ad.add (k * 6)).block; rw [add_block]; exact hne)
 rw [hE'.c5] at hc
 injection hc with hc
 injection hc with ha _ _
 rw [← ha]
 exact hE'.hC
structure ETI (w0 w wr : World) (P0 : Nat → Prop) (bx : Array Value) (v : Value) (L : List S28) : Prop where
 row : Kd.R k28 28 wr w0.heap.size (fun k => (P0 k ∨ w.heap.size ≤ k) ∧ k ≠ w.heap.size) v L
 below : Below w0.heap.size w0 wr
 kept : Kept w wr P0
 box : wr.heap[w.heap.size]? = some (.cells bx 31 (0, 0))
def ExprTermsAt (n : Nat) : Prop := ∀ (P0_ : Nat → Prop) (u : Value) (l0 : List S28) (x : S31) (A : Option Addr) (c : Nat) (w0 w : World), SizeOf.sizeOf x < n → Below w0.heap.size w0 w → Kd.R k28 28 w w0.heap.size P0_ u l0 → (∀ W_, Kept w W_ (fun k_ => P0_ k_) → Kd.C k31 W_ A x.f2.length x.f2) → x.f2.length ≤ c → l0.length + (exprTermsL x).length < 2000000000000 →
  Calls Tryd.prog 57 #[u, .agg #[.int .i8 x.f0, .string x.f1.f0, .int .i8 x.f1.f1.f0, .int .i64 x.f1.f1.f1, .string x.f1.f1.f2, .slice A x.f2.length c]] w fun e w' => ∃ v0_ : Value, e = .returned (v0_) ∧ Kd.R k28 28 w' w0.heap.size (fun k_ => (P0_ k_ ∨ w.heap.size ≤ k_)) v0_ (l0 ++ exprTermsL x) ∧ Below w0.heap.size w0 w' ∧ Kept w w' (fun k_ => P0_ k_)
set_option maxHeartbeats 4000000 in
set_option maxRecDepth 100000 in
theorem exprTerms_step (n : Nat) (ih : Hid (ExprTermsAt n)) : ExprTermsAt (n + 1) := by
 intro P0 u l0 x A c w0 w hn hB hO hr hc hlen
 have hm : x.f2.length ≤ 9223372036854775807 := (hr w (Kept.refl _ _)).2.1
 have HR := Lib.hid hr
 have HE := Lib.hid (xbc x)
 have hl0 : l0.length + 1 + (kidsTermsL x.f2).length < 2000000000000 := by rw [xbc] at hlen; simp at hlen; omega
 have HO : Hid (Kd.R k28 28 (w.alloc (.cells #[.int .i8 x.f0, .string x.f1.f0, .int .i8 x.f1.f1.f0, .int .i64 x.f1.f1.f1, .string x.f1.f1.f2, .slice A x.f2.length c] 31 (0, 0))) w0.heap.size (fun k => (P0 k ∨ w.heap.size ≤ k) ∧ k ≠ w.heap.size) u l0) :=
  Lib.hid (Kd.R_mono (Kd.R_grown (Kd.R_bound hO) (World.grownBy_alloc w _ none) (by simp)) (fun k hk => ⟨.inl hk.1, by have := hk.2.2.1; omega⟩))
 have HP := Lib.hid hO.1
 have HBa := Lib.hid (xab hB (.cells #[.int .i8 x.f0, .string x.f1.f0, .int .i8 x.f1.f1.f0, .int .i64 x.f1.f1.f1, .string x.f1.f1.f2, .slice A x.f2.length c] 31 (0, 0)))
 have HK := Lib.hid (Kept.alloc (Kept.refl w P0) (.cells #[.int .i8 x.f0, .string x.f1.f0, .int .i8 x.f1.f1.f0, .int .i64 x.f1.f1.f1, .string x.f1.f1.f2, .slice A x.f2.length c] 31 (0, 0)))
 have HBK := Lib.hid (xau w (.cells #[.int .i8 x.f0, .string x.f1.f0, .int .i8 x.f1.f1.f0, .int .i64 x.f1.f1.f1, .string x.f1.f1.f2, .slice A x.f2.length c] 31 (0, 0)))
 have HSZ := Lib.hid (show (w.alloc (.cells #[.int .i8 x.f0, .string x.f1.f0, .int .i8 x.f1.f1.f0, .int .i64 x.f1.f1.f1, .string x.f1.f1.f2, .slice A x.f2.length c] 31 (0, 0))).heap.size = w.heap.size + 1 by simp)
 clear hB hO hr hlen
 go_enter Tryd.func57, Tryd.ntmps57
 go_wp2_with (at_builtin; go_loud (refine Kd.R_append k28 (w0 := w0) (W := w.alloc (.cells #[.int .i8 x.f0, .string x.f1.f0, .int .i8 x.f1.f1.f0, .int .i64 x.f1.f1.f1, .string x.f1.f1.f2, .slice A x.f2.length c] 31 (0, 0))) w0.heap.size rfl (.tmp 6) (.tmp 9) 51 28 (.agg #[(.string ⟨#[]⟩), (.int .i8 0), (.int .i64 0), (.string ⟨#[]⟩)]) 48 rfl Tryd.underlying51 info28 rfl (by decide) (by decide) u l0 x.f1 [.string x.f1.f0, .int .i8 x.f1.f1.f0, .int .i64 x.f1.f1.f1, .string x.f1.f1.f2] (fun k => (P0 k ∨ w.heap.size ≤ k) ∧ k ≠ w.heap.size) (fun _ => False) rfl (by rw [HSZ.out]; rfl) (k28_mkM _ _ _ x.f1) (fun _ h => h.elim) (fun k hk => by rw [HSZ.out] at hk; exact ⟨.inr (by omega), by omega⟩) HO.out HBa.out HBa.out.size (by omega) ?_); intro v1 w1 hR hB1 hG _; have HI := Lib.hid (show ETI w0 w w1 P0 #[.int .i8 x.f0, .string x.f1.f0, .int .i8 x.f1.f1.f0, .int .i64 x.f1.f1.f1, .string x.f1.f1.f2, .slice A x.f2.length c] v1 (l0 ++ [x.f1]) from ⟨hR, hB1, Kept.of_grown hG HK.out (fun k hk => .inl (HP.out k hk)), xba HBK.out hG (Kd.R_ne HO.out HBK.out (by decide))⟩); clear hR hB1 hG)
 go_loopw [0, 5] (fun v i wr => ∃ k : Nat, k ≤ x.f2.length ∧ i = .int .i64 k ∧ Hid (ETI w0 w wr P0 #[.int .i8 x.f0, .string x.f1.f0, .int .i8 x.f1.f1.f0, .int .i64 x.f1.f1.f1, .string x.f1.f1.f2, .slice A x.f2.length c] v (l0 ++ [x.f1] ++ kidsTermsL (x.f2.take k)))) (fun _ i _ => x.f2.length - (intOf i).toNat)
 case atStart => exact ⟨0, Nat.zero_le _, rfl, Lib.hid (by rw [List.take_zero, kidsTermsL, List.append_nil]; exact HI.out)⟩
 case round =>
  clear HI HO HBa HK HBK
  obtain ⟨k, hk, rfl, HI⟩ := hrel
  have hb5 : wr.cell? ⟨w.heap.size, 5, none⟩ = some (.slice A x.f2.length c) := (xag HI.out.box 5).trans rfl
  by_cases hlt : k < x.f2.length
  ·obtain ⟨ad, A5, c5, e0, hne, hltb, hE, hF⟩ := kid_kept HR.out k hlt
   subst e0
   have hEr : ∀ {a : Addr} {u : Value}, w.cell? a = some u → a.block = ad.block → wr.cell? a = some u := fun {a u} hcell ha => cell_kept hcell HI.out.kept (by rw [ha]; exact hne)
   have hab := add_block ad (k * 6)
   have g0 := hEr hE.c0 hab
   have g1 := hEr hE.ct.c0 hab
   have g2 := hEr hE.ct.c1 hab
   have g3 := hEr hE.ct.c2 hab
   have g4 := hEr hE.ct.c3 hab
   have g5 := hEr hE.c5 hab
   have HF := Lib.hid (fun W_ (hk : Kept wr W_ (fun k => (P0 k ∨ w.heap.size ≤ k) ∧ k ≠ w.heap.size)) => hF W_ (HI.out.kept.then_ hk (fun k h => h.1)))
   have HL := Lib.hid hE.hl
   have HS := Lib.hid (kidsTermsL_take x.f2 k hlt)
   have HZ := Lib.hid (show SizeOf.sizeOf (x.f2.getD k z31) < n by have := sizeOf_getD x.f2 k hlt; have := sizeOf_kids x; omega)
   have HQ := Lib.hid (show (l0 ++ [x.f1] ++ kidsTermsL (x.f2.take k)).length + (exprTermsL (x.f2.getD k z31)).length < 2000000000000 by
    have := congrArg List.length (kids_parts x.f2 k hlt)
    simp only [List.length_append, List.length_singleton] at this ⊢
    omega)
   have HRD : Hid (rd_T31 x.f2 k = x.f2.getD k z31) := Lib.hid rfl
   rw [← HRD.out] at HS HZ HQ
   clear hEr hab hne hltb hE hF
   generalize rd_T31 x.f2 k = y at *
   clear HRD
   go_wp2_with fail
   refine (ih.out _ _ _ y A5 c5 w0 wr HZ.out HI.out.below HI.out.row HF.out HL.out HQ.out).mono ?_
   rintro e w2 ⟨v2, rfl, hR2, hB2, hK2⟩
   have HI2 : Hid (ETI w0 w w2 P0 #[.int .i8 x.f0, .string x.f1.f0, .int .i8 x.f1.f1.f0, .int .i64 x.f1.f1.f1, .string x.f1.f1.f2, .slice (some ad) x.f2.length c] v2 (l0 ++ [x.f1] ++ kidsTermsL (x.f2.take (k + 1)))) := Lib.hid ⟨by
     rw [HS.out, ← List.append_assoc]
     exact Kd.R_mono hR2 (fun k h => h.elim id (fun h => ⟨.inr (Nat.le_trans HI.out.kept.1 h), by have := blk_lt HI.out.box; omega⟩)), hB2, HI.out.kept.then_ hK2 (fun k h => h.1), blk_kept HI.out.box hK2 (fun h => h.2 rfl)⟩
   clear hR2 hB2 hK2 HI g0 g1 g2 g3 g4 g5
   go_wp2_with fail
   go_roundw
   case rel => exact ⟨k + 1, by omega, by go_num, HI2⟩
   case measure => simp [intOf]; omega
  ·go_wp2_with fail
   go_ret
   have HI' := HI.out
   rw [List.take_of_length_le (by omega)] at HI'
   exact ⟨_, rfl, by rw [HE.out]; have := Kd.R_mono HI'.row (fun k h => h.1); simpa using this, HI'.below, HI'.kept⟩
theorem exprTerms_all : ∀ n, ExprTermsAt n
 | 0 => fun _ _ _ _ _ _ _ _ hn => absurd hn (Nat.not_lt_zero _)
 | n + 1 => exprTerms_step n (Lib.hid (exprTerms_all n))
def r4_exprTerms.f (l0 : List (S28)) (a1_0 : Int) (a1_1 : ByteArray) (a1_2 : Int) (a1_3 : Int) (a1_4 : ByteArray) (l1_5 : List (S31)) : Option ((List (S28))) := let x : S31 := ⟨a1_0, ⟨a1_1, ⟨a1_2, a1_3, a1_4⟩⟩, l1_5⟩; if l0.length + (exprTermsL x).length < 2000000000000 then some (l0 ++ exprTermsL x) else none
theorem r4_exprTerms.calls (P0_ : Nat → Prop) (u9000_ : Value) (l0 : List (S28)) (a1_0 : Int) (a1_1 : ByteArray) (a1_2 : Int) (a1_3 : Int) (a1_4 : ByteArray) (A1_5 : Option Addr) (c1_5 : Nat) (l1_5 : List (S31)) (r : List (S28)) (w0 w : World) (hB : Below w0.heap.size w0 w) (ho0 : Kd.R k28 28 w w0.heap.size P0_ u9000_ l0) (hr1_5 : ∀ W_, Kept w W_ (fun k_ => P0_ k_) → Kd.C k31 W_ A1_5 l1_5.length l1_5) (hc1_5 : l1_5.length ≤ c1_5) (h : r4_exprTerms.f l0 a1_0 a1_1 a1_2 a1_3 a1_4 l1_5 = some r) :
  Calls Tryd.prog 57 #[u9000_, .agg #[.int .i8 a1_0, .string a1_1, .int .i8 a1_2, .int .i64 a1_3, .string a1_4, .slice A1_5 l1_5.length c1_5]] w fun e w' => ∃ v0_ : Value, e = .returned (v0_) ∧ Kd.R k28 28 w' w0.heap.size (fun k_ => (P0_ k_ ∨ w.heap.size ≤ k_)) v0_ r ∧ Below w0.heap.size w0 w' ∧ Kept w w' (fun k_ => P0_ k_) := by
 unfold r4_exprTerms.f at h
 dsimp only at h
 split at h
 ·rename_i hl
  obtain rfl := Option.some.inj h
  exact exprTerms_all _ P0_ u9000_ l0 ⟨a1_0, ⟨a1_1, ⟨a1_2, a1_3, a1_4⟩⟩, l1_5⟩ A1_5 c1_5 w0 w (Nat.lt_succ_self _) hB ho0 hr1_5 hc1_5 hl
 ·cases h
mutual
def r1_Arith.j0 : Nat → Int → List (S26) → Bool → Option (Int × Int × ByteArray × Bool)
 | 0, _, _, _ => none
 | k + 1, x0, x1, x7 => if x7 = true then (if 0 < (x1.length : Int) then (some (1, wrap64 (-((rd_T26 x1 0).f1)), (⟨#[]⟩ : ByteArray), true)) else (none)) else (if x0 ≥ 2 then (if x0 ≤ 6 then ((r1_kinds.f k x1 2 1).bind fun t426 => (r1_Arith.j1 k x0 x1 t426)) else (r1_Arith.j1 k x0 x1 false)) else (r1_Arith.j1 k x0 x1 false))
def r1_Arith.j1 : Nat → Int → List (S26) → Bool → Option (Int × Int × ByteArray × Bool)
 | 0, _, _, _ => none
 | k + 1, x0, x1, x20 => if x20 = true then (if 0 < (x1.length : Int) then (if 1 < (x1.length : Int) then ((r1_numbers.f x0 ((rd_T26 x1 0).f1) ((rd_T26 x1 1).f1)).bind fun bt429 => (some (bt429.1, bt429.2.1, bt429.2.2.1, bt429.2.2.2))) else (none)) else (none)) else (if x0 = 7 then ((r1_kinds.f k x1 2 2).bind fun t433 => (r1_Arith.j2 k x0 x1 t433)) else (r1_Arith.j2 k x0 x1 false))
def r1_Arith.j2 : Nat → Int → List (S26) → Bool → Option (Int × Int × ByteArray × Bool)
 | 0, _, _, _ => none
 | k + 1, x0, x1, x43 => if x43 = true then (if 0 < (x1.length : Int) then (if 1 < (x1.length : Int) then (if ((rd_T26 x1 0).f2).size + ((rd_T26 x1 1).f2).size ≤ 9223372036854775807 then (if ((((rd_T26 x1 0).f2) ++ ((rd_T26 x1 1).f2)).size : Int) > 200 then (some (0, 0, (⟨#[]⟩ : ByteArray), false)) else (some (2, 0, ((rd_T26 x1 0).f2) ++ ((rd_T26 x1 1).f2), true))) else (none)) else (none)) else (none)) else (if x0 ≥ 8 then (if x0 ≤ 10 then ((r1_kinds.f k x1 1 2).bind fun t436 => (if t436 = true then (if 0 < (x1.length : Int) then ((r1_texts.f k x0 ((rd_T26 x1 0).f2)).bind fun bt438 => (some (bt438.1, bt438.2.1, bt438.2.2.1, bt438.2.2.2))) else (none)) else (some (0, 0, (⟨#[]⟩ : ByteArray), false)))) else (some (0, 0, (⟨#[]⟩ : ByteArray), false))) else (some (0, 0, (⟨#[]⟩ : ByteArray), false)))
end
def r1_Arith.f (k : Nat) (a0 : Int) (l1 : List (S26)) : Option (Int × Int × ByteArray × Bool) := if a0 = 1 then ((r1_kinds.f k l1 1 1).bind fun t424 => (r1_Arith.j0 k a0 l1 t424)) else (r1_Arith.j0 k a0 l1 false)
def EvW (f : Nat → Option (Int × Bool)) (w : Nat) : Prop := ∃ ok, Ev f ((w : Int), ok)
theorem EvW.step {f g : Nat → Option (Int × Bool)} {w : Nat} (h : EvW f w) (hg : ∀ k, g (k + 1) = f k) : EvW g w := by
 obtain ⟨ok, h⟩ := h
 exact ⟨ok, h.step hg⟩
theorem EvW.bind {f : Nat → Option (Int × Int × Int)} {r : Int × Int × Int} {g : Nat → Int × Int × Int → Option (Int × Bool)} {w : Nat} (h : Ev f r) (h2 : EvW (fun k => g k r) w) : EvW (fun k => (f k).bind (g k)) w := by
 obtain ⟨ok, h2⟩ := h2
 exact ⟨ok, Ev.bind h h2⟩
theorem EvW.cong {f g : Nat → Option (Int × Bool)} {w : Nat} (h : EvW f w) (hg : ∀ k, g k = f k) : EvW g w := by
 obtain ⟨ok, h⟩ := h
 exact ⟨ok, h.cong hg⟩
theorem run_loadVar_at {P : Program} (w : World) (a0 : Addr) (ty : TypeId) (cs : Array Value) (d : TypeDesc) (hcell : ∀ (i : Nat) (u : Value), cs.toList[i]? = some u → w.cell? (a0.add i) = some u)
  (hu : P.underlying ty = some d) (hd : (match d with | .struct _ | .array _ _ => true | _ => false) = true) (hi : (P.info? ty).map (·.size) = some cs.size) :
  (loadVar ty a0).run P w = .ok (.agg cs) w := by
 have hl : (loadCells a0 cs.toList.length).run P w = .ok cs.toList.toArray w := run_loadCells_list (P := P) w a0 cs.toList hcell
 cases hq : P.info? ty with
 | none => simp [hq] at hi
 | some i =>
  have hs : i.size = cs.size := by simpa [hq] using hi
  have hagg : (isAgg ty).run P w = .ok true w := by
   unfold isAgg
   rw [Sem.run_bind, run_underlying hu w]
   cases d <;> simp_all
  simp only [Array.length_toList, Array.toArray_toList] at hl
  simp [loadVar, Sem.run_bind, hagg, Go.sizeOf, typeInfo, hq, hs, hl]
theorem xbm {P : Program} {ops : Array Oper} {rest : List Oper} {o : Oper} {a : Act} {w : World} {Q : Exit → Act → World → Prop} (hgd : o.guard = none) (ty : TypeId) (x : Operand) (ho : o.op = .load ty x)
  (a0 : Addr) (hx : a.eval x = .pointer (some a0)) (cs : Array Value) (d : TypeDesc) (hcell : ∀ (i : Nat) (u : Value), cs.toList[i]? = some u → w.cell? (a0.add i) = some u)
  (hu : P.underlying ty = some d) (hd : (match d with | .struct _ | .array _ _ => true | _ => false) = true) (hi : (P.info? ty).map (·.size) = some cs.size)
  (h : wpList P ops Q rest (a.put o.dst (.agg cs)) w) : wpList P ops Q (o :: rest) a w :=
 wpList_plain hgd fun _ hK => by
  unfold Oper.wp execOp
  simp only [ho, hx, Instr.loadAt, Instr.sureAddr, Sem.run_bind, Sem.run_pure, Result.andThen_ok, run_loadVar_at w a0 ty cs d hcell hu hd hi]
  exact hK _ _ h
theorem C_row {α : Type} {d : Kd α} {w : World} {A : Option Addr} {xs : List α} (h : d.C w A xs.length xs) (z : α) (k : Nat) (hk : k < xs.length) :
  ∃ (ad : Addr) (cs : Array Value), A = some ad ∧ cs.size = d.sz ∧ d.K w (xs.getD k z) cs.toList ∧ ∀ (i : Nat) (u : Value), cs.toList[i]? = some u → w.cell? ((ad.add (k * d.sz)).add i) = some u := by
 obtain ⟨ad, c, rfl, hl, hK, hc⟩ := Kd.C_get h z (k : Int) (by omega) (by omega)
 refine ⟨ad, c.toArray, rfl, by simpa using hl, by simpa using hK, fun i u hu => ?_⟩
 rw [add_add]
 simpa using hc i u (by simpa using hu)
theorem K_ones {α : Type} {d : Kd α} {w : World} {x : α} {cs : Array Value} (h : d.K w x cs.toList) : cs.all (·.oneCell') = true := by
 rw [Array.all_eq_true_iff_forall_mem]
 exact fun v hv => d.K_one h v (by simpa using hv)
theorem row_new (w : World) (zs cs : Array Value) (t : TypeId) : ((w.alloc (.cells zs t (0, 0))).setRow w.heap.size cs).heap[w.heap.size]? = some (.cells cs t (0, 0)) := setRow_heap _ _ zs cs t (0, 0) (xau w (.cells zs t (0, 0)))
theorem below_row (w : World) (zs cs : Array Value) (t : TypeId) : Below w.heap.size w ((w.alloc (.cells zs t (0, 0))).setRow w.heap.size cs) := below_setRow (xab (Below.refl _ _) _) (Nat.le_refl _) cs
def boundV (bs : List S41) (s : ByteArray) : S26 := ((bs.find? (fun b => b.f0.data.toList == s.data.toList)).map (fun b => b.f1)).getD z26
def cellsV (v : S26) : Value := .agg #[.int .i8 v.f0, .int .i64 v.f1, .string v.f2]
def lookV (bs : List S41) : List UInt8 → Option Value := fun q => (bs.find? (fun b => b.f0.data.toList == q)).map (fun b => cellsV b.f1)
theorem lookV_get (bs : List S41) (s : ByteArray) : (lookV bs s.data.toList).getD (cellsV z26) = cellsV (boundV bs s) := by
 unfold lookV boundV
 cases bs.find? (fun b => b.f0.data.toList == s.data.toList) <;> rfl
def asV (r : Int × Int × ByteArray × Bool) : S26 := ⟨r.1, r.2.1, r.2.2.1⟩
def evalN (bs : List S41) : Nat → S31 → Int × Int × ByteArray × Bool
 | 0, _ => (0, 0, ⟨#[]⟩, false)
 | n + 1, x => if x.f0 = 0 then (if x.f1.f0.toList = [] then (x.f1.f1.f0, x.f1.f1.f1, x.f1.f1.f2, true) else if valueOk (boundV bs x.f1.f0) then ((boundV bs x.f1.f0).f0, (boundV bs x.f1.f0).f1, (boundV bs x.f1.f0).f2, true) else (0, 0, ⟨#[]⟩, false))
  else if x.f2.all (fun k => (evalN bs n k).2.2.2) then arithV x.f0 (x.f2.map (fun k => asV (evalN bs n k))) else (0, 0, ⟨#[]⟩, false)
def ReadyE : Nat → S31 → Prop
 | 0, _ => False
 | n + 1, x => x.f1.f0.size ≤ 140737488351232 ∧ -128 ≤ x.f0 ∧ x.f0 ≤ 127 ∧ x.f2.length ≤ 2 ∧ ∀ k ∈ x.f2, ReadyE n k
abbrev EvalC (bs : List S41) (n : Nat) (x : S31) : Prop := ∀ (A : Option Addr) (c : Nat) (w : World) (b N : Nat), Kd.C k31 w A x.f2.length x.f2 → x.f2.length ≤ c → SMap Tryd.prog 9 w b N (lookV bs) → TabA w →
  Calls Tryd.prog 53 #[.agg #[.int .i8 x.f0, .string x.f1.f0, .int .i8 x.f1.f1.f0, .int .i64 x.f1.f1.f1, .string x.f1.f1.f2, .slice A x.f2.length c], .map (some b)] w fun e w' => e = .returned (.tuple #[.agg #[.int .i8 (evalN bs n x).1, .int .i64 (evalN bs n x).2.1, .string (evalN bs n x).2.2.1], .bool (evalN bs n x).2.2.2]) ∧ Below w.heap.size w w'
theorem SMap.below {P : Program} {k : TypeId} {w w' : World} {b n : Nat} {f : List UInt8 → Option Value} (h : SMap P k w b n f) (hb : Below w.heap.size w w') : SMap P k w' b n f := h.move (hb.block b h.lt)
theorem zero_value (w : World) : (zeroValue 26).run Tryd.prog w = .ok (cellsV z26) w := by kernel_rfl
end Go.Proofs.YtllcmggmcogokaaDoor.PAll
end
