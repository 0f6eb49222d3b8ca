-- Written by programs of this work and by hand, joined by a program. Lean checks it.
import Derived.Lib.LaidTab
import Derived.WalkSmall
import Derived.Shelf.Strconv.Itoa1
import Derived.Shelf.Strconv.Itoa0
import Derived.Shelf.LaysM
import Derived.Shelf.Strconv.Itoa2
import Derived.Shelf.Strconv.Itoa3
import Derived.Test.YtllcmggmcogokaaDoorProg
import Derived.Test.YtllcmggmcogokaaDoorCards
import Derived.Test.YtllcmggmcogokaaDoorTie
import Derived.WalkKit
import Derived.ProofKit
import Derived.OpenShut
import Derived.Carry
import Derived.Deep.DeepHandedRow
import Derived.Test.YtllcmggmcogokaaDoorEvaA4
set_option linter.unusedVariables false
set_option linter.unusedSimpArgs false
section
namespace Go.Proofs.YtllcmggmcogokaaDoor.PAll
open Go.RowKit Go.Proofs.YtllcmggmcogokaaDoorW.PrintWords Go.Proofs.YtllcmggmcogokaaDoorW.PrintLast Go.Proofs.YtllcmggmcogokaaDoorW.PrintMore
attribute [local go_sem] max2_int min2_int max_two min_two max_three min_three max_four min_four
set_option maxHeartbeats 8000000 in
set_option maxRecDepth 100000 in
theorem r4_Eval.calls (k : Nat) (a0_0 : Int) (a0_1 : ByteArray) (a0_2 : Int) (a0_3 : Int) (a0_4 : ByteArray) (A0_5 : Option Addr) (c0_5 : Nat) (l0_5 : List (S31)) (A1 : Option Addr) (c1 : Nat) (l1 : List (S41)) (r1 : Int) (r2 : Int) (r3 : ByteArray) (r4 : Bool) (w : World) (hr0_5 : Kd.C k31 w A0_5 l0_5.length l0_5) (hc0_5 : l0_5.length ≤ c0_5) (hr1 : Kd.C k41 w A1 l1.length l1) (hc1 : l1.length ≤ c1) (h : r4_Eval.f k a0_0 a0_1 a0_2 a0_3 a0_4 l0_5 l1 = some (r1, r2, r3, r4)) :
  Calls Tryd.prog 40 #[.agg #[.int .i8 a0_0, .string a0_1, .int .i8 a0_2, .int .i64 a0_3, .string a0_4, .slice A0_5 l0_5.length c0_5], .slice A1 l1.length c1] w fun e w' => e = .returned (.tuple #[.agg #[.int .i8 r1, .int .i64 r2, .string r3], .bool r4]) ∧ Below w.heap.size w w' := by
 have hu31 := Tryd.underlying31
 have hu26 := Tryd.underlying26
 have HR0_5 := Aside0.mk hr0_5
 have HC0_5 := Aside0.mk hc0_5
 clear hr0_5 hc0_5
 have HR1 := Aside0.mk hr1
 have HC1 := Aside0.mk hc1
 clear hr1 hc1
 have HB := Aside0.mk (Below.refl w.heap.size w)
 have H : ((r4_expr.f k a0_0 a0_1 a0_2 a0_3 a0_4 l0_5 8).bind fun t498 => (if t498 = true then ((r4_worth.f k a0_0 a0_1 a0_2 a0_3 a0_4 l0_5 l1).bind fun bt499 => (some (bt499.1, bt499.2.1, bt499.2.2.1, bt499.2.2.2))) else (some (0, 0, (⟨#[]⟩ : ByteArray), false)))) = some (r1, r2, r3, r4) := h
 clear h
 replace H := Option.bind_eq_some_iff.mp H
 obtain ⟨t498, A30, H⟩ := H
 replace H : (if t498 = true then ((r4_worth.f k a0_0 a0_1 a0_2 a0_3 a0_4 l0_5 l1).bind fun bt499 => (some (bt499.1, bt499.2.1, bt499.2.2.1, bt499.2.2.2))) else (some (0, 0, (⟨#[]⟩ : ByteArray), false))) = some (r1, r2, r3, r4) := H
 have A3 := Aside0.mk A30
 clear A30
 by_cases c4 : t498 = true
 ·subst c4
  have H1 : ((r4_worth.f k a0_0 a0_1 a0_2 a0_3 a0_4 l0_5 l1).bind fun bt499 => (some (bt499.1, bt499.2.1, bt499.2.2.1, bt499.2.2.2))) = some (r1, r2, r3, r4) := by rw [if_pos rfl] at H; exact H
  clear H
  have H := H1
  clear H1
  replace H := Option.bind_eq_some_iff.mp H
  obtain ⟨⟨t499, t500, t501, t502⟩, A50, H⟩ := H
  replace H : (some (t499, t500, t501, t502)) = some (r1, r2, r3, r4) := H
  have A5 := Aside0.mk A50
  clear A50
  simp only [Option.some.injEq, Prod.mk.injEq] at H
  obtain ⟨rfl, rfl, rfl, rfl⟩ := H
  go_enter Tryd.func40, Tryd.ntmps40
  go_wp2_with (first | ((with_reducible refine xar (N := 2) rfl ?_); refine xaq ?hg (N := 2) ?hd (cs := #[.int .i8 a0_0, .string a0_1, .int .i8 a0_2, .int .i64 a0_3, .string a0_4, .slice A0_5 l0_5.length c0_5]) (t := 31) ?hr ?_; (case hd => rfl); (case hg => rfl); (case hr => first | (go_simp; done) | (go_simp; rfl)); intro gb496 hg w6 hbox hb; have n0_ := Aside0.mk (xai (by repeat (first | (with_reducible first | exact HB.out | apply xab | apply xaa | apply xac) | exact HB.out)) hb); have n1_ := Aside0.mk (hbox); have n2_ := Aside0.mk ((by rw [hg]; exact (xap (by repeat (first | (with_reducible first | exact HB.out | apply xab | apply xaa | apply xac) | exact HB.out))) : w.heap.size ≤ gb496)); have n3_ := n2_; clear HB; have HB := n0_; have BK496 := n1_; have GW496 := n2_; have GE496 := n3_; clear n0_ n1_ n2_ n3_; clear hb hbox hg) | ((with_reducible refine xar (N := 4) rfl ?_); refine xaq ?hg (N := 4) ?hd (cs := #[.int .i8 0, .int .i64 0, .string (⟨#[]⟩ : ByteArray)]) (t := 26) ?hr ?_; (case hd => rfl); (case hg => rfl); (case hr => first | (go_simp; done) | (go_simp; rfl)); intro gb497 hg w7 hbox hb; have n0_ := Aside0.mk (xan (g := gb496) (o := .cells #[.int .i8 a0_0, .string a0_1, .int .i8 a0_2, .int .i64 a0_3, .string a0_4, .slice A0_5 l0_5.length c0_5] 31 (0, 0)) (by (with_reducible repeat (first | refine xae ?_ _ | refine xaf ?_ | refine xad ?_ _)); exact BK496.out) hb); have n1_ := Aside0.mk (xai (by repeat (first | (with_reducible first | exact HB.out | apply xab | apply xaa | apply xac | refine xag ?_ GE496.out) | exact HB.out)) hb); have n2_ := Aside0.mk (hbox); have n3_ := Aside0.mk ((by rw [hg]; exact (xap (by repeat (first | (with_reducible first | exact HB.out | apply xab | apply xaa | apply xac | refine xag ?_ GE496.out) | exact HB.out))) : w.heap.size ≤ gb497)); have n4_ := n3_; have n5_ := Aside0.mk ((by rw [hg]; exact Nat.ne_of_lt (blk_lt (g := gb496) (o := .cells #[.int .i8 a0_0, .string a0_1, .int .i8 a0_2, .int .i64 a0_3, .string a0_4, .slice A0_5 l0_5.length c0_5] 31 (0, 0)) (by (with_reducible repeat (first | refine xae ?_ _ | refine xaf ?_ | refine xad ?_ _)); exact BK496.out)) : gb496 ≠ gb497)); have n6_ := Aside0.mk ((by rw [hg]; exact Nat.ne_of_gt (blk_lt (g := gb496) (o := .cells #[.int .i8 a0_0, .string a0_1, .int .i8 a0_2, .int .i64 a0_3, .string a0_4, .slice A0_5 l0_5.length c0_5] 31 (0, 0)) (by (with_reducible repeat (first | refine xae ?_ _ | refine xaf ?_ | refine xad ?_ _)); exact BK496.out)) : gb497 ≠ gb496)); clear BK496; clear HB; have BK496 := n0_; have HB := n1_; have BK497 := n2_; have GW497 := n3_; have GE497 := n4_; have NB496_497 := n5_; have NB497_496 := n6_; clear n0_ n1_ n2_ n3_ n4_ n5_ n6_; clear hb hbox hg; have hnb8 := NB496_497.out; have hnc8 := NB497_496.out; obtain ⟨hcz9_0, hcz9_1, hcz9_2, hcz9_3, hcz9_4, hcz9_5⟩ := cz6 BK496.out; obtain ⟨hfz9_0, hfz9_1, hfz9_2, hfz9_3, hfz9_4, hfz9_5⟩ := fz6 BK496.out) | ((with_reducible refine xav (f := 55) rfl ?_); refine goesL_ (some 7) rfl rfl Tryd.func55 (by kernel_rfl) rfl #[.agg #[.int .i8 a0_0, .string a0_1, .int .i8 a0_2, .int .i64 a0_3, .string a0_4, .slice A0_5 l0_5.length c0_5], .int .i64 8] rfl (by (try simp only [List.map_toArray, List.map_cons, List.map_nil]); first | done | rfl | (simp only [List.length_drop, List.length_take]; rfl)) ?_; (with_reducible refine (r4_expr.calls k a0_0 a0_1 a0_2 a0_3 a0_4 _ _ l0_5 8 true _ ?side1 ?side2 A3.out).mono ?_); (case side1 => repeat (first | exact (Kd.C_below HR0_5.out HB.out) | (with_reducible refine Kd.C_alloc ?_ _) | (with_reducible refine Kd.C_drewN ?_ _) | (with_reducible refine Kd.C_drew ?_))); (case side2 => exact HC0_5.out); rintro e w10 ⟨rfl, hb⟩; refine ⟨_, rfl, ?_⟩; have n0_ := Aside0.mk (xan (g := gb496) (o := .cells #[.int .i8 a0_0, .string a0_1, .int .i8 a0_2, .int .i64 a0_3, .string a0_4, .slice A0_5 l0_5.length c0_5] 31 (0, 0)) (by (with_reducible repeat (first | refine xae ?_ _ | refine xaf ?_ | refine xad ?_ _)); exact BK496.out) hb); have n1_ := Aside0.mk (xan (g := gb497) (o := .cells #[.int .i8 0, .int .i64 0, .string (⟨#[]⟩ : ByteArray)] 26 (0, 0)) (by (with_reducible repeat (first | refine xae ?_ _ | refine xaf ?_ | refine xad ?_ _)); exact BK497.out) hb); have n2_ := Aside0.mk (xai (by repeat (first | (with_reducible first | exact HB.out | apply xab | apply xaa | apply xac | refine xag ?_ GE496.out | refine xag ?_ GE497.out) | exact HB.out)) hb); clear BK496; clear BK497; clear HB; have BK496 := n0_; have BK497 := n1_; have HB := n2_; clear n0_ n1_ n2_; (try clear hb); (try clear hb2); (try clear hk); (try clear hi); obtain ⟨hcz11_0, hcz11_1, hcz11_2, hcz11_3, hcz11_4, hcz11_5⟩ := cz6 BK496.out; obtain ⟨hfz11_0, hfz11_1, hfz11_2, hfz11_3, hfz11_4, hfz11_5⟩ := fz6 BK496.out) | ((with_reducible refine xav (f := 88) rfl ?_); refine goesL_ (some 12) rfl rfl Tryd.func88 (by kernel_rfl) rfl #[.agg #[.int .i8 a0_0, .string a0_1, .int .i8 a0_2, .int .i64 a0_3, .string a0_4, .slice A0_5 l0_5.length c0_5], .slice A1 l1.length c1] rfl (by (try simp only [List.map_toArray, List.map_cons, List.map_nil]); first | done | rfl | (simp only [List.length_drop, List.length_take]; rfl)) ?_; (with_reducible refine (r4_worth.calls k a0_0 a0_1 a0_2 a0_3 a0_4 _ _ l0_5 _ _ l1 t499 t500 t501 t502 _ ?side1 ?side2 ?side3 ?side4 A5.out).mono ?_); (case side1 => repeat (first | exact (Kd.C_below HR0_5.out HB.out) | (with_reducible refine Kd.C_alloc ?_ _) | (with_reducible refine Kd.C_drewN ?_ _) | (with_reducible refine Kd.C_drew ?_))); (case side2 => exact HC0_5.out); (case side3 => repeat (first | exact (Kd.C_below HR1.out HB.out) | (with_reducible refine Kd.C_alloc ?_ _) | (with_reducible refine Kd.C_drewN ?_ _) | (with_reducible refine Kd.C_drew ?_))); (case side4 => exact HC1.out); rintro e w12 ⟨rfl, hb⟩; refine ⟨_, rfl, ?_⟩; have n0_ := Aside0.mk (xan (g := gb496) (o := .cells #[.int .i8 a0_0, .string a0_1, .int .i8 a0_2, .int .i64 a0_3, .string a0_4, .slice A0_5 l0_5.length c0_5] 31 (0, 0)) (by (with_reducible repeat (first | refine xae ?_ _ | refine xaf ?_ | refine xad ?_ _)); exact BK496.out) hb); have n1_ := Aside0.mk (xan (g := gb497) (o := .cells #[.int .i8 0, .int .i64 0, .string (⟨#[]⟩ : ByteArray)] 26 (0, 0)) (by (with_reducible repeat (first | refine xae ?_ _ | refine xaf ?_ | refine xad ?_ _)); exact BK497.out) hb); have n2_ := Aside0.mk (xai (by repeat (first | (with_reducible first | exact HB.out | apply xab | apply xaa | apply xac | refine xag ?_ GE496.out | refine xag ?_ GE497.out) | exact HB.out)) hb); clear BK496; clear BK497; clear HB; have BK496 := n0_; have BK497 := n1_; have HB := n2_; clear n0_ n1_ n2_; (try clear hb); (try clear hb2); (try clear hk); (try clear hi); obtain ⟨hcz13_0, hcz13_1, hcz13_2⟩ := cz3 BK497.out; obtain ⟨hfz13_0, hfz13_1, hfz13_2⟩ := fz3 BK497.out))
  refine bodyPost_ret (xat rfl _ _ gb497 26 #[.int .i8 t499, .int .i64 t500, .string t501] (0, 0) _ rfl (by (with_reducible repeat (first | refine xae ?_ _ | refine xaf ?_ | refine xad ?_ _)); refine xas (cs := #[.int .i8 t499, .int .i64 t500, .string (⟨#[]⟩ : ByteArray)]) ?_ 2 _ rfl; (with_reducible repeat (first | refine xae ?_ _ | refine xaf ?_ | refine xad ?_ _)); refine xas (cs := #[.int .i8 t499, .int .i64 0, .string (⟨#[]⟩ : ByteArray)]) ?_ 1 _ rfl; (with_reducible repeat (first | refine xae ?_ _ | refine xaf ?_ | refine xad ?_ _)); refine xas (cs := #[.int .i8 0, .int .i64 0, .string (⟨#[]⟩ : ByteArray)]) ?_ 0 _ rfl; (with_reducible repeat (first | refine xae ?_ _ | refine xaf ?_ | refine xad ?_ _)); exact BK497.out) Tryd.underlying26 rfl (by kernel_rfl)) rfl ?_
  exact ⟨by first | rfl | (simp [xak, xal] <;> rfl) | (simp [*, xak, xal] <;> rfl), by repeat (first | (with_reducible first | exact HB.out | apply xab | apply xaa | apply xac | refine xag ?_ GE496.out | refine xag ?_ GE497.out) | exact HB.out)⟩
 ·replace c4 := Bool.eq_false_iff.mpr c4
  subst c4
  have H1 : (some (0, 0, (⟨#[]⟩ : ByteArray), false)) = some (r1, r2, r3, r4) := by rw [if_neg (show ¬ (false = true) by decide)] at H; exact H
  clear H
  have H := H1
  clear H1
  simp only [Option.some.injEq, Prod.mk.injEq] at H
  obtain ⟨rfl, rfl, rfl, rfl⟩ := H
  go_enter Tryd.func40, Tryd.ntmps40
  go_wp2_with (first | ((with_reducible refine xar (N := 2) rfl ?_); refine xaq ?hg (N := 2) ?hd (cs := #[.int .i8 a0_0, .string a0_1, .int .i8 a0_2, .int .i64 a0_3, .string a0_4, .slice A0_5 l0_5.length c0_5]) (t := 31) ?hr ?_; (case hd => rfl); (case hg => rfl); (case hr => first | (go_simp; done) | (go_simp; rfl)); intro gb496 hg w14 hbox hb; have n0_ := Aside0.mk (xai (by repeat (first | (with_reducible first | exact HB.out | apply xab | apply xaa | apply xac) | exact HB.out)) hb); have n1_ := Aside0.mk (hbox); have n2_ := Aside0.mk ((by rw [hg]; exact (xap (by repeat (first | (with_reducible first | exact HB.out | apply xab | apply xaa | apply xac) | exact HB.out))) : w.heap.size ≤ gb496)); have n3_ := n2_; clear HB; have HB := n0_; have BK496 := n1_; have GW496 := n2_; have GE496 := n3_; clear n0_ n1_ n2_ n3_; clear hb hbox hg) | ((with_reducible refine xar (N := 4) rfl ?_); refine xaq ?hg (N := 4) ?hd (cs := #[.int .i8 0, .int .i64 0, .string (⟨#[]⟩ : ByteArray)]) (t := 26) ?hr ?_; (case hd => rfl); (case hg => rfl); (case hr => first | (go_simp; done) | (go_simp; rfl)); intro gb497 hg w15 hbox hb; have n0_ := Aside0.mk (xan (g := gb496) (o := .cells #[.int .i8 a0_0, .string a0_1, .int .i8 a0_2, .int .i64 a0_3, .string a0_4, .slice A0_5 l0_5.length c0_5] 31 (0, 0)) (by (with_reducible repeat (first | refine xae ?_ _ | refine xaf ?_ | refine xad ?_ _)); exact BK496.out) hb); have n1_ := Aside0.mk (xai (by repeat (first | (with_reducible first | exact HB.out | apply xab | apply xaa | apply xac | refine xag ?_ GE496.out) | exact HB.out)) hb); have n2_ := Aside0.mk (hbox); have n3_ := Aside0.mk ((by rw [hg]; exact (xap (by repeat (first | (with_reducible first | exact HB.out | apply xab | apply xaa | apply xac | refine xag ?_ GE496.out) | exact HB.out))) : w.heap.size ≤ gb497)); have n4_ := n3_; have n5_ := Aside0.mk ((by rw [hg]; exact Nat.ne_of_lt (blk_lt (g := gb496) (o := .cells #[.int .i8 a0_0, .string a0_1, .int .i8 a0_2, .int .i64 a0_3, .string a0_4, .slice A0_5 l0_5.length c0_5] 31 (0, 0)) (by (with_reducible repeat (first | refine xae ?_ _ | refine xaf ?_ | refine xad ?_ _)); exact BK496.out)) : gb496 ≠ gb497)); have n6_ := Aside0.mk ((by rw [hg]; exact Nat.ne_of_gt (blk_lt (g := gb496) (o := .cells #[.int .i8 a0_0, .string a0_1, .int .i8 a0_2, .int .i64 a0_3, .string a0_4, .slice A0_5 l0_5.length c0_5] 31 (0, 0)) (by (with_reducible repeat (first | refine xae ?_ _ | refine xaf ?_ | refine xad ?_ _)); exact BK496.out)) : gb497 ≠ gb496)); clear BK496; clear HB; have BK496 := n0_; have HB := n1_; have BK497 := n2_; have GW497 := n3_; have GE497 := n4_; have NB496_497 := n5_; have NB497_496 := n6_; clear n0_ n1_ n2_ n3_ n4_ n5_ n6_; clear hb hbox hg; have hnb16 := NB496_497.out; have hnc16 := NB497_496.out; obtain ⟨hcz17_0, hcz17_1, hcz17_2, hcz17_3, hcz17_4, hcz17_5⟩ := cz6 BK496.out; obtain ⟨hfz17_0, hfz17_1, hfz17_2, hfz17_3, hfz17_4, hfz17_5⟩ := fz6 BK496.out) | ((with_reducible refine xav (f := 55) rfl ?_); refine goesL_ (some 7) rfl rfl Tryd.func55 (by kernel_rfl) rfl #[.agg #[.int .i8 a0_0, .string a0_1, .int .i8 a0_2, .int .i64 a0_3, .string a0_4, .slice A0_5 l0_5.length c0_5], .int .i64 8] rfl (by (try simp only [List.map_toArray, List.map_cons, List.map_nil]); first | done | rfl | (simp only [List.length_drop, List.length_take]; rfl)) ?_; (with_reducible refine (r4_expr.calls k a0_0 a0_1 a0_2 a0_3 a0_4 _ _ l0_5 8 false _ ?side1 ?side2 A3.out).mono ?_); (case side1 => repeat (first | exact (Kd.C_below HR0_5.out HB.out) | (with_reducible refine Kd.C_alloc ?_ _) | (with_reducible refine Kd.C_drewN ?_ _) | (with_reducible refine Kd.C_drew ?_))); (case side2 => exact HC0_5.out); rintro e w18 ⟨rfl, hb⟩; refine ⟨_, rfl, ?_⟩; have n0_ := Aside0.mk (xan (g := gb496) (o := .cells #[.int .i8 a0_0, .string a0_1, .int .i8 a0_2, .int .i64 a0_3, .string a0_4, .slice A0_5 l0_5.length c0_5] 31 (0, 0)) (by (with_reducible repeat (first | refine xae ?_ _ | refine xaf ?_ | refine xad ?_ _)); exact BK496.out) hb); have n1_ := Aside0.mk (xan (g := gb497) (o := .cells #[.int .i8 0, .int .i64 0, .string (⟨#[]⟩ : ByteArray)] 26 (0, 0)) (by (with_reducible repeat (first | refine xae ?_ _ | refine xaf ?_ | refine xad ?_ _)); exact BK497.out) hb); have n2_ := Aside0.mk (xai (by repeat (first | (with_reducible first | exact HB.out | apply xab | apply xaa | apply xac | refine xag ?_ GE496.out | refine xag ?_ GE497.out) | exact HB.out)) hb); clear BK496; clear BK497; clear HB; have BK496 := n0_; have BK497 := n1_; have HB := n2_; clear n0_ n1_ n2_; (try clear hb); (try clear hb2); (try clear hk); (try clear hi); obtain ⟨hcz19_0, hcz19_1, hcz19_2⟩ := cz3 BK497.out; obtain ⟨hfz19_0, hfz19_1, hfz19_2⟩ := fz3 BK497.out))
  refine bodyPost_ret (xat rfl _ _ gb497 26 #[.int .i8 0, .int .i64 0, .string (⟨#[]⟩ : ByteArray)] (0, 0) _ rfl (by (with_reducible repeat (first | refine xae ?_ _ | refine xaf ?_ | refine xad ?_ _)); refine xas (cs := #[.int .i8 0, .int .i64 0, .string (⟨#[]⟩ : ByteArray)]) ?_ 2 _ rfl; (with_reducible repeat (first | refine xae ?_ _ | refine xaf ?_ | refine xad ?_ _)); refine xas (cs := #[.int .i8 0, .int .i64 0, .string (⟨#[]⟩ : ByteArray)]) ?_ 1 _ rfl; (with_reducible repeat (first | refine xae ?_ _ | refine xaf ?_ | refine xad ?_ _)); refine xas (cs := #[.int .i8 0, .int .i64 0, .string (⟨#[]⟩ : ByteArray)]) ?_ 0 _ rfl; (with_reducible repeat (first | refine xae ?_ _ | refine xaf ?_ | refine xad ?_ _)); exact BK497.out) Tryd.underlying26 rfl (by kernel_rfl)) rfl ?_
  exact ⟨by first | rfl | (simp [xak, xal] <;> rfl) | (simp [*, xak, xal] <;> rfl), by repeat (first | (with_reducible first | exact HB.out | apply xab | apply xaa | apply xac | refine xag ?_ GE496.out | refine xag ?_ GE497.out) | exact HB.out)⟩
theorem wf_i64 {n : Int} (h : (Lit.int .i64 n).wf = true) : -9223372036854775808 ≤ n ∧ n ≤ 9223372036854775807 := by
 have h1 : (decide (IntKind.i64.min ≤ n) && decide (n ≤ IntKind.i64.max)) = true := h
 rw [Bool.and_eq_true, decide_eq_true_eq, decide_eq_true_eq] at h1
 exact ⟨h1.1, h1.2⟩
theorem wf_i8 {n : Int} (h : (Lit.int .i8 n).wf = true) : -128 ≤ n ∧ n ≤ 127 := by
 have h1 : (decide (IntKind.i8.min ≤ n) && decide (n ≤ IntKind.i8.max)) = true := h
 rw [Bool.and_eq_true, decide_eq_true_eq, decide_eq_true_eq] at h1
 exact ⟨h1.1, h1.2⟩
theorem bound_l0 (bs : List S41) (hbs : bs.length ≤ 4000000000000) (s : ByteArray) (a b : Int) (c : ByteArray) : ∀ (m i : Nat), bs.length - i = m → i ≤ bs.length → Ev (fun k => r4_Bound.l0 k bs (i : Int) s a b c) (match (bs.drop i).find? (fun b => b.f0.data.toList == s.data.toList) with | some b => (b.f1.f0, b.f1.f1, b.f1.f2, valueOk b.f1) | none => (0, 0, ⟨#[]⟩, false))
 | 0, i, hm, hi => by
  rw [List.drop_eq_nil_of_le (by omega)]
  exact Ev.of (fun k => by rw [r4_Bound.l0, if_neg (by omega)]; rfl)
 | m + 1, i, hm, hi => by
  have hlt : i < bs.length := by omega
  have e : rd_T41 bs (i : Int) = bs[i] := by rw [rd_T41, List.getD_eq_getElem?_getD, Int.toNat_natCast, List.getElem?_eq_getElem hlt]; rfl
  have ih := bound_l0 bs hbs s a b c m (i + 1) (by omega) (by omega)
  rw [List.drop_eq_getElem_cons hlt, List.find?_cons]
  by_cases h : bs[i].f0.toList = s.toList
  ·have h2 : (bs[i].f0.data.toList == s.data.toList) = true := by rw [xbj, xbj] at h; simpa using h
   rw [h2]
   obtain ⟨r, hr, hv⟩ := valueOk_tot bs[i].f1
   refine Ev.of (fun k => ?_)
   rw [r4_Bound.l0, if_pos (by omega), if_pos (by omega), e, if_pos h, value_same, hr]
   show some (bs[i].f1.f0, bs[i].f1.f1, bs[i].f1.f2, r == 0) = some (bs[i].f1.f0, bs[i].f1.f1, bs[i].f1.f2, valueOk bs[i].f1)
   rw [hv]
  ·have h2 : (bs[i].f0.data.toList == s.data.toList) = false := by rw [xbj, xbj] at h; simpa using h
   rw [h2]
   refine ih.step (fun k => ?_)
   rw [r4_Bound.l0, if_pos (by omega), if_pos (by omega), e, if_neg h, w64 (by omega) (by omega)]
   rfl
theorem valueOk_zero : valueOk z26 = false := rfl
theorem worth_term (bs : List S41) (hbs : bs.length ≤ 4000000000000) (n : Nat) (x : S31) (h0 : x.f0 = 0) : Ev (fun k => r4_worth.f k x.f0 x.f1.f0 x.f1.f1.f0 x.f1.f1.f1 x.f1.f1.f2 x.f2 bs) (evalN bs (n + 1) x) := by
 have hres : evalN bs (n + 1) x = (if x.f1.f0.toList = [] then (x.f1.f1.f0, x.f1.f1.f1, x.f1.f1.f2, true) else if valueOk (boundV bs x.f1.f0) then ((boundV bs x.f1.f0).f0, (boundV bs x.f1.f0).f1, (boundV bs x.f1.f0).f2, true) else (0, 0, ⟨#[]⟩, false)) := by rw [evalN, if_pos h0]
 have hb : Ev (fun k => r4_Bound.f k bs x.f1.f0 x.f1.f1.f0 x.f1.f1.f1 x.f1.f1.f2) (if x.f1.f0.toList = [] then (x.f1.f1.f0, x.f1.f1.f1, x.f1.f1.f2, true) else (match bs.find? (fun b => b.f0.data.toList == x.f1.f0.data.toList) with | some b => (b.f1.f0, b.f1.f1, b.f1.f2, valueOk b.f1) | none => (0, 0, ⟨#[]⟩, false))) := by
  by_cases h1 : x.f1.f0.toList = []
  ·rw [if_pos h1]
   exact Ev.const (fun k => by rw [r4_Bound.f, if_pos h1])
  ·rw [if_neg h1]
   have := bound_l0 bs hbs x.f1.f0 x.f1.f1.f0 x.f1.f1.f1 x.f1.f1.f2 _ 0 rfl (Nat.zero_le _)
   rw [List.drop_zero] at this
   exact this.cong (fun k => by rw [r4_Bound.f, if_neg h1]; rfl)
 have h3 := Ev.of_bind (g := fun bt478 : Int × Int × ByteArray × Bool => (if bt478.2.2.2 = true then (some (bt478.1, bt478.2.1, bt478.2.2.1, true)) else (some (0, 0, (⟨#[]⟩ : ByteArray), false)))) (s := evalN bs (n + 1) x) hb (by
  rw [hres]
  by_cases h1 : x.f1.f0.toList = []
  ·rw [if_pos h1, if_pos h1, if_pos rfl]
  ·rw [if_neg h1, if_neg h1]
   unfold boundV
   cases hf : bs.find? (fun b => b.f0.data.toList == x.f1.f0.data.toList) with
   | none => simp [valueOk_zero]
   | some b => cases hv : valueOk b.f1 <;> simp [hv])
 exact h3.step (fun k => by rw [r4_worth.f, if_pos h0])
def RangeE : Nat → S31 → Prop
 | 0, _ => True
 | n + 1, x => (-9223372036854775808 ≤ x.f1.f1.f1 ∧ x.f1.f1.f1 ≤ 9223372036854775807) ∧ ∀ k ∈ x.f2, RangeE n k
abbrev RangeB (bs : List S41) : Prop := ∀ b ∈ bs, -9223372036854775808 ≤ b.f1.f1 ∧ b.f1.f1 ≤ 9223372036854775807
abbrev R64 (n : Int) : Prop := -9223372036854775808 ≤ n ∧ n ≤ 9223372036854775807
theorem wrap_range (n : Int) : R64 (wrap64 n) := by unfold wrap64 R64; omega
theorem zero_range : R64 0 := by unfold R64; omega
theorem tmod_range (a b : Int) (ha : R64 a) : R64 (a.tmod b) := by
 unfold R64 at *
 have habs : (a.tmod b).natAbs ≤ a.natAbs := by rw [Int.natAbs_tmod]; exact Nat.mod_le _ _
 rcases Int.le_total 0 a with h | h
 ·have g1 := Int.tmod_nonneg b h
  omega
 ·have g1 : (-a).tmod b = -(a.tmod b) := Int.neg_tmod a b
  have g2 := Int.tmod_nonneg b (show 0 ≤ -a by omega)
  omega
theorem getD_range (l : List S26) (hl : InRange l) (i : Nat) : R64 (l.getD i z26).f1 := by
 rw [List.getD_eq_getElem?_getD]
 cases h : l[i]? with
 | none => exact zero_range
 | some v => exact hl v (List.mem_of_getElem? h)
theorem arithV_range (op : Int) (l : List S26) (hl : InRange l) : R64 (arithV op l).2.1 := by
 rw [arithV]
 by_cases h0 : op < 0 ∨ 11 ≤ op ∨ fitsV (howOf op) l = false
 ·rw [if_pos h0]; exact zero_range
 ·rw [if_neg h0]
  have hf : fitsV (howOf op) l = true := by
   cases h : fitsV (howOf op) l with
   | true => rfl
   | false => exact absurd (.inr (.inr h)) h0
  have hsz : ∀ i, (l.getD i z26).f2.size ≤ 200 := by
   intro i
   rw [List.getD_eq_getElem?_getD]
   cases h : l[i]? with
   | none => exact Nat.zero_le _
   | some v => exact fits_size hf v (List.mem_of_getElem? h)
  have h0s := hsz 0
  have hps := (pieces_sum (l.getD 0 z26).f2 (l.getD 0 z26).f2.size 0 (Nat.zero_le _)).2
  have hch := charsL_pieces (l.getD 0 z26).f2 (l.getD 0 z26).f2.size 0 0
  have hg := getD_range l hl 0
  repeat' split
  all_goals first | exact wrap_range _ | exact zero_range | exact tmod_range _ _ hg | (dsimp only; unfold R64; omega)
theorem boundV_range (bs : List S41) (hb : RangeB bs) (s : ByteArray) : R64 (boundV bs s).f1 := by
 unfold boundV
 cases h : bs.find? (fun b => b.f0.data.toList == s.data.toList) with
 | none => exact zero_range
 | some b => exact hb b (List.mem_of_find?_eq_some h)
theorem evalN_range (bs : List S41) (hb : RangeB bs) : ∀ (n : Nat) (x : S31), RangeE n x → R64 (evalN bs n x).2.1
 | 0, _, _ => zero_range
 | n + 1, x, h => by
  rw [evalN]
  by_cases h0 : x.f0 = 0
  ·rw [if_pos h0]
   by_cases h1 : x.f1.f0.toList = []
   ·rw [if_pos h1]; exact h.1
   ·rw [if_neg h1]
    split
    ·exact boundV_range bs hb _
    ·exact zero_range
  ·rw [if_neg h0]
   split
   ·refine arithV_range _ _ (fun v hv => ?_)
    obtain ⟨k, hk, rfl⟩ := List.mem_map.1 hv
    exact evalN_range bs hb n k (h.2 k hk)
   ·exact zero_range
theorem worth_l0 (bs : List S41) (n : Nat) (op : Int) (a : ByteArray) (b d : Int) (e : ByteArray) (l : List S31) (hl : l.length ≤ 1000) (hr : ∀ k ∈ l, R64 (evalN bs n k).2.1)
  (ih : ∀ k ∈ l, Ev (fun q => r4_worth.f q k.f0 k.f1.f0 k.f1.f1.f0 k.f1.f1.f1 k.f1.f1.f2 k.f2 bs) (evalN bs n k)) :
  ∀ (m i : Nat), l.length - i = m → i ≤ l.length → (l.take i).all (fun k => (evalN bs n k).2.2.2) = true →
   Ev (fun q => r4_worth.l0 q bs ((l.take i).map (fun k => asV (evalN bs n k))) (i : Int) op a b d e l) (if l.all (fun k => (evalN bs n k).2.2.2) then arithV op (l.map (fun k => asV (evalN bs n k))) else (0, 0, ⟨#[]⟩, false))
 | 0, i, hm, hi, hall => by
  rw [List.take_of_length_le (by omega)] at hall ⊢
  rw [if_pos hall]
  have ha := arith_ev op (l.map (fun k => asV (evalN bs n k))) (fun v hv => by
   obtain ⟨k, hk, rfl⟩ := List.mem_map.1 hv
   exact hr k hk)
  have h2 := Ev.of_bind (g := fun bt492 : Int × Int × ByteArray × Bool => some (bt492.1, bt492.2.1, bt492.2.2.1, bt492.2.2.2)) ha rfl
  exact h2.step (fun q => by rw [r4_worth.l0, if_neg (by omega)])
 | m + 1, i, hm, hi, hall => by
  have hlt : i < l.length := by omega
  have er : rd_T31 l (i : Int) = l[i] := by rw [rd_T31, List.getD_eq_getElem?_getD, Int.toNat_natCast, List.getElem?_eq_getElem hlt]; rfl
  have hk := ih l[i] (List.getElem_mem hlt)
  have et : l.take (i + 1) = l.take i ++ [l[i]] := by rw [List.take_add_one, List.getElem?_eq_getElem hlt]; rfl
  have hlen : ((l.take i).map (fun k => asV (evalN bs n k))).length < 4398046511104 := by rw [List.length_map, List.length_take]; omega
  refine Ev.step (f := fun q => (r4_worth.f q l[i].f0 l[i].f1.f0 l[i].f1.f1.f0 l[i].f1.f1.f1 l[i].f1.f1.f2 l[i].f2 bs).bind fun bt484 => (if bt484.2.2.2 = true then (if ((l.take i).map (fun k => asV (evalN bs n k))).length < 4398046511104 then (r4_worth.l0 q bs (((l.take i).map (fun k => asV (evalN bs n k))) ++ [(⟨bt484.1, bt484.2.1, bt484.2.2.1⟩ : S26)]) (wrap64 ((i : Int) + 1)) op a b d e l) else (none)) else (some (0, 0, (⟨#[]⟩ : ByteArray), false)))) ?_ (fun q => by rw [r4_worth.l0, if_pos (by omega), if_pos (by omega), er])
  refine Ev.bind (g := fun q bt484 => (if bt484.2.2.2 = true then (if ((l.take i).map (fun k => asV (evalN bs n k))).length < 4398046511104 then (r4_worth.l0 q bs (((l.take i).map (fun k => asV (evalN bs n k))) ++ [(⟨bt484.1, bt484.2.1, bt484.2.2.1⟩ : S26)]) (wrap64 ((i : Int) + 1)) op a b d e l) else (none)) else (some (0, 0, (⟨#[]⟩ : ByteArray), false)))) hk ?_
  cases hok : (evalN bs n l[i]).2.2.2 with
  | false =>
   have hna : l.all (fun k => (evalN bs n k).2.2.2) = false := List.all_eq_false.2 ⟨l[i], List.getElem_mem hlt, by rw [hok]; simp⟩
   rw [hna, if_neg (by simp)]
   exact Ev.const (fun q => by rw [if_neg (by simp)])
  | true =>
   have h2 := worth_l0 bs n op a b d e l hl hr ih m (i + 1) (by omega) (by omega) (by rw [et, List.all_append, hall]; simp [hok])
   rw [et, List.map_append, List.map_singleton] at h2
   refine h2.cong (fun q => ?_)
   rw [if_pos rfl, if_pos hlen, w64 (by omega) (by omega)]
   rfl
theorem worth_ev (bs : List S41) (hbs : bs.length ≤ 4000000000000) (hb : RangeB bs) : ∀ (n : Nat) (x : S31), ReadyE n x → RangeE n x → Ev (fun k => r4_worth.f k x.f0 x.f1.f0 x.f1.f1.f0 x.f1.f1.f1 x.f1.f1.f2 x.f2 bs) (evalN bs n x)
 | 0, _, h, _ => h.elim
 | n + 1, x, h, hr => by
  by_cases h0 : x.f0 = 0
  ·exact worth_term bs hbs n x h0
  ·rw [evalN, if_neg h0]
   have h2 := worth_l0 bs n x.f0 x.f1.f0 x.f1.f1.f0 x.f1.f1.f1 x.f1.f1.f2 x.f2 (by have := h.2.2.2.1; omega) (fun k hk => evalN_range bs hb n k (hr.2 k hk)) (fun k hk => worth_ev bs hbs hb n k (h.2.2.2.2 k hk) (hr.2 k hk)) _ 0 rfl (Nat.zero_le _) rfl
   exact h2.step (fun k => by rw [r4_worth.f, if_neg h0]; rfl)
theorem refEval_ev (bs : List S41) (hbs : bs.length ≤ 4000000000000) (hb : RangeB bs) (x : S31) (hrd : deepB 8 x = true → ReadyE 8 x ∧ RangeE 8 x) : Ev (fun k => r4_Eval.f k x.f0 x.f1.f0 x.f1.f1.f0 x.f1.f1.f1 x.f1.f1.f2 x.f2 bs) (evalTop bs x) := by
 refine Ev.bind (g := fun k t498 => (if t498 = true then ((r4_worth.f k x.f0 x.f1.f0 x.f1.f1.f0 x.f1.f1.f1 x.f1.f1.f2 x.f2 bs).bind fun bt499 => (some (bt499.1, bt499.2.1, bt499.2.2.1, bt499.2.2.2))) else (some (0, 0, (⟨#[]⟩ : ByteArray), false)))) (expr_ev 8 (by decide) x) ?_
 unfold evalTop
 cases hd : deepB 8 x with
 | false => exact Ev.const (fun k => by rw [if_neg (by simp)]; rfl)
 | true =>
  obtain ⟨h1, h2⟩ := hrd hd
  have h3 := Ev.of_bind (g := fun bt499 : Int × Int × ByteArray × Bool => some (bt499.1, bt499.2.1, bt499.2.2.1, bt499.2.2.2)) (worth_ev bs hbs hb 8 x h1 h2) rfl
  exact h3.cong (fun k => by rw [if_pos rfl])
theorem ready_of : ∀ (d m : Nat) (x : S31), deepB d x = true → FE m x → ReadyE d x ∧ RangeE d x
 | 0, _, x, h, _ => by simp [deepB] at h
 | d + 1, 0, x, h, hF => hF.elim
 | d + 1, m + 1, x, h, hF => by
  obtain ⟨hop, ⟨hsz, _, hn, _⟩, _, hk⟩ := hF
  have h8 := wf_i8 hop
  rw [deepB] at h
  by_cases h0 : x.f0 = 0
  ·rw [if_pos h0, Bool.and_eq_true, decide_eq_true_eq] at h
   have hnil : x.f2 = [] := List.length_eq_zero_iff.1 h.1
   refine ⟨⟨hsz, h8.1, h8.2, by omega, fun k hk => ?_⟩, wf_i64 hn, fun k hk => ?_⟩ <;> (rw [hnil] at hk; cases hk)
  ·rw [if_neg h0, Bool.and_eq_true, Bool.and_eq_true, decide_eq_true_eq] at h
   have har : arityOf x.f0 ≤ 2 := by unfold arityOf; repeat' split <;> omega
   have hkids := List.all_eq_true.1 h.2
   exact ⟨⟨hsz, h8.1, h8.2, by have := h.1.2; omega, fun k hk' => (ready_of d m k (hkids k hk') (hk k hk')).1⟩, wf_i64 hn, fun k hk' => (ready_of d m k (hkids k hk') (hk k hk')).2⟩
def placeOf (L : List ByteArray) (q : List UInt8) : Option Value := (L.findIdx? (fun y => y.data.toList == q)).map fun i => .int .i64 ((i : Int) + 1)
structure VS (w0 : World) (L M : List ByteArray) (v u : Value) (w : World) : Prop where
 below : Below w0.heap.size w0 w
 bt : w.heap[w0.heap.size + 2]? = some (.cells #[.map (some (w0.heap.size + 1))] 154 (0, 0))
 sm : SMap Tryd.prog 9 w (w0.heap.size + 1) M.length (placeOf M)
 bl : w.heap[w0.heap.size]? = some (.cells #[v] 39 (0, 0))
 row : Kd.string.R 9 w w0.heap.size (fun _ => True) u L
structure VarsI (w0 : World) (L : List ByteArray) (w : World) : Prop where
 sizes : ∀ y ∈ L, y.size ≤ 140737488351232
 len : L.length ≤ 4294967296
 vs : ∃ v, VS w0 L L v v w
theorem VS.alloc {w0 : World} {L M : List ByteArray} {v u : Value} {w : World} (h : VS w0 L M v u w) (o : Obj) : VS w0 L M v u (w.alloc o) :=
 ⟨xab h.below o, xad h.bt o, h.sm.kept (World.grownBy_alloc w o none) (by simp), xad h.bl o, Kd.R_grown h.row (World.grownBy_alloc w o none) (by simp)⟩
theorem VS.drew {w0 : World} {L M : List ByteArray} {v u : Value} {w : World} (h : VS w0 L M v u w) : VS w0 L M v u w.drew :=
 ⟨xba h.below, h.bt, h.sm.move rfl, h.bl, Kd.R_move h.row (fun _ _ => rfl)⟩
theorem FE_short {n : Nat} : ∀ {q : Nat} {x : S31}, FE n x → short q x := by
 induction n with
 | zero => exact fun h => h.elim
 | succ n ih =>
  intro q x h
  cases q with
  | zero => trivial
  | succ q =>
   refine ⟨?_, fun k hk => ih (h.2.2.2 k hk)⟩
   have := h.2.2.1
   have : x.f2.length * 80 ≤ 140737488351232 := this
   omega
def TabB (w : World) : Prop := Lib.TabIs Tryd.prog w "internal/strconv.uint64pow10" .u64 Lib.pow10Tab
theorem TabB.below {w w1 : World} (h : TabB w) (hb : Below w.heap.size w w1) : TabB w1 := by
 have hg : Tryd.prog.globalNamed "internal/strconv.uint64pow10" = some 1 := by kernel_rfl
 unfold TabB Lib.TabIs at *
 refine var?_below hb hg ?_ h
 unfold World.var? at h
 simp only [hg, Option.bind_some] at h
 rcases Nat.lt_or_ge 1 w.heap.size with h' | h'
 ·exact h'
 ·simp [Array.getElem?_eq_none h'] at h
end Go.Proofs.YtllcmggmcogokaaDoor.PAll
end
section
namespace Go.Proofs
open Go.Shelf
def Tryd.laysM171_ren : Go.Shelf.Ren := ⟨fun | 171 => 142 | 243 => 148 | 246 => 150 | 283 => 152 | 284 => 153 | 285 => 154 | 286 => 155 | 129 => 157 | 317 => 156 | 318 => 158 | 319 => 159 | 320 => 160 | 337 => 161 | 338 => 162 | n => n, fun | 3 => 3 | 9 => 9 | 2 => 2 | 4 => 4 | 171 => 183 | 0 => 0 | 53 => 184 | 37 => 150 | 5 => 5 | 173 => 187 | 212 => 191 | 51 => 192 | 20 => 20 | 213 => 193 | 46 => 195 | 232 => 198 | 233 => 199 | n => n, fun | 17 => 1 | 18 => 2 | 19 => 3 | n => n⟩
theorem Tryd.laysM171 : Go.Proofs.LaysM.n171 Tryd.prog Tryd.laysM171_ren := {
 mixed := by kernel_rfl
 f129 := Tryd.func157.trans (congrArg some (by kernel_rfl))
 f171 := Tryd.func142.trans (congrArg some (by kernel_rfl))
 f243 := Tryd.func148.trans (congrArg some (by kernel_rfl))
 f246 := Tryd.func150.trans (congrArg some (by kernel_rfl))
 f283 := Tryd.func152.trans (congrArg some (by kernel_rfl))
 f284 := Tryd.func153.trans (congrArg some (by kernel_rfl))
 f285 := Tryd.func154.trans (congrArg some (by kernel_rfl))
 f286 := Tryd.func155.trans (congrArg some (by kernel_rfl))
 f317 := Tryd.func156.trans (congrArg some (by kernel_rfl))
 f318 := Tryd.func158.trans (congrArg some (by kernel_rfl))
 f319 := Tryd.func159.trans (congrArg some (by kernel_rfl))
 f320 := Tryd.func160.trans (congrArg some (by kernel_rfl))
 f337 := Tryd.func161.trans (congrArg some (by kernel_rfl))
 f338 := Tryd.func162.trans (congrArg some (by kernel_rfl))
 t0 := Tryd.underlying0
 a0 := Tryd.isAgg0
 z0 := Tryd.sizeOf0
 v0 := Tryd.zeroValue0
 t2 := Tryd.underlying2
 a2 := Tryd.isAgg2
 z2 := Tryd.sizeOf2
 v2 := Tryd.zeroValue2
 t3 := Tryd.underlying3
 a3 := Tryd.isAgg3
 z3 := Tryd.sizeOf3
 v3 := Tryd.zeroValue3
 t4 := Tryd.underlying4
 a4 := Tryd.isAgg4
 z4 := Tryd.sizeOf4
 v4 := Tryd.zeroValue4
 t5 := Tryd.underlying5
 a5 := Tryd.isAgg5
 z5 := Tryd.sizeOf5
 v5 := Tryd.zeroValue5
 t9 := Tryd.underlying9
 a9 := Tryd.isAgg9
 z9 := Tryd.sizeOf9
 v9 := Tryd.zeroValue9
 t20 := Tryd.underlying20
 a20 := Tryd.isAgg20
 z20 := Tryd.sizeOf20
 v20 := Tryd.zeroValue20
 t37 := Tryd.underlying150
 a37 := Tryd.isAgg150
 z37 := Tryd.sizeOf150
 v37 := Tryd.zeroValue150
 t46 := Tryd.underlying195
 a46 := Tryd.isAgg195
 z46 := Tryd.sizeOf195
 v46 := Tryd.zeroValue195
 t51 := Tryd.underlying192
 a51 := Tryd.isAgg192
 z51 := Tryd.sizeOf192
 v51 := Tryd.zeroValue192
 t53 := Tryd.underlying184
 a53 := Tryd.isAgg184
 z53 := Tryd.sizeOf184
 v53 := Tryd.zeroValue184
 t171 := Tryd.underlying183
 a171 := Tryd.isAgg183
 z171 := Tryd.sizeOf183
 v171 := Tryd.zeroValue183
 t173 := Tryd.underlying187
 a173 := Tryd.isAgg187
 z173 := Tryd.sizeOf187
 v173 := Tryd.zeroValue187
 t212 := Tryd.underlying191
 a212 := Tryd.isAgg191
 z212 := Tryd.sizeOf191
 v212 := Tryd.zeroValue191
 t213 := Tryd.underlying193
 a213 := Tryd.isAgg193
 z213 := Tryd.sizeOf193
 t232 := Tryd.underlying198
 a232 := Tryd.isAgg198
 z232 := Tryd.sizeOf198
 v232 := Tryd.zeroValue198
 t233 := Tryd.underlying199
 a233 := Tryd.isAgg199
 z233 := Tryd.sizeOf199
 v233 := Tryd.zeroValue199
 g17 := by kernel_rfl
 g18 := by kernel_rfl
 g19 := by kernel_rfl
 i0 := by kernel_rfl
 i2 := by kernel_rfl
 i3 := by kernel_rfl
 i4 := by kernel_rfl
 i5 := by kernel_rfl
 i9 := by kernel_rfl
 i20 := by kernel_rfl
 i37 := by kernel_rfl
 i46 := by kernel_rfl
 i51 := by kernel_rfl
 i53 := by kernel_rfl
 i171 := by kernel_rfl
 i173 := by kernel_rfl
 i212 := by kernel_rfl
 i232 := by kernel_rfl
 i233 := by kernel_rfl
 m17 := by kernel_rfl
 m18 := by kernel_rfl
 m19 := by kernel_rfl }
open Go.RowKit Go.Sort Go.Lib in
theorem Tryd.strconv_Itoa (n : Int) (h0 : -9223372036854775808 ≤ n) (h1 : n ≤ 9223372036854775807) (w : World) (htab : Lib.TabIs Tryd.prog w "internal/strconv.uint64pow10" .u64 Lib.pow10Tab) :
  Calls Tryd.prog 142 #[.int .i64 n] w fun e w' => e = .returned (.string ⟨(Lib.itoa n).toArray⟩) ∧ ∃ k os, w' = grow (w.drewN k) os := Any.strconv_Itoa Tryd.laysM171 n h0 h1 w htab
end Go.Proofs
end
section
namespace Go.Proofs.YtllcmggmcogokaaDoor.PAll
open Go.RowKit Go.Proofs.YtllcmggmcogokaaDoorW.PrintWords Go.Proofs.YtllcmggmcogokaaDoorW.PrintLast Go.Proofs.YtllcmggmcogokaaDoorW.PrintMore
attribute [local go_sem] max2_int min2_int max_two min_two max_three min_three max_four min_four
theorem below_grow (w : World) (k : Nat) (os : Array Obj) : Below w.heap.size w (Go.Sort.grow (w.drewN k) os) :=
 ⟨rfl, rfl, rfl, by simp [Go.Sort.grow], fun i hi => by simp only [Go.Sort.grow]; exact Array.getElem?_append_left hi⟩
def wordOf (n : Int) : ByteArray := ⟨#[35]⟩ ++ ⟨(Lib.itoa n).toArray⟩
def w1_word.f (a0 : Int) : Option (ByteArray) := if -9223372036854775808 ≤ a0 ∧ a0 ≤ 9223372036854775807 ∧ (Lib.itoa a0).length ≤ 1000 then some (wordOf a0) else none
set_option maxHeartbeats 4000000 in
theorem w1_word.calls (a0 : Int) (r : ByteArray) (w : World) (hTB : TabB w) (h : w1_word.f a0 = some r) :
  Calls Tryd.prog 124 #[.int .i64 a0] w fun e w' => e = .returned (.string r) ∧ Below w.heap.size w w' := by
 unfold w1_word.f at h
 split at h
 ·rename_i hh
  obtain ⟨h0, h1, h2⟩ := hh
  have HR := Lib.hid (Option.some.inj h)
  have HT := Lib.hid hTB
  clear h hTB
  go_enter Tryd.func124, Tryd.ntmps124
  go_wp2_with fail
  refine (Tryd.strconv_Itoa a0 h0 h1 _ HT.out).mono ?_
  rintro e w1 ⟨rfl, k, os, hw⟩
  have HB := Lib.hid (show Below w.heap.size w w1 by rw [hw]; exact below_grow w k os)
  have HW : Hid (wordOf a0 = ⟨#[35]⟩ ++ ⟨(Lib.itoa a0).toArray⟩) := Lib.hid rfl
  clear hw
  generalize Lib.itoa a0 = l at *
  go_wp2_with fail
  go_ret
  exact ⟨by rw [← HR.out, HW.out]; rfl, HB.out⟩
 ·cases h
end Go.Proofs.YtllcmggmcogokaaDoor.PAll
end
section

namespace Go.Proofs.YtllcmggmcogokaaDoor.PAll
open Go.RowKit Go.Proofs.YtllcmggmcogokaaDoorW.PrintWords Go.Proofs.YtllcmggmcogokaaDoorW.PrintLast Go.Proofs.YtllcmggmcogokaaDoorW.PrintMore
attribute [local go_sem] max2_int min2_int max_two min_two max_three min_three max_four min_four
set_option linter.unusedVariables false
set_option linter.unusedSimpArgs false
section
open Go.Proofs.YtllcmggmcogokaaDoorW.PrintWords.Kd
def Raw (n : Nat) (c : List Value) : Prop := c.length = n ∧ ∀ u ∈ c, u.oneCell' = true
def orC {α : Type} (d : Kd α) : Kd (α ⊕ List Value) where
 sz := d.sz
 E := d.E
 K := fun w x cs => match x with
  | .inl a => d.K w a cs
  | .inr c => cs = c ∧ Raw d.sz c
 M := fun w base ok x cs => match x with
  | .inl a => d.M w base ok a cs
  | .inr c => cs = c ∧ Raw d.sz c
 K_len := by
  intro w x cs h
  cases x with
  | inl a => exact d.K_len h
  | inr c => rw [h.1]; exact h.2.1
 K_one := by
  intro w x cs h
  cases x with
  | inl a => exact d.K_one h
  | inr c => rw [h.1]; exact h.2.2
 K_below := by
  intro w w1 x cs hb h
  cases x with
  | inl a => exact d.K_below hb h
  | inr c => exact h
 K_of_M := by
  intro w base ok x cs h
  cases x with
  | inl a => exact d.K_of_M h
  | inr c => exact h
 M_mono := by
  intro w base ok ok' x cs hok h
  cases x with
  | inl a => exact d.M_mono hok h
  | inr c => exact h
 M_bound := by
  intro w base ok x cs h
  cases x with
  | inl a => exact d.M_bound h
  | inr c => exact h
 M_move := by
  intro w w1 base ok x cs hm h
  cases x with
  | inl a => exact d.M_move hm h
  | inr c => exact h
 M_lower := by
  intro w base base' ok x cs hb h
  cases x with
  | inl a => exact d.M_lower hb h
  | inr c => exact h
def marked {α : Type} (xs : List α) (mk : List Value) : List (α ⊕ List Value) := xs.map .inl ++ [.inr mk]
theorem marked_length {α : Type} (xs : List α) (mk : List Value) : (marked xs mk).length = xs.length + 1 := by simp [marked]
def twin {α : Type} (e : Nat) (d : Kd α) (mk : List Value) : Kd (List α) where
 sz := 1
 E := e :: d.E
 K := fun w xs cs => ∃ A c, cs = [.slice A xs.length c] ∧ xs.length + 1 ≤ c ∧ (orC d).C w A (xs.length + 1) (marked xs mk)
 M := fun w base ok xs cs => ∃ A c, cs = [.slice A xs.length c] ∧ (orC d).R e w base ok (.slice A (xs.length + 1) c) (marked xs mk)
 K_len := by
  rintro w x cs ⟨A, c, rfl, _⟩
  rfl
 K_one := by
  rintro w x cs ⟨A, c, rfl, _⟩ u hu
  rw [List.mem_singleton.1 hu]
  rfl
 K_below := by
  rintro w w1 x cs hb ⟨A, c, rfl, hl, hr⟩
  exact ⟨A, c, rfl, hl, C_below hr hb⟩
 K_of_M := by
  rintro w base ok x cs ⟨A, c, rfl, h⟩
  obtain ⟨h1, h2, h3⟩ := R_reads' h
  rw [marked_length] at h3
  exact ⟨A, c, rfl, h2, h3⟩
 M_mono := by
  rintro w base ok ok' x cs hok ⟨A, c, rfl, h⟩
  exact ⟨A, c, rfl, R_mono h hok⟩
 M_bound := by
  rintro w base ok x cs ⟨A, c, rfl, h⟩
  exact ⟨A, c, rfl, R_bound h⟩
 M_move := by
  rintro w w1 base ok x cs hm ⟨A, c, rfl, h⟩
  exact ⟨A, c, rfl, R_move h hm⟩
 M_lower := by
  rintro w base base' ok x cs hb ⟨A, c, rfl, h⟩
  exact ⟨A, c, rfl, R_lower h hb⟩
theorem orC_imp {α : Type} {d d' : Kd α} (hs : d.sz = d'.sz) (h : ∀ w x cs, d.K w x cs → d'.K w x cs) (w : World) (x : α ⊕ List Value) (cs : List Value) (hK : (orC d).K w x cs) : (orC d').K w x cs := by
 cases x with
 | inl a => exact h _ _ _ hK
 | inr c => exact ⟨hK.1, by rw [← hs]; exact hK.2⟩
theorem orM_imp {α : Type} {d d' : Kd α} (hs : d.sz = d'.sz) (h : ∀ w base ok x cs, d.M w base ok x cs → d'.M w base ok x cs) (w : World) (base : Nat) (ok : Nat → Prop) (x : α ⊕ List Value) (cs : List Value) (hK : (orC d).M w base ok x cs) : (orC d').M w base ok x cs := by
 cases x with
 | inl a => exact h _ _ _ _ _ hK
 | inr c => exact ⟨hK.1, by rw [← hs]; exact hK.2⟩
theorem mono_twin {α β : Type} (e : Nat) (mk : List Value) {G : Kd α → Kd β} (hG : Mono G) : Mono (fun d => twin e (G d) mk) := by
 refine ⟨fun _ _ _ => rfl, ?_, ?_⟩
 ·rintro d d' hs h w x cs ⟨A, c, rfl, hl, hr⟩
  exact ⟨A, c, rfl, hl, C_imp (d := orC (G d)) (d' := orC (G d')) (hG.sz d d' hs) (orC_imp (hG.sz d d' hs) (hG.K d d' hs h)) hr⟩
 ·rintro d d' hs h w base ok x cs ⟨A, c, rfl, hr⟩
  exact ⟨A, c, rfl, R_imp (d := orC (G d)) (d' := orC (G d')) (hG.sz d d' hs) (orM_imp (hG.sz d d' hs) (hG.M d d' hs h)) hr⟩
theorem sub_twin {α β : Type} {E : List Nat} (e : Nat) (mk : List Value) {G : Kd α → Kd β} (he : e ∈ E) (hG : Sub G E) : Sub (fun d => twin e (G d) mk) E := fun d h q hq => by
 rcases List.mem_cons.1 hq with rfl | hq
 ·exact he
 ·exact hG d h q hq
theorem marked_C {α : Type} {d d' : Kd α} (hs : d.sz = d'.sz) (h : ∀ w x cs, d.K w x cs → d'.K w x cs) {w : World} {A : Option Addr} {xs : List α} {mk : List Value} (hr : (orC d).C w A (xs.length + 1) (marked xs mk)) : d'.C w A xs.length xs := by
 obtain ⟨h1, h2, h3⟩ := hr
 refine ⟨rfl, by omega, fun hn => ?_⟩
 obtain ⟨ad, e, hc⟩ := h3 (by omega)
 refine ⟨ad, e, fun j p hj => ?_⟩
 have hl := (List.getElem?_eq_some_iff.1 hj).1
 obtain ⟨c, hcs, hK, hcell⟩ := hc j (.inl p) (by rw [marked, List.getElem?_append_left (by simpa using hl)]; simp [hj])
 exact ⟨c, by rw [← hs]; exact hcs, h _ _ _ hK, fun i u hu => by rw [← hs]; exact hcell i u hu⟩
theorem marked_mark {α : Type} {d : Kd α} {w : World} {A : Option Addr} {xs : List α} {mk : List Value} (hr : (orC d).C w A (xs.length + 1) (marked xs mk)) : ∃ ad, A = some ad ∧ ∀ i u, mk[i]? = some u → w.cell? (ad.add (xs.length * d.sz + i)) = some u := by
 obtain ⟨h1, h2, h3⟩ := hr
 obtain ⟨ad, e, hc⟩ := h3 (by omega)
 obtain ⟨c, hcs, hK, hcell⟩ := hc xs.length (.inr mk) (by rw [marked, List.getElem?_append_right (by simp)]; simp)
 obtain ⟨rfl, _⟩ := hK
 exact ⟨ad, e, hcell⟩
theorem marked_get {α : Type} {d : Kd α} {w : World} {A : Option Addr} {xs : List α} {mk : List Value} (hr : (orC d).C w A (xs.length + 1) (marked xs mk)) (z : α) (i : Nat) (hi : i < xs.length) : ∃ ad c, A = some ad ∧ c.length = d.sz ∧ d.K w (xs.getD i z) c ∧ ∀ j u, c[j]? = some u → w.cell? (ad.add (i * d.sz + j)) = some u := by
 obtain ⟨h1, h2, h3⟩ := hr
 obtain ⟨ad, e, hc⟩ := h3 (by omega)
 obtain ⟨c, hcs, hK, hcell⟩ := hc i (.inl (xs.getD i z)) (by rw [marked, List.getElem?_append_left (by simpa using hi)]; simp [List.getD_eq_getElem?_getD, List.getElem?_eq_getElem hi])
 exact ⟨ad, c, e, hcs, hK, hcell⟩
def begun {α : Type} (xs : List α) (i : Nat) (z : List Value) : List (α ⊕ List Value) := (xs.take i).map .inl ++ List.replicate (xs.length + 1 - i) (.inr z)
theorem begun_length {α : Type} (xs : List α) (i : Nat) (z : List Value) (h : i ≤ xs.length) : (begun xs i z).length = xs.length + 1 := by simp [begun]; omega
theorem begun_zero {α : Type} (xs : List α) (z : List Value) : begun xs 0 z = List.replicate (xs.length + 1) (.inr z) := by simp [begun]
theorem begun_set {α : Type} (xs : List α) (i : Nat) (z : List Value) (d : α) (h : i < xs.length) : (begun xs i z).set i (.inl (xs.getD i d)) = begun xs (i + 1) z := by
 apply List.ext_getElem?
 intro j
 simp only [begun, List.getElem?_set, List.getElem?_append, List.length_map, List.length_take, List.length_append, List.length_replicate, List.getElem?_map, List.getElem?_take, List.getElem?_replicate]
 rw [Nat.min_eq_left (by omega), Nat.min_eq_left (by omega)]
 by_cases h1 : i = j
 ·subst h1
  simp [h, List.getD_eq_getElem?_getD]
  omega
 ·rw [if_neg h1]
  by_cases h2 : j < i
  ·simp [h2, show j < i + 1 by omega]
  ·simp only [h2, if_false, show ¬ j < i + 1 by omega]
   by_cases h3 : j - i < xs.length + 1 - i
   ·rw [if_pos h3, if_pos (by omega)]
   ·rw [if_neg h3, if_neg (by omega)]
theorem begun_mark {α : Type} (xs : List α) (z mk : List Value) : (begun xs xs.length z).set xs.length (.inr mk) = marked xs mk := by
 simp [begun, marked]
end
section
open Go.Proofs.YtllcmggmcogokaaDoorW.PrintWords.Kd
theorem begun_at {α : Type} (xs : List α) (i : Nat) (z : List Value) (d : α ⊕ List Value) (h : i ≤ xs.length) : (begun xs i z).getD i d = .inr z := by
 rw [List.getD_eq_getElem?_getD, begun, List.getElem?_append_right (by simp; omega)]
 simp only [List.length_map, List.length_take, Nat.min_eq_left h, Nat.sub_self]
 rw [List.getElem?_replicate, if_pos (by omega)]
 rfl
section
variable {α : Type} {d : Kd α} {e base g n cap : Nat} {ok okp : Nat → Prop} {W : World} {xs : List α} {z : List Value}
theorem begun_cells {i : Nat} (h : (orC d).R e W base ok (.slice (some ⟨g, 0, none⟩) n cap) (begun xs i z)) (hi : i ≤ xs.length) : z.length = d.sz ∧ (∀ j u, z[j]? = some u → W.cell? ⟨g, i * d.sz + j, none⟩ = some u) ∧ ∀ j, W.frozen? ⟨g, i * d.sz + j, none⟩ = false := by
 have hn := (R_reads' h).1
 rw [begun_length _ _ _ hi] at hn
 obtain ⟨c, h1, h2, h3, h4⟩ := R_elem h (.inr z) (i : Int) (by omega) (by omega)
 rw [show ((i : Int)).toNat = i by omega, begun_at _ _ _ _ hi] at h2
 obtain ⟨rfl, h5⟩ := h2
 exact ⟨h5.1, h3, h4⟩
theorem begun_put {i : Nat} (h : (orC d).R e W base ok (.slice (some ⟨g, 0, none⟩) n cap) (begun xs i z)) (hi : i < xs.length) (x0 : α) {seg : List Value} (hM : d.M W base okp (xs.getD i x0) seg) (hokp : ∀ k, okp k → ok k ∧ k ≠ g) :
  (orC d).R e (W.setCells g (i * d.sz) seg) base ok (.slice (some ⟨g, 0, none⟩) n cap) (begun xs (i + 1) z) ∧ W.grownBy (W.setCells g (i * d.sz) seg) (some g) := by
 have hn := (R_reads' h).1
 rw [begun_length _ _ _ (by omega)] at hn
 have hs := d.K_len (d.K_of_M hM)
 obtain ⟨h1, h2, h3⟩ := begun_cells h (by omega)
 have := R_seg h (i : Int) (by omega) (by omega) (c := z) (seg := seg) (j := 0) (x' := .inl (xs.getD i x0)) (okp := okp) h1 h2 (by show 0 + seg.length ≤ d.sz; omega) (by
  show d.M W base okp (xs.getD i x0) _
  rw [List.take_zero, List.nil_append, Nat.zero_add, List.drop_eq_nil_of_le (by omega), List.append_nil]
  exact hM) hokp
 rw [show ((i : Int)).toNat = i by omega, begun_set _ _ _ _ hi] at this
 exact this
theorem begun_end (h : (orC d).R e W base ok (.slice (some ⟨g, 0, none⟩) n cap) (begun xs xs.length z)) {seg : List Value} (hM : Raw d.sz seg) :
  (orC d).R e (W.setCells g (xs.length * d.sz) seg) base ok (.slice (some ⟨g, 0, none⟩) n cap) (marked xs seg) ∧ W.grownBy (W.setCells g (xs.length * d.sz) seg) (some g) := by
 have hn := (R_reads' h).1
 rw [begun_length _ _ _ (Nat.le_refl _)] at hn
 obtain ⟨h1, h2, h3⟩ := begun_cells h (Nat.le_refl _)
 have hs := hM.1
 have := R_seg h (xs.length : Int) (by omega) (by omega) (c := z) (seg := seg) (j := 0) (x' := .inr seg) (okp := fun _ => False) h1 h2 (by show 0 + seg.length ≤ d.sz; omega) (by
  show _ = seg ∧ Raw d.sz seg
  rw [List.take_zero, List.nil_append, Nat.zero_add, List.drop_eq_nil_of_le (by omega), List.append_nil]
  exact ⟨rfl, hM⟩) (fun _ h => h.elim)
 rw [show ((xs.length : Int)).toNat = xs.length by omega, begun_mark] at this
 exact this
end
end
def spare : ByteArray := wordOf 777777
theorem word_spare : w1_word.f 777777 = some spare := by
 rw [w1_word.f, if_pos ⟨by decide, by decide, by decide +kernel⟩, spare]
theorem cut_up {P : Program} (t e : TypeId) (kh : IntKind) {i : TypeInfo} (ht : P.underlying t = some (.slice e)) (hi : P.info? e = some i) (A : Option Addr) (n c : Nat) (j : Int) (h0 : 0 ≤ j) (hm : j ≤ c) :
  ∀ W : World, (Instr.slice t (.slice A n c) none (some (.int kh j)) none).run P W = .ok (.slice A j.toNat c) W := by
 intro W
 have hel : P.elem t = e := by simp [Program.elem, ht]
 have hu : P.underlying t = some (.slice (P.elem t)) := by rw [hel]; exact ht
 have ha : (A.map fun x => x.add 0) = A := by cases A <;> simp [Addr.add]
 rw [run_slice_h W t A n c hu kh j h0 (by omega), hel]
 simp [Go.sizeOf, typeInfo, hi, sliced, Result.andThen, ha]
end Go.Proofs.YtllcmggmcogokaaDoor.PAll

end
section
namespace Go.Proofs.YtllcmggmcogokaaDoor.PAll
open Go.RowKit Go.Proofs.YtllcmggmcogokaaDoorW.PrintWords Go.Proofs.YtllcmggmcogokaaDoorW.PrintLast Go.Proofs.YtllcmggmcogokaaDoorW.PrintMore
attribute [local go_sem] max2_int min2_int max_two min_two max_three min_three max_four min_four
def w1_BeyondExpr.f (k : Nat) (a0_0 : Int) (a0_1 : ByteArray) (a0_2 : Int) (a0_3 : Int) (a0_4 : ByteArray) (l0_5 : List (S31)) : Option (Bool) := (w1_ExprParts.f k a0_0 a0_1 a0_2 a0_3 a0_4 l0_5 1048576).bind fun t113 => (some (decide (t113 > 1048576)))
set_option maxHeartbeats 8000000 in
set_option maxRecDepth 100000 in
theorem w1_BeyondExpr.calls (k : Nat) (a0_0 : Int) (a0_1 : ByteArray) (a0_2 : Int) (a0_3 : Int) (a0_4 : ByteArray) (A0_5 : Option Addr) (c0_5 : Nat) (l0_5 : List (S31)) (r : Bool) (w : World) (hr0_5 : Kd.C k31 w A0_5 l0_5.length l0_5) (hc0_5 : l0_5.length ≤ c0_5) (h : w1_BeyondExpr.f k a0_0 a0_1 a0_2 a0_3 a0_4 l0_5 = some r) :
  Calls Tryd.prog 8 #[.agg #[.int .i8 a0_0, .string a0_1, .int .i8 a0_2, .int .i64 a0_3, .string a0_4, .slice A0_5 l0_5.length c0_5]] w fun e w' => e = .returned (.bool r) ∧ Below w.heap.size w w' := by
 have hu31 := Tryd.underlying31
 have HR0_5 := Aside0.mk hr0_5
 have HC0_5 := Aside0.mk hc0_5
 clear hr0_5 hc0_5
 have HB := Aside0.mk (Below.refl w.heap.size w)
 have H : ((w1_ExprParts.f k a0_0 a0_1 a0_2 a0_3 a0_4 l0_5 1048576).bind fun t113 => (some (decide (t113 > 1048576)))) = some r := h
 clear h
 replace H := Option.bind_eq_some_iff.mp H
 obtain ⟨t113, A20, H⟩ := H
 replace H : (some (decide (t113 > 1048576))) = some r := H
 have A2 := Aside0.mk A20
 clear A20
 obtain rfl := Option.some.inj H
 go_enter Tryd.func8, Tryd.ntmps8
 go_wp2_with (first | ((with_reducible refine xar (N := 1) rfl ?_); refine xaq ?hg (N := 1) ?hd (cs := #[.int .i8 a0_0, .string a0_1, .int .i8 a0_2, .int .i64 a0_3, .string a0_4, .slice A0_5 l0_5.length c0_5]) (t := 31) ?hr ?_; (case hd => rfl); (case hg => rfl); (case hr => first | (go_simp; done) | (go_simp; rfl)); intro gb112 hg w3 hbox hb; have n0_ := Aside0.mk (xai (by repeat (first | (with_reducible first | exact HB.out | apply xab | apply xaa | apply xac) | exact HB.out)) hb); have n1_ := Aside0.mk (hbox); have n2_ := Aside0.mk ((by rw [hg]; exact (xap (by repeat (first | (with_reducible first | exact HB.out | apply xab | apply xaa | apply xac) | exact HB.out))) : w.heap.size ≤ gb112)); have n3_ := n2_; clear HB; have HB := n0_; have BK112 := n1_; have GW112 := n2_; have GE112 := n3_; clear n0_ n1_ n2_ n3_; clear hb hbox hg; obtain ⟨hcz4_0, hcz4_1, hcz4_2, hcz4_3, hcz4_4, hcz4_5⟩ := cz6 BK112.out; obtain ⟨hfz4_0, hfz4_1, hfz4_2, hfz4_3, hfz4_4, hfz4_5⟩ := fz6 BK112.out) | ((with_reducible refine xav (f := 45) rfl ?_); refine goesL_ (some 4) rfl rfl Tryd.func45 (by kernel_rfl) rfl #[.agg #[.int .i8 a0_0, .string a0_1, .int .i8 a0_2, .int .i64 a0_3, .string a0_4, .slice A0_5 l0_5.length c0_5], .int .i64 1048576] rfl (by (try simp only [List.map_toArray, List.map_cons, List.map_nil]); first | done | rfl | (simp only [List.length_drop, List.length_take]; rfl)) ?_; (with_reducible refine (w1_ExprParts.calls k a0_0 a0_1 a0_2 a0_3 a0_4 (fun k_ => k_ < w.heap.size) _ _ l0_5 1048576 t113 _ ?side1 A2.out).mono ?_); (case side1 => exact Kd.V_mk HC0_5.out (Kd.F_below (Kd.C_F k31_heap HR0_5.out) (by repeat (first | (with_reducible first | exact HB.out | apply xab | apply xaa | apply xac | refine xag ?_ GE112.out) | exact HB.out)))); rintro e w5 ⟨rfl, hb⟩; refine ⟨_, rfl, ?_⟩; have n0_ := Aside0.mk (xan (g := gb112) (o := .cells #[.int .i8 a0_0, .string a0_1, .int .i8 a0_2, .int .i64 a0_3, .string a0_4, .slice A0_5 l0_5.length c0_5] 31 (0, 0)) (by (with_reducible repeat (first | refine xae ?_ _ | refine xaf ?_ | refine xad ?_ _)); exact BK112.out) hb); have n1_ := Aside0.mk (xai (by repeat (first | (with_reducible first | exact HB.out | apply xab | apply xaa | apply xac | refine xag ?_ GE112.out) | exact HB.out)) hb); clear BK112; clear HB; have BK112 := n0_; have HB := n1_; clear n0_ n1_; (try clear hb); (try clear hb2); (try clear hk); (try clear hi)))
 go_ret
 exact ⟨by first | rfl | (simp [xak, xal] <;> rfl) | (simp [*, xak, xal] <;> rfl), by repeat (first | (with_reducible first | exact HB.out | apply xab | apply xaa | apply xac | refine xag ?_ GE112.out) | exact HB.out)⟩
def mk31 : List Value := [.int .i8 99, .string spare, .int .i8 0, .int .i64 0, .string ⟨#[]⟩, .slice none 0 0]
set_option maxHeartbeats 4000000 in
set_option maxRecDepth 100000 in
theorem markExpr_mark (w : World) (hT : TabB w) : Calls Tryd.prog 123 #[.int .i64 777777] w fun e w' => e = .returned (.agg #[.int .i8 99, .string spare, .int .i8 0, .int .i64 0, .string ⟨#[]⟩, .slice none 0 0]) ∧ Below w.heap.size w w' := by
 have HT := Lib.hid hT
 clear hT
 go_enter Tryd.func123, Tryd.ntmps123
 go_wp2_with fail
 refine (w1_word.calls 777777 spare _ (HT.out.below (xab (Below.refl _ _) _)) word_spare).mono ?_
 rintro e w2 ⟨rfl, hb⟩
 have hk := xan (xaz w _) hb
 have HB := Lib.hid (xai (xab (Below.refl _ _) _) hb)
 clear hb
 have z0 := xaj hk 0
 have z1 := xaj hk 1
 have z2 := xaj hk 2
 have z3 := xaj hk 3
 have z4 := xaj hk 4
 have z5 := xaj hk 5
 have f0 := xam hk 0
 have f1 := xam hk 1
 have f2 := xam hk 2
 have f3 := xam hk 3
 have f4 := xam hk 4
 have f5 := xam hk 5
 have HK := Lib.hid hk
 clear hk
 simp at z0 z1 z2 z3 z4 z5
 go_wp2_with fail
 refine bodyPost_ret (results_cell_row rfl _ _ w.heap.size 31 #[.int .i8 99, .string spare, .int .i8 0, .int .i64 0, .string ⟨#[]⟩, .slice none 0 0] (0, 0) _ rfl (xas (xas (xas (xas (xas (xas HK.out 0 _ rfl) 1 _ rfl) 2 _ rfl) 3 _ rfl) 4 _ rfl) 5 _ rfl) Tryd.underlying31 rfl (by kernel_rfl)) rfl ?_
 exact ⟨rfl, xag (xag (xag (xag (xag (xag HB.out (Nat.le_refl _)) (Nat.le_refl _)) (Nat.le_refl _)) (Nat.le_refl _)) (Nat.le_refl _)) (Nat.le_refl _)⟩
def F31t (d : Kd S31) : Kd S31 := Kd.iso (Kd.pair (Kd.int .i8) (Kd.pair k28 (twin 31 d mk31))) (fun x : S31 => (x.f0, x.f1, x.f2))
theorem mono31t : Kd.Mono F31t := Kd.mono_iso _ (Kd.mono_pair (Kd.mono_const _) (Kd.mono_pair (Kd.mono_const _) (mono_twin 31 mk31 Kd.mono_id)))
theorem sub31t : Kd.Sub F31t [31] := Kd.sub_iso _ (Kd.sub_pair (Kd.sub_const _ (by decide)) (Kd.sub_pair (Kd.sub_const _ (by decide)) (sub_twin 31 mk31 (by decide) Kd.sub_id)))
theorem sz31t : ∀ n, (Kd.upto F31t 6 [31] n).sz = 6 := Kd.upto_sz (fun _ => rfl)
def k31t : Kd S31 := Kd.fix F31t 6 [31] sz31t (Kd.upto_E sub31t)
theorem orC_C {n : Nat} {w : World} {A : Option Addr} {m : Nat} {xs : List (S31 ⊕ List Value)} (h : (orC (Kd.upto F31t 6 [31] n)).C w A m xs) : (orC k31t).C w A m xs :=
 Kd.C_imp (sz31t n) (orC_imp (d := Kd.upto F31t 6 [31] n) (d' := k31t) (sz31t n) (fun w x cs h => ⟨n, h⟩)) h
theorem orC_R {n : Nat} {e : Nat} {w : World} {base : Nat} {ok : Nat → Prop} {v : Value} {xs : List (S31 ⊕ List Value)} (h : (orC (Kd.upto F31t 6 [31] n)).R e w base ok v xs) : (orC k31t).R e w base ok v xs :=
 Kd.R_imp (sz31t n) (orM_imp (d := Kd.upto F31t 6 [31] n) (d' := k31t) (sz31t n) (fun w base ok x cs h => ⟨n, h⟩)) h
theorem k31t_open {w : World} {x : S31} {cs : List Value} (h : k31t.K w x cs) : ∃ A5 c5, cs = [.int .i8 x.f0, .string x.f1.f0, .int .i8 x.f1.f1.f0, .int .i64 x.f1.f1.f1, .string x.f1.f1.f2, .slice A5 x.f2.length c5] ∧ x.f2.length + 1 ≤ c5 ∧ (orC k31t).C w A5 (x.f2.length + 1) (marked x.f2 mk31) := by
 obtain ⟨n, h⟩ := h
 cases n with
 | zero => exact h.elim
 | succ n =>
  obtain ⟨_, _, rfl, rfl, ⟨_, _, rfl, s1, ⟨A5, c5, rfl, l5, g5⟩⟩⟩ := h
  obtain rfl := k28_open s1
  exact ⟨A5, c5, rfl, l5, orC_C g5⟩
theorem k31t_openM {w : World} {base : Nat} {ok : Nat → Prop} {x : S31} {cs : List Value} (h : k31t.M w base ok x cs) : ∃ A5 c5, cs = [.int .i8 x.f0, .string x.f1.f0, .int .i8 x.f1.f1.f0, .int .i64 x.f1.f1.f1, .string x.f1.f1.f2, .slice A5 x.f2.length c5] ∧ (orC k31t).R 31 w base ok (.slice A5 (x.f2.length + 1) c5) (marked x.f2 mk31) := by
 obtain ⟨n, h⟩ := h
 cases n with
 | zero => exact h.elim
 | succ n =>
  obtain ⟨_, _, rfl, rfl, ⟨_, _, rfl, s1, ⟨A5, c5, rfl, g5⟩⟩⟩ := h
  obtain rfl := k28_openM s1
  exact ⟨A5, c5, rfl, orC_R g5⟩
theorem orC_R_back {e : Nat} {w : World} {base : Nat} {ok : Nat → Prop} {v : Value} {xs : List (S31 ⊕ List Value)} (h : (orC k31t).R e w base ok v xs) : ∃ n, (orC (Kd.upto F31t 6 [31] n)).R e w base ok v xs := by
 obtain ⟨h0, inner, ho, h1, h2⟩ := h
 have hn : ∀ m : Nat, m ≤ xs.length → ∃ n, ∀ j p, j < m → xs[j]? = some p → (orC (Kd.upto F31t 6 [31] n)).M w base (fun k => ok k ∧ some k ≠ v.ownBlock) p ((inner.drop (j * 6)).take 6) := by
  intro m
  induction m with
  | zero => exact fun _ => ⟨0, fun j p hj => absurd hj (Nat.not_lt_zero _)⟩
  | succ m ih =>
   intro hm
   obtain ⟨n, hn⟩ := ih (by omega)
   have hp := List.getElem?_eq_getElem (show m < xs.length by omega)
   have hM := h2 m _ hp
   have : ∃ n', (orC (Kd.upto F31t 6 [31] n')).M w base (fun k => ok k ∧ some k ≠ v.ownBlock) xs[m] ((inner.drop (m * 6)).take 6) := by
    cases hx : xs[m] with
    | inl a => rw [hx] at hM; obtain ⟨n', h'⟩ := hM; exact ⟨n', h'⟩
    | inr c => rw [hx] at hM; exact ⟨0, hM⟩
   obtain ⟨n', hn'⟩ := this
   refine ⟨max n n', fun j p hj hjp => ?_⟩
   have up : ∀ {a b : Nat} {q : S31 ⊕ List Value} {cs : List Value}, a ≤ b → (orC (Kd.upto F31t 6 [31] a)).M w base (fun k => ok k ∧ some k ≠ v.ownBlock) q cs → (orC (Kd.upto F31t 6 [31] b)).M w base (fun k => ok k ∧ some k ≠ v.ownBlock) q cs := by
    intro a b q cs hab hq
    exact orM_imp ((sz31t a).trans (sz31t b).symm) (fun _ _ _ _ _ h => Kd.upto_M_le mono31t sz31t hab h) _ _ _ _ _ hq
   rcases Nat.lt_or_ge j m with hlt | hge
   ·exact up (Nat.le_max_left _ _) (hn j p hlt hjp)
   ·have : j = m := by omega
    subst this
    rw [hp] at hjp
    injection hjp with hjp
    subst hjp
    exact up (Nat.le_max_right _ _) hn'
 obtain ⟨n, hn⟩ := hn xs.length (Nat.le_refl _)
 have hsz : (orC (Kd.upto F31t 6 [31] n)).sz = 6 := sz31t n
 refine ⟨n, h0, inner, by rw [hsz]; exact ho, by rw [hsz]; exact h1, fun j p hj => by rw [hsz]; exact hn j p (List.getElem?_eq_some_iff.1 hj).1 hj⟩
theorem k31t_mkM (w : World) (base : Nat) (ok : Nat → Prop) (x : S31) {A5 : Option Addr} {c5 : Nat} (g5 : (orC k31t).R 31 w base ok (.slice A5 (x.f2.length + 1) c5) (marked x.f2 mk31)) : k31t.M w base ok x [.int .i8 x.f0, .string x.f1.f0, .int .i8 x.f1.f1.f0, .int .i64 x.f1.f1.f1, .string x.f1.f1.f2, .slice A5 x.f2.length c5] := by
 obtain ⟨n5, q5⟩ := orC_R_back g5
 exact ⟨n5 + 1, ⟨[.int .i8 x.f0], [.string x.f1.f0, .int .i8 x.f1.f1.f0, .int .i64 x.f1.f1.f1, .string x.f1.f1.f2, .slice A5 x.f2.length c5], rfl, rfl, ⟨[.string x.f1.f0, .int .i8 x.f1.f1.f0, .int .i64 x.f1.f1.f1, .string x.f1.f1.f2], [.slice A5 x.f2.length c5], rfl, (k28_mkM w base ok x.f1 ), ⟨A5, c5, rfl, q5⟩⟩⟩⟩
theorem k31t_plain : ∀ (w : World) (x : S31) (cs : List Value), k31t.K w x cs → k31.K w x cs := by
 intro w x cs h
 obtain ⟨n, h⟩ := h
 refine ⟨n, ?_⟩
 induction n generalizing x cs with
 | zero => exact h.elim
 | succ n ih =>
  obtain ⟨c0, c1, rfl, h0, ⟨c2, c3, rfl, h1, h2⟩⟩ := h
  obtain ⟨A, c, rfl, hl, hr⟩ := h2
  refine ⟨c0, _, rfl, h0, ⟨c2, _, rfl, h1, ⟨A, c, rfl, by omega, ?_⟩⟩⟩
  obtain ⟨q1, q2, q3⟩ := hr
  refine ⟨rfl, by omega, fun hn => ?_⟩
  obtain ⟨ad, e, hc⟩ := q3 (by omega)
  refine ⟨ad, e, fun j p hj => ?_⟩
  have hlj := (List.getElem?_eq_some_iff.1 hj).1
  obtain ⟨c', hcs, hK, hcell⟩ := hc j (.inl p) (by rw [marked, List.getElem?_append_left (by simpa using hlj)]; simp [hj])
  have s1 : (Kd.upto F31 6 [31] n).sz = 6 := sz31 n
  have s2 : (orC (Kd.upto F31t 6 [31] n)).sz = 6 := sz31t n
  rw [s2] at hcs hcell
  rw [s1]
  exact ⟨c', hcs, ih p c' hK, hcell⟩
def TwExprC (x : S31) : Prop := ∀ (A : Option Addr) (c : Nat) (w : World), Kd.C k31 w A x.f2.length x.f2 → x.f2.length ≤ c → TabB w →
  Calls Tryd.prog 41 #[.agg #[.int .i8 x.f0, .string x.f1.f0, .int .i8 x.f1.f1.f0, .int .i64 x.f1.f1.f1, .string x.f1.f1.f2, .slice A x.f2.length c]] w fun e w' => ∃ cs, e = .returned (.agg cs.toArray) ∧ k31t.M w' w.heap.size (fun _ => True) x cs ∧ Below w.heap.size w w'
def TwExprsC (l : List S31) : Prop := ∀ (A : Option Addr) (c : Nat) (w : World), Kd.C k31 w A l.length l → l.length ≤ c → TabB w →
  Calls Tryd.prog 89 #[.slice A l.length c] w fun e w' => ∃ A' c', e = .returned (.slice A' l.length c') ∧ (orC k31t).R 31 w' w.heap.size (fun _ => True) (.slice A' (l.length + 1) c') (marked l mk31) ∧ Below w.heap.size w w'
structure TwExprsI (w wr : World) (g cap : Nat) (l : List S31) (k : Nat) : Prop where
 row : (orC k31t).R 31 wr w.heap.size (fun _ => True) (.slice (some ⟨g, 0, none⟩) (l.length + 1) cap) (begun l k [.int .i8 0, .string ⟨#[]⟩, .int .i8 0, .int .i64 0, .string ⟨#[]⟩, .slice none 0 0])
 below : Below w.heap.size w wr
 base : w.heap.size ≤ g
 lt : g < wr.heap.size
set_option maxHeartbeats 4000000 in
set_option maxRecDepth 100000 in
theorem TwExprs_step (l : List S31) (hl : l.length < 2000000) (hE : Hid (∀ k, k < l.length → TwExprC (l.getD k z31))) : TwExprsC l := by
 intro A c w hr hc hT
 have hm : l.length ≤ 9223372036854775807 := by omega
 have HR := Lib.hid hr
 have HT := Lib.hid hT
 clear hr hT
 go_enter Tryd.func89, Tryd.ntmps89
 go_wp2_with ((with_reducible refine xar (N := 8) rfl ?_); go_loud (refine Kd.R_make (orC k31t) w.heap.size 31 rfl (N := 8) rfl 29 _ _ rfl (l.length + 1 : Int) rfl rfl Tryd.underlying29 (.agg #[(.int .i8 0), (.string ⟨#[]⟩), (.int .i8 0), (.int .i64 0), (.string ⟨#[]⟩), (.slice none 0 0)]) 80 info31 rfl (by decide) (by omega) (.inr [.int .i8 0, .string ⟨#[]⟩, .int .i8 0, .int .i64 0, .string ⟨#[]⟩, .slice none 0 0]) (ok := fun _ => True) (okp := fun _ => True) ⟨rfl, rfl, by decide⟩ (fun _ hk => hk) trivial (by omega) (by omega) (Below.refl _ _) (Nat.le_refl _) ?_); intro v1 w1 hR1 hB1 _ _; rw [show (l.length + 1 : Int).toNat = l.length + 1 by omega, ← begun_zero] at hR1; obtain ⟨g, cap, rfl, hg, hg2, _⟩ := Kd.R_form hR1 (by rw [begun_zero]; simp); rw [begun_length _ _ _ (Nat.zero_le _)] at hR1 ⊢; have HI := Lib.hid (show TwExprsI w w1 g cap l 0 from ⟨hR1, hB1, hg, hg2⟩); clear hR1 hB1 hg hg2)
 go_loopw [4] (fun v wr => ∃ k : Nat, k ≤ l.length ∧ v = .int .i64 k ∧ Hid (TwExprsI w wr g cap l k)) (fun v _ => l.length - (intOf v).toNat)
 case atStart => exact ⟨0, Nat.zero_le _, rfl, HI⟩
 case round =>
  clear HI
  obtain ⟨k, hk, rfl, HI⟩ := hrel
  by_cases hlt : k < l.length
  ·obtain ⟨ad, A5, c5, e0, g0, g1, g2, g3, g4, g5, hl5, hC5⟩ := at_T31 HR.out (k : Int) (by omega) (by omega)
   subst e0
   simp only [Int.toNat_natCast] at g0 g1 g2 g3 g4 g5
   replace g0 := (HI.out.below.cell (World.block_lt_of_cell? w _ g0)).trans g0
   replace g1 := (HI.out.below.cell (World.block_lt_of_cell? w _ g1)).trans g1
   replace g2 := (HI.out.below.cell (World.block_lt_of_cell? w _ g2)).trans g2
   replace g3 := (HI.out.below.cell (World.block_lt_of_cell? w _ g3)).trans g3
   replace g4 := (HI.out.below.cell (World.block_lt_of_cell? w _ g4)).trans g4
   replace g5 := (HI.out.below.cell (World.block_lt_of_cell? w _ g5)).trans g5
   have HE := Lib.hid (hE.out k hlt)
   have HY := Lib.hid (show rd_T31 l (k : Int) = l.getD k z31 from rfl)
   rw [← HY.out] at HE
   have HC5 := Lib.hid hC5
   have HL5 := Lib.hid hl5
   clear hC5 hl5
   generalize rd_T31 l (k : Int) = y at *
   go_wp2_with fail
   refine (HE.out A5 c5 wr (Kd.C_below HC5.out HI.out.below) HL5.out (HT.out.below HI.out.below)).mono ?_
   rintro e w2 ⟨cs, rfl, hM, hb⟩
   have HI1 : Hid (TwExprsI w w2 g cap l k) := Lib.hid ⟨Kd.R_below HI.out.row hb, xai HI.out.below hb, HI.out.base, Nat.lt_of_lt_of_le HI.out.lt hb.size⟩
   have hM2 := k31t.M_lower HI.out.below.size (k31t.M_bound hM)
   obtain ⟨A6, c6, rfl, _⟩ := k31t_openM hM
   obtain ⟨_, hz, hf⟩ := begun_cells HI1.out.row hk
   have z0 : w2.cell? ⟨g, k * 6, none⟩ = some (.int .i8 0) := hz 0 _ rfl
   have z1 : w2.cell? ⟨g, k * 6 + 1, none⟩ = some (.string ⟨#[]⟩) := hz 1 _ rfl
   have z2 : w2.cell? ⟨g, k * 6 + 2, none⟩ = some (.int .i8 0) := hz 2 _ rfl
   have z3 : w2.cell? ⟨g, k * 6 + 3, none⟩ = some (.int .i64 0) := hz 3 _ rfl
   have z4 : w2.cell? ⟨g, k * 6 + 4, none⟩ = some (.string ⟨#[]⟩) := hz 4 _ rfl
   have z5 : w2.cell? ⟨g, k * 6 + 5, none⟩ = some (.slice none 0 0) := hz 5 _ rfl
   have f0 : w2.frozen? ⟨g, k * 6, none⟩ = false := hf 0
   have f1 : w2.frozen? ⟨g, k * 6 + 1, none⟩ = false := hf 1
   have f2 : w2.frozen? ⟨g, k * 6 + 2, none⟩ = false := hf 2
   have f3 : w2.frozen? ⟨g, k * 6 + 3, none⟩ = false := hf 3
   have f4 : w2.frozen? ⟨g, k * 6 + 4, none⟩ = false := hf 4
   have f5 : w2.frozen? ⟨g, k * 6 + 5, none⟩ = false := hf 5
   have HP := Lib.hid (begun_put HI1.out.row hlt z31 (by rw [← HY.out]; exact hM2) (fun k' h => ⟨trivial, by have := h.2.1; have := HI.out.lt; omega⟩))
   clear hz hf hM hM2 hb HI g0 g1 g2 g3 g4 g5 HE
   go_wp2_with ((with_reducible refine xbm (t := 31) (p := 22) rfl ?_); (refine store_event (t := 31) (p := 22) (v := ?vo) (w1 := w2.setCells g (k * 6) [.int .i8 y.f0, .string y.f1.f0, .int .i8 y.f1.f1.f0, .int .i64 y.f1.f1.f1, .string y.f1.f1.f2, .slice A6 y.f2.length c6]) ?hg ?ho ?hn ?hr ?_; (case ho => rfl); (case hg => rfl); (case hn => rfl); (case hr => first | (go_simp; done) | (go_simp; rfl))); intro w3 hw; have HI2 : Hid (TwExprsI w w3 g cap l (k + 1)) := Lib.hid ⟨by rw [hw]; exact HP.out.1, by rw [hw]; exact xag (xag (xag (xag (xag (xag HI1.out.below HI1.out.base) HI1.out.base) HI1.out.base) HI1.out.base) HI1.out.base) HI1.out.base, HI1.out.base, by rw [hw]; exact Kd.R_lt HP.out.1 g rfl⟩; clear hw)
   go_roundw
   case rel => exact ⟨k + 1, by omega, by go_num, HI2⟩
   case measure => simp [intOf]; omega
  ·have hk' : k = l.length := by omega
   subst hk'
   go_wp2_with fail
   refine (markExpr_mark wr (HT.out.below HI.out.below)).mono ?_
   rintro e w2 ⟨rfl, hb⟩
   have HI2 : Hid (TwExprsI w w2 g cap l l.length) := Lib.hid ⟨Kd.R_below HI.out.row hb, xai HI.out.below hb, HI.out.base, Nat.lt_of_lt_of_le HI.out.lt hb.size⟩
   clear HI hb
   have HP := Lib.hid (begun_end HI2.out.row (seg := mk31) ⟨rfl, by decide⟩)
   obtain ⟨_, hz, hf⟩ := begun_cells HI2.out.row (Nat.le_refl _)
   have z0 : w2.cell? ⟨g, l.length * 6, none⟩ = some (.int .i8 0) := hz 0 _ rfl
   have z1 : w2.cell? ⟨g, l.length * 6 + 1, none⟩ = some (.string ⟨#[]⟩) := hz 1 _ rfl
   have z2 : w2.cell? ⟨g, l.length * 6 + 2, none⟩ = some (.int .i8 0) := hz 2 _ rfl
   have z3 : w2.cell? ⟨g, l.length * 6 + 3, none⟩ = some (.int .i64 0) := hz 3 _ rfl
   have z4 : w2.cell? ⟨g, l.length * 6 + 4, none⟩ = some (.string ⟨#[]⟩) := hz 4 _ rfl
   have z5 : w2.cell? ⟨g, l.length * 6 + 5, none⟩ = some (.slice none 0 0) := hz 5 _ rfl
   have f0 : w2.frozen? ⟨g, l.length * 6, none⟩ = false := hf 0
   have f1 : w2.frozen? ⟨g, l.length * 6 + 1, none⟩ = false := hf 1
   have f2 : w2.frozen? ⟨g, l.length * 6 + 2, none⟩ = false := hf 2
   have f3 : w2.frozen? ⟨g, l.length * 6 + 3, none⟩ = false := hf 3
   have f4 : w2.frozen? ⟨g, l.length * 6 + 4, none⟩ = false := hf 4
   have f5 : w2.frozen? ⟨g, l.length * 6 + 5, none⟩ = false := hf 5
   clear hz hf
   obtain ⟨i0, hi0, _, hsz, _⟩ := info_parts info31
   have hcut := cut_to (P := Tryd.prog) 29 31 .i64 Tryd.underlying29 hi0 (some ⟨g, 0, none⟩) (l.length + 1) cap (l.length : Int) (by omega) (by omega) (by have := (Kd.R_reads' HI2.out.row).2.1; exact this)
   rw [show (l.length : Int).toNat = l.length by omega] at hcut
   clear hi0 hsz
   go_wp2_with ((with_reducible refine xbm (t := 31) (p := 27) rfl ?_); (refine store_event (t := 31) (p := 27) (v := ?vo2) (w1 := w2.setCells g (l.length * 6) [.int .i8 99, .string spare, .int .i8 0, .int .i64 0, .string ⟨#[]⟩, .slice none 0 0]) ?hg ?ho ?hn ?hr ?_; (case ho => rfl); (case hg => rfl); (case hn => rfl); (case hr => first | (go_simp; done) | (go_simp; rfl))); intro w3 hw; have HR3 : Hid (((orC k31t).R 31 w3 w.heap.size (fun _ => True) (.slice (some ⟨g, 0, none⟩) (l.length + 1) cap) (marked l mk31)) ∧ Below w.heap.size w w3) := Lib.hid ⟨by rw [hw]; exact HP.out.1, by rw [hw]; exact xag (xag (xag (xag (xag (xag HI2.out.below HI2.out.base) HI2.out.base) HI2.out.base) HI2.out.base) HI2.out.base) HI2.out.base⟩; clear hw)
   go_ret
   exact ⟨_, _, rfl, HR3.out.1, HR3.out.2⟩
set_option maxHeartbeats 4000000 in
set_option maxRecDepth 100000 in
theorem TwExpr_step (x : S31) (hE : Hid (TwExprsC x.f2)) : TwExprC x := by
 intro A c w hr hc hT
 have HR := Lib.hid hr
 have HT := Lib.hid hT
 clear hr hT
 go_enter Tryd.func41, Tryd.ntmps41
 go_wp2_with fail
 have HB0 := Lib.hid (xab (xab (Below.refl w.heap.size w) (.cells #[.int .i8 x.f0, .string x.f1.f0, .int .i8 x.f1.f1.f0, .int .i64 x.f1.f1.f1, .string x.f1.f1.f2, .slice A x.f2.length c] 31 (0, 0))) (.cells #[.int .i8 0, .string ⟨#[]⟩, .int .i8 0, .int .i64 0, .string ⟨#[]⟩, .slice none 0 0] 31 (0, 0)))
 refine (hE.out A c _ (Kd.C_below HR.out HB0.out) hc (HT.out.below HB0.out)).mono ?_
 rintro e w2 ⟨A6, c6, rfl, hR, hb⟩
 have hk1 := xan (xaz w (.cells #[.int .i8 x.f0, .string x.f1.f0, .int .i8 x.f1.f1.f0, .int .i64 x.f1.f1.f1, .string x.f1.f1.f2, .slice A x.f2.length c] 31 (0, 0))) (xab (Below.refl _ _) (.cells #[.int .i8 0, .string ⟨#[]⟩, .int .i8 0, .int .i64 0, .string ⟨#[]⟩, .slice none 0 0] 31 (0, 0)))
 have hk2 := xan (xaz (w.alloc (.cells #[.int .i8 x.f0, .string x.f1.f0, .int .i8 x.f1.f1.f0, .int .i64 x.f1.f1.f1, .string x.f1.f1.f2, .slice A x.f2.length c] 31 (0, 0))) (.cells #[.int .i8 0, .string ⟨#[]⟩, .int .i8 0, .int .i64 0, .string ⟨#[]⟩, .slice none 0 0] 31 (0, 0))) hb
 replace hk1 := xan hk1 hb
 rw [show (w.alloc (.cells #[.int .i8 x.f0, .string x.f1.f0, .int .i8 x.f1.f1.f0, .int .i64 x.f1.f1.f1, .string x.f1.f1.f2, .slice A x.f2.length c] 31 (0, 0))).heap.size = w.heap.size + 1 by simp] at hk2
 have HB := Lib.hid (xai HB0.out hb)
 have hR2 := Kd.R_bound hR
 have hsz : w.heap.size + 2 = ((w.alloc (.cells #[.int .i8 x.f0, .string x.f1.f0, .int .i8 x.f1.f1.f0, .int .i64 x.f1.f1.f1, .string x.f1.f1.f2, .slice A x.f2.length c] 31 (0, 0))).alloc (.cells #[.int .i8 0, .string ⟨#[]⟩, .int .i8 0, .int .i64 0, .string ⟨#[]⟩, .slice none 0 0] 31 (0, 0))).heap.size := by simp
 rw [← hsz] at hR2
 have HR6 := Lib.hid (show (orC k31t).R 31 w2 w.heap.size (fun k => w.heap.size + 2 ≤ k) (.slice A6 (x.f2.length + 1) c6) (marked x.f2 mk31) from Kd.R_lower (Kd.R_mono hR2 (fun k h => h.2.1)) (by omega))
 clear hR2 hsz hR hb HB0
 have p0 := xaj hk1 0
 have pf0 := xam hk1 0
 have p1 := xaj hk1 1
 have pf1 := xam hk1 1
 have p2 := xaj hk1 2
 have pf2 := xam hk1 2
 have p3 := xaj hk1 3
 have pf3 := xam hk1 3
 have p4 := xaj hk1 4
 have pf4 := xam hk1 4
 have p5 := xaj hk1 5
 have pf5 := xam hk1 5
 have q0 := xaj hk2 0
 have qf0 := xam hk2 0
 have q1 := xaj hk2 1
 have qf1 := xam hk2 1
 have q2 := xaj hk2 2
 have qf2 := xam hk2 2
 have q3 := xaj hk2 3
 have qf3 := xam hk2 3
 have q4 := xaj hk2 4
 have qf4 := xam hk2 4
 have q5 := xaj hk2 5
 have qf5 := xam hk2 5
 simp at p0 q0 p1 q1 p2 q2 p3 q3 p4 q4 p5 q5
 have HK1 := Lib.hid hk1
 have HK2 := Lib.hid hk2
 clear hk1 hk2
 go_wp2_with fail
 have hkf : (w2.setCell ⟨w.heap.size, 5, none⟩ (.slice A6 x.f2.length c6)).heap[w.heap.size + 1]? = _ := (Below.heap_setCell w2 ⟨w.heap.size, 5, none⟩ (.slice A6 x.f2.length c6) (w.heap.size + 1) (by show w.heap.size + 1 ≠ w.heap.size; omega)).trans HK2.out
 refine bodyPost_ret (results_cell_row rfl _ _ (w.heap.size + 1) 31 #[.int .i8 x.f0, .string x.f1.f0, .int .i8 x.f1.f1.f0, .int .i64 x.f1.f1.f1, .string x.f1.f1.f2, .slice A6 x.f2.length c6] (0, 0) _ rfl (xas (xas (xas (xas (xas (xas hkf 0 _ rfl) 1 _ rfl) 2 _ rfl) 3 _ rfl) 4 _ rfl) 5 _ rfl) Tryd.underlying31 rfl (by kernel_rfl)) rfl ?_
 have hR7 := Kd.R_far (Kd.R_far (Kd.R_far (Kd.R_far (Kd.R_far (Kd.R_far (Kd.R_far HR6.out (p := ⟨w.heap.size, 5, none⟩) (fun k h => by show k ≠ w.heap.size; omega) (.slice A6 x.f2.length c6)) (p := ⟨w.heap.size + 1, 0, none⟩) (fun k h => by show k ≠ w.heap.size + 1; omega) (.int .i8 x.f0)) (p := ⟨w.heap.size + 1, 1, none⟩) (fun k h => by show k ≠ w.heap.size + 1; omega) (.string x.f1.f0)) (p := ⟨w.heap.size + 1, 2, none⟩) (fun k h => by show k ≠ w.heap.size + 1; omega) (.int .i8 x.f1.f1.f0)) (p := ⟨w.heap.size + 1, 3, none⟩) (fun k h => by show k ≠ w.heap.size + 1; omega) (.int .i64 x.f1.f1.f1)) (p := ⟨w.heap.size + 1, 4, none⟩) (fun k h => by show k ≠ w.heap.size + 1; omega) (.string x.f1.f1.f2)) (p := ⟨w.heap.size + 1, 5, none⟩) (fun k h => by show k ≠ w.heap.size + 1; omega) (.slice A6 x.f2.length c6)
 exact ⟨_, rfl, k31t_mkM _ _ _ x (Kd.R_mono hR7 (fun _ _ => trivial)), xag (xag (xag (xag (xag (xag (xag HB.out (Nat.le_refl _)) (Nat.le_succ _)) (Nat.le_succ _)) (Nat.le_succ _)) (Nat.le_succ _)) (Nat.le_succ _)) (Nat.le_succ _)⟩
theorem kids_le : ∀ l : List S31, l.length ≤ (kidsTermsL l).length
 | [] => Nat.zero_le _
 | e :: r => by
  rw [kidsTermsL, exprTermsL_eq]
  have := kids_le r
  simp
  omega
theorem TwExpr_both : ∀ n, (∀ x : S31, SizeOf.sizeOf x < n → (exprTermsL x).length < 2000000 → TwExprC x) ∧ (∀ l : List S31, SizeOf.sizeOf l < n → (kidsTermsL l).length < 2000000 → TwExprsC l)
 | 0 => ⟨fun _ h => absurd h (Nat.not_lt_zero _), fun _ h => absurd h (Nat.not_lt_zero _)⟩
 | n + 1 => by
  obtain ⟨h1, h2⟩ := TwExpr_both n
  refine ⟨fun x hx hl => TwExpr_step x (Lib.hid (h2 _ (by have := sizeOf_kids x; omega) (by rw [exprTermsL_eq] at hl; simp at hl; omega))), fun l hx hl => TwExprs_step l (Nat.lt_of_le_of_lt (kids_le l) hl) (Lib.hid (fun k hk => h1 _ (by have := sizeOf_getD l k hk; omega) ?_))⟩
  have := congrArg List.length (kids_parts l k hk)
  simp only [List.length_append] at this
  omega
theorem TwExpr_twin (x : S31) (h : (exprTermsL x).length < 2000000) : TwExprC x := (TwExpr_both _).1 x (Nat.lt_succ_self _) h
end Go.Proofs.YtllcmggmcogokaaDoor.PAll
end
section
namespace Go.Proofs.YtllcmggmcogokaaDoor.PAll
open Go.RowKit Go.Proofs.YtllcmggmcogokaaDoorW.PrintWords Go.Proofs.YtllcmggmcogokaaDoorW.PrintLast Go.Proofs.YtllcmggmcogokaaDoorW.PrintMore
attribute [local go_sem] max2_int min2_int max_two min_two max_three min_three max_four min_four
attribute [local go_sem high] eqA28
def w1_isExpr.f (a0_0 : Int) (a0_1 : ByteArray) (a0_2 : Int) (a0_3 : Int) (a0_4 : ByteArray) (l0_5 : List (S31)) (a1 : Int) : Option (Bool) := if a0_0 = 99 then ((w1_word.f a1).bind fun t311 => (if (a0_1.toList == t311.toList && ((a0_2 == 0 && (a0_3 == 0 && (a0_4.toList == ([] : List UInt8)))))) = true then (some ((l0_5.length : Int) == 0)) else (some false))) else (some false)
def w1_isExpr.T1 : Bool × List (List Nat × List Nat) := (true, [([], []), ([0], [0]), ([1], [1]), ([2], [2]), ([3], [3]), ([4, 3], [3, 4]), ([3], [3]), ([6, 3, 3], [3, 6]), ([7, 3], [3, 7]), ([5, 8, 3], [3, 5, 8]), ([3, 9], [3, 9]), ([10, 7], [10]), ([11], [11]), ([12, 11], [11, 12]), ([13, 11], [11, 13]), ([14, 11], [11, 14]), ([11, 15], [11, 15]), ([16, 11, 0, 1, 2, 3, 4, 5, 6, 7, 8, 9, 10, 11, 12, 13, 14, 15, 16], [16])])
def w1_isExpr.B1 : List Nat := [0, 1, 3, 7, 15, 31, 15, 79, 207, 511, 1023, 2047, 4095, 8191, 16383, 32767, 65535, 131071]
theorem w1_isExpr.tab1 : rtab .any (opsOf Tryd.f125 1) = w1_isExpr.T1 := by kernel_rfl
theorem w1_isExpr.bits1 : waitsOk w1_isExpr.T1.2 w1_isExpr.B1 = true := by kernel_rfl
set_option maxHeartbeats 8000000 in
set_option maxRecDepth 100000 in
theorem w1_isExpr.calls (a0_0 : Int) (a0_1 : ByteArray) (a0_2 : Int) (a0_3 : Int) (a0_4 : ByteArray) (A0_5 : Option Addr) (c0_5 : Nat) (l0_5 : List (S31)) (a1 : Int) (r : Bool) (w : World) (hr0_5 : Kd.C k31 w A0_5 l0_5.length l0_5) (hc0_5 : l0_5.length ≤ c0_5) (hTB : TabB w) (h : w1_isExpr.f a0_0 a0_1 a0_2 a0_3 a0_4 l0_5 a1 = some r) :
  Calls Tryd.prog 125 #[.agg #[.int .i8 a0_0, .string a0_1, .int .i8 a0_2, .int .i64 a0_3, .string a0_4, .slice A0_5 l0_5.length c0_5], .int .i64 a1] w fun e w' => e = .returned (.bool r) ∧ Below w.heap.size w w' := by
 have hu31 := Tryd.underlying31
 have hu28 := Tryd.underlying28
 have HR0_5 := Aside0.mk hr0_5
 have HC0_5 := Aside0.mk hc0_5
 clear hr0_5 hc0_5
 have HB := Aside0.mk (Below.refl w.heap.size w)
 have HTB := Aside0.mk hTB
 clear hTB
 have H : (if a0_0 = 99 then ((w1_word.f a1).bind fun t311 => (if (a0_1.toList == t311.toList && ((a0_2 == 0 && (a0_3 == 0 && (a0_4.toList == ([] : List UInt8)))))) = true then (some ((l0_5.length : Int) == 0)) else (some false))) else (some false)) = some r := h
 clear h
 by_cases c3 : a0_0 = 99
 ·rw [if_pos c3] at H
  have c3b0 : (a0_0 == 99) = true := beq_iff_eq.mpr c3
  have c3b1 : (a0_0 != 99) = false := bne_eq_false_iff_eq.mpr c3
  clear c3
  replace H := Option.bind_eq_some_iff.mp H
  obtain ⟨t311, A40, H⟩ := H
  replace H : (if (a0_1.toList == t311.toList && ((a0_2 == 0 && (a0_3 == 0 && (a0_4.toList == ([] : List UInt8)))))) = true then (some ((l0_5.length : Int) == 0)) else (some false)) = some r := H
  have A4 := Aside0.mk A40
  clear A40
  by_cases c5 : (a0_1.toList == t311.toList && ((a0_2 == 0 && (a0_3 == 0 && (a0_4.toList == ([] : List UInt8)))))) = true
  ·rw [if_pos c5] at H
   have c5b0 : (a0_1.toList == t311.toList && ((a0_2 == 0 && (a0_3 == 0 && (a0_4.toList == ([] : List UInt8)))))) = true := c5
   (try (have c5b1 : (a0_1.toList == t311.toList && ((a0_2 == 0 && (a0_3 == 0 && (a0_4.toList.isEmpty))))) = true := by simpa using c5))
   (try (have c5b2 : decide (a0_1.toList = t311.toList && ((a0_2 == 0 && (a0_3 == 0 && (a0_4.toList == ([] : List UInt8)))))) = true := by simpa using c5))
   (try (have c5b3 : (a0_1.toList == t311.toList && ((a0_2 == 0 && (a0_3 == 0 && (a0_4.toList == ([] : List UInt8)))))) = true := by simpa using c5))
   clear c5
   obtain rfl := Option.some.inj H
   go_enter Tryd.func125, Tryd.ntmps125
   try go_wp2_with (first | ((with_reducible refine xar (N := 2) rfl ?_); (try (refine xau (by rfl) ?_; dsimp only)); refine xaq ?hg (N := 2) ?hd (cs := #[.int .i8 a0_0, .string a0_1, .int .i8 a0_2, .int .i64 a0_3, .string a0_4, .slice A0_5 l0_5.length c0_5]) (t := 31) ?hr ?_; (case hd => rfl); (case hg => rfl); (case hr => first | (go_simp; done) | (go_simp; rfl)); intro gb310 hg w6 hbox hb; have n0_ := Aside0.mk (xai (by repeat (first | (with_reducible first | exact HB.out | apply xab | apply xaa | apply xac) | exact HB.out)) hb); have n1_ := Aside0.mk (hbox); have n2_ := Aside0.mk ((by rw [hg]; exact (xap (by repeat (first | (with_reducible first | exact HB.out | apply xab | apply xaa | apply xac) | exact HB.out))) : w.heap.size ≤ gb310)); have n3_ := n2_; clear HB; have HB := n0_; have BK310 := n1_; have GW310 := n2_; have GE310 := n3_; clear n0_ n1_ n2_ n3_; clear hb hbox hg))
   have n0_ := Aside0.mk (xaf BK310.out)
   have n1_ := Aside0.mk (xac HB.out)
   clear BK310
   clear HB
   have BK310 := n0_
   have HB := n1_
   clear n0_ n1_
   refine start_ (n := 18) (S := fun w' => w'.cell? ⟨gb310, 0, none⟩ = some (.int .i8 a0_0) ∧ w'.cell? ⟨gb310, 1, none⟩ = some (.string a0_1) ∧ w'.cell? ⟨gb310, 2, none⟩ = some (.int .i8 a0_2) ∧ w'.cell? ⟨gb310, 3, none⟩ = some (.int .i64 a0_3) ∧ w'.cell? ⟨gb310, 4, none⟩ = some (.string a0_4) ∧ w'.cell? ⟨gb310, 5, none⟩ = some (.slice A0_5 l0_5.length c0_5)) (ds := []) #[false, false, false, false, false, false, false, false, false, false, false, false, false, false, false, false, false, false] (by kernel_rfl) rfl rfl ⟨(xaj BK310.out 0).trans rfl, (xaj BK310.out 1).trans rfl, (xaj BK310.out 2).trans rfl, (xaj BK310.out 3).trans rfl, (xaj BK310.out 4).trans rfl, (xaj BK310.out 5).trans rfl⟩ (fun hHeld => ?_); refine xbn w1_isExpr.tab1 w1_isExpr.bits1 (fun HT_ HW_ => ?_)
   generalize w6.drew = w7 at BK310 HB hHeld ⊢
   refine pure_ (i := 0) (N := some 5) (v := ?_) (a' := ?_) #[true, false, false, false, false, false, false, false, false, false, false, false, false, false, false, false, false, false] rfl rfl (any_of HT_.out (by kernel_rfl)) (fun _ _ _ h => h) (Or.inl ⟨by rfl, ?_⟩) ?_ ?_
   rotate_left
   ·intro w'
    go_simp
    with_reducible rfl
   rotate_left
   ·simp only [Act.put, sI, sZ, sS, i64_w, i32_w]
    rfl
   refine take_ (i := 1) (N := some 6) (v := ?_) (a' := ?_) #[true, true, false, false, false, false, false, false, false, false, false, false, false, false, false, false, false, false] rfl rfl (xbb HT_.out HW_.out (by kernel_rfl)) (fun _ _ _ h => h) (Or.inl ⟨by rfl, ?_⟩) hHeld ?_ ?_
   rotate_left
   ·rintro w' ⟨s0, s1, s2, s3, s4, s5⟩
    go_simp
    with_reducible rfl
   rotate_left
   ·simp only [Act.put, sI, sZ, sS, i64_w, i32_w]
    rfl
   refine pure_ (i := 2) (N := some 7) (v := ?_) (a' := ?_) #[true, true, true, false, false, false, false, false, false, false, false, false, false, false, false, false, false, false] rfl rfl (any_of HT_.out (by kernel_rfl)) (fun _ _ _ h => h) (Or.inl ⟨by rfl, ?_⟩) ?_ ?_
   rotate_left
   ·intro w'
    go_simp
    with_reducible rfl
   rotate_left
   ·simp only [Act.put, sI, sZ, sS, i64_w, i32_w]
    rfl
   refine pure_ (i := 3) (N := some 8) (v := ?_) (a' := ?_) #[true, true, true, true, false, false, false, false, false, false, false, false, false, false, false, false, false, false] rfl rfl (any_of HT_.out (by kernel_rfl)) (fun _ _ _ h => h) (Or.inl ⟨by rfl, ?_⟩) ?_ ?_
   rotate_left
   ·intro w'
    go_simp
    with_reducible rfl
   rotate_left
   ·simp only [Act.put, sI, sZ, sS, i64_w, i32_w]
    rfl
   refine pure_ (i := 4) (N := some 9) (v := ?_) (a' := ?_) #[true, true, true, true, true, false, false, false, false, false, false, false, false, false, false, false, false, false] rfl rfl (any_of HT_.out (by kernel_rfl)) (fun _ _ _ h => h) (Or.inl ⟨by rfl, ?_⟩) ?_ ?_
   rotate_left
   ·intro w'
    go_simp
    with_reducible rfl
   rotate_left
   ·simp only [Act.put, sI, sZ, sS, i64_w, i32_w]
    rfl
   refine pure_ (i := 6) (N := some 11) (v := ?_) (a' := ?_) #[true, true, true, true, true, false, true, false, false, false, false, false, false, false, false, false, false, false] rfl rfl (any_of HT_.out (by kernel_rfl)) (fun _ _ _ h => h) (Or.inl ⟨by rfl, ?_⟩) ?_ ?_
   rotate_left
   ·intro w'
    go_simp
    with_reducible rfl
   rotate_left
   ·simp only [Act.put, sI, sZ, sS, i64_w, i32_w]
    rfl
   refine take_ (i := 5) (N := some 10) (v := ?_) (a' := ?_) #[true, true, true, true, true, true, true, false, false, false, false, false, false, false, false, false, false, false] rfl rfl (xbb HT_.out HW_.out (by kernel_rfl)) (fun _ _ _ h => h) (Or.inl ⟨by rfl, ?_⟩) hHeld ?_ ?_
   rotate_left
   ·rintro w' ⟨s0, s1, s2, s3, s4, s5⟩
    go_simp
    with_reducible rfl
   rotate_left
   ·simp only [Act.put, sI, sZ, sS, i64_w, i32_w]
    rfl
   refine one_ (i := 7) (N := some 12) #[true, true, true, true, true, true, true, true, false, false, false, false, false, false, false, false, false, false] rfl rfl (one_of HT_.out (by kernel_rfl)) (by decide) (fun K hK => ?_)
   refine goes_ Tryd.func124 (by kernel_rfl) rfl #[.int .i64 a1] (by rfl) rfl rfl (by (try simp only [List.map_toArray, List.map_cons, List.map_nil]); first | done | rfl | (simp only [List.length_drop, List.length_take]; rfl)) ?_
   with_reducible refine (w1_word.calls a1 t311 _ ?side1 A4.out).mono ?_
   (case side1 => exact TabB.below HTB.out (by repeat (first | (with_reducible first | exact HB.out | apply xab | apply xaa | apply xac | refine xag ?_ GE310.out) | exact HB.out)))
   rintro e w8 ⟨rfl, hb⟩
   refine ⟨_, rfl, ?_⟩
   have n0_ := Aside0.mk (xan (g := gb310) (o := .cells #[.int .i8 a0_0, .string a0_1, .int .i8 a0_2, .int .i64 a0_3, .string a0_4, .slice A0_5 l0_5.length c0_5] 31 (0, 0)) (by (with_reducible repeat (first | refine xae ?_ _ | refine xaf ?_ | refine xad ?_ _)); exact BK310.out) hb)
   have n1_ := Aside0.mk (xai (by repeat (first | (with_reducible first | exact HB.out | apply xab | apply xaa | apply xac | refine xag ?_ GE310.out) | exact HB.out)) hb)
   clear BK310
   clear HB
   have BK310 := n0_
   have HB := n1_
   clear n0_ n1_
   (try clear hb)
   (try clear hb2)
   (try clear hk)
   (try clear hi)
   refine hK.out _ _ ⟨(xaj BK310.out 0).trans rfl, (xaj BK310.out 1).trans rfl, (xaj BK310.out 2).trans rfl, (xaj BK310.out 3).trans rfl, (xaj BK310.out 4).trans rfl, (xaj BK310.out 5).trans rfl⟩ (fun hHeld => ?_)
   clear hK K
   refine norm_ (a' := ?_) ?_ ?_
   rotate_left
   ·show Act.put _ (some 12) _ = _
    simp only [Act.put, sI, sZ, sS, i64_w, i32_w]
    rfl
   refine pure_ (i := 8) (N := some 13) (v := ?_) (a' := ?_) #[true, true, true, true, true, true, true, true, true, false, false, false, false, false, false, false, false, false] rfl rfl (any_of HT_.out (by kernel_rfl)) (fun _ _ _ h => h) (Or.inl ⟨by rfl, ?_⟩) ?_ ?_
   rotate_left
   ·intro w'
    go_simp
    with_reducible rfl
   rotate_left
   ·simp only [Act.put, sI, sZ, sS, i64_w, i32_w]
    rfl
   refine pure_ (i := 9) (N := some 14) (v := ?_) (a' := ?_) #[true, true, true, true, true, true, true, true, true, true, false, false, false, false, false, false, false, false] rfl rfl (any_of HT_.out (by kernel_rfl)) (fun _ _ _ h => h) (Or.inl ⟨by rfl, ?_⟩) ?_ ?_
   rotate_left
   ·intro w'
    go_simp
    with_reducible rfl
   rotate_left
   ·simp only [Act.put, sI, sZ, sS, i64_w, i32_w]
    rfl
   refine pure_ (i := 10) (N := some 15) (v := ?_) (a' := ?_) #[true, true, true, true, true, true, true, true, true, true, true, false, false, false, false, false, false, false] rfl rfl (any_of HT_.out (by kernel_rfl)) (fun _ _ _ h => h) (Or.inl ⟨by rfl, ?_⟩) ?_ ?_
   rotate_left
   ·intro w'
    go_simp
    with_reducible rfl
   rotate_left
   ·simp only [Act.put, sI, sZ, sS, i64_w, i32_w]
    rfl
   refine pure_ (i := 11) (N := some 16) (v := ?_) (a' := ?_) #[true, true, true, true, true, true, true, true, true, true, true, true, false, false, false, false, false, false] rfl rfl (any_of HT_.out (by kernel_rfl)) (fun _ _ _ h => h) (Or.inl ⟨by rfl, ?_⟩) ?_ ?_
   rotate_left
   ·intro w'
    go_simp
    with_reducible rfl
   rotate_left
   ·simp only [Act.put, sI, sZ, sS, i64_w, i32_w]
    rfl
   refine pure_ (i := 12) (N := some 17) (v := ?_) (a' := ?_) #[true, true, true, true, true, true, true, true, true, true, true, true, true, false, false, false, false, false] rfl rfl (any_of HT_.out (by kernel_rfl)) (fun _ _ _ h => h) (Or.inl ⟨by rfl, ?_⟩) ?_ ?_
   rotate_left
   ·intro w'
    go_simp
    with_reducible rfl
   rotate_left
   ·simp only [Act.put, sI, sZ, sS, i64_w, i32_w]
    rfl
   refine take_ (i := 13) (N := some 18) (v := ?_) (a' := ?_) #[true, true, true, true, true, true, true, true, true, true, true, true, true, true, false, false, false, false] rfl rfl (xbb HT_.out HW_.out (by kernel_rfl)) (fun _ _ _ h => h) (Or.inl ⟨by rfl, ?_⟩) hHeld ?_ ?_
   rotate_left
   ·rintro w' ⟨s0, s1, s2, s3, s4, s5⟩
    go_simp
    with_reducible rfl
   rotate_left
   ·simp only [Act.put, sI, sZ, sS, i64_w, i32_w]
    rfl
   refine pure_ (i := 14) (N := some 19) (v := ?_) (a' := ?_) #[true, true, true, true, true, true, true, true, true, true, true, true, true, true, true, false, false, false] rfl rfl (any_of HT_.out (by kernel_rfl)) (fun _ _ _ h => h) (Or.inl ⟨by rfl, ?_⟩) ?_ ?_
   rotate_left
   ·intro w'
    go_simp
    with_reducible rfl
   rotate_left
   ·simp only [Act.put, sI, sZ, sS, i64_w, i32_w]
    rfl
   refine pure_ (i := 15) (N := some 20) (v := ?_) (a' := ?_) #[true, true, true, true, true, true, true, true, true, true, true, true, true, true, true, true, false, false] rfl rfl (any_of HT_.out (by kernel_rfl)) (fun _ _ _ h => h) (Or.inl ⟨by rfl, ?_⟩) ?_ ?_
   rotate_left
   ·intro w'
    go_simp
    with_reducible rfl
   rotate_left
   ·simp only [Act.put, sI, sZ, sS, i64_w, i32_w]
    rfl
   refine pure_ (i := 16) (N := some 21) (v := ?_) (a' := ?_) #[true, true, true, true, true, true, true, true, true, true, true, true, true, true, true, true, true, false] rfl rfl (any_of HT_.out (by kernel_rfl)) (fun _ _ _ h => h) (Or.inl ⟨by rfl, ?_⟩) ?_ ?_
   rotate_left
   ·intro w'
    go_simp
    with_reducible rfl
   rotate_left
   ·simp only [Act.put, sI, sZ, sS, i64_w, i32_w]
    rfl
   refine pure_ (i := 17) (N := some 4) (v := ?_) (a' := ?_) #[true, true, true, true, true, true, true, true, true, true, true, true, true, true, true, true, true, true] rfl rfl (any_of HT_.out (by kernel_rfl)) (fun _ _ _ h => h) (Or.inl ⟨by rfl, ?_⟩) ?_ ?_
   rotate_left
   ·intro w'
    go_simp
    with_reducible rfl
   rotate_left
   ·simp only [Act.put, sI, sZ, sS, i64_w, i32_w]
    rfl
   refine done_ (done_of HT_.out (by kernel_rfl)) ?_
   try go_wp2
   go_ret
   exact ⟨by first | rfl | (simp [xak, xal] <;> rfl) | (simp [*, xak, xal] <;> rfl), by repeat (first | (with_reducible first | exact HB.out | apply xab | apply xaa | apply xac | refine xag ?_ GE310.out) | exact HB.out)⟩
  ·rw [if_neg c5] at H
   have c5b0 : (a0_1.toList == t311.toList && ((a0_2 == 0 && (a0_3 == 0 && (a0_4.toList == ([] : List UInt8)))))) = false := by simpa using c5
   (try (have c5b1 : (a0_1.toList == t311.toList && ((a0_2 == 0 && (a0_3 == 0 && (a0_4.toList.isEmpty))))) = false := by simpa using c5))
   (try (have c5b2 : decide (a0_1.toList = t311.toList && ((a0_2 == 0 && (a0_3 == 0 && (a0_4.toList == ([] : List UInt8)))))) = false := by simpa using c5))
   (try (have c5b3 : (a0_1.toList == t311.toList && ((a0_2 == 0 && (a0_3 == 0 && (a0_4.toList == ([] : List UInt8)))))) = false := by simpa using c5))
   (try (have c5b4 : ¬ (a0_1.toList = t311.toList && ((a0_2 == 0 && (a0_3 == 0 && (a0_4.toList == ([] : List UInt8)))))) := by simpa using c5))
   clear c5
   obtain rfl := Option.some.inj H
   go_enter Tryd.func125, Tryd.ntmps125
   try go_wp2_with (first | ((with_reducible refine xar (N := 2) rfl ?_); (try (refine xau (by rfl) ?_; dsimp only)); refine xaq ?hg (N := 2) ?hd (cs := #[.int .i8 a0_0, .string a0_1, .int .i8 a0_2, .int .i64 a0_3, .string a0_4, .slice A0_5 l0_5.length c0_5]) (t := 31) ?hr ?_; (case hd => rfl); (case hg => rfl); (case hr => first | (go_simp; done) | (go_simp; rfl)); intro gb310 hg w9 hbox hb; have n0_ := Aside0.mk (xai (by repeat (first | (with_reducible first | exact HB.out | apply xab | apply xaa | apply xac) | exact HB.out)) hb); have n1_ := Aside0.mk (hbox); have n2_ := Aside0.mk ((by rw [hg]; exact (xap (by repeat (first | (with_reducible first | exact HB.out | apply xab | apply xaa | apply xac) | exact HB.out))) : w.heap.size ≤ gb310)); have n3_ := n2_; clear HB; have HB := n0_; have BK310 := n1_; have GW310 := n2_; have GE310 := n3_; clear n0_ n1_ n2_ n3_; clear hb hbox hg))
   have n0_ := Aside0.mk (xaf BK310.out)
   have n1_ := Aside0.mk (xac HB.out)
   clear BK310
   clear HB
   have BK310 := n0_
   have HB := n1_
   clear n0_ n1_
   refine start_ (n := 18) (S := fun w' => w'.cell? ⟨gb310, 0, none⟩ = some (.int .i8 a0_0) ∧ w'.cell? ⟨gb310, 1, none⟩ = some (.string a0_1) ∧ w'.cell? ⟨gb310, 2, none⟩ = some (.int .i8 a0_2) ∧ w'.cell? ⟨gb310, 3, none⟩ = some (.int .i64 a0_3) ∧ w'.cell? ⟨gb310, 4, none⟩ = some (.string a0_4) ∧ w'.cell? ⟨gb310, 5, none⟩ = some (.slice A0_5 l0_5.length c0_5)) (ds := []) #[false, false, false, false, false, false, false, false, false, false, false, false, false, false, false, false, false, false] (by kernel_rfl) rfl rfl ⟨(xaj BK310.out 0).trans rfl, (xaj BK310.out 1).trans rfl, (xaj BK310.out 2).trans rfl, (xaj BK310.out 3).trans rfl, (xaj BK310.out 4).trans rfl, (xaj BK310.out 5).trans rfl⟩ (fun hHeld => ?_); refine xbn w1_isExpr.tab1 w1_isExpr.bits1 (fun HT_ HW_ => ?_)
   generalize w9.drew = w10 at BK310 HB hHeld ⊢
   refine pure_ (i := 0) (N := some 5) (v := ?_) (a' := ?_) #[true, false, false, false, false, false, false, false, false, false, false, false, false, false, false, false, false, false] rfl rfl (any_of HT_.out (by kernel_rfl)) (fun _ _ _ h => h) (Or.inl ⟨by rfl, ?_⟩) ?_ ?_
   rotate_left
   ·intro w'
    go_simp
    with_reducible rfl
   rotate_left
   ·simp only [Act.put, sI, sZ, sS, i64_w, i32_w]
    rfl
   refine take_ (i := 1) (N := some 6) (v := ?_) (a' := ?_) #[true, true, false, false, false, false, false, false, false, false, false, false, false, false, false, false, false, false] rfl rfl (xbb HT_.out HW_.out (by kernel_rfl)) (fun _ _ _ h => h) (Or.inl ⟨by rfl, ?_⟩) hHeld ?_ ?_
   rotate_left
   ·rintro w' ⟨s0, s1, s2, s3, s4, s5⟩
    go_simp
    with_reducible rfl
   rotate_left
   ·simp only [Act.put, sI, sZ, sS, i64_w, i32_w]
    rfl
   refine pure_ (i := 2) (N := some 7) (v := ?_) (a' := ?_) #[true, true, true, false, false, false, false, false, false, false, false, false, false, false, false, false, false, false] rfl rfl (any_of HT_.out (by kernel_rfl)) (fun _ _ _ h => h) (Or.inl ⟨by rfl, ?_⟩) ?_ ?_
   rotate_left
   ·intro w'
    go_simp
    with_reducible rfl
   rotate_left
   ·simp only [Act.put, sI, sZ, sS, i64_w, i32_w]
    rfl
   refine pure_ (i := 3) (N := some 8) (v := ?_) (a' := ?_) #[true, true, true, true, false, false, false, false, false, false, false, false, false, false, false, false, false, false] rfl rfl (any_of HT_.out (by kernel_rfl)) (fun _ _ _ h => h) (Or.inl ⟨by rfl, ?_⟩) ?_ ?_
   rotate_left
   ·intro w'
    go_simp
    with_reducible rfl
   rotate_left
   ·simp only [Act.put, sI, sZ, sS, i64_w, i32_w]
    rfl
   refine pure_ (i := 4) (N := some 9) (v := ?_) (a' := ?_) #[true, true, true, true, true, false, false, false, false, false, false, false, false, false, false, false, false, false] rfl rfl (any_of HT_.out (by kernel_rfl)) (fun _ _ _ h => h) (Or.inl ⟨by rfl, ?_⟩) ?_ ?_
   rotate_left
   ·intro w'
    go_simp
    with_reducible rfl
   rotate_left
   ·simp only [Act.put, sI, sZ, sS, i64_w, i32_w]
    rfl
   refine pure_ (i := 6) (N := some 11) (v := ?_) (a' := ?_) #[true, true, true, true, true, false, true, false, false, false, false, false, false, false, false, false, false, false] rfl rfl (any_of HT_.out (by kernel_rfl)) (fun _ _ _ h => h) (Or.inl ⟨by rfl, ?_⟩) ?_ ?_
   rotate_left
   ·intro w'
    go_simp
    with_reducible rfl
   rotate_left
   ·simp only [Act.put, sI, sZ, sS, i64_w, i32_w]
    rfl
   refine take_ (i := 5) (N := some 10) (v := ?_) (a' := ?_) #[true, true, true, true, true, true, true, false, false, false, false, false, false, false, false, false, false, false] rfl rfl (xbb HT_.out HW_.out (by kernel_rfl)) (fun _ _ _ h => h) (Or.inl ⟨by rfl, ?_⟩) hHeld ?_ ?_
   rotate_left
   ·rintro w' ⟨s0, s1, s2, s3, s4, s5⟩
    go_simp
    with_reducible rfl
   rotate_left
   ·simp only [Act.put, sI, sZ, sS, i64_w, i32_w]
    rfl
   refine one_ (i := 7) (N := some 12) #[true, true, true, true, true, true, true, true, false, false, false, false, false, false, false, false, false, false] rfl rfl (one_of HT_.out (by kernel_rfl)) (by decide) (fun K hK => ?_)
   refine goes_ Tryd.func124 (by kernel_rfl) rfl #[.int .i64 a1] (by rfl) rfl rfl (by (try simp only [List.map_toArray, List.map_cons, List.map_nil]); first | done | rfl | (simp only [List.length_drop, List.length_take]; rfl)) ?_
   with_reducible refine (w1_word.calls a1 t311 _ ?side1 A4.out).mono ?_
   (case side1 => exact TabB.below HTB.out (by repeat (first | (with_reducible first | exact HB.out | apply xab | apply xaa | apply xac | refine xag ?_ GE310.out) | exact HB.out)))
   rintro e w11 ⟨rfl, hb⟩
   refine ⟨_, rfl, ?_⟩
   have n0_ := Aside0.mk (xan (g := gb310) (o := .cells #[.int .i8 a0_0, .string a0_1, .int .i8 a0_2, .int .i64 a0_3, .string a0_4, .slice A0_5 l0_5.length c0_5] 31 (0, 0)) (by (with_reducible repeat (first | refine xae ?_ _ | refine xaf ?_ | refine xad ?_ _)); exact BK310.out) hb)
   have n1_ := Aside0.mk (xai (by repeat (first | (with_reducible first | exact HB.out | apply xab | apply xaa | apply xac | refine xag ?_ GE310.out) | exact HB.out)) hb)
   clear BK310
   clear HB
   have BK310 := n0_
   have HB := n1_
   clear n0_ n1_
   (try clear hb)
   (try clear hb2)
   (try clear hk)
   (try clear hi)
   refine hK.out _ _ ⟨(xaj BK310.out 0).trans rfl, (xaj BK310.out 1).trans rfl, (xaj BK310.out 2).trans rfl, (xaj BK310.out 3).trans rfl, (xaj BK310.out 4).trans rfl, (xaj BK310.out 5).trans rfl⟩ (fun hHeld => ?_)
   clear hK K
   refine norm_ (a' := ?_) ?_ ?_
   rotate_left
   ·show Act.put _ (some 12) _ = _
    simp only [Act.put, sI, sZ, sS, i64_w, i32_w]
    rfl
   refine pure_ (i := 8) (N := some 13) (v := ?_) (a' := ?_) #[true, true, true, true, true, true, true, true, true, false, false, false, false, false, false, false, false, false] rfl rfl (any_of HT_.out (by kernel_rfl)) (fun _ _ _ h => h) (Or.inl ⟨by rfl, ?_⟩) ?_ ?_
   rotate_left
   ·intro w'
    go_simp
    with_reducible rfl
   rotate_left
   ·simp only [Act.put, sI, sZ, sS, i64_w, i32_w]
    rfl
   refine pure_ (i := 9) (N := some 14) (v := ?_) (a' := ?_) #[true, true, true, true, true, true, true, true, true, true, false, false, false, false, false, false, false, false] rfl rfl (any_of HT_.out (by kernel_rfl)) (fun _ _ _ h => h) (Or.inl ⟨by rfl, ?_⟩) ?_ ?_
   rotate_left
   ·intro w'
    go_simp
    with_reducible rfl
   rotate_left
   ·simp only [Act.put, sI, sZ, sS, i64_w, i32_w]
    rfl
   refine pure_ (i := 10) (N := some 15) (v := ?_) (a' := ?_) #[true, true, true, true, true, true, true, true, true, true, true, false, false, false, false, false, false, false] rfl rfl (any_of HT_.out (by kernel_rfl)) (fun _ _ _ h => h) (Or.inl ⟨by rfl, ?_⟩) ?_ ?_
   rotate_left
   ·intro w'
    go_simp
    with_reducible rfl
   rotate_left
   ·simp only [Act.put, sI, sZ, sS, i64_w, i32_w]
    rfl
   refine pure_ (i := 11) (N := some 16) (v := ?_) (a' := ?_) #[true, true, true, true, true, true, true, true, true, true, true, true, false, false, false, false, false, false] rfl rfl (any_of HT_.out (by kernel_rfl)) (fun _ _ _ h => h) (Or.inl ⟨by rfl, ?_⟩) ?_ ?_
   rotate_left
   ·intro w'
    go_simp
    with_reducible rfl
   rotate_left
   ·simp only [Act.put, sI, sZ, sS, i64_w, i32_w]
    rfl
   refine pure_ (i := 12) (N := some 17) (v := undef) (a' := ?_) #[true, true, true, true, true, true, true, true, true, true, true, true, true, false, false, false, false, false] rfl rfl (any_of HT_.out (by kernel_rfl)) (fun _ _ _ h => h) (Or.inr ⟨by rfl, rfl⟩) ?_ ?_
   rotate_left
   ·simp only [Act.put, sI, sZ, sS, i64_w, i32_w]
    rfl
   refine pure_ (i := 13) (N := some 18) (v := undef) (a' := ?_) #[true, true, true, true, true, true, true, true, true, true, true, true, true, true, false, false, false, false] rfl rfl (any_of HT_.out (by kernel_rfl)) (fun _ _ _ h => h) (Or.inr ⟨by rfl, rfl⟩) ?_ ?_
   rotate_left
   ·simp only [Act.put, sI, sZ, sS, i64_w, i32_w]
    rfl
   refine pure_ (i := 14) (N := some 19) (v := undef) (a' := ?_) #[true, true, true, true, true, true, true, true, true, true, true, true, true, true, true, false, false, false] rfl rfl (any_of HT_.out (by kernel_rfl)) (fun _ _ _ h => h) (Or.inr ⟨by rfl, rfl⟩) ?_ ?_
   rotate_left
   ·simp only [Act.put, sI, sZ, sS, i64_w, i32_w]
    rfl
   refine pure_ (i := 15) (N := some 20) (v := undef) (a' := ?_) #[true, true, true, true, true, true, true, true, true, true, true, true, true, true, true, true, false, false] rfl rfl (any_of HT_.out (by kernel_rfl)) (fun _ _ _ h => h) (Or.inr ⟨by rfl, rfl⟩) ?_ ?_
   rotate_left
   ·simp only [Act.put, sI, sZ, sS, i64_w, i32_w]
    rfl
   refine pure_ (i := 16) (N := some 21) (v := ?_) (a' := ?_) #[true, true, true, true, true, true, true, true, true, true, true, true, true, true, true, true, true, false] rfl rfl (any_of HT_.out (by kernel_rfl)) (fun _ _ _ h => h) (Or.inl ⟨by rfl, ?_⟩) ?_ ?_
   rotate_left
   ·intro w'
    go_simp
    with_reducible rfl
   rotate_left
   ·simp only [Act.put, sI, sZ, sS, i64_w, i32_w]
    rfl
   refine pure_ (i := 17) (N := some 4) (v := ?_) (a' := ?_) #[true, true, true, true, true, true, true, true, true, true, true, true, true, true, true, true, true, true] rfl rfl (any_of HT_.out (by kernel_rfl)) (fun _ _ _ h => h) (Or.inl ⟨by rfl, ?_⟩) ?_ ?_
   rotate_left
   ·intro w'
    go_simp
    with_reducible rfl
   rotate_left
   ·simp only [Act.put, sI, sZ, sS, i64_w, i32_w]
    rfl
   refine done_ (done_of HT_.out (by kernel_rfl)) ?_
   try go_wp2
   go_ret
   exact ⟨by first | rfl | (simp [xak, xal] <;> rfl) | (simp [*, xak, xal] <;> rfl), by repeat (first | (with_reducible first | exact HB.out | apply xab | apply xaa | apply xac | refine xag ?_ GE310.out) | exact HB.out)⟩
 ·rw [if_neg c3] at H
  have c3b0 : (a0_0 == 99) = false := beq_eq_false_iff_ne.mpr c3
  have c3b1 : (a0_0 != 99) = true := bne_iff_ne.mpr c3
  obtain rfl := Option.some.inj H
  go_enter Tryd.func125, Tryd.ntmps125
  try go_wp2_with (first | ((with_reducible refine xar (N := 2) rfl ?_); (try (refine xau (by rfl) ?_; dsimp only)); refine xaq ?hg (N := 2) ?hd (cs := #[.int .i8 a0_0, .string a0_1, .int .i8 a0_2, .int .i64 a0_3, .string a0_4, .slice A0_5 l0_5.length c0_5]) (t := 31) ?hr ?_; (case hd => rfl); (case hg => rfl); (case hr => first | (go_simp; done) | (go_simp; rfl)); intro gb310 hg w12 hbox hb; have n0_ := Aside0.mk (xai (by repeat (first | (with_reducible first | exact HB.out | apply xab | apply xaa | apply xac) | exact HB.out)) hb); have n1_ := Aside0.mk (hbox); have n2_ := Aside0.mk ((by rw [hg]; exact (xap (by repeat (first | (with_reducible first | exact HB.out | apply xab | apply xaa | apply xac) | exact HB.out))) : w.heap.size ≤ gb310)); have n3_ := n2_; clear HB; have HB := n0_; have BK310 := n1_; have GW310 := n2_; have GE310 := n3_; clear n0_ n1_ n2_ n3_; clear hb hbox hg))
  have n0_ := Aside0.mk (xaf BK310.out)
  have n1_ := Aside0.mk (xac HB.out)
  clear BK310
  clear HB
  have BK310 := n0_
  have HB := n1_
  clear n0_ n1_
  refine start_ (n := 18) (S := fun w' => w'.cell? ⟨gb310, 0, none⟩ = some (.int .i8 a0_0) ∧ w'.cell? ⟨gb310, 1, none⟩ = some (.string a0_1) ∧ w'.cell? ⟨gb310, 2, none⟩ = some (.int .i8 a0_2) ∧ w'.cell? ⟨gb310, 3, none⟩ = some (.int .i64 a0_3) ∧ w'.cell? ⟨gb310, 4, none⟩ = some (.string a0_4) ∧ w'.cell? ⟨gb310, 5, none⟩ = some (.slice A0_5 l0_5.length c0_5)) (ds := []) #[false, false, false, false, false, false, false, false, false, false, false, false, false, false, false, false, false, false] (by kernel_rfl) rfl rfl ⟨(xaj BK310.out 0).trans rfl, (xaj BK310.out 1).trans rfl, (xaj BK310.out 2).trans rfl, (xaj BK310.out 3).trans rfl, (xaj BK310.out 4).trans rfl, (xaj BK310.out 5).trans rfl⟩ (fun hHeld => ?_); refine xbn w1_isExpr.tab1 w1_isExpr.bits1 (fun HT_ HW_ => ?_)
  generalize w12.drew = w13 at BK310 HB hHeld ⊢
  refine pure_ (i := 0) (N := some 5) (v := ?_) (a' := ?_) #[true, false, false, false, false, false, false, false, false, false, false, false, false, false, false, false, false, false] rfl rfl (any_of HT_.out (by kernel_rfl)) (fun _ _ _ h => h) (Or.inl ⟨by rfl, ?_⟩) ?_ ?_
  rotate_left
  ·intro w'
   go_simp
   with_reducible rfl
  rotate_left
  ·simp only [Act.put, sI, sZ, sS, i64_w, i32_w]
   rfl
  refine take_ (i := 1) (N := some 6) (v := ?_) (a' := ?_) #[true, true, false, false, false, false, false, false, false, false, false, false, false, false, false, false, false, false] rfl rfl (xbb HT_.out HW_.out (by kernel_rfl)) (fun _ _ _ h => h) (Or.inl ⟨by rfl, ?_⟩) hHeld ?_ ?_
  rotate_left
  ·rintro w' ⟨s0, s1, s2, s3, s4, s5⟩
   go_simp
   with_reducible rfl
  rotate_left
  ·simp only [Act.put, sI, sZ, sS, i64_w, i32_w]
   rfl
  refine pure_ (i := 2) (N := some 7) (v := ?_) (a' := ?_) #[true, true, true, false, false, false, false, false, false, false, false, false, false, false, false, false, false, false] rfl rfl (any_of HT_.out (by kernel_rfl)) (fun _ _ _ h => h) (Or.inl ⟨by rfl, ?_⟩) ?_ ?_
  rotate_left
  ·intro w'
   go_simp
   with_reducible rfl
  rotate_left
  ·simp only [Act.put, sI, sZ, sS, i64_w, i32_w]
   rfl
  refine pure_ (i := 3) (N := some 8) (v := ?_) (a' := ?_) #[true, true, true, true, false, false, false, false, false, false, false, false, false, false, false, false, false, false] rfl rfl (any_of HT_.out (by kernel_rfl)) (fun _ _ _ h => h) (Or.inl ⟨by rfl, ?_⟩) ?_ ?_
  rotate_left
  ·intro w'
   go_simp
   with_reducible rfl
  rotate_left
  ·simp only [Act.put, sI, sZ, sS, i64_w, i32_w]
   rfl
  refine pure_ (i := 4) (N := some 9) (v := undef) (a' := ?_) #[true, true, true, true, true, false, false, false, false, false, false, false, false, false, false, false, false, false] rfl rfl (any_of HT_.out (by kernel_rfl)) (fun _ _ _ h => h) (Or.inr ⟨by rfl, rfl⟩) ?_ ?_
  rotate_left
  ·simp only [Act.put, sI, sZ, sS, i64_w, i32_w]
   rfl
  refine pure_ (i := 5) (N := some 10) (v := undef) (a' := ?_) #[true, true, true, true, true, true, false, false, false, false, false, false, false, false, false, false, false, false] rfl rfl (any_of HT_.out (by kernel_rfl)) (fun _ _ _ h => h) (Or.inr ⟨by rfl, rfl⟩) ?_ ?_
  rotate_left
  ·simp only [Act.put, sI, sZ, sS, i64_w, i32_w]
   rfl
  refine pure_ (i := 6) (N := some 11) (v := undef) (a' := ?_) #[true, true, true, true, true, true, true, false, false, false, false, false, false, false, false, false, false, false] rfl rfl (any_of HT_.out (by kernel_rfl)) (fun _ _ _ h => h) (Or.inr ⟨by rfl, rfl⟩) ?_ ?_
  rotate_left
  ·simp only [Act.put, sI, sZ, sS, i64_w, i32_w]
   rfl
  refine pure_ (i := 7) (N := some 12) (v := undef) (a' := ?_) #[true, true, true, true, true, true, true, true, false, false, false, false, false, false, false, false, false, false] rfl rfl (any_of HT_.out (by kernel_rfl)) (fun _ _ _ h => h) (Or.inr ⟨by rfl, rfl⟩) ?_ ?_
  rotate_left
  ·simp only [Act.put, sI, sZ, sS, i64_w, i32_w]
   rfl
  refine pure_ (i := 8) (N := some 13) (v := undef) (a' := ?_) #[true, true, true, true, true, true, true, true, true, false, false, false, false, false, false, false, false, false] rfl rfl (any_of HT_.out (by kernel_rfl)) (fun _ _ _ h => h) (Or.inr ⟨by rfl, rfl⟩) ?_ ?_
  rotate_left
  ·simp only [Act.put, sI, sZ, sS, i64_w, i32_w]
   rfl
  refine pure_ (i := 9) (N := some 14) (v := undef) (a' := ?_) #[true, true, true, true, true, true, true, true, true, true, false, false, false, false, false, false, false, false] rfl rfl (any_of HT_.out (by kernel_rfl)) (fun _ _ _ h => h) (Or.inr ⟨by rfl, rfl⟩) ?_ ?_
  rotate_left
  ·simp only [Act.put, sI, sZ, sS, i64_w, i32_w]
   rfl
  refine pure_ (i := 10) (N := some 15) (v := ?_) (a' := ?_) #[true, true, true, true, true, true, true, true, true, true, true, false, false, false, false, false, false, false] rfl rfl (any_of HT_.out (by kernel_rfl)) (fun _ _ _ h => h) (Or.inl ⟨by rfl, ?_⟩) ?_ ?_
  rotate_left
  ·intro w'
   go_simp
   with_reducible rfl
  rotate_left
  ·simp only [Act.put, sI, sZ, sS, i64_w, i32_w]
   rfl
  refine pure_ (i := 11) (N := some 16) (v := ?_) (a' := ?_) #[true, true, true, true, true, true, true, true, true, true, true, true, false, false, false, false, false, false] rfl rfl (any_of HT_.out (by kernel_rfl)) (fun _ _ _ h => h) (Or.inl ⟨by rfl, ?_⟩) ?_ ?_
  rotate_left
  ·intro w'
   go_simp
   with_reducible rfl
  rotate_left
  ·simp only [Act.put, sI, sZ, sS, i64_w, i32_w]
   rfl
  refine pure_ (i := 12) (N := some 17) (v := undef) (a' := ?_) #[true, true, true, true, true, true, true, true, true, true, true, true, true, false, false, false, false, false] rfl rfl (any_of HT_.out (by kernel_rfl)) (fun _ _ _ h => h) (Or.inr ⟨by rfl, rfl⟩) ?_ ?_
  rotate_left
  ·simp only [Act.put, sI, sZ, sS, i64_w, i32_w]
   rfl
  refine pure_ (i := 13) (N := some 18) (v := undef) (a' := ?_) #[true, true, true, true, true, true, true, true, true, true, true, true, true, true, false, false, false, false] rfl rfl (any_of HT_.out (by kernel_rfl)) (fun _ _ _ h => h) (Or.inr ⟨by rfl, rfl⟩) ?_ ?_
  rotate_left
  ·simp only [Act.put, sI, sZ, sS, i64_w, i32_w]
   rfl
  refine pure_ (i := 14) (N := some 19) (v := undef) (a' := ?_) #[true, true, true, true, true, true, true, true, true, true, true, true, true, true, true, false, false, false] rfl rfl (any_of HT_.out (by kernel_rfl)) (fun _ _ _ h => h) (Or.inr ⟨by rfl, rfl⟩) ?_ ?_
  rotate_left
  ·simp only [Act.put, sI, sZ, sS, i64_w, i32_w]
   rfl
  refine pure_ (i := 15) (N := some 20) (v := undef) (a' := ?_) #[true, true, true, true, true, true, true, true, true, true, true, true, true, true, true, true, false, false] rfl rfl (any_of HT_.out (by kernel_rfl)) (fun _ _ _ h => h) (Or.inr ⟨by rfl, rfl⟩) ?_ ?_
  rotate_left
  ·simp only [Act.put, sI, sZ, sS, i64_w, i32_w]
   rfl
  refine pure_ (i := 16) (N := some 21) (v := ?_) (a' := ?_) #[true, true, true, true, true, true, true, true, true, true, true, true, true, true, true, true, true, false] rfl rfl (any_of HT_.out (by kernel_rfl)) (fun _ _ _ h => h) (Or.inl ⟨by rfl, ?_⟩) ?_ ?_
  rotate_left
  ·intro w'
   go_simp
   with_reducible rfl
  rotate_left
  ·simp only [Act.put, sI, sZ, sS, i64_w, i32_w]
   rfl
  refine pure_ (i := 17) (N := some 4) (v := ?_) (a' := ?_) #[true, true, true, true, true, true, true, true, true, true, true, true, true, true, true, true, true, true] rfl rfl (any_of HT_.out (by kernel_rfl)) (fun _ _ _ h => h) (Or.inl ⟨by rfl, ?_⟩) ?_ ?_
  rotate_left
  ·intro w'
   go_simp
   with_reducible rfl
  rotate_left
  ·simp only [Act.put, sI, sZ, sS, i64_w, i32_w]
   rfl
  refine done_ (done_of HT_.out (by kernel_rfl)) ?_
  try go_wp2
  go_ret
  exact ⟨by first | rfl | (simp [xak, xal] <;> rfl) | (simp [*, xak, xal] <;> rfl), by repeat (first | (with_reducible first | exact HB.out | apply xab | apply xaa | apply xac | refine xag ?_ GE310.out) | exact HB.out)⟩
end Go.Proofs.YtllcmggmcogokaaDoor.PAll
end
section
namespace Go.Proofs.YtllcmggmcogokaaDoor.PAll
open Go.RowKit Go.Proofs.YtllcmggmcogokaaDoorW.PrintWords Go.Proofs.YtllcmggmcogokaaDoorW.PrintLast Go.Proofs.YtllcmggmcogokaaDoorW.PrintMore
attribute [local go_sem] max2_int min2_int max_two min_two max_three min_three max_four min_four
abbrev LeExprC (x : S31) : Prop := ∀ (A' : Option Addr) (c' : Nat) (A : Option Addr) (c : Nat) (w : World), Kd.C (orC k31t) w A' (x.f2.length + 1) (marked x.f2 mk31) → x.f2.length + 1 ≤ c' → Kd.C k31 w A x.f2.length x.f2 → x.f2.length ≤ c → TabB w →
  Calls Tryd.prog 43 #[.agg #[.int .i8 x.f0, .string x.f1.f0, .int .i8 x.f1.f1.f0, .int .i64 x.f1.f1.f1, .string x.f1.f1.f2, .slice A' x.f2.length c'], .agg #[.int .i8 x.f0, .string x.f1.f0, .int .i8 x.f1.f1.f0, .int .i64 x.f1.f1.f1, .string x.f1.f1.f2, .slice A x.f2.length c]] w fun e w' => e = .returned (.bool true) ∧ Below w.heap.size w w'
abbrev LeExprsC (l : List S31) : Prop := ∀ (A' : Option Addr) (c' : Nat) (A : Option Addr) (c : Nat) (w : World), Kd.C (orC k31t) w A' (l.length + 1) (marked l mk31) → l.length + 1 ≤ c' → Kd.C k31 w A l.length l → l.length ≤ c → TabB w →
  Calls Tryd.prog 91 #[.slice A' l.length c', .slice A l.length c] w fun e w' => e = .returned (.bool true) ∧ Below w.heap.size w w'
theorem isExpr_spare : w1_isExpr.f 99 spare 0 0 ⟨#[]⟩ [] 777777 = some true := by rw [w1_isExpr.f, word_spare]; simp
set_option maxHeartbeats 4000000 in
set_option maxRecDepth 100000 in
theorem LeExprs_step (l : List S31) (hl : l.length < 2000000) (hE : Hid (∀ k, k < l.length → LeExprC (l.getD k z31))) : LeExprsC l := by
 intro A' c' A c w hr' hc' hr hc hT
 have hm : l.length ≤ 9223372036854775807 := by omega
 have HR' := Lib.hid hr'
 have HR := Lib.hid hr
 have HT := Lib.hid hT
 clear hr hT hr'
 go_enter Tryd.func91, Tryd.ntmps91
 go_wp2_with fail
 go_loopw [5] (fun v wr => ∃ k : Nat, k ≤ l.length ∧ v = .int .i64 k ∧ Hid (Below w.heap.size w wr)) (fun v _ => l.length - (intOf v).toNat)
 case atStart => exact ⟨0, Nat.zero_le _, rfl, Lib.hid (Below.refl _ _)⟩
 case round =>
  obtain ⟨k, hk, rfl, HB⟩ := hrel
  by_cases hlt : k < l.length
  ·obtain ⟨ad, A5, c5, e0, g0, g1, g2, g3, g4, g5, hl5, hC5⟩ := at_T31 (Kd.C_below HR.out HB.out) (k : Int) (by omega) (by omega)
   subst e0
   simp only [Int.toNat_natCast] at g0 g1 g2 g3 g4 g5
   obtain ⟨ad', cs, e0', _, hK, hcell⟩ := marked_get (Kd.C_below HR'.out HB.out) z31 k hlt
   subst e0'
   have HY := Lib.hid (show rd_T31 l (k : Int) = l.getD k z31 from rfl)
   rw [← HY.out] at hK
   obtain ⟨A6, c6, rfl, hl6, hC6⟩ := k31t_open hK
   have HE := Lib.hid (hE.out k hlt)
   rw [← HY.out] at HE
   have HC5 := Lib.hid hC5
   have HL5 := Lib.hid hl5
   have HC6 := Lib.hid hC6
   have HL6 := Lib.hid hl6
   generalize rd_T31 l (k : Int) = y at *
   have t0 : wr.cell? (ad'.add (k * 6 + 0)) = some (.int .i8 y.f0) := hcell 0 _ rfl
   have t1 : wr.cell? (ad'.add (k * 6 + 1)) = some (.string y.f1.f0) := hcell 1 _ rfl
   have t2 : wr.cell? (ad'.add (k * 6 + 2)) = some (.int .i8 y.f1.f1.f0) := hcell 2 _ rfl
   have t3 : wr.cell? (ad'.add (k * 6 + 3)) = some (.int .i64 y.f1.f1.f1) := hcell 3 _ rfl
   have t4 : wr.cell? (ad'.add (k * 6 + 4)) = some (.string y.f1.f1.f2) := hcell 4 _ rfl
   have t5 : wr.cell? (ad'.add (k * 6 + 5)) = some (.slice A6 y.f2.length c6) := hcell 5 _ rfl
   rw [Nat.add_zero] at t0
   rw [xax _ _ 1 (by omega)] at t1
   rw [xax _ _ 2 (by omega)] at t2
   rw [xax _ _ 3 (by omega)] at t3
   rw [xax _ _ 4 (by omega)] at t4
   rw [xax _ _ 5 (by omega)] at t5
   clear hcell hK hC5 hl5 hC6 hl6
   go_wp2_with fail
   refine start_ (n := 10) (S := fun w' => w'.cell? (ad'.add (k * 6)) = some (.int .i8 y.f0) ∧ w'.cell? (⟨(ad'.add (k * 6)).block, (ad'.add (k * 6)).off + 1, none⟩) = some (.string y.f1.f0) ∧ w'.cell? (⟨(ad'.add (k * 6)).block, (ad'.add (k * 6)).off + 2, none⟩) = some (.int .i8 y.f1.f1.f0) ∧ w'.cell? (⟨(ad'.add (k * 6)).block, (ad'.add (k * 6)).off + 3, none⟩) = some (.int .i64 y.f1.f1.f1) ∧ w'.cell? (⟨(ad'.add (k * 6)).block, (ad'.add (k * 6)).off + 4, none⟩) = some (.string y.f1.f1.f2) ∧ w'.cell? (⟨(ad'.add (k * 6)).block, (ad'.add (k * 6)).off + 5, none⟩) = some (.slice A6 y.f2.length c6) ∧ w'.cell? (ad.add (k * 6)) = some (.int .i8 y.f0) ∧ w'.cell? (⟨(ad.add (k * 6)).block, (ad.add (k * 6)).off + 1, none⟩) = some (.string y.f1.f0) ∧ w'.cell? (⟨(ad.add (k * 6)).block, (ad.add (k * 6)).off + 2, none⟩) = some (.int .i8 y.f1.f1.f0) ∧ w'.cell? (⟨(ad.add (k * 6)).block, (ad.add (k * 6)).off + 3, none⟩) = some (.int .i64 y.f1.f1.f1) ∧ w'.cell? (⟨(ad.add (k * 6)).block, (ad.add (k * 6)).off + 4, none⟩) = some (.string y.f1.f1.f2) ∧ w'.cell? (⟨(ad.add (k * 6)).block, (ad.add (k * 6)).off + 5, none⟩) = some (.slice A5 y.f2.length c5) ∧ Hid (Below wr.heap.size wr w')) (ds := []) #[false, false, false, false, false, false, false, false, false, false] (by kernel_rfl) rfl rfl ⟨t0, t1, t2, t3, t4, t5, g0, g1, g2, g3, g4, g5, (Lib.hid (xba (Below.refl _ _)))⟩ (fun hHeld => ?_)
   refine pure_ (i := 0) (N := some 17) (v := ?_) (a' := ?_) #[true, false, false, false, false, false, false, false, false, false] rfl rfl (by kernel_rfl) (fun _ _ _ h => h) (Or.inl ⟨by rfl, ?_⟩) ?_ ?_
   rotate_left
   ·intro w'
    go_simp
    with_reducible rfl
   rotate_left
   ·simp only [Act.put, sI, sZ, sS, i64_w, i32_w]
    rfl
   refine pure_ (i := 1) (N := some 18) (v := ?_) (a' := ?_) #[true, true, false, false, false, false, false, false, false, false] rfl rfl (by kernel_rfl) (fun _ _ _ h => h) (Or.inl ⟨by rfl, ?_⟩) ?_ ?_
   rotate_left
   ·intro w'
    go_simp
    with_reducible rfl
   rotate_left
   ·simp only [Act.put, sI, sZ, sS, i64_w, i32_w]
    rfl
   refine pure_ (i := 2) (N := some 19) (v := ?_) (a' := ?_) #[true, true, true, false, false, false, false, false, false, false] rfl rfl (by kernel_rfl) (fun _ _ _ h => h) (Or.inl ⟨by rfl, ?_⟩) ?_ ?_
   rotate_left
   ·intro w'
    go_simp
    with_reducible rfl
   rotate_left
   ·simp only [Act.put, sI, sZ, sS, i64_w, i32_w]
    rfl
   refine pure_ (i := 4) (N := some 21) (v := ?_) (a' := ?_) #[true, true, true, false, true, false, false, false, false, false] rfl rfl (by kernel_rfl) (fun _ _ _ h => h) (Or.inl ⟨by rfl, ?_⟩) ?_ ?_
   rotate_left
   ·intro w'
    go_simp
    with_reducible rfl
   rotate_left
   ·simp only [Act.put, sI, sZ, sS, i64_w, i32_w]
    rfl
   refine pure_ (i := 5) (N := some 22) (v := ?_) (a' := ?_) #[true, true, true, false, true, true, false, false, false, false] rfl rfl (by kernel_rfl) (fun _ _ _ h => h) (Or.inl ⟨by rfl, ?_⟩) ?_ ?_
   rotate_left
   ·intro w'
    go_simp
    with_reducible rfl
   rotate_left
   ·simp only [Act.put, sI, sZ, sS, i64_w, i32_w]
    rfl
   refine pure_ (i := 6) (N := some 23) (v := ?_) (a' := ?_) #[true, true, true, false, true, true, true, false, false, false] rfl rfl (by kernel_rfl) (fun _ _ _ h => h) (Or.inl ⟨by rfl, ?_⟩) ?_ ?_
   rotate_left
   ·intro w'
    go_simp
    with_reducible rfl
   rotate_left
   ·simp only [Act.put, sI, sZ, sS, i64_w, i32_w]
    rfl
   refine take_ (i := 3) (N := some 20) (v := ?_) (a' := ?_) #[true, true, true, true, true, true, true, false, false, false] rfl rfl (by kernel_rfl) (fun _ _ _ h => h) (Or.inl ⟨by rfl, ?_⟩) hHeld ?_ ?_
   rotate_left
   ·rintro w' ⟨s0, s1, s2, s3, s4, s5, s6, s7, s8, s9, s10, s11, s12⟩
    go_simp
    with_reducible rfl
   rotate_left
   ·simp only [Act.put, sI, sZ, sS, i64_w, i32_w]
    rfl
   refine take_ (i := 7) (N := some 24) (v := ?_) (a' := ?_) #[true, true, true, true, true, true, true, true, false, false] rfl rfl (by kernel_rfl) (fun _ _ _ h => h) (Or.inl ⟨by rfl, ?_⟩) hHeld ?_ ?_
   rotate_left
   ·rintro w' ⟨s0, s1, s2, s3, s4, s5, s6, s7, s8, s9, s10, s11, s12⟩
    go_simp
    with_reducible rfl
   rotate_left
   ·simp only [Act.put, sI, sZ, sS, i64_w, i32_w]
    rfl
   refine one_ (i := 8) (N := some 25) #[true, true, true, true, true, true, true, true, true, false] rfl rfl (by kernel_rfl) (by decide) (fun K hK => ?_)
   obtain ⟨s0, s1, s2, s3, s4, s5, s6, s7, s8, s9, s10, s11, s12⟩ := hHeld
   refine goes_ Tryd.func43 (by kernel_rfl) rfl #[.agg #[.int .i8 y.f0, .string y.f1.f0, .int .i8 y.f1.f1.f0, .int .i64 y.f1.f1.f1, .string y.f1.f1.f2, .slice A6 y.f2.length c6], .agg #[.int .i8 y.f0, .string y.f1.f0, .int .i8 y.f1.f1.f0, .int .i64 y.f1.f1.f1, .string y.f1.f1.f2, .slice A5 y.f2.length c5]] (by rfl) rfl rfl (by simp only [List.map_toArray, List.map_cons, List.map_nil]; rfl) ?_
   with_reducible refine (HE.out A6 c6 A5 c5 _ (Kd.C_below HC6.out s12.out) HL6.out (Kd.C_below HC5.out s12.out) HL5.out (HT.out.below (xai HB.out s12.out))).mono ?_
   rintro e w3 ⟨rfl, hb3⟩
   refine ⟨_, rfl, ?_⟩
   refine hK.out _ _ ⟨(xao hb3 s0), (xao hb3 s1), (xao hb3 s2), (xao hb3 s3), (xao hb3 s4), (xao hb3 s5), (xao hb3 s6), (xao hb3 s7), (xao hb3 s8), (xao hb3 s9), (xao hb3 s10), (xao hb3 s11), (Lib.hid (xai s12.out hb3))⟩ (fun hHeld => ?_)
   clear hK K
   refine norm_ (a' := ?_) ?_ ?_
   rotate_left
   ·show Act.put _ (some 25) _ = _
    simp only [Act.put, sI, sZ, sS, i64_w, i32_w]
    rfl
   refine pure_ (i := 9) (N := some 26) (v := ?_) (a' := ?_) #[true, true, true, true, true, true, true, true, true, true] rfl rfl (by kernel_rfl) (fun _ _ _ h => h) (Or.inl ⟨by rfl, ?_⟩) ?_ ?_
   rotate_left
   ·intro w'
    go_simp
    with_reducible rfl
   rotate_left
   ·simp only [Act.put, sI, sZ, sS, i64_w, i32_w]
    rfl
   refine done_ (by kernel_rfl) ?_
   obtain ⟨_, _, _, _, _, _, _, _, _, _, _, _, HB1⟩ := hHeld
   have HB2 := Lib.hid (xai HB.out HB1.out)
   clear HB1
   go_wp2_with fail
   go_roundw
   case rel => exact ⟨k + 1, by omega, by go_num, HB2⟩
   case measure => simp [intOf]; omega
  ·have hk' : k = l.length := by omega
   subst hk'
   obtain ⟨ad, rfl, hz⟩ := marked_mark (Kd.C_below HR'.out HB.out)
   have z0 : wr.cell? (ad.add (l.length * 6 + 0)) = some (.int .i8 99) := hz 0 _ rfl
   have z1 : wr.cell? (ad.add (l.length * 6 + 1)) = some (.string spare) := hz 1 _ rfl
   have z2 : wr.cell? (ad.add (l.length * 6 + 2)) = some (.int .i8 0) := hz 2 _ rfl
   have z3 : wr.cell? (ad.add (l.length * 6 + 3)) = some (.int .i64 0) := hz 3 _ rfl
   have z4 : wr.cell? (ad.add (l.length * 6 + 4)) = some (.string ⟨#[]⟩) := hz 4 _ rfl
   have z5 : wr.cell? (ad.add (l.length * 6 + 5)) = some (.slice none 0 0) := hz 5 _ rfl
   rw [Nat.add_zero] at z0
   rw [xax _ _ 1 (by omega)] at z1
   rw [xax _ _ 2 (by omega)] at z2
   rw [xax _ _ 3 (by omega)] at z3
   rw [xax _ _ 4 (by omega)] at z4
   rw [xax _ _ 5 (by omega)] at z5
   clear hz
   obtain ⟨i0, hi0, _, hsz, _⟩ := info_parts info31
   have hcut := cut_up (P := Tryd.prog) 29 31 .i64 Tryd.underlying29 hi0 (some ad) l.length c' (l.length + 1 : Int) (by omega) (by omega)
   rw [show (l.length + 1 : Int).toNat = l.length + 1 by omega] at hcut
   clear hi0 hsz
   go_wp2_with fail
   refine (w1_isExpr.calls 99 spare 0 0 ⟨#[]⟩ none 0 [] 777777 true wr (Kd.C_nil _ _) (Nat.le_refl _) (HT.out.below HB.out) isExpr_spare).mono ?_
   rintro e w2 ⟨rfl, hb⟩
   have HB2 := Lib.hid (xai HB.out hb)
   clear hb HB
   go_wp2_with fail
   go_ret
   exact ⟨rfl, HB2.out⟩
set_option maxHeartbeats 4000000 in
set_option maxRecDepth 100000 in
theorem LeExpr_step (x : S31) (hE : Hid (LeExprsC x.f2)) : LeExprC x := by
 intro A' c' A c w hr' hc' hr hc hT
 have HR' := Lib.hid hr'
 have HR := Lib.hid hr
 have HT := Lib.hid hT
 clear hr hT hr'
 go_enter Tryd.func43, Tryd.ntmps43
 go_wp2_with fail
 have HB0 := Lib.hid (xab (xab (Below.refl w.heap.size w) (.cells #[.int .i8 x.f0, .string x.f1.f0, .int .i8 x.f1.f1.f0, .int .i64 x.f1.f1.f1, .string x.f1.f1.f2, .slice A' x.f2.length c'] 31 (0, 0))) (.cells #[.int .i8 x.f0, .string x.f1.f0, .int .i8 x.f1.f1.f0, .int .i64 x.f1.f1.f1, .string x.f1.f1.f2, .slice A x.f2.length c] 31 (0, 0)))
 refine (hE.out A' c' A c _ (Kd.C_below HR'.out HB0.out) hc' (Kd.C_below HR.out HB0.out) hc (HT.out.below HB0.out)).mono ?_
 rintro e w2 ⟨rfl, hb⟩
 have HB := Lib.hid (xai HB0.out hb)
 clear hb HB0
 go_wp2_with fail
 go_ret
 exact ⟨rfl, HB.out⟩
theorem LeExpr_both : ∀ n, (∀ x : S31, SizeOf.sizeOf x < n → (exprTermsL x).length < 2000000 → LeExprC x) ∧ (∀ l : List S31, SizeOf.sizeOf l < n → (kidsTermsL l).length < 2000000 → LeExprsC l)
 | 0 => ⟨fun _ h => absurd h (Nat.not_lt_zero _), fun _ h => absurd h (Nat.not_lt_zero _)⟩
 | n + 1 => by
  obtain ⟨h1, h2⟩ := LeExpr_both n
  refine ⟨fun x hx hl => LeExpr_step x (Lib.hid (h2 _ (by have := sizeOf_kids x; omega) (by rw [exprTermsL_eq] at hl; simp at hl; omega))), fun l hx hl => LeExprs_step l (Nat.lt_of_le_of_lt (kids_le l) hl) (Lib.hid (fun k hk => h1 _ (by have := sizeOf_getD l k hk; omega) ?_))⟩
  have := congrArg List.length (kids_parts l k hk)
  simp only [List.length_append] at this
  omega
theorem LeExpr_twin (x : S31) (h : (exprTermsL x).length < 2000000) : LeExprC x := (LeExpr_both _).1 x (Nat.lt_succ_self _) h
def mk41 : List Value := [.string spare, .int .i8 0, .int .i64 0, .string ⟨#[]⟩]
set_option maxHeartbeats 4000000 in
set_option maxRecDepth 100000 in
theorem markBind_mark (w : World) (hT : TabB w) : Calls Tryd.prog 90 #[.int .i64 777777] w fun e w' => e = .returned (.agg #[.string spare, .int .i8 0, .int .i64 0, .string ⟨#[]⟩]) ∧ Below w.heap.size w w' := by
 have HT := Lib.hid hT
 clear hT
 go_enter Tryd.func90, Tryd.ntmps90
 go_wp2_with fail
 refine (w1_word.calls 777777 spare _ (HT.out.below (xab (Below.refl _ _) _)) word_spare).mono ?_
 rintro e w2 ⟨rfl, hb⟩
 have hk := xan (xaz w _) hb
 have HB := Lib.hid (xai (xab (Below.refl _ _) _) hb)
 clear hb
 have z0 : w2.cell? ⟨w.heap.size, 0, none⟩ = some (.string ⟨#[]⟩) := (xaj hk 0).trans rfl
 have f0 := xam hk 0
 have z1 : w2.cell? ⟨w.heap.size, 1, none⟩ = some (.int .i8 0) := (xaj hk 1).trans rfl
 have f1 := xam hk 1
 have z2 : w2.cell? ⟨w.heap.size, 2, none⟩ = some (.int .i64 0) := (xaj hk 2).trans rfl
 have f2 := xam hk 2
 have z3 : w2.cell? ⟨w.heap.size, 3, none⟩ = some (.string ⟨#[]⟩) := (xaj hk 3).trans rfl
 have f3 := xam hk 3
 have HK := Lib.hid hk
 clear hk
 go_wp2_with fail
 refine bodyPost_ret (results_cell_row rfl _ _ w.heap.size 41 #[.string spare, .int .i8 0, .int .i64 0, .string ⟨#[]⟩] (0, 0) _ rfl (xas (cs := #[.string spare, .int .i8 0, .int .i64 0, .string ⟨#[]⟩]) (cs' := #[.string spare, .int .i8 0, .int .i64 0, .string ⟨#[]⟩]) (xas (cs := #[.string spare, .int .i8 0, .int .i64 0, .string ⟨#[]⟩]) (cs' := #[.string spare, .int .i8 0, .int .i64 0, .string ⟨#[]⟩]) (xas (cs := #[.string spare, .int .i8 0, .int .i64 0, .string ⟨#[]⟩]) (cs' := #[.string spare, .int .i8 0, .int .i64 0, .string ⟨#[]⟩]) (xas (cs := #[.string ⟨#[]⟩, .int .i8 0, .int .i64 0, .string ⟨#[]⟩]) (cs' := #[.string spare, .int .i8 0, .int .i64 0, .string ⟨#[]⟩]) (HK.out) 0 _ rfl) 1 _ rfl) 2 _ rfl) 3 _ rfl) Tryd.underlying41 rfl (by kernel_rfl)) rfl ?_
 exact ⟨rfl, xag (xag (xag (xag (HB.out) (Nat.le_refl _)) (Nat.le_refl _)) (Nat.le_refl _)) (Nat.le_refl _)⟩
structure TwBindsI (w wr : World) (g cap : Nat) (l : List S41) (k : Nat) : Prop where
 row : (orC k41).R 41 wr w.heap.size (fun _ => True) (.slice (some ⟨g, 0, none⟩) (l.length + 1) cap) (begun l k [.string ⟨#[]⟩, .int .i8 0, .int .i64 0, .string ⟨#[]⟩])
 below : Below w.heap.size w wr
 base : w.heap.size ≤ g
 lt : g < wr.heap.size
set_option maxHeartbeats 8000000 in
set_option maxRecDepth 100000 in
theorem w1_TwinBinds.twin (A : Option Addr) (c : Nat) (l : List S41) (w : World) (hr : Kd.C k41 w A l.length l) (hc : l.length ≤ c) (hl : l.length < 4000000000000) (hT : TabB w) :
  Calls Tryd.prog 42 #[.slice A l.length c] w fun e w' => ∃ A' c', e = .returned (.slice A' l.length c') ∧ (orC k41).R 41 w' w.heap.size (fun _ => True) (.slice A' (l.length + 1) c') (marked l mk41) ∧ Below w.heap.size w w' := by
 have hm : l.length ≤ 9223372036854775807 := by omega
 have HR := Lib.hid hr
 have HT := Lib.hid hT
 clear hr hT
 go_enter Tryd.func42, Tryd.ntmps42
 go_wp2_with ((with_reducible refine xar (N := 8) rfl ?_); (refine Kd.R_make (orC k41) w.heap.size 41 rfl (N := 8) rfl 32 _ _ rfl (l.length + 1 : Int) rfl rfl Tryd.underlying32 (.agg #[(.string ⟨#[]⟩), (.int .i8 0), (.int .i64 0), (.string ⟨#[]⟩)]) 48 info41 rfl (by decide) (by omega) (.inr [.string ⟨#[]⟩, .int .i8 0, .int .i64 0, .string ⟨#[]⟩]) (ok := fun _ => True) (okp := fun _ => True) ⟨rfl, rfl, by decide⟩ (fun _ hk => hk) trivial (by omega) (by omega) (Below.refl _ _) (Nat.le_refl _) ?_); intro v1 w1 hR1 hB1 _ _; rw [show (l.length + 1 : Int).toNat = l.length + 1 by omega, ← begun_zero] at hR1; obtain ⟨g, cap, rfl, hg, hg2, _⟩ := Kd.R_form hR1 (by rw [begun_zero]; simp); rw [begun_length _ _ _ (Nat.zero_le _)] at hR1 ⊢; have HI := Lib.hid (show TwBindsI w w1 g cap l 0 from ⟨hR1, hB1, hg, hg2⟩); clear hR1 hB1 hg hg2)
 go_loopw [4] (fun v wr => ∃ k : Nat, k ≤ l.length ∧ v = .int .i64 k ∧ Hid (TwBindsI w wr g cap l k)) (fun v _ => l.length - (intOf v).toNat)
 case atStart => exact ⟨0, Nat.zero_le _, rfl, HI⟩
 case round =>
  clear HI
  obtain ⟨k, hk, rfl, HI⟩ := hrel
  by_cases hlt : k < l.length
  ·obtain ⟨ad, e0, g0, g1, g2, g3⟩ := at_T41 HR.out (k : Int) (by omega) (by omega)
   subst e0
   simp only [Int.toNat_natCast] at g0 g1 g2 g3
   replace g0 := (HI.out.below.cell (World.block_lt_of_cell? w _ g0)).trans g0
   replace g1 := (HI.out.below.cell (World.block_lt_of_cell? w _ g1)).trans g1
   replace g2 := (HI.out.below.cell (World.block_lt_of_cell? w _ g2)).trans g2
   replace g3 := (HI.out.below.cell (World.block_lt_of_cell? w _ g3)).trans g3
   have HY := Lib.hid (show rd_T41 l (k : Int) = l.getD k z41 from rfl)
   generalize rd_T41 l (k : Int) = y at *
   obtain ⟨_, hz, hf⟩ := begun_cells HI.out.row hk
   have z0 : wr.cell? ⟨g, k * 4, none⟩ = some (.string ⟨#[]⟩) := hz 0 _ rfl
   have f0 : wr.frozen? ⟨g, k * 4, none⟩ = false := hf 0
   have z1 : wr.cell? ⟨g, k * 4 + 1, none⟩ = some (.int .i8 0) := hz 1 _ rfl
   have f1 : wr.frozen? ⟨g, k * 4 + 1, none⟩ = false := hf 1
   have z2 : wr.cell? ⟨g, k * 4 + 2, none⟩ = some (.int .i64 0) := hz 2 _ rfl
   have f2 : wr.frozen? ⟨g, k * 4 + 2, none⟩ = false := hf 2
   have z3 : wr.cell? ⟨g, k * 4 + 3, none⟩ = some (.string ⟨#[]⟩) := hz 3 _ rfl
   have f3 : wr.frozen? ⟨g, k * 4 + 3, none⟩ = false := hf 3
   clear hz hf
   have HP := Lib.hid (begun_put HI.out.row hlt z41 (seg := [.string y.f0, .int .i8 y.f1.f0, .int .i64 y.f1.f1, .string y.f1.f2]) (okp := fun _ => False) (by rw [← HY.out]; exact k41_mkM _ _ _ y) (fun _ h => h.elim))
   go_wp2_with ((with_reducible refine xbm (t := 41) (p := 21) rfl ?_); (refine store_event (t := 41) (p := 21) (v := ?vo1) (w1 := wr.setCells g (k * 4) [.string y.f0, .int .i8 y.f1.f0, .int .i64 y.f1.f1, .string y.f1.f2]) ?hg1 ?ho1 ?hn1 ?hr1 ?_; (case ho1 => rfl); (case hg1 => rfl); (case hn1 => rfl); (case hr1 => first | (go_simp; done) | (go_simp; rfl))); intro w3 hw; have HI2 : Hid (TwBindsI w w3 g cap l (k + 1)) := Lib.hid ⟨by rw [hw]; exact HP.out.1, by rw [hw]; exact xag (xag (xag (xag (HI.out.below) (HI.out.base)) (HI.out.base)) (HI.out.base)) (HI.out.base), HI.out.base, by rw [hw]; exact Kd.R_lt HP.out.1 g rfl⟩; clear hw)
   go_roundw
   case rel => exact ⟨k + 1, by omega, by go_num, HI2⟩
   case measure => simp [intOf]; omega
  ·have hk' : k = l.length := by omega
   subst hk'
   go_wp2_with fail
   refine (markBind_mark wr (HT.out.below HI.out.below)).mono ?_
   rintro e w2 ⟨rfl, hb⟩
   have HI2 : Hid (TwBindsI w w2 g cap l l.length) := Lib.hid ⟨Kd.R_below HI.out.row hb, xai HI.out.below hb, HI.out.base, Nat.lt_of_lt_of_le HI.out.lt hb.size⟩
   clear HI hb
   have HP := Lib.hid (begun_end HI2.out.row (seg := mk41) ⟨rfl, by decide⟩)
   obtain ⟨_, hz, hf⟩ := begun_cells HI2.out.row (Nat.le_refl _)
   have z0 : w2.cell? ⟨g, l.length * 4, none⟩ = some (.string ⟨#[]⟩) := hz 0 _ rfl
   have f0 : w2.frozen? ⟨g, l.length * 4, none⟩ = false := hf 0
   have z1 : w2.cell? ⟨g, l.length * 4 + 1, none⟩ = some (.int .i8 0) := hz 1 _ rfl
   have f1 : w2.frozen? ⟨g, l.length * 4 + 1, none⟩ = false := hf 1
   have z2 : w2.cell? ⟨g, l.length * 4 + 2, none⟩ = some (.int .i64 0) := hz 2 _ rfl
   have f2 : w2.frozen? ⟨g, l.length * 4 + 2, none⟩ = false := hf 2
   have z3 : w2.cell? ⟨g, l.length * 4 + 3, none⟩ = some (.string ⟨#[]⟩) := hz 3 _ rfl
   have f3 : w2.frozen? ⟨g, l.length * 4 + 3, none⟩ = false := hf 3
   clear hz hf
   obtain ⟨i0, hi0, _, hsz, _⟩ := info_parts info41
   have hcut := cut_to (P := Tryd.prog) 32 41 .i64 Tryd.underlying32 hi0 (some ⟨g, 0, none⟩) (l.length + 1) cap (l.length : Int) (by omega) (by omega) (by have := (Kd.R_reads' HI2.out.row).2.1; exact this)
   rw [show (l.length : Int).toNat = l.length by omega] at hcut
   clear hi0 hsz
   go_wp2_with ((with_reducible refine xbm (t := 41) (p := 26) rfl ?_); (refine store_event (t := 41) (p := 26) (v := ?vo2) (w1 := w2.setCells g (l.length * 4) [.string spare, .int .i8 0, .int .i64 0, .string ⟨#[]⟩]) ?hg2 ?ho2 ?hn2 ?hr2 ?_; (case ho2 => rfl); (case hg2 => rfl); (case hn2 => rfl); (case hr2 => first | (go_simp; done) | (go_simp; rfl))); intro w3 hw; have HR3 : Hid (((orC k41).R 41 w3 w.heap.size (fun _ => True) (.slice (some ⟨g, 0, none⟩) (l.length + 1) cap) (marked l mk41)) ∧ Below w.heap.size w w3) := Lib.hid ⟨by rw [hw]; exact HP.out.1, by rw [hw]; exact xag (xag (xag (xag (HI2.out.below) (HI2.out.base)) (HI2.out.base)) (HI2.out.base)) (HI2.out.base)⟩; clear hw)
   go_ret
   exact ⟨_, _, rfl, HR3.out.1, HR3.out.2⟩
theorem eqA41 (d : Nat) (w : World) (x0 y0 : ByteArray) (x1 y1 : Int) (x2 y2 : Int) (x3 y3 : ByteArray) :
  (Op.equalIn (d + 3) 41 (.agg #[.string x0, .int .i8 x1, .int .i64 x2, .string x3]) (.agg #[.string y0, .int .i8 y1, .int .i64 y2, .string y3])).run Tryd.prog w = .ok (x0.toList == y0.toList && ((x1 == y1 && (x2 == y2 && (x3.toList == y3.toList))))) w := by
 refine eqA_of Tryd.underlying41 (by kernel_rfl) ?_
 refine eqf_cons (by rfl) (by go_simp; rfl) (by go_simp; rfl) (by go_simp) ?_
 exact eqf_last (by rfl) (by go_simp) (by go_simp) (eqA26 (d + 0) w _ _ _ _ _ _)
end Go.Proofs.YtllcmggmcogokaaDoor.PAll
end
section
namespace Go.Proofs.YtllcmggmcogokaaDoor.PAll
open Go.RowKit Go.Proofs.YtllcmggmcogokaaDoorW.PrintWords Go.Proofs.YtllcmggmcogokaaDoorW.PrintLast Go.Proofs.YtllcmggmcogokaaDoorW.PrintMore
attribute [local go_sem] max2_int min2_int max_two min_two max_three min_three max_four min_four
attribute [local go_sem high] eqA41
def w1_SameBinds.l0 : Nat → List (S41) → List (S41) → Int → Option (Bool)
 | 0, _, _, _ => none
 | k + 1, x0, x1, x5 => if x5 < (x0.length : Int) then (if 0 ≤ x5 then (if x5 < (x1.length : Int) then (if (!((((rd_T41 x0 x5).f0).toList) == (((rd_T41 x1 x5).f0).toList)) || ((!(((rd_T41 x0 x5).f1.f0) == ((rd_T41 x1 x5).f1.f0)) || (!(((rd_T41 x0 x5).f1.f1) == ((rd_T41 x1 x5).f1.f1)) || (!((((rd_T41 x0 x5).f1.f2).toList) == (((rd_T41 x1 x5).f1.f2).toList))))))) = true then (some false) else (w1_SameBinds.l0 k x0 x1 (wrap64 (x5 + 1)))) else (none)) else (none)) else (some true)
def w1_SameBinds.f (k : Nat) (l0 : List (S41)) (l1 : List (S41)) : Option (Bool) := if (l0.length : Int) = (l1.length : Int) then (w1_SameBinds.l0 k l0 l1 0) else (some false)
set_option maxHeartbeats 8000000 in
set_option maxRecDepth 100000 in
theorem w1_SameBinds.calls (k : Nat) (A0 : Option Addr) (c0 : Nat) (l0 : List (S41)) (A1 : Option Addr) (c1 : Nat) (l1 : List (S41)) (r : Bool) (w : World) (hr0 : Kd.C k41 w A0 l0.length l0) (hc0 : l0.length ≤ c0) (hr1 : Kd.C k41 w A1 l1.length l1) (hc1 : l1.length ≤ c1) (h : w1_SameBinds.f k l0 l1 = some r) :
  Calls Tryd.prog 92 #[.slice A0 l0.length c0, .slice A1 l1.length c1] w fun e w' => e = .returned (.bool r) ∧ Drawn0 w w' := by
 have hu41 := Tryd.underlying41
 have HR0 := Aside0.mk hr0
 have HC0 := Aside0.mk hc0
 clear hr0 hc0
 have HR1 := Aside0.mk hr1
 have HC1 := Aside0.mk hc1
 clear hr1 hc1
 have H : (if (l0.length : Int) = (l1.length : Int) then (w1_SameBinds.l0 k l0 l1 0) else (some false)) = some r := h
 clear h
 by_cases c3 : (l0.length : Int) = (l1.length : Int)
 ·rw [if_pos c3] at H
  have c3b0 : ((l0.length : Int) == (l1.length : Int)) = true := beq_iff_eq.mpr c3
  have c3b1 : ((l0.length : Int) != (l1.length : Int)) = false := bne_eq_false_iff_eq.mpr c3
  have c3b2 : (l0.length == l1.length) = true := by first | simpa using c3 | (simp at c3 ⊢; omega)
  clear c3
  have H' := Aside0.mk H
  clear H
  go_enter Tryd.func92, Tryd.ntmps92
  go_wp2
  repeat (go_quiet (fail); try go_wp2)
  go_loopg [5] k (fun kq v5 w' => ∃ (x5_1 : Int), v5 = .int .i64 x5_1 ∧ Aside0 (w1_SameBinds.l0 kq l0 l1 x5_1 = some r) ∧ Aside0 (kq ≤ k) ∧ Drawn0 w w')
  case atStart => exact ⟨(0), (by first | rfl | (simp; done) | (simp [*]; done)), H', ⟨Nat.le_refl _⟩, by repeat (first | exact Drawn0.refl _ | apply Drawn0.step)⟩
  case round =>
   clear H'
   try clear c1
   try clear p2
   try clear c3
   try clear c3b0
   try clear c3b1
   try clear c3b2
   obtain ⟨x5_1, rfl, HA, HK1, ⟨m1, rfl⟩⟩ := hrel
   cases gk with
   | zero => exact absurd HA.out (by simp [w1_SameBinds.l0])
   | succ k1 =>
    have H := HA.out
    clear HA
    simp only [w1_SameBinds.l0] at H
    by_cases c4 : x5_1 < (l0.length : Int)
    ·rw [if_pos c4] at H
     have c4b0 : decide (x5_1 < (l0.length : Int)) = true := decide_eq_true c4
     clear c4
     by_cases c5 : 0 ≤ x5_1
     ·rw [if_pos c5] at H
      have c5b0 : decide (0 ≤ x5_1) = true := decide_eq_true c5
      clear c5
      by_cases c6 : x5_1 < (l1.length : Int)
      ·rw [if_pos c6] at H
       have c6b0 : decide (x5_1 < (l1.length : Int)) = true := decide_eq_true c6
       clear c6
       by_cases c7 : (!((((rd_T41 l0 x5_1).f0).toList) == (((rd_T41 l1 x5_1).f0).toList)) || ((!(((rd_T41 l0 x5_1).f1.f0) == ((rd_T41 l1 x5_1).f1.f0)) || (!(((rd_T41 l0 x5_1).f1.f1) == ((rd_T41 l1 x5_1).f1.f1)) || (!((((rd_T41 l0 x5_1).f1.f2).toList) == (((rd_T41 l1 x5_1).f1.f2).toList))))))) = true
       ·rw [if_pos c7] at H
        have c7b0 : (!((((rd_T41 l0 x5_1).f0).toList) == (((rd_T41 l1 x5_1).f0).toList)) || ((!(((rd_T41 l0 x5_1).f1.f0) == ((rd_T41 l1 x5_1).f1.f0)) || (!(((rd_T41 l0 x5_1).f1.f1) == ((rd_T41 l1 x5_1).f1.f1)) || (!((((rd_T41 l0 x5_1).f1.f2).toList) == (((rd_T41 l1 x5_1).f1.f2).toList))))))) = true := c7
        clear c7
        obtain rfl := Option.some.inj H
        have p505 : 0 ≤ (x5_1 : Int) := of_decide_eq_true (by first | (with_reducible assumption) | assumption)
        have q505 : x5_1 < (l0.length : Int) := of_decide_eq_true (by first | (with_reducible assumption) | assumption)
        obtain ⟨ad505, e505, hx505_0, hx505_1, hx505_2, hx505_3⟩ := at_T41 HR0.out x5_1 p505 q505
        cases e505
        replace p505 := eq_true p505
        replace q505 := eq_true q505
        have p506 : 0 ≤ (x5_1 : Int) := of_decide_eq_true (by first | (with_reducible assumption) | assumption)
        have q506 : x5_1 < (l1.length : Int) := of_decide_eq_true (by first | (with_reducible assumption) | assumption)
        obtain ⟨ad506, e506, hx506_0, hx506_1, hx506_2, hx506_3⟩ := at_T41 HR1.out x5_1 p506 q506
        cases e506
        replace p506 := eq_true p506
        replace q506 := eq_true q506
        go_wp2
        repeat (go_quiet (fail); try go_wp2)
        go_ret
        exact ⟨by first | rfl | (simp; done) | (simp [*]; done), by repeat (first | exact Drawn0.refl _ | apply Drawn0.step)⟩
       ·rw [if_neg c7] at H
        have c7b0 : (!((((rd_T41 l0 x5_1).f0).toList) == (((rd_T41 l1 x5_1).f0).toList)) || ((!(((rd_T41 l0 x5_1).f1.f0) == ((rd_T41 l1 x5_1).f1.f0)) || (!(((rd_T41 l0 x5_1).f1.f1) == ((rd_T41 l1 x5_1).f1.f1)) || (!((((rd_T41 l0 x5_1).f1.f2).toList) == (((rd_T41 l1 x5_1).f1.f2).toList))))))) = false := by simpa using c7
        clear c7
        have H' := Aside0.mk H
        clear H
        have p505 : 0 ≤ (x5_1 : Int) := of_decide_eq_true (by first | (with_reducible assumption) | assumption)
        have q505 : x5_1 < (l0.length : Int) := of_decide_eq_true (by first | (with_reducible assumption) | assumption)
        obtain ⟨ad505, e505, hx505_0, hx505_1, hx505_2, hx505_3⟩ := at_T41 HR0.out x5_1 p505 q505
        cases e505
        replace p505 := eq_true p505
        replace q505 := eq_true q505
        have p506 : 0 ≤ (x5_1 : Int) := of_decide_eq_true (by first | (with_reducible assumption) | assumption)
        have q506 : x5_1 < (l1.length : Int) := of_decide_eq_true (by first | (with_reducible assumption) | assumption)
        obtain ⟨ad506, e506, hx506_0, hx506_1, hx506_2, hx506_3⟩ := at_T41 HR1.out x5_1 p506 q506
        cases e506
        replace p506 := eq_true p506
        replace q506 := eq_true q506
        go_wp2
        repeat (go_quiet (fail); try go_wp2)
        go_roundg k1
        case measure => have := HK1.out; omega
        case rel => exact ⟨(wrap64 (x5_1 + 1)), (by first | rfl | (simp; done) | (simp [*]; done)), H', ⟨by have := HK1.out; omega⟩, by repeat (first | exact Drawn0.refl _ | apply Drawn0.step)⟩
      ·rw [if_neg c6] at H
       exact absurd H (by simp)
     ·rw [if_neg c5] at H
      exact absurd H (by simp)
    ·rw [if_neg c4] at H
     have c4b0 : decide (x5_1 < (l0.length : Int)) = false := decide_eq_false c4
     clear c4
     obtain rfl := Option.some.inj H
     go_wp2
     repeat (go_quiet (fail); try go_wp2)
     go_ret
     exact ⟨by first | rfl | (simp; done) | (simp [*]; done), by repeat (first | exact Drawn0.refl _ | apply Drawn0.step)⟩
 ·rw [if_neg c3] at H
  have c3b0 : ((l0.length : Int) == (l1.length : Int)) = false := beq_eq_false_iff_ne.mpr c3
  have c3b1 : ((l0.length : Int) != (l1.length : Int)) = true := bne_iff_ne.mpr c3
  have c3b2 : (l0.length == l1.length) = false := by first | simpa using c3 | (simp at c3 ⊢; omega)
  obtain rfl := Option.some.inj H
  go_enter Tryd.func92, Tryd.ntmps92
  go_wp2
  repeat (go_quiet (fail); try go_wp2)
  go_ret
  exact ⟨by first | rfl | (simp; done) | (simp [*]; done), by repeat (first | exact Drawn0.refl _ | apply Drawn0.step)⟩
def w1_isBind.f (a0_0 : ByteArray) (a0_1 : Int) (a0_2 : Int) (a0_3 : ByteArray) (a1 : Int) : Option (Bool) := (w1_word.f a1).bind fun t508 => (some (a0_0.toList == t508.toList && ((a0_1 == 0 && (a0_2 == 0 && (a0_3.toList == ([] : List UInt8)))))))
set_option maxHeartbeats 8000000 in
set_option maxRecDepth 100000 in
theorem w1_isBind.calls (a0_0 : ByteArray) (a0_1 : Int) (a0_2 : Int) (a0_3 : ByteArray) (a1 : Int) (r : Bool) (w : World) (hTB : TabB w) (h : w1_isBind.f a0_0 a0_1 a0_2 a0_3 a1 = some r) :
  Calls Tryd.prog 93 #[.agg #[.string a0_0, .int .i8 a0_1, .int .i64 a0_2, .string a0_3], .int .i64 a1] w fun e w' => e = .returned (.bool r) ∧ Below w.heap.size w w' := by
 have hu41 := Tryd.underlying41
 have HB := Aside0.mk (Below.refl w.heap.size w)
 have HTB := Aside0.mk hTB
 clear hTB
 have H : ((w1_word.f a1).bind fun t508 => (some (a0_0.toList == t508.toList && ((a0_1 == 0 && (a0_2 == 0 && (a0_3.toList == ([] : List UInt8)))))))) = some r := h
 clear h
 replace H := Option.bind_eq_some_iff.mp H
 obtain ⟨t508, A30, H⟩ := H
 replace H : (some (a0_0.toList == t508.toList && ((a0_1 == 0 && (a0_2 == 0 && (a0_3.toList == ([] : List UInt8))))))) = some r := H
 have A3 := Aside0.mk A30
 clear A30
 obtain rfl := Option.some.inj H
 go_enter Tryd.func93, Tryd.ntmps93
 try go_wp2_with (first | ((with_reducible refine xar (N := 2) rfl ?_); refine xaq ?hg (N := 2) ?hd (cs := #[.string a0_0, .int .i8 a0_1, .int .i64 a0_2, .string a0_3]) (t := 41) ?hr ?_; (case hd => rfl); (case hg => rfl); (case hr => first | (go_simp; done) | (go_simp; rfl)); intro gb507 hg w4 hbox hb; have n0_ := Aside0.mk (xai (by repeat (first | (with_reducible first | exact HB.out | apply xab | apply xaa | apply xac) | exact HB.out)) hb); have n1_ := Aside0.mk (hbox); have n2_ := Aside0.mk ((by rw [hg]; exact (xap (by repeat (first | (with_reducible first | exact HB.out | apply xab | apply xaa | apply xac) | exact HB.out))) : w.heap.size ≤ gb507)); have n3_ := n2_; clear HB; have HB := n0_; have BK507 := n1_; have GW507 := n2_; have GE507 := n3_; clear n0_ n1_ n2_ n3_; clear hb hbox hg))
 have n0_ := Aside0.mk (xaf BK507.out)
 have n1_ := Aside0.mk (xac HB.out)
 clear BK507
 clear HB
 have BK507 := n0_
 have HB := n1_
 clear n0_ n1_
 refine start_ (n := 6) (S := fun w' => w'.cell? ⟨gb507, 0, none⟩ = some (.string a0_0) ∧ w'.cell? ⟨gb507, 1, none⟩ = some (.int .i8 a0_1) ∧ w'.cell? ⟨gb507, 2, none⟩ = some (.int .i64 a0_2) ∧ w'.cell? ⟨gb507, 3, none⟩ = some (.string a0_3)) (ds := []) #[false, false, false, false, false, false] (by kernel_rfl) rfl rfl ⟨(xaj BK507.out 0).trans rfl, (xaj BK507.out 1).trans rfl, (xaj BK507.out 2).trans rfl, (xaj BK507.out 3).trans rfl⟩ (fun hHeld => ?_)
 generalize w4.drew = w5 at BK507 HB hHeld ⊢
 refine pure_ (i := 1) (N := some 6) (v := ?_) (a' := ?_) #[false, true, false, false, false, false] rfl rfl (by kernel_rfl) (fun _ _ _ h => h) (Or.inl ⟨by rfl, ?_⟩) ?_ ?_
 rotate_left
 ·intro w'
  go_simp
  with_reducible rfl
 rotate_left
 ·simp only [Act.put, sI, sZ, sS, i64_w, i32_w]
  rfl
 refine take_ (i := 0) (N := some 5) (v := ?_) (a' := ?_) #[true, true, false, false, false, false] rfl rfl (by kernel_rfl) (fun _ _ _ h => h) (Or.inl ⟨by rfl, ?_⟩) hHeld ?_ ?_
 rotate_left
 ·rintro w' ⟨s0, s1, s2, s3⟩
  go_simp
  with_reducible rfl
 rotate_left
 ·simp only [Act.put, sI, sZ, sS, i64_w, i32_w]
  rfl
 refine one_ (i := 2) (N := some 7) #[true, true, true, false, false, false] rfl rfl (by kernel_rfl) (by decide) (fun K hK => ?_)
 refine goes_ Tryd.func124 (by kernel_rfl) rfl #[.int .i64 a1] (by rfl) rfl rfl (by (try simp only [List.map_toArray, List.map_cons, List.map_nil]); first | done | rfl | (simp only [List.length_drop, List.length_take]; rfl)) ?_
 with_reducible refine (w1_word.calls a1 t508 _ ?side1 A3.out).mono ?_
 (case side1 => exact TabB.below HTB.out (by repeat (first | (with_reducible first | exact HB.out | apply xab | apply xaa | apply xac | refine xag ?_ GE507.out) | exact HB.out)))
 rintro e w6 ⟨rfl, hb⟩
 refine ⟨_, rfl, ?_⟩
 have n0_ := Aside0.mk (xan (g := gb507) (o := .cells #[.string a0_0, .int .i8 a0_1, .int .i64 a0_2, .string a0_3] 41 (0, 0)) (by (with_reducible repeat (first | refine xae ?_ _ | refine xaf ?_ | refine xad ?_ _)); exact BK507.out) hb)
 have n1_ := Aside0.mk (xai (by repeat (first | (with_reducible first | exact HB.out | apply xab | apply xaa | apply xac | refine xag ?_ GE507.out) | exact HB.out)) hb)
 clear BK507
 clear HB
 have BK507 := n0_
 have HB := n1_
 clear n0_ n1_
 (try clear hb)
 (try clear hb2)
 (try clear hk)
 (try clear hi)
 refine hK.out _ _ ⟨(xaj BK507.out 0).trans rfl, (xaj BK507.out 1).trans rfl, (xaj BK507.out 2).trans rfl, (xaj BK507.out 3).trans rfl⟩ (fun hHeld => ?_)
 clear hK K
 refine norm_ (a' := ?_) ?_ ?_
 rotate_left
 ·show Act.put _ (some 7) _ = _
  simp only [Act.put, sI, sZ, sS, i64_w, i32_w]
  rfl
 refine pure_ (i := 3) (N := some 8) (v := ?_) (a' := ?_) #[true, true, true, true, false, false] rfl rfl (by kernel_rfl) (fun _ _ _ h => h) (Or.inl ⟨by rfl, ?_⟩) ?_ ?_
 rotate_left
 ·intro w'
  go_simp
  with_reducible rfl
 rotate_left
 ·simp only [Act.put, sI, sZ, sS, i64_w, i32_w]
  rfl
 refine pure_ (i := 4) (N := some 9) (v := ?_) (a' := ?_) #[true, true, true, true, true, false] rfl rfl (by kernel_rfl) (fun _ _ _ h => h) (Or.inl ⟨by rfl, ?_⟩) ?_ ?_
 rotate_left
 ·intro w'
  go_simp
  with_reducible rfl
 rotate_left
 ·simp only [Act.put, sI, sZ, sS, i64_w, i32_w]
  rfl
 refine pure_ (i := 5) (N := some 4) (v := ?_) (a' := ?_) #[true, true, true, true, true, true] rfl rfl (by kernel_rfl) (fun _ _ _ h => h) (Or.inl ⟨by rfl, ?_⟩) ?_ ?_
 rotate_left
 ·intro w'
  go_simp
  with_reducible rfl
 rotate_left
 ·simp only [Act.put, sI, sZ, sS, i64_w, i32_w]
  rfl
 refine done_ (by kernel_rfl) ?_
 try go_wp2
 go_ret
 exact ⟨by first | rfl | (simp [xak, xal] <;> rfl) | (simp [*, xak, xal] <;> rfl), by repeat (first | (with_reducible first | exact HB.out | apply xab | apply xaa | apply xac | refine xag ?_ GE507.out) | exact HB.out)⟩
end Go.Proofs.YtllcmggmcogokaaDoor.PAll
end
section
namespace Go.Proofs.YtllcmggmcogokaaDoor.PAll
open Go.RowKit Go.Proofs.YtllcmggmcogokaaDoorW.PrintWords Go.Proofs.YtllcmggmcogokaaDoorW.PrintLast Go.Proofs.YtllcmggmcogokaaDoorW.PrintMore
attribute [local go_sem] max2_int min2_int max_two min_two max_three min_three max_four min_four
theorem isBind_spare : w1_isBind.f spare 0 0 ⟨#[]⟩ 777777 = some true := by rw [w1_isBind.f, word_spare]; simp
theorem SameBinds_refl_l (l : List S41) (hl : l.length < 4000000000000) : ∀ d i : Nat, l.length - i = d → i ≤ l.length → w1_SameBinds.l0 (d + 1) l l (i : Int) = some true
 | d, i, hd, hi => by
  rw [w1_SameBinds.l0]
  by_cases h : i < l.length
  ·rw [if_pos (by omega), if_pos (by omega), if_pos (by omega)]
   obtain ⟨d, rfl⟩ : ∃ e, d = e + 1 := ⟨d - 1, by omega⟩
   rw [if_neg (by simp), (show wrap64 ((i : Int) + 1) = ((i + 1 : Nat) : Int) by unfold wrap64; omega)]
   exact SameBinds_refl_l l hl d (i + 1) (by omega) (by omega)
  ·rw [if_neg (by omega)]
theorem SameBinds_refl (l : List S41) (hl : l.length < 4000000000000) : w1_SameBinds.f (l.length + 1) l l = some true := by
 rw [w1_SameBinds.f, if_pos rfl]
 exact SameBinds_refl_l l hl l.length 0 (by omega) (by omega)
set_option maxHeartbeats 4000000 in
set_option maxRecDepth 100000 in
theorem w1_LeftBinds.twin (A' : Option Addr) (c' : Nat) (A : Option Addr) (c : Nat) (l : List S41) (w : World) (hr' : Kd.C (orC k41) w A' (l.length + 1) (marked l mk41)) (hc' : l.length + 1 ≤ c') (hr : Kd.C k41 w A l.length l) (hc : l.length ≤ c) (hl : l.length < 4000000000000) (hT : TabB w) :
  Calls Tryd.prog 44 #[.slice A' l.length c', .slice A l.length c] w fun e w' => e = .returned (.bool true) ∧ Below w.heap.size w w' := by
 have hm : l.length ≤ 9223372036854775807 := by omega
 have HR' := Lib.hid hr'
 have HR := Lib.hid hr
 have HT := Lib.hid hT
 clear hr hT hr'
 go_enter Tryd.func44, Tryd.ntmps44
 go_wp2_with fail
 refine (w1_SameBinds.calls (l.length + 1) A' c' l A c l true w (marked_C rfl (fun _ _ _ h => h) HR'.out) (by omega) HR.out hc (SameBinds_refl l hl)).mono ?_
 rintro e w1 ⟨rfl, hb0⟩
 have hb := hb0.below
 clear hb0
 have HB := Lib.hid hb
 clear hb
 obtain ⟨ad, rfl, hz⟩ := marked_mark (Kd.C_below HR'.out HB.out)
 have z0 : w1.cell? (ad.add (l.length * 4 + 0)) = some (.string spare) := hz 0 _ rfl
 have z1 : w1.cell? (ad.add (l.length * 4 + 1)) = some (.int .i8 0) := hz 1 _ rfl
 have z2 : w1.cell? (ad.add (l.length * 4 + 2)) = some (.int .i64 0) := hz 2 _ rfl
 have z3 : w1.cell? (ad.add (l.length * 4 + 3)) = some (.string ⟨#[]⟩) := hz 3 _ rfl
 rw [Nat.add_zero] at z0
 rw [xax _ _ 1 (by omega)] at z1
 rw [xax _ _ 2 (by omega)] at z2
 rw [xax _ _ 3 (by omega)] at z3
 clear hz
 obtain ⟨i0, hi0, _, hsz, _⟩ := info_parts info41
 have hcut := cut_up (P := Tryd.prog) 32 41 .i64 Tryd.underlying32 hi0 (some ad) l.length c' (l.length + 1 : Int) (by omega) (by omega)
 rw [show (l.length + 1 : Int).toNat = l.length + 1 by omega] at hcut
 clear hi0 hsz
 go_wp2_with fail
 refine (w1_isBind.calls spare 0 0 ⟨#[]⟩ 777777 true w1  (HT.out.below HB.out) isBind_spare).mono ?_
 rintro e w2 ⟨rfl, hb⟩
 have HB2 := Lib.hid (xai HB.out hb)
 clear hb HB
 go_wp2_with fail
 go_ret
 exact ⟨rfl, HB2.out⟩
theorem xbk {P : Program} {ops : Array Oper} {rest : List Oper} {o : Oper} {a : Act} {w : World} {Q : Exit → Act → World → Prop} (hw : Region.wanted o (yielded ops a.tmps) = true) (ty : TypeId) (x : Operand) (ho : o.op = .load ty x)
  (g : Nat) (hx : a.eval x = .pointer (some ⟨g, 0, none⟩)) (t : TypeId) (cs : Array Value) (fz : Nat × Nat) (d : TypeDesc) (hg : w.heap[g]? = some (.cells cs t fz))
  (hu : P.underlying ty = some d) (hd : (match d with | .struct _ | .array _ _ => true | _ => false) = true) (hi : (P.info? ty).map (·.size) = some cs.size)
  (h : wpList P ops Q rest (a.put o.dst (.agg cs)) w) : wpList P ops Q (o :: rest) a w :=
 wpList_step fun K hK => by
  rw [if_pos hw]
  unfold Oper.wp execOp
  simp only [ho, hx, Instr.loadAt, Instr.sureAddr, Sem.run_bind, Sem.run_pure, Result.andThen_ok, run_loadVar_row w g t ty cs fz d hg hu hd hi]
  exact hK _ _ h
set_option maxHeartbeats 4000000 in
set_option maxRecDepth 100000 in
theorem TermEvals_gen (cx : Array Value) (hsx : cx.size = 6) (vl : Value) (w : World) (b ok : Bool) (r1 r2 : Int) (r3 : ByteArray) (TP : Array Value → World → Prop) (VP : Value → World → Prop)
  (hTP : Hid (∀ ct w1 w2, TP ct w1 → Below w1.heap.size w1 w2 → TP ct w2)) (hVP : Hid (∀ v w1 w2, VP v w1 → Below w1.heap.size w1 w2 → VP v w2))
  (hTs : Hid (∀ ct w1, TP ct w1 → ct.size = 6 ∧ ct.all (·.oneCell') = true))
  (hBy : Hid (∀ w1, Below w.heap.size w w1 → Calls Tryd.prog 8 #[.agg cx] w1 fun e w' => e = .returned (.bool b) ∧ Below w1.heap.size w1 w'))
  (hE2 : Hid (b = false → ∀ w1, Below w.heap.size w w1 → Calls Tryd.prog 40 #[.agg cx, vl] w1 fun e w' => e = .returned (.tuple #[.agg #[.int .i8 r1, .int .i64 r2, .string r3], .bool ok]) ∧ Below w1.heap.size w1 w'))
  (hTw : Hid (b = false → ∀ w1, Below w.heap.size w w1 → Calls Tryd.prog 41 #[.agg cx] w1 fun e w' => ∃ ct, e = .returned (.agg ct) ∧ TP ct w' ∧ Below w1.heap.size w1 w'))
  (hTb : Hid (b = false → ∀ w1, Below w.heap.size w w1 → Calls Tryd.prog 42 #[vl] w1 fun e w' => ∃ v, e = .returned v ∧ VP v w' ∧ Below w1.heap.size w1 w'))
  (hE1 : Hid (b = false → ∀ ct v w1, TP ct w1 → VP v w1 → Below w.heap.size w w1 → Calls Tryd.prog 10 #[.agg ct, v] w1 fun e w' => e = .returned (.tuple #[.agg #[.int .i8 r1, .int .i64 r2, .string r3], .bool ok]) ∧ Below w1.heap.size w1 w'))
  (hL : Hid (b = false → ∀ ct w1, TP ct w1 → Below w.heap.size w w1 → Calls Tryd.prog 43 #[.agg ct, .agg cx] w1 fun e w' => e = .returned (.bool true) ∧ Below w1.heap.size w1 w'))
  (hLb : Hid (b = false → ∀ v w1, VP v w1 → Below w.heap.size w w1 → Calls Tryd.prog 44 #[v, vl] w1 fun e w' => e = .returned (.bool true) ∧ Below w1.heap.size w1 w')) :
  Calls Tryd.prog 7 #[.agg cx, vl] w fun e w' => e = .returned (.bool true) ∧ Below w.heap.size w w' := by
 have hin : (Tryd.prog.info? 31).map (·.size) = some 6 := by kernel_rfl
 have hiv : (Tryd.prog.info? 26).map (·.size) = some (#[.int .i8 r1, .int .i64 r2, .string r3] : Array Value).size := by kernel_rfl
 have hvs : (#[.int .i8 r1, .int .i64 r2, .string r3] : Array Value).size = 3 := rfl
 have hvo : (#[.int .i8 r1, .int .i64 r2, .string r3] : Array Value).all (·.oneCell') = true := by simp [Value.oneCell']
 have hix : (Tryd.prog.info? 31).map (·.size) = some cx.size := by rw [hsx]; exact hin
 have HB0 := Lib.hid (xab (Below.refl w.heap.size w) (.cells cx 31 (0, 0)))
 have HK0 := Lib.hid (xaz w (.cells cx 31 (0, 0)))
 go_enter Tryd.func7, Tryd.ntmps7
 go_wp2_with ((with_reducible refine xar (N := 11) rfl ?_); (refine wpList_load_row rfl 31 (.tmp 2) rfl w.heap.size rfl 31 cx (0, 0) _ HK0.out Tryd.underlying31 rfl hix ?_))
 refine (hBy.out _ HB0.out).mono ?_
 rintro e v1 ⟨rfl, hb⟩
 have HB := Lib.hid (xai HB0.out hb)
 have HK1 := Lib.hid (xan HK0.out hb)
 clear hb HB0 HK0 hBy
 cases b with
 | true =>
  go_wp2_with fail
  go_ret
  exact ⟨rfl, HB.out⟩
 | false =>
  go_wp2_with ((with_reducible refine xar (N := 14) rfl ?_); (refine wpList_load_row rfl 31 (.tmp 2) rfl w.heap.size rfl 31 cx (0, 0) _ HK1.out Tryd.underlying31 rfl hix ?_))
  refine (hE2.out (by simp) v1 HB.out).mono ?_
  rintro e v2 ⟨rfl, hb⟩
  replace HB := Lib.hid (xai HB.out hb)
  replace HK1 := Lib.hid (xan HK1.out hb)
  have HZ := Lib.hid (xaz v2 (.cells #[.int .i8 0, .int .i64 0, .string ⟨#[]⟩] 26 (0, 0)))
  have HK5 := Lib.hid (row_new v2 #[.int .i8 0, .int .i64 0, .string ⟨#[]⟩] #[.int .i8 r1, .int .i64 r2, .string r3] 26)
  have HB23 := Lib.hid (below_row v2 #[.int .i8 0, .int .i64 0, .string ⟨#[]⟩] #[.int .i8 r1, .int .i64 r2, .string r3] 26)
  replace HK1 := Lib.hid (xan HK1.out HB23.out)
  replace HB := Lib.hid (xai HB.out HB23.out)
  clear hb hE2
  go_wp2_with first | ((with_reducible refine xbm (t := 26) (p := 5) rfl ?_); (refine wpList_store_row rfl 26 (.tmp 5) (.tmp 17) rfl v2.heap.size #[.int .i8 r1, .int .i64 r2, .string r3] rfl rfl 26 #[.int .i8 0, .int .i64 0, .string ⟨#[]⟩] HZ.out hiv (by rw [hvs]; rfl) hvo ?_)) | ((with_reducible refine xar (N := 19) rfl ?_); (refine wpList_load_row rfl 31 (.tmp 2) rfl w.heap.size rfl 31 cx (0, 0) _ HK1.out Tryd.underlying31 rfl hix ?_))
  generalize (v2.alloc (.cells #[.int .i8 0, .int .i64 0, .string ⟨#[]⟩] 26 (0, 0))).setRow v2.heap.size #[.int .i8 r1, .int .i64 r2, .string r3] = v3 at *
  generalize v2.heap.size = g5 at *
  clear HB23 HZ
  refine (hTw.out (by simp) v3 HB.out).mono ?_
  rintro e v4 ⟨ct, rfl, hT, hb⟩
  obtain ⟨hts, hto⟩ := hTs.out ct v4 hT
  have hit : (Tryd.prog.info? 31).map (·.size) = some ct.size := by rw [hts]; exact hin
  replace HB := Lib.hid (xai HB.out hb)
  replace HK1 := Lib.hid (xan HK1.out hb)
  replace HK5 := Lib.hid (xan HK5.out hb)
  have HZ := Lib.hid (xaz v4 (.cells #[.int .i8 0, .string ⟨#[]⟩, .int .i8 0, .int .i64 0, .string ⟨#[]⟩, .slice none 0 0] 31 (0, 0)))
  have HK7 := Lib.hid (row_new v4 #[.int .i8 0, .string ⟨#[]⟩, .int .i8 0, .int .i64 0, .string ⟨#[]⟩, .slice none 0 0] ct 31)
  have HB45 := Lib.hid (below_row v4 #[.int .i8 0, .string ⟨#[]⟩, .int .i8 0, .int .i64 0, .string ⟨#[]⟩, .slice none 0 0] ct 31)
  replace HB := Lib.hid (xai HB.out HB45.out)
  replace HK1 := Lib.hid (xan HK1.out HB45.out)
  replace HK5 := Lib.hid (xan HK5.out HB45.out)
  have HT := Lib.hid (hTP.out ct v4 _ hT HB45.out)
  clear hb hT hTw
  go_wp2_with ((with_reducible refine xbm (t := 31) (p := 7) rfl ?_); (refine wpList_store_row rfl 31 (.tmp 7) (.tmp 20) rfl v4.heap.size ct rfl rfl 31 #[.int .i8 0, .string ⟨#[]⟩, .int .i8 0, .int .i64 0, .string ⟨#[]⟩, .slice none 0 0] HZ.out hit (by rw [hts]; rfl) hto ?_))
  generalize (v4.alloc (.cells #[.int .i8 0, .string ⟨#[]⟩, .int .i8 0, .int .i64 0, .string ⟨#[]⟩, .slice none 0 0] 31 (0, 0))).setRow v4.heap.size ct = v5 at *
  generalize v4.heap.size = g7 at *
  clear HB45 HZ hTs
  refine (hTb.out (by simp) v5 HB.out).mono ?_
  rintro e v6 ⟨v, rfl, hV, hb⟩
  replace HB := Lib.hid (xai HB.out hb)
  replace HK1 := Lib.hid (xan HK1.out hb)
  replace HK5 := Lib.hid (xan HK5.out hb)
  replace HK7 := Lib.hid (xan HK7.out hb)
  replace HT := Lib.hid (hTP.out ct _ _ HT.out hb)
  have HV := Lib.hid hV
  clear hb hV hTb
  go_wp2_with ((with_reducible refine xar (N := 24) rfl ?_); (refine wpList_load_row rfl 31 (.tmp 7) rfl g7 rfl 31 ct (0, 0) _ HK7.out Tryd.underlying31 rfl hit ?_))
  refine (hE1.out (by simp) ct v v6 HT.out HV.out HB.out).mono ?_
  rintro e v7 ⟨rfl, hb⟩
  replace HB := Lib.hid (xai HB.out hb)
  replace HK1 := Lib.hid (xan HK1.out hb)
  replace HK5 := Lib.hid (xan HK5.out hb)
  replace HK7 := Lib.hid (xan HK7.out hb)
  replace HT := Lib.hid (hTP.out ct _ _ HT.out hb)
  replace HV := Lib.hid (hVP.out v _ _ HV.out hb)
  have HZ := Lib.hid (xaz v7 (.cells #[.int .i8 0, .int .i64 0, .string ⟨#[]⟩] 26 (0, 0)))
  have HK9 := Lib.hid (row_new v7 #[.int .i8 0, .int .i64 0, .string ⟨#[]⟩] #[.int .i8 r1, .int .i64 r2, .string r3] 26)
  have HB78 := Lib.hid (below_row v7 #[.int .i8 0, .int .i64 0, .string ⟨#[]⟩] #[.int .i8 r1, .int .i64 r2, .string r3] 26)
  replace HB := Lib.hid (xai HB.out HB78.out)
  replace HK1 := Lib.hid (xan HK1.out HB78.out)
  replace HK5 := Lib.hid (xan HK5.out HB78.out)
  replace HK7 := Lib.hid (xan HK7.out HB78.out)
  replace HT := Lib.hid (hTP.out ct _ _ HT.out HB78.out)
  replace HV := Lib.hid (hVP.out v _ _ HV.out HB78.out)
  clear hb hE1
  go_wp2_with first | ((with_reducible refine xbm (t := 26) (p := 9) rfl ?_); (refine wpList_store_row rfl 26 (.tmp 9) (.tmp 27) rfl v7.heap.size #[.int .i8 r1, .int .i64 r2, .string r3] rfl rfl 26 #[.int .i8 0, .int .i64 0, .string ⟨#[]⟩] HZ.out hiv (by rw [hvs]; rfl) hvo ?_)) | ((with_reducible refine xar (N := 33) rfl ?_); (refine xbk (by rfl) 26 (.tmp 9) rfl v7.heap.size rfl 26 #[.int .i8 r1, .int .i64 r2, .string r3] (0, 0) _ HK9.out Tryd.underlying26 rfl hiv ?_)) | ((with_reducible refine xar (N := 34) rfl ?_); (refine xbk (by rfl) 26 (.tmp 5) rfl g5 rfl 26 #[.int .i8 r1, .int .i64 r2, .string r3] (0, 0) _ HK5.out Tryd.underlying26 rfl hiv ?_)) | ((with_reducible refine xar (N := 38) rfl ?_); (refine xbk (by rfl) 31 (.tmp 7) rfl g7 rfl 31 ct (0, 0) _ HK7.out Tryd.underlying31 rfl hit ?_)) | ((with_reducible refine xar (N := 39) rfl ?_); (refine xbk (by rfl) 31 (.tmp 2) rfl w.heap.size rfl 31 cx (0, 0) _ HK1.out Tryd.underlying31 rfl hix ?_))
  refine (hL.out (by simp) ct _ HT.out HB.out).mono ?_
  rintro e v9 ⟨rfl, hb⟩
  replace HB := Lib.hid (xai HB.out hb)
  replace HV := Lib.hid (hVP.out v _ _ HV.out hb)
  clear hb
  go_wp2_with fail
  refine (hLb.out (by simp) v v9 HV.out HB.out).mono ?_
  rintro e v10 ⟨rfl, hb⟩
  replace HB := Lib.hid (xai HB.out hb)
  clear hb
  go_wp2_with fail
  go_ret
  exact ⟨rfl, HB.out⟩
abbrev FBd (x : S41) : Prop := x.f0.size ≤ reachBytes ∧ FV x.f1
theorem opens_bind (fuel : Nat) : OpensAt Tryd.prog k41 FBd 41 fuel :=
 opens_struct Tryd.underlying41 (by kernel_rfl) (fun n _ => opensSeq_iso (fun q : ByteArray × S26 => (⟨q.1, q.2⟩ : S41)) (fun _ => rfl) (opens_cons rfl (by kernel_rfl) (opens_string (by kernel_rfl) n) (opens_last rfl (by kernel_rfl) (opens_value n))))
abbrev FBs (bs : List S41) : Prop := bs.length * 48 ≤ reachBytes ∧ ∀ b ∈ bs, FBd b
theorem opens_binds (fuel : Nat) : OpensAt Tryd.prog (Kd.slice 41 k41) FBs 32 fuel :=
 opens_slice Tryd.underlying32 (by kernel_rfl) (by kernel_rfl) (fun j _ => opens_bind j)
theorem binds_names {bs : List S41} (h : FBs bs) (i : Nat) : (bs.getD i z41).f0.size ≤ maxLen := by
 rw [List.getD_eq_getElem?_getD]
 cases hq : bs[i]? with
 | none => exact Nat.zero_le _
 | some b =>
  have h1 : b.f0.size ≤ 140737488351232 := (h.2 b (List.mem_of_getElem? hq)).1
  show b.f0.size ≤ maxLen
  unfold maxLen
  omega
theorem binds_range {bs : List S41} (h : FBs bs) : RangeB bs := fun b hb => wf_i64 (h.2 b hb).2.2.1
theorem expr_bound (x : S31) (h : FX x) : ∃ b : Bool, Ev (fun k => w1_BeyondExpr.f k x.f0 x.f1.f0 x.f1.f1.f0 x.f1.f1.f1 x.f1.f1.f2 x.f2) b ∧ (b = false → (exprTermsL x).length < 2000000) := by
 obtain ⟨n, hn⟩ := h
 obtain ⟨r, hr, h0, h1, hr2⟩ := exprParts_ev x 1048576 (by omega) (Int.le_refl _) (fun q => FE_short hn)
 refine ⟨decide (r > 1048576), Ev.of_bind (g := fun t => some (decide (t > 1048576))) hr rfl, fun hb => ?_⟩
 have hle : r ≤ 1048576 := by have := of_decide_eq_false hb; omega
 have e := hr2 hle
 omega
set_option maxHeartbeats 4000000 in
set_option maxRecDepth 100000 in
theorem TermEvals_walk (x : S31) (h : FX x) (bs : List S41) (hb : FBs bs) (A1 : Option Addr) (c1 : Nat) (A2 : Option Addr) (c2 : Nat) (w : World) (hr1 : Kd.C k31 w A1 x.f2.length x.f2) (hc1 : x.f2.length ≤ c1) (hr2 : Kd.C k41 w A2 bs.length bs) (hc2 : bs.length ≤ c2) (hA : TabA w) (hT : TabB w) :
  Calls Tryd.prog 7 #[.agg #[.int .i8 x.f0, .string x.f1.f0, .int .i8 x.f1.f1.f0, .int .i64 x.f1.f1.f1, .string x.f1.f1.f2, .slice A1 x.f2.length c1], .slice A2 bs.length c2] w fun e w' => e = .returned (.bool true) ∧ Below w.heap.size w w' := by
 obtain ⟨b, hev, hq⟩ := expr_bound x h
 obtain ⟨kb, hkb⟩ := hev.at
 have HT := Lib.hid hT
 have HA := Lib.hid hA
 have HR1 := Lib.hid hr1
 have HR2 := Lib.hid hr2
 clear hr1 hr2 hT hA
 have hlen : bs.length < 4000000000000 := by
  have h1 : bs.length * 48 ≤ 140737488351232 := hb.1
  omega
 have hrd : deepB 8 x = true → ReadyE 8 x ∧ RangeE 8 x := by
  obtain ⟨n, hn⟩ := h
  exact fun hd => ready_of 8 n x hd hn
 refine TermEvals_gen #[.int .i8 x.f0, .string x.f1.f0, .int .i8 x.f1.f1.f0, .int .i64 x.f1.f1.f1, .string x.f1.f1.f2, .slice A1 x.f2.length c1] rfl (.slice A2 bs.length c2) w b (evalTop bs x).2.2.2 (evalTop bs x).1 (evalTop bs x).2.1 (evalTop bs x).2.2.1
  (fun ct w1 => k31t.K w1 x ct.toList)
  (fun v w1 => ∃ A' c', v = .slice A' bs.length c' ∧ bs.length + 1 ≤ c' ∧ Kd.C (orC k41) w1 A' (bs.length + 1) (marked bs mk41))
  (Lib.hid ?_) (Lib.hid ?_) (Lib.hid ?_) (Lib.hid ?_) (Lib.hid ?_) (Lib.hid ?_) (Lib.hid ?_) (Lib.hid ?_) (Lib.hid ?_) (Lib.hid ?_)
 ·exact fun ct w1 w2 h hb => k31t.K_below hb h
 ·rintro v w1 w2 ⟨E, j, rfl, hj, hE⟩ hb
  exact ⟨E, j, rfl, hj, Kd.C_below hE hb⟩
 ·exact fun ct w1 h => ⟨by have h2 := k31t.K_len h; rw [Array.length_toList] at h2; exact h2, K_ones h⟩
 ·intro w1 hb
  exact w1_BeyondExpr.calls (k := kb) (r := b) (hr0_5 := Kd.C_below HR1.out hb) (hc0_5 := hc1) (h := hkb)
 ·intro hb0 w1 hb1
  obtain ⟨ke, hke⟩ := (refEval_ev bs (by omega) (binds_range hb) x hrd).at
  exact r4_Eval.calls (k := ke) (hr0_5 := Kd.C_below HR1.out hb1) (hc0_5 := hc1) (hr1 := Kd.C_below HR2.out hb1) (hc1 := hc2) (h := hke)
 ·intro hb0 w1 hb1
  refine (TwExpr_twin x (hq hb0) A1 c1 w1 (Kd.C_below HR1.out hb1) hc1 (HT.out.below hb1)).mono ?_
  rintro ee w2 ⟨cs, rfl, hM, hb2⟩
  exact ⟨cs.toArray, rfl, by simpa using k31t.K_of_M hM, hb2⟩
 ·intro hb0 w1 hb1
  refine (w1_TwinBinds.twin A2 c2 bs w1 (Kd.C_below HR2.out hb1) hc2 hlen (HT.out.below hb1)).mono ?_
  rintro ee w2 ⟨A', c', rfl, hR, hb2⟩
  obtain ⟨E, j, he, hj, hE⟩ := Kd.R_reads hR
  rw [marked_length] at he hj hE
  injection he with he1 he2 he3
  subst he1
  subst he3
  exact ⟨_, rfl, ⟨_, _, rfl, hj, hE⟩, hb2⟩
 ·rintro hb0 ct v w1 hT1 ⟨A', c', rfl, hj, hE⟩ hb1
  obtain ⟨A5, c5, he, hc5, hC5⟩ := k31_open (k31t_plain _ _ _ hT1)
  obtain rfl : ct = #[.int .i8 x.f0, .string x.f1.f0, .int .i8 x.f1.f1.f0, .int .i64 x.f1.f1.f1, .string x.f1.f1.f2, .slice A5 x.f2.length c5] := by rw [← Array.toArray_toList (xs := ct), he]
  exact Eval_walk x bs (binds_names hb) (Lib.hid (fun hd => (hrd hd).1)) A5 c5 A' c' w1 hC5 hc5 (marked_C rfl (fun _ _ _ h => h) hE) (by omega) (HA.out.below hb1) _ (Lib.hid rfl)
 ·intro hb0 ct w1 hT1 hb1
  obtain ⟨A5, c5, he, hc5, hC5⟩ := k31t_open hT1
  obtain rfl : ct = #[.int .i8 x.f0, .string x.f1.f0, .int .i8 x.f1.f1.f0, .int .i64 x.f1.f1.f1, .string x.f1.f1.f2, .slice A5 x.f2.length c5] := by rw [← Array.toArray_toList (xs := ct), he]
  exact LeExpr_twin x (hq hb0) A5 c5 A1 c1 w1 hC5 hc5 (Kd.C_below HR1.out hb1) hc1 (HT.out.below hb1)
 ·rintro hb0 v w1 ⟨A', c', rfl, hj, hE⟩ hb1
  exact w1_LeftBinds.twin A' c' A2 c2 bs w1 hE hj (Kd.C_below HR2.out hb1) hc2 hlen (HT.out.below hb1)
end Go.Proofs.YtllcmggmcogokaaDoor.PAll
end
section
namespace Go.Proofs.YtllcmggmcogokaaDoor.RowTermEvals
open Go.ChangeShapes Go.WideShapes Go.ChangeAt Go.RowKit Go.Proofs.YtllcmggmcogokaaDoorW.PrintWords Go.Proofs.YtllcmggmcogokaaDoor.PAll
theorem own : ownKnob Tryd.prog.godebug = none := by kernel_rfl
theorem laidOut : laidOutB Tryd.prog = true := by kernel_rfl
theorem gName : Tryd.prog.globalNamed "internal/strconv.uint64pow10" = some 1 := by kernel_rfl
theorem gType : (Tryd.prog.globals[1]?).map (·.type) = some 191 := by kernel_rfl
theorem cellsB : Tryd.prog.cellsOf 191 = 20 := by kernel_rfl
theorem cellsU : Tryd.prog.cellsOf 184 = 1 := by kernel_rfl
theorem aName : Tryd.prog.globalNamed "pedigree/value.takes" = some 0 := by kernel_rfl
theorem aType : (Tryd.prog.globals[0]?).map (·.type) = some 110 := by kernel_rfl
theorem cellsA : Tryd.prog.cellsOf 110 = 11 := by kernel_rfl
theorem cellsW : Tryd.prog.cellsOf 22 = 1 := by kernel_rfl
set_option maxRecDepth 100000 in
theorem tables {W : World} (h : laidMetH Tryd.prog Rows.termEvalsRow.laid W) : TabA W ∧ TabB W := by
 have h' : laidMet Tryd.prog Rows.termEvalsRow.laid W := h
 obtain ⟨ps, ⟨g1, t1, cs1, fuel1, p1, q1, _, _, _, _, ⟨g2, t2, cs2, fuel2, p2, q2, _, _, _, _, ⟨g', t', cs, fuel, p, q, hg', ht', hvar, hd, ⟨g4, t4, cs4, fuel4, p4, q4, hg4, ht4, hvar4, hd4, _, _⟩, _⟩, _⟩, _⟩, _⟩ := h'
 obtain rfl := Option.some.inj (gName.symm.trans hg')
 obtain rfl := Option.some.inj (gType.symm.trans ht')
 obtain rfl := Option.some.inj (aName.symm.trans hg4)
 obtain rfl := Option.some.inj (aType.symm.trans ht4)
 have hd' : DataW.trod (fun _ => ()) Tryd.prog W 0 (fun _ => true) false fuel 191 cs.toList = some (Lib.tabData .u64 Lib.pow10Tab, p) := hd
 have hd4' : DataW.trod (fun _ => ()) Tryd.prog W 0 (fun _ => true) false fuel4 110 cs4.toList = some (Lib.tabData .i8 [0, 1, 2, 2, 2, 2, 2, 4, 3, 3, 3], p4) := hd4
 constructor
 ·unfold TabA Lib.TabIs
  rw [hvar4, ← Lib.cells_of_tab Tryd.underlying110 Tryd.underlying22 cellsW cellsA hd4']
 ·unfold TabB Lib.TabIs
  rw [hvar, ← Lib.cells_of_tab Tryd.underlying191 Tryd.underlying184 cellsU cellsB hd']
set_option maxRecDepth 100000 in
theorem contract (H : Type) (enc : TypeId × Value → H) (W : World) (base : Nat) (args : Array Value) (ds gs : List (DataW H)) (before : List MemPlace)
  (hval : ∀ (j : Nat) t v, Tryd.f7.params[j]? = some t → args[j]? = some v → Value.okWide Tryd.prog W .any base t v)
  (hW : DataW.Whole enc Tryd.prog Tryd.f7.params.toList Rows.termEvalsSpec.vars false W args.toList ds gs before)
  (hz : (DataW.weightsEach Tryd.prog (Tryd.f7.params.toList ++ Rows.termEvalsSpec.plain.varTypes Tryd.prog) (ds ++ gs)).all (· ≤ reachBytes) = true) (hL : laidMetH Tryd.prog Rows.termEvalsRow.laid W) :
  Calls Tryd.prog 7 args W fun e W' => ∃ v, e = .returned v ∧ Rows.termEvalsSpec.post enc Tryd.prog Tryd.f7 false true false false W args v W' := by
 have hW' := hW
 obtain ⟨p, q, hA0, hV, rfl, hfz, hnd⟩ := hW
 have hA : DataW.TrodAll enc Tryd.prog W 0 (fun _ => true) true Tryd.f7.params.toList args.toList ds p := hA0
 rw [Tryd.params7] at hA hval
 obtain ⟨v0, vs0, d0, ds0, p0, q0, hargs, rfl, rfl, h0, r0⟩ := trodAll_cons hA
 obtain ⟨v1, vs1, d1, ds1, p1, q1, rfl, rfl, rfl, h1, r1⟩ := trodAll_cons r0
 obtain ⟨rfl, rfl, rfl⟩ := trodAll_nil r1
 obtain rfl : args = #[v0, v1] := by rw [← Array.toArray_toList (xs := args), hargs]
 obtain ⟨rfl, rfl⟩ := trodVars_none hV
 obtain ⟨cs, rfl, hsz⟩ := okWide_struct Tryd.underlying31 (hval 0 31 v0 rfl rfl)
 obtain ⟨A2, len2, c2, rfl⟩ := okWide_slice Tryd.underlying32 (hval 1 32 v1 rfl rfl)
 have h0k := h0
 have h1k := h1
 obtain ⟨fuel, hf⟩ := h0
 obtain ⟨fuel1, hf1⟩ := h1
 have hww : ∀ n, (n ∈ d0.weights Tryd.prog 31 ∨ n ∈ d1.weights Tryd.prog 32) → n ≤ reachBytes := by
  intro n hn
  have := List.all_eq_true.1 hz n (by
   rw [Tryd.params7]
   simp only [List.cons_append, List.nil_append, DataW.weightsEach]
   rcases hn with hn | hn
   ·exact List.mem_append_left _ hn
   ·exact List.mem_append_right _ (List.mem_append_left _ hn))
  simpa using this
 obtain ⟨x, hK, hF⟩ := opens_expr fuel H enc W cs.toList (d0, p0) hf (fun n hn => hww n (.inl hn))
 obtain ⟨bs, hK1, hF1⟩ := opens_binds fuel1 H enc W _ (d1, p1) hf1 (fun n hn => hww n (.inr hn))
 obtain ⟨A1, c1, he, hc1, hr1⟩ := k31_open hK
 obtain rfl : cs = _ := by rw [← Array.toArray_toList (xs := cs), he]
 obtain ⟨B2, e2, he2, hc2, hr2⟩ := hK1
 obtain ⟨rfl, rfl, rfl⟩ : A2 = B2 ∧ len2 = bs.length ∧ c2 = e2 := by simpa [Value.cells] using he2
 simp only [List.append_nil] at hW'
 obtain ⟨hTA, hTB⟩ := tables hL
 refine (TermEvals_walk x hF bs hF1 A1 c1 _ _ W hr1 hc1 hr2 hc2 hTA hTB).mono fun ee W' ⟨he2, hb⟩ => ?_
 subst he2
 have hlt : ∀ y ∈ p0 ++ p1, y.block < W.heap.size := fun y hy => by simpa using hW'.lt y (by simpa using hy)
 exact ⟨_, rfl, ⟨[d0, d1], [], _, [], p0 ++ p1, [], hW', trodAll_mk1 (shut_bool Tryd.underlying4 _), trodAll_mk2 (Below.trod laidOut (by kernel_rfl) (of_decide_eq_true (by kernel_rfl)) h0k hb (fun y hy => hlt y (List.mem_append_left _ hy))) (Below.trod laidOut (by kernel_rfl) (of_decide_eq_true (by kernel_rfl)) h1k hb (fun y hy => hlt y (List.mem_append_right _ hy))), rfl, hb.frame _, fun h => by cases h⟩⟩
def db32 : List Int := [0, 1, 28, 2, 29, 14, 24, 3, 30, 22, 20, 15, 25, 17, 4, 8, 31, 27, 13, 23, 21, 19, 16, 7, 26, 12, 18, 6, 11, 5, 10, 9]
def db64 : List Int := [0, 1, 56, 2, 57, 49, 28, 3, 61, 58, 42, 50, 38, 29, 17, 4, 62, 47, 59, 36, 45, 43, 51, 22, 53, 39, 33, 30, 24, 18, 12, 5, 63, 55, 48, 27, 60, 41, 37, 16, 46, 35, 44, 21, 52, 32, 23, 11, 54, 26, 40, 15, 34, 20, 31, 10, 25, 14, 19, 9, 13, 8, 7, 6]
noncomputable def laidHeap (h : Array Obj) : Array Obj :=
 let h1 := h.modify 1 fun
   | .cells _ t frozen => .cells (Lib.pow10Tab.map fun z => Value.int .u64 z).toArray t frozen
   | o => o
 let h2 := h1.modify 2 fun
   | .cells _ t frozen => .cells (db32.map fun z => Value.int .u8 z).toArray t frozen
   | o => o
 let h3 := h2.modify 3 fun
   | .cells _ t frozen => .cells (db64.map fun z => Value.int .u8 z).toArray t frozen
   | o => o
 h3.modify 0 fun
   | .cells _ t frozen => .cells (([0, 1, 2, 2, 2, 2, 2, 4, 3, 3, 3] : List Int).map fun z => Value.int .i8 z).toArray t frozen
   | o => o
noncomputable def laidWorld (os : Os) : World :=
 { World.holding Tryd.prog os ⟨#[], #[], []⟩ with heap := laidHeap (World.holding Tryd.prog os ⟨#[], #[], []⟩).heap }
def lit0 : Value := .agg #[.int .i8 0, .string ⟨#[]⟩, .int .i8 0, .int .i64 0, .string ⟨#[]⟩, .slice none 0 0]
def lit1 : Value := .slice none 0 0
def dat0 {H : Type} : DataW H := .agg [.lit (.int .i8 0), .agg [.lit (.string []), .agg [.lit (.int .i8 0), .lit (.int .i64 0), .lit (.string [])]], .nil]
set_option maxRecDepth 100000 in
theorem laid_met (os : Os) : laidMet Tryd.prog Rows.termEvalsRow.laid ((laidWorld os).forCall (fun _ _ => 0) ⟨#[], #[lit0, lit1], []⟩).memory :=
 laidMet_of_run' 8 (by kernel_rfl) (by kernel_rfl)
set_option maxRecDepth 100000 in
theorem reads (os : Os) {H : Type} (enc : TypeId × Value → H) : ∃ places, DataW.whole enc Tryd.prog ((laidWorld os).forCall (fun _ _ => 0) ⟨#[], #[lit0, lit1], []⟩).memory Tryd.f7.params.toList Rows.termEvalsSpec.vars false #[lit0, lit1].toList 8 = some ([dat0, .nil], [], places) :=
 ⟨[], by kernel_rfl⟩
set_option maxRecDepth 100000 in
theorem lifted (os : Os) (started : os.Started) (H : Type) (enc : TypeId × Value → H) (F : Stop.Interp) :
  ReturnsInHanded {} Tryd.checked os 7 .any ((OpenSpec.ofChange Rows.termEvalsSpec).preRow enc Tryd.prog Tryd.f7 Rows.termEvalsRow.domain false Rows.termEvalsRow.laid) (((OpenSpec.ofChange Rows.termEvalsSpec).at F).post enc Tryd.prog Tryd.f7 false true false false) := by
 obtain ⟨places, hx⟩ := reads os enc
 refine returnsInHanded_of_row (C := Tryd.checked) (s := OpenSpec.ofChange Rows.termEvalsSpec) own started (by kernel_rfl) Tryd.func7
  (witness_row_at (enc := enc) (C := Tryd.checked) false (laidWorld os) #[lit0, lit1] rfl (by kernel_rfl) (by kernel_rfl) (by kernel_rfl)
   (OpenSpec.preRow_of_cond 8 hx (by kernel_rfl) (fun k hk => by cases hk) (by kernel_rfl) (laid_met os))) ?_
 intro W base args ds gs before hval hW _ _ hz hL _ _
 exact contract H enc W base args ds gs before hval hW hz hL
theorem said : Rows.TermEvalsSaid :=
 OpenClaim.holds_of_cond 7 Tryd.f7 rfl rfl rfl rfl rfl rfl rfl ⟨rfl, rfl, rfl, rfl, rfl⟩ rfl rfl rfl rfl rfl (by kernel_rfl) Tryd.func7 (by kernel_rfl)
  (of_decide_eq_true (by kernel_rfl)) (by unfold Func.isWrapper; first | (rw [if_pos (by decide +kernel)]; kernel_rfl) | (rw [if_neg (by decide +kernel)]; exact ⟨rfl, rfl⟩))
  (fun os started H enc _ F => by rw [OpenClaim.pre_eq_preRow]; exact lifted os started H enc F)
theorem plain (f : FuncId) (fn : Func) (hf : Tryd.pinned.checked.prog.funcNamed "pedigree/pedigreelaw04.TermEvals" = some f) (hfn : Tryd.pinned.checked.prog.funcs[f]? = some fn) :
  true = Tryd.pinned.checked.prog.looks [] ∧ ∀ (j : Nat) t, fn.params[j]? = some t → Tryd.pinned.checked.prog.wantsStandIn t = false := by
 obtain rfl : f = 7 := Option.some.inj ((show Tryd.prog.funcNamed "pedigree/pedigreelaw04.TermEvals" = some 7 by kernel_rfl).symm.trans hf) |>.symm
 obtain rfl : fn = Tryd.f7 := (Option.some.inj (Tryd.func7.symm.trans hfn)).symm
 refine ⟨by kernel_rfl, fun j t ht => ?_⟩
 rw [Tryd.params7] at ht
 have hm : t = 31 ∨ t = 32 := by simpa using Array.mem_of_getElem? ht
 rcases hm with rfl | rfl
 ·exact (show Tryd.prog.wantsStandIn 31 = false by kernel_rfl)
 ·exact (show Tryd.prog.wantsStandIn 32 = false by kernel_rfl)
theorem card : Rows.TermEvalsCardSaid :=
 Claim7.holds_tied_plain_at .later [] _ _ _ _ said (fun _ h => by cases h) (by kernel_rfl) (fun _ h => by cases h) termEvals_row_tie rfl ⟨rfl, rfl⟩ (by kernel_rfl) rfl plain (by kernel_rfl)
end Go.Proofs.YtllcmggmcogokaaDoor.RowTermEvals
end
