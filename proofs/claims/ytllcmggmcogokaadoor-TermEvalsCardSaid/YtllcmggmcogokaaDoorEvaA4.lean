-- Written by programs of this work and by hand, joined by a program. Lean checks it.
import Derived.Laws.CopyOwn
import Derived.RangeFuncNested
import Derived.RangeFuncBound
import Derived.RangeFuncCalls
import Derived.RangeFuncLeaves
import Derived.Shelf.Abstract
import Derived.Shelf.RegionOpen
import Derived.OwnWalkIn
import Derived.TacticsInMore
import Derived.LoopNIn
import Derived.LoopIn
import Derived.Maps.OwnIn
import Derived.Test.YtllcmggmcogokaaDoorEvaA3
set_option linter.unusedVariables false
set_option linter.unusedSimpArgs false
section
namespace Go.Proofs.YtllcmggmcogokaaDoor.PAll
open Go.RowKit Go.Proofs.YtllcmggmcogokaaDoorW.PrintWords Go.Proofs.YtllcmggmcogokaaDoorW.PrintLast Go.Proofs.YtllcmggmcogokaaDoorW.PrintMore
attribute [local go_sem] max2_int min2_int max_two min_two max_three min_three max_four min_four
set_option maxHeartbeats 8000000 in
set_option maxRecDepth 100000 in
theorem r1_Arith.calls (k : Nat) (a0 : Int) (A1 : Option Addr) (c1 : Nat) (l1 : List (S26)) (r1 : Int) (r2 : Int) (r3 : ByteArray) (r4 : Bool) (w : World) (hr1 : Kd.C k26 w A1 l1.length l1) (hc1 : l1.length ≤ c1) (h : r1_Arith.f k a0 l1 = some (r1, r2, r3, r4)) :
  Calls Tryd.prog 122 #[.int .i8 a0, .slice A1 l1.length c1] w fun e w' => e = .returned (.tuple #[.agg #[.int .i8 r1, .int .i64 r2, .string r3], .bool r4]) ∧ Below w.heap.size w w' := by
 have hu26 := Tryd.underlying26
 have HR1 := Aside0.mk hr1
 have HC1 := Aside0.mk hc1
 clear hr1 hc1
 have HB := Aside0.mk (Below.refl w.heap.size w)
 have H : (if a0 = 1 then ((r1_kinds.f k l1 1 1).bind fun t458 => (r1_Arith.j0 k a0 l1 t458)) else (r1_Arith.j0 k a0 l1 false)) = some (r1, r2, r3, r4) := h
 clear h
 have HC3 := Aside0.mk H
 clear H
 go_enter Tryd.func122, Tryd.ntmps122
 go_upto_region 1 with (first | ((with_reducible refine xar (N := 4) rfl ?_); refine xaq ?hg (N := 4) ?hd (cs := #[.int .i8 0, .int .i64 0, .string (⟨#[]⟩ : ByteArray)]) (t := 26) ?hr ?_; (case hd => rfl); (case hg => rfl); (case hr => first | (go_simp; done) | (go_simp; rfl)); intro gb457 hg w4 hbox hb; have n0_ := Aside0.mk (xai (by repeat (first | (with_reducible first | exact HB.out | apply xab | apply xaa | apply xac) | exact HB.out)) hb); have n1_ := Aside0.mk (hbox); have n2_ := Aside0.mk ((by rw [hg]; exact (xap (by repeat (first | (with_reducible first | exact HB.out | apply xab | apply xaa | apply xac) | exact HB.out))) : w.heap.size ≤ gb457)); have n3_ := n2_; clear HB; have HB := n0_; have BK457 := n1_; have GW457 := n2_; have GE457 := n3_; clear n0_ n1_ n2_ n3_; clear hb hbox hg))
 (try simp only [Act.put, sI, sZ, sS])
 go_cut [7] (fun v7 wc => ∃ (kq : Nat) (x7_2 : Bool), v7 = .bool x7_2 ∧ Aside0 (r1_Arith.j0 kq a0 l1 x7_2 = some (r1, r2, r3, r4)) ∧ Aside0 (kq ≤ k) ∧ Aside0 (wc.heap[gb457]? = some (.cells #[.int .i8 0, .int .i64 0, .string (⟨#[]⟩ : ByteArray)] 26 (0, 0))) ∧ Aside0 (Below w.heap.size w wc))
 case first =>
  have H := HC3.out
  clear HC3
  by_cases c5 : a0 = 1
  ·rw [if_pos c5] at H
   have c5b0 : (a0 == 1) = true := beq_iff_eq.mpr c5
   have c5b1 : (a0 != 1) = false := bne_eq_false_iff_eq.mpr c5
   clear c5
   (first | rw [c5b0] | (simp only [i64_w, i32_w]; rw [c5b0]) | skip)
   replace H := Option.bind_eq_some_iff.mp H
   obtain ⟨t458, A60, H⟩ := H
   replace H : (r1_Arith.j0 k a0 l1 t458) = some (r1, r2, r3, r4) := H
   have A6 := Aside0.mk A60
   clear A60
   have H' := Aside0.mk H
   clear H
   go_wp2_with (first | (go_at_call 139; (with_reducible refine (r1_kinds.calls k _ _ l1 1 1 t458 _ ?side1 ?side2 A6.out).mono ?_); (case side1 => repeat (first | exact (Kd.C_below HR1.out HB.out) | (with_reducible refine Kd.C_alloc ?_ _) | (with_reducible refine Kd.C_drewN ?_ _) | (with_reducible refine Kd.C_drew ?_))); (case side2 => exact HC1.out); rintro e w7 ⟨rfl, hb⟩; have n0_ := Aside0.mk (xan (g := gb457) (o := .cells #[.int .i8 0, .int .i64 0, .string (⟨#[]⟩ : ByteArray)] 26 (0, 0)) (by (with_reducible repeat (first | refine xae ?_ _ | refine xaf ?_ | refine xad ?_ _)); exact BK457.out) hb); have n1_ := Aside0.mk (xai (by repeat (first | (with_reducible first | exact HB.out | apply xab | apply xaa | apply xac | refine xag ?_ GE457.out) | exact HB.out)) hb); clear BK457; clear HB; have BK457 := n0_; have HB := n1_; clear n0_ n1_; (try clear hb); (try clear hb2); (try clear hk); (try clear hi)))
   go_meet
   case rel => exact ⟨_, (t458), (by first | rfl | (simp; done) | (simp [*]; done)), H', ⟨by first | omega | exact Nat.le_refl _⟩, ⟨by (with_reducible repeat (first | refine xae ?_ _ | refine xaf ?_ | refine xad ?_ _)); exact BK457.out⟩, ⟨by repeat (first | (with_reducible first | exact HB.out | apply xab | apply xaa | apply xac | refine xag ?_ GE457.out) | exact HB.out)⟩⟩
  ·rw [if_neg c5] at H
   have c5b0 : (a0 == 1) = false := beq_eq_false_iff_ne.mpr c5
   have c5b1 : (a0 != 1) = true := bne_iff_ne.mpr c5
   (first | rw [c5b0] | (simp only [i64_w, i32_w]; rw [c5b0]) | skip)
   have H' := Aside0.mk H
   clear H
   go_wp2
   go_meet
   case rel => exact ⟨_, (false), (by first | rfl | (simp; done) | (simp [*]; done)), H', ⟨by first | omega | exact Nat.le_refl _⟩, ⟨by (with_reducible repeat (first | refine xae ?_ _ | refine xaf ?_ | refine xad ?_ _)); exact BK457.out⟩, ⟨by repeat (first | (with_reducible first | exact HB.out | apply xab | apply xaa | apply xac | refine xag ?_ GE457.out) | exact HB.out)⟩⟩
 case rest =>
  clear HC3
  try clear c1
  try clear p2
  try clear c5
  try clear c5b0
  try clear c5b1
  obtain ⟨kq, x7_2, rfl, HA, HJ2, BK457, HB⟩ := hcut
  cases kq with
  | zero => exact absurd HA.out (by simp [r1_Arith.j0])
  | succ kj2 =>
   have H := HA.out
   clear HA
   simp only [r1_Arith.j0] at H
   by_cases c8 : x7_2 = true
   ·subst c8
    have H1 : (if 0 < (l1.length : Int) then (some (1, wrap64 (-((rd_T26 l1 0).f1)), (⟨#[]⟩ : ByteArray), true)) else (none)) = some (r1, r2, r3, r4) := by rw [if_pos rfl] at H; exact H
    clear H
    have H := H1
    clear H1
    by_cases c9 : 0 < (l1.length : Int)
    ·rw [if_pos c9] at H
     have c9b0 : decide (0 < (l1.length : Int)) = true := decide_eq_true c9
     have c9b1 : decide (0 < l1.length) = true := decide_eq_true (by omega)
     clear c9
     simp only [Option.some.injEq, Prod.mk.injEq] at H
     obtain ⟨rfl, rfl, rfl, rfl⟩ := H
     have p459 : 0 ≤ (0 : Int) := (by omega)
     have q459 : 0 < (l1.length : Int) := of_decide_eq_true (by first | (with_reducible assumption) | assumption)
     obtain ⟨ad459, e459, hx459_0, hx459_1, hx459_2⟩ := at_T26 HR1.out 0 p459 q459
     cases e459
     have qi459 : (0 < l1.length) = True := eq_true (by omega)
     (try rw [show ((0 : Int)).toNat = 0 from rfl] at hx459_0)
     (try rw [show 0 * 3 = 0 from rfl] at hx459_0)
     (try rw [Addr.add_zero'] at hx459_0)
     (try rw [show ((0 : Int)).toNat = 0 from rfl] at hx459_1)
     (try rw [show 0 * 3 = 0 from rfl] at hx459_1)
     (try rw [Addr.add_zero'] at hx459_1)
     (try rw [show ((0 : Int)).toNat = 0 from rfl] at hx459_2)
     (try rw [show 0 * 3 = 0 from rfl] at hx459_2)
     (try rw [Addr.add_zero'] at hx459_2)
     replace hx459_0 := (HB.out.cell (World.block_lt_of_cell? w _ hx459_0)).trans hx459_0
     replace hx459_1 := (HB.out.cell (World.block_lt_of_cell? w _ hx459_1)).trans hx459_1
     replace hx459_2 := (HB.out.cell (World.block_lt_of_cell? w _ hx459_2)).trans hx459_2
     replace p459 := eq_true p459
     replace q459 := eq_true q459
     obtain ⟨hcz10_0, hcz10_1, hcz10_2⟩ := cz3 BK457.out
     obtain ⟨hfz10_0, hfz10_1, hfz10_2⟩ := fz3 BK457.out
     go_wp2
     refine bodyPost_ret (xat rfl _ _ gb457 26 #[.int .i8 1, .int .i64 (wrap64 (-((rd_T26 l1 0).f1))), .string (⟨#[]⟩ : ByteArray)] (0, 0) _ rfl (by (with_reducible repeat (first | refine xae ?_ _ | refine xaf ?_ | refine xad ?_ _)); refine xas (cs := #[.int .i8 1, .int .i64 (wrap64 (-((rd_T26 l1 0).f1))), .string (⟨#[]⟩ : ByteArray)]) ?_ 2 _ rfl; (with_reducible repeat (first | refine xae ?_ _ | refine xaf ?_ | refine xad ?_ _)); refine xas (cs := #[.int .i8 1, .int .i64 0, .string (⟨#[]⟩ : ByteArray)]) ?_ 1 _ rfl; (with_reducible repeat (first | refine xae ?_ _ | refine xaf ?_ | refine xad ?_ _)); refine xas (cs := #[.int .i8 0, .int .i64 0, .string (⟨#[]⟩ : ByteArray)]) ?_ 0 _ rfl; (with_reducible repeat (first | refine xae ?_ _ | refine xaf ?_ | refine xad ?_ _)); exact BK457.out) Tryd.underlying26 rfl (by kernel_rfl)) rfl ?_
     exact ⟨by first | rfl | (simp [xak, xal] <;> rfl) | (simp [*, xak, xal] <;> rfl), by repeat (first | (with_reducible first | exact HB.out | apply xab | apply xaa | apply xac | refine xag ?_ GE457.out) | exact HB.out)⟩
    ·rw [if_neg c9] at H
     exact absurd H (by simp)
   ·replace c8 := Bool.eq_false_iff.mpr c8
    subst c8
    have H1 : (if a0 ≥ 2 then (if a0 ≤ 6 then ((r1_kinds.f kj2 l1 2 1).bind fun t460 => (r1_Arith.j1 kj2 a0 l1 t460)) else (r1_Arith.j1 kj2 a0 l1 false)) else (r1_Arith.j1 kj2 a0 l1 false)) = some (r1, r2, r3, r4) := by rw [if_neg (show ¬ (false = true) by decide)] at H; exact H
    clear H
    have H := H1
    clear H1
    have HC11 := Aside0.mk H
    clear H
    go_upto_region 3 with (fail)
    go_cut [20] (fun v20 wc => ∃ (kq : Nat) (x20_10 : Bool), v20 = .bool x20_10 ∧ Aside0 (r1_Arith.j1 kq a0 l1 x20_10 = some (r1, r2, r3, r4)) ∧ Aside0 (kq ≤ kj2) ∧ Aside0 (wc.heap[gb457]? = some (.cells #[.int .i8 0, .int .i64 0, .string (⟨#[]⟩ : ByteArray)] 26 (0, 0))) ∧ Aside0 (Below w.heap.size w wc))
    case first =>
     have H := HC11.out
     clear HC11
     by_cases c12 : a0 ≥ 2
     ·rw [if_pos c12] at H
      have c12b0 : decide (2 ≤ a0) = true := decide_eq_true c12
      clear c12
      (first | rw [c12b0] | (simp only [i64_w, i32_w]; rw [c12b0]) | skip)
      by_cases c13 : a0 ≤ 6
      ·rw [if_pos c13] at H
       have c13b0 : decide (a0 ≤ 6) = true := decide_eq_true c13
       clear c13
       replace H := Option.bind_eq_some_iff.mp H
       obtain ⟨t460, A140, H⟩ := H
       replace H : (r1_Arith.j1 kj2 a0 l1 t460) = some (r1, r2, r3, r4) := H
       have A14 := Aside0.mk A140
       clear A140
       have H' := Aside0.mk H
       clear H
       go_wp2_with (first | (go_at_call 139; (with_reducible refine (r1_kinds.calls kj2 _ _ l1 2 1 t460 _ ?side1 ?side2 A14.out).mono ?_); (case side1 => repeat (first | exact (Kd.C_below HR1.out HB.out) | (with_reducible refine Kd.C_alloc ?_ _) | (with_reducible refine Kd.C_drewN ?_ _) | (with_reducible refine Kd.C_drew ?_))); (case side2 => exact HC1.out); rintro e w15 ⟨rfl, hb⟩; have n0_ := Aside0.mk (xan (g := gb457) (o := .cells #[.int .i8 0, .int .i64 0, .string (⟨#[]⟩ : ByteArray)] 26 (0, 0)) (by (with_reducible repeat (first | refine xae ?_ _ | refine xaf ?_ | refine xad ?_ _)); exact BK457.out) hb); have n1_ := Aside0.mk (xai (by repeat (first | (with_reducible first | exact HB.out | apply xab | apply xaa | apply xac | refine xag ?_ GE457.out) | exact HB.out)) hb); clear BK457; clear HB; have BK457 := n0_; have HB := n1_; clear n0_ n1_; (try clear hb); (try clear hb2); (try clear hk); (try clear hi)))
       go_meet
       case rel => exact ⟨_, (t460), (by first | rfl | (simp; done) | (simp [*]; done)), H', ⟨by have := HJ2.out; first | omega | exact Nat.le_refl _⟩, ⟨by (with_reducible repeat (first | refine xae ?_ _ | refine xaf ?_ | refine xad ?_ _)); exact BK457.out⟩, ⟨by repeat (first | (with_reducible first | exact HB.out | apply xab | apply xaa | apply xac | refine xag ?_ GE457.out) | exact HB.out)⟩⟩
      ·rw [if_neg c13] at H
       have c13b0 : decide (a0 ≤ 6) = false := decide_eq_false c13
       clear c13
       have H' := Aside0.mk H
       clear H
       go_wp2
       go_meet
       case rel => exact ⟨_, (false), (by first | rfl | (simp; done) | (simp [*]; done)), H', ⟨by have := HJ2.out; first | omega | exact Nat.le_refl _⟩, ⟨by (with_reducible repeat (first | refine xae ?_ _ | refine xaf ?_ | refine xad ?_ _)); exact BK457.out⟩, ⟨by repeat (first | (with_reducible first | exact HB.out | apply xab | apply xaa | apply xac | refine xag ?_ GE457.out) | exact HB.out)⟩⟩
     ·rw [if_neg c12] at H
      have c12b0 : decide (2 ≤ a0) = false := decide_eq_false c12
      clear c12
      (first | rw [c12b0] | (simp only [i64_w, i32_w]; rw [c12b0]) | skip)
      have H' := Aside0.mk H
      clear H
      go_wp2
      go_meet
      case rel => exact ⟨_, (false), (by first | rfl | (simp; done) | (simp [*]; done)), H', ⟨by have := HJ2.out; first | omega | exact Nat.le_refl _⟩, ⟨by (with_reducible repeat (first | refine xae ?_ _ | refine xaf ?_ | refine xad ?_ _)); exact BK457.out⟩, ⟨by repeat (first | (with_reducible first | exact HB.out | apply xab | apply xaa | apply xac | refine xag ?_ GE457.out) | exact HB.out)⟩⟩
    case rest =>
     clear HC11
     try clear c1
     try clear p2
     try clear p4
     try clear q4
     try clear hx4
     try clear qi4
     try clear c5
     try clear c5b0
     try clear c5b1
     try clear p6
     try clear c8
     try clear c9
     try clear c9b0
     try clear c9b1
     try clear c12
     try clear c12b0
     try clear c13
     try clear c13b0
     try clear hcz10_0
     try clear hcz10_1
     try clear hcz10_2
     try clear hfz10_0
     try clear hfz10_1
     try clear hfz10_2
     try clear hx459_0
     try clear hx459_1
     try clear hx459_2
     try clear p2
     try clear p459
     try clear q459
     obtain ⟨kq, x20_10, rfl, HA, HJ10, BK457, HB⟩ := hcut
     cases kq with
     | zero => exact absurd HA.out (by simp [r1_Arith.j1])
     | succ kj10 =>
      have H := HA.out
      clear HA
      simp only [r1_Arith.j1] at H
      by_cases c16 : x20_10 = true
      ·subst c16
       have H1 : (if 0 < (l1.length : Int) then (if 1 < (l1.length : Int) then ((r1_numbers.f a0 ((rd_T26 l1 0).f1) ((rd_T26 l1 1).f1)).bind fun bt463 => (some (bt463.1, bt463.2.1, bt463.2.2.1, bt463.2.2.2))) else (none)) else (none)) = some (r1, r2, r3, r4) := by rw [if_pos rfl] at H; exact H
       clear H
       have H := H1
       clear H1
       by_cases c17 : 0 < (l1.length : Int)
       ·rw [if_pos c17] at H
        have c17b0 : decide (0 < (l1.length : Int)) = true := decide_eq_true c17
        have c17b1 : decide (0 < l1.length) = true := decide_eq_true (by omega)
        clear c17
        by_cases c18 : 1 < (l1.length : Int)
        ·rw [if_pos c18] at H
         have c18b0 : decide (1 < (l1.length : Int)) = true := decide_eq_true c18
         have c18b1 : decide (1 < l1.length) = true := decide_eq_true (by omega)
         clear c18
         replace H := Option.bind_eq_some_iff.mp H
         obtain ⟨⟨t463, t464, t465, t466⟩, A190, H⟩ := H
         replace H : (some (t463, t464, t465, t466)) = some (r1, r2, r3, r4) := H
         have A19 := Aside0.mk A190
         clear A190
         simp only [Option.some.injEq, Prod.mk.injEq] at H
         obtain ⟨rfl, rfl, rfl, rfl⟩ := H
         try go_wp2
         have n0_ := Aside0.mk (xaf BK457.out)
         have n1_ := Aside0.mk (xac HB.out)
         clear BK457
         clear HB
         have BK457 := n0_
         have HB := n1_
         clear n0_ n1_
         have p461 : 0 ≤ (0 : Int) := (by omega)
         have q461 : 0 < (l1.length : Int) := of_decide_eq_true (by first | (with_reducible assumption) | assumption)
         obtain ⟨ad461, e461, hx461_0, hx461_1, hx461_2⟩ := at_T26 HR1.out 0 p461 q461
         have hw461_2 := hx461_2
         (try rw [show ((0 : Int)).toNat = 0 from rfl] at hw461_2)
         (try rw [show 0 * 3 = 0 from rfl] at hw461_2)
         (try rw [Addr.add_zero'] at hw461_2)
         have hw461_1 := hx461_1
         (try rw [show ((0 : Int)).toNat = 0 from rfl] at hw461_1)
         (try rw [show 0 * 3 = 0 from rfl] at hw461_1)
         (try rw [Addr.add_zero'] at hw461_1)
         have hw461_0 := hx461_0
         (try rw [show ((0 : Int)).toNat = 0 from rfl] at hw461_0)
         (try rw [show 0 * 3 = 0 from rfl] at hw461_0)
         (try rw [Addr.add_zero'] at hw461_0)
         cases e461
         have qi461 : (0 < l1.length) = True := eq_true (by omega)
         (try rw [show ((0 : Int)).toNat = 0 from rfl] at hx461_0)
         (try rw [show 0 * 3 = 0 from rfl] at hx461_0)
         (try rw [Addr.add_zero'] at hx461_0)
         (try rw [show ((0 : Int)).toNat = 0 from rfl] at hx461_1)
         (try rw [show 0 * 3 = 0 from rfl] at hx461_1)
         (try rw [Addr.add_zero'] at hx461_1)
         (try rw [show ((0 : Int)).toNat = 0 from rfl] at hx461_2)
         (try rw [show 0 * 3 = 0 from rfl] at hx461_2)
         (try rw [Addr.add_zero'] at hx461_2)
         replace hx461_0 := (HB.out.cell (World.block_lt_of_cell? w _ hx461_0)).trans hx461_0
         replace hx461_1 := (HB.out.cell (World.block_lt_of_cell? w _ hx461_1)).trans hx461_1
         replace hx461_2 := (HB.out.cell (World.block_lt_of_cell? w _ hx461_2)).trans hx461_2
         replace p461 := eq_true p461
         replace q461 := eq_true q461
         have p462 : 0 ≤ (1 : Int) := (by omega)
         have q462 : 1 < (l1.length : Int) := of_decide_eq_true (by first | (with_reducible assumption) | assumption)
         obtain ⟨ad462, e462, hx462_0, hx462_1, hx462_2⟩ := at_T26 HR1.out 1 p462 q462
         have hw462_2 := hx462_2
         (try rw [show ((1 : Int)).toNat = 1 from rfl] at hw462_2)
         (try rw [show 1 * 3 = 3 from rfl] at hw462_2)
         (try simp only [Nat.reduceMul, Nat.reduceEqDiff, Go.Addr.add, ↓reduceIte] at hw462_2)
         have hw462_1 := hx462_1
         (try rw [show ((1 : Int)).toNat = 1 from rfl] at hw462_1)
         (try rw [show 1 * 3 = 3 from rfl] at hw462_1)
         (try simp only [Nat.reduceMul, Nat.reduceEqDiff, Go.Addr.add, ↓reduceIte] at hw462_1)
         have hw462_0 := hx462_0
         (try rw [show ((1 : Int)).toNat = 1 from rfl] at hw462_0)
         (try rw [show 1 * 3 = 3 from rfl] at hw462_0)
         (try simp only [Nat.reduceMul, Nat.reduceEqDiff, Go.Addr.add, ↓reduceIte] at hw462_0)
         obtain rfl : ad461 = ad462 := (by injection e462)
         (try simp only [show (1 : Int).toNat = 1 from rfl, Nat.reduceMul, Nat.reduceEqDiff, Go.Addr.add, ↓reduceIte] at hx462_0)
         (try simp only [show (1 : Int).toNat = 1 from rfl, Nat.reduceMul, Nat.reduceEqDiff, Go.Addr.add, ↓reduceIte] at hx462_1)
         (try simp only [show (1 : Int).toNat = 1 from rfl, Nat.reduceMul, Nat.reduceEqDiff, Go.Addr.add, ↓reduceIte] at hx462_2)
         have qi462 : (1 < l1.length) = True := eq_true (by omega)
         (try rw [show ((1 : Int)).toNat = 1 from rfl] at hx462_0)
         (try rw [show 1 * 3 = 3 from rfl] at hx462_0)
         (try rw [show ((1 : Int)).toNat = 1 from rfl] at hx462_1)
         (try rw [show 1 * 3 = 3 from rfl] at hx462_1)
         (try rw [show ((1 : Int)).toNat = 1 from rfl] at hx462_2)
         (try rw [show 1 * 3 = 3 from rfl] at hx462_2)
         replace hx462_0 := (HB.out.cell (World.block_lt_of_cell? w _ hx462_0)).trans hx462_0
         replace hx462_1 := (HB.out.cell (World.block_lt_of_cell? w _ hx462_1)).trans hx462_1
         replace hx462_2 := (HB.out.cell (World.block_lt_of_cell? w _ hx462_2)).trans hx462_2
         replace p462 := eq_true p462
         replace q462 := eq_true q462
         refine start_ (n := 14) (S := fun w' => w'.cell? ad461 = some (.int .i8 ((rd_T26 l1 0).f0)) ∧ w'.cell? ⟨ad461.block, ad461.off + 1, none⟩ = some (.int .i64 ((rd_T26 l1 0).f1)) ∧ w'.cell? ⟨ad461.block, ad461.off + 2, none⟩ = some (.string ((rd_T26 l1 0).f2)) ∧ w'.cell? ⟨ad461.block, ad461.off + 3, none⟩ = some (.int .i8 ((rd_T26 l1 1).f0)) ∧ w'.cell? ⟨ad461.block, ad461.off + 3 + 1, none⟩ = some (.int .i64 ((rd_T26 l1 1).f1)) ∧ w'.cell? ⟨ad461.block, ad461.off + 3 + 2, none⟩ = some (.string ((rd_T26 l1 1).f2))) (ds := []) #[false, false, false, false, false, false, false, false, false, false, false, false, false, false] (by kernel_rfl) rfl rfl ⟨((HB.out.cell (World.block_lt_of_cell? w _ hw461_0)).trans hw461_0), ((HB.out.cell (World.block_lt_of_cell? w _ hw461_1)).trans hw461_1), ((HB.out.cell (World.block_lt_of_cell? w _ hw461_2)).trans hw461_2), ((HB.out.cell (World.block_lt_of_cell? w _ hw462_0)).trans hw462_0), ((HB.out.cell (World.block_lt_of_cell? w _ hw462_1)).trans hw462_1), ((HB.out.cell (World.block_lt_of_cell? w _ hw462_2)).trans hw462_2)⟩ (fun hHeld => ?_); refine xbn r1_Arith.tab4 r1_Arith.bits4 (fun HT_ HW_ => ?_)
         generalize wc.drew = w20 at BK457 HB hx461_0 hx461_1 hx461_2 hx462_0 hx462_1 hx462_2 hHeld ⊢
         refine pure_ (i := 0) (N := some 31) (v := ?_) (a' := ?_) #[true, false, false, false, false, false, false, false, false, false, false, false, false, false] rfl rfl (any_of HT_.out (by kernel_rfl)) (fun _ _ _ h => h) (Or.inl ⟨by rfl, ?_⟩) ?_ ?_
         rotate_left
         ·intro w'
          go_simp
          with_reducible rfl
         rotate_left
         ·simp only [Act.put, sI, sZ, sS, i64_w, i32_w]
          rfl
         refine pure_ (i := 1) (N := some 32) (v := ?_) (a' := ?_) #[true, true, false, false, false, false, false, false, false, false, false, false, false, false] rfl rfl (any_of HT_.out (by kernel_rfl)) (fun _ _ _ h => h) (Or.inl ⟨by rfl, ?_⟩) ?_ ?_
         rotate_left
         ·intro w'
          go_simp
          with_reducible rfl
         rotate_left
         ·simp only [Act.put, sI, sZ, sS, i64_w, i32_w]
          rfl
         refine pure_ (i := 2) (N := some 33) (v := ?_) (a' := ?_) #[true, true, true, false, false, false, false, false, false, false, false, false, false, false] rfl rfl (any_of HT_.out (by kernel_rfl)) (fun _ _ _ h => h) (Or.inl ⟨by rfl, ?_⟩) ?_ ?_
         rotate_left
         ·intro w'
          go_simp
          with_reducible rfl
         rotate_left
         ·simp only [Act.put, sI, sZ, sS, i64_w, i32_w]
          rfl
         refine pure_ (i := 3) (N := some 34) (v := ?_) (a' := ?_) #[true, true, true, true, false, false, false, false, false, false, false, false, false, false] rfl rfl (any_of HT_.out (by kernel_rfl)) (fun _ _ _ h => h) (Or.inl ⟨by rfl, ?_⟩) ?_ ?_
         rotate_left
         ·intro w'
          go_simp
          with_reducible rfl
         rotate_left
         ·simp only [Act.put, sI, sZ, sS, i64_w, i32_w]
          rfl
         refine pure_ (i := 5) (N := some 36) (v := ?_) (a' := ?_) #[true, true, true, true, false, true, false, false, false, false, false, false, false, false] rfl rfl (any_of HT_.out (by kernel_rfl)) (fun _ _ _ h => h) (Or.inl ⟨by rfl, ?_⟩) ?_ ?_
         rotate_left
         ·intro w'
          go_simp
          with_reducible rfl
         rotate_left
         ·simp only [Act.put, sI, sZ, sS, i64_w, i32_w]
          rfl
         refine pure_ (i := 6) (N := some 37) (v := ?_) (a' := ?_) #[true, true, true, true, false, true, true, false, false, false, false, false, false, false] rfl rfl (any_of HT_.out (by kernel_rfl)) (fun _ _ _ h => h) (Or.inl ⟨by rfl, ?_⟩) ?_ ?_
         rotate_left
         ·intro w'
          go_simp
          with_reducible rfl
         rotate_left
         ·simp only [Act.put, sI, sZ, sS, i64_w, i32_w]
          rfl
         refine pure_ (i := 7) (N := some 38) (v := ?_) (a' := ?_) #[true, true, true, true, false, true, true, true, false, false, false, false, false, false] rfl rfl (any_of HT_.out (by kernel_rfl)) (fun _ _ _ h => h) (Or.inl ⟨by rfl, ?_⟩) ?_ ?_
         rotate_left
         ·intro w'
          go_simp
          with_reducible rfl
         rotate_left
         ·simp only [Act.put, sI, sZ, sS, i64_w, i32_w]
          rfl
         refine take_ (i := 4) (N := some 35) (v := ?_) (a' := ?_) #[true, true, true, true, true, true, true, true, false, false, false, false, false, false] rfl rfl (xbb HT_.out HW_.out (by kernel_rfl)) (fun _ _ _ h => h) (Or.inl ⟨by rfl, ?_⟩) hHeld ?_ ?_
         rotate_left
         ·rintro w' ⟨s0, s1, s2, s3, s4, s5⟩
          go_simp
          with_reducible rfl
         rotate_left
         ·simp only [Act.put, sI, sZ, sS, i64_w, i32_w]
          rfl
         refine take_ (i := 8) (N := some 39) (v := ?_) (a' := ?_) #[true, true, true, true, true, true, true, true, true, false, false, false, false, false] rfl rfl (xbb HT_.out HW_.out (by kernel_rfl)) (fun _ _ _ h => h) (Or.inl ⟨by rfl, ?_⟩) hHeld ?_ ?_
         rotate_left
         ·rintro w' ⟨s0, s1, s2, s3, s4, s5⟩
          go_simp
          with_reducible rfl
         rotate_left
         ·simp only [Act.put, sI, sZ, sS, i64_w, i32_w]
          rfl
         refine one_ (i := 9) (N := some 40) #[true, true, true, true, true, true, true, true, true, true, false, false, false, false] rfl rfl (one_of HT_.out (by kernel_rfl)) (by decide) (fun K hK => ?_)
         refine goes_ Tryd.func140 (by kernel_rfl) rfl #[.int .i8 a0, .int .i64 ((rd_T26 l1 0).f1), .int .i64 ((rd_T26 l1 1).f1)] (by rfl) rfl rfl (by (try simp only [List.map_toArray, List.map_cons, List.map_nil]); first | done | rfl | (simp only [List.length_drop, List.length_take]; rfl)) ?_
         with_reducible refine (r1_numbers.calls a0 ((rd_T26 l1 0).f1) ((rd_T26 l1 1).f1) t463 t464 t465 t466 _ A19.out).mono ?_
         rintro e w21 ⟨rfl, hb⟩
         refine ⟨_, rfl, ?_⟩
         have n0_ := Aside0.mk (xan (g := gb457) (o := .cells #[.int .i8 0, .int .i64 0, .string (⟨#[]⟩ : ByteArray)] 26 (0, 0)) (by (with_reducible repeat (first | refine xae ?_ _ | refine xaf ?_ | refine xad ?_ _)); exact BK457.out) hb)
         have n1_ := Aside0.mk (xai (by repeat (first | (with_reducible first | exact HB.out | apply xab | apply xaa | apply xac | refine xag ?_ GE457.out) | exact HB.out)) hb)
         clear BK457
         clear HB
         have BK457 := n0_
         have HB := n1_
         clear n0_ n1_
         (try clear hb)
         (try clear hb2)
         (try clear hk)
         (try clear hi)
         refine hK.out _ _ ⟨((HB.out.cell (World.block_lt_of_cell? w _ hw461_0)).trans hw461_0), ((HB.out.cell (World.block_lt_of_cell? w _ hw461_1)).trans hw461_1), ((HB.out.cell (World.block_lt_of_cell? w _ hw461_2)).trans hw461_2), ((HB.out.cell (World.block_lt_of_cell? w _ hw462_0)).trans hw462_0), ((HB.out.cell (World.block_lt_of_cell? w _ hw462_1)).trans hw462_1), ((HB.out.cell (World.block_lt_of_cell? w _ hw462_2)).trans hw462_2)⟩ (fun hHeld => ?_)
         clear hK K
         refine norm_ (a' := ?_) ?_ ?_
         rotate_left
         ·show Act.put _ (some 40) _ = _
          simp only [Act.put, sI, sZ, sS, i64_w, i32_w]
          rfl
         refine pure_ (i := 10) (N := some 41) (v := ?_) (a' := ?_) #[true, true, true, true, true, true, true, true, true, true, true, false, false, false] rfl rfl (any_of HT_.out (by kernel_rfl)) (fun _ _ _ h => h) (Or.inl ⟨by rfl, ?_⟩) ?_ ?_
         rotate_left
         ·intro w'
          go_simp
          with_reducible rfl
         rotate_left
         ·simp only [Act.put, sI, sZ, sS, i64_w, i32_w]
          rfl
         refine pure_ (i := 11) (N := some 42) (v := ?_) (a' := ?_) #[true, true, true, true, true, true, true, true, true, true, true, true, false, false] rfl rfl (any_of HT_.out (by kernel_rfl)) (fun _ _ _ h => h) (Or.inl ⟨by rfl, ?_⟩) ?_ ?_
         rotate_left
         ·intro w'
          go_simp
          with_reducible rfl
         rotate_left
         ·simp only [Act.put, sI, sZ, sS, i64_w, i32_w]
          rfl
         refine one_ (i := 12) (N := none) #[true, true, true, true, true, true, true, true, true, true, true, true, true, false] rfl rfl (one_of HT_.out (by kernel_rfl)) (by decide) (fun K hK => ?_)
         have hs22 : w21.cell? ⟨gb457, 0, none⟩ = some (.int .i8 0) := (xaj BK457.out 0).trans rfl
         have hfs22 := xam BK457.out 0
         have hs23 : w21.cell? ⟨gb457, 1, none⟩ = some (.int .i64 0) := (xaj BK457.out 1).trans rfl
         have hfs23 := xam BK457.out 1
         have hs24 : w21.cell? ⟨gb457, 2, none⟩ = some (.string (⟨#[]⟩ : ByteArray)) := (xaj BK457.out 2).trans rfl
         have hfs24 := xam BK457.out 2
         refine skip_ (w1 := ?_) (by rfl) rfl ?_ ?_
         rotate_left
         ·go_simp
          rfl
         refine hK.out _ _ ⟨((xaw (p := ⟨gb457, _, none⟩) (by first | exact Nat.ne_of_lt (Nat.lt_of_lt_of_le (by have := World.block_lt_of_cell? _ _ hw461_0; first | rwa [xah] at this | exact this) GW457.out) | (rw [xah]; exact Nat.ne_of_lt (Nat.lt_of_lt_of_le (by have := World.block_lt_of_cell? _ _ hw461_0; first | rwa [xah] at this | exact this) GW457.out)) | (show (Addr.add _ _).block ≠ _; rw [xah]; exact Nat.ne_of_lt (Nat.lt_of_lt_of_le (by have := World.block_lt_of_cell? _ _ hw461_0; first | rwa [xah] at this | exact this) GW457.out)) | (dsimp only; exact Nat.ne_of_lt (Nat.lt_of_lt_of_le (by have := World.block_lt_of_cell? _ _ hw461_0; first | rwa [xah] at this | exact this) GW457.out))) _).trans (((xaw (p := ⟨gb457, _, none⟩) (by first | exact Nat.ne_of_lt (Nat.lt_of_lt_of_le (by have := World.block_lt_of_cell? _ _ hw461_0; first | rwa [xah] at this | exact this) GW457.out) | (rw [xah]; exact Nat.ne_of_lt (Nat.lt_of_lt_of_le (by have := World.block_lt_of_cell? _ _ hw461_0; first | rwa [xah] at this | exact this) GW457.out)) | (show (Addr.add _ _).block ≠ _; rw [xah]; exact Nat.ne_of_lt (Nat.lt_of_lt_of_le (by have := World.block_lt_of_cell? _ _ hw461_0; first | rwa [xah] at this | exact this) GW457.out)) | (dsimp only; exact Nat.ne_of_lt (Nat.lt_of_lt_of_le (by have := World.block_lt_of_cell? _ _ hw461_0; first | rwa [xah] at this | exact this) GW457.out))) _).trans (((xaw (p := ⟨gb457, _, none⟩) (by first | exact Nat.ne_of_lt (Nat.lt_of_lt_of_le (by have := World.block_lt_of_cell? _ _ hw461_0; first | rwa [xah] at this | exact this) GW457.out) | (rw [xah]; exact Nat.ne_of_lt (Nat.lt_of_lt_of_le (by have := World.block_lt_of_cell? _ _ hw461_0; first | rwa [xah] at this | exact this) GW457.out)) | (show (Addr.add _ _).block ≠ _; rw [xah]; exact Nat.ne_of_lt (Nat.lt_of_lt_of_le (by have := World.block_lt_of_cell? _ _ hw461_0; first | rwa [xah] at this | exact this) GW457.out)) | (dsimp only; exact Nat.ne_of_lt (Nat.lt_of_lt_of_le (by have := World.block_lt_of_cell? _ _ hw461_0; first | rwa [xah] at this | exact this) GW457.out))) _).trans (hHeld.1)))))), ((xaw (p := ⟨gb457, _, none⟩) (by first | exact Nat.ne_of_lt (Nat.lt_of_lt_of_le (by have := World.block_lt_of_cell? _ _ hw461_1; first | rwa [xah] at this | exact this) GW457.out) | (rw [xah]; exact Nat.ne_of_lt (Nat.lt_of_lt_of_le (by have := World.block_lt_of_cell? _ _ hw461_1; first | rwa [xah] at this | exact this) GW457.out)) | (show (Addr.add _ _).block ≠ _; rw [xah]; exact Nat.ne_of_lt (Nat.lt_of_lt_of_le (by have := World.block_lt_of_cell? _ _ hw461_1; first | rwa [xah] at this | exact this) GW457.out)) | (dsimp only; exact Nat.ne_of_lt (Nat.lt_of_lt_of_le (by have := World.block_lt_of_cell? _ _ hw461_1; first | rwa [xah] at this | exact this) GW457.out))) _).trans (((xaw (p := ⟨gb457, _, none⟩) (by first | exact Nat.ne_of_lt (Nat.lt_of_lt_of_le (by have := World.block_lt_of_cell? _ _ hw461_1; first | rwa [xah] at this | exact this) GW457.out) | (rw [xah]; exact Nat.ne_of_lt (Nat.lt_of_lt_of_le (by have := World.block_lt_of_cell? _ _ hw461_1; first | rwa [xah] at this | exact this) GW457.out)) | (show (Addr.add _ _).block ≠ _; rw [xah]; exact Nat.ne_of_lt (Nat.lt_of_lt_of_le (by have := World.block_lt_of_cell? _ _ hw461_1; first | rwa [xah] at this | exact this) GW457.out)) | (dsimp only; exact Nat.ne_of_lt (Nat.lt_of_lt_of_le (by have := World.block_lt_of_cell? _ _ hw461_1; first | rwa [xah] at this | exact this) GW457.out))) _).trans (((xaw (p := ⟨gb457, _, none⟩) (by first | exact Nat.ne_of_lt (Nat.lt_of_lt_of_le (by have := World.block_lt_of_cell? _ _ hw461_1; first | rwa [xah] at this | exact this) GW457.out) | (rw [xah]; exact Nat.ne_of_lt (Nat.lt_of_lt_of_le (by have := World.block_lt_of_cell? _ _ hw461_1; first | rwa [xah] at this | exact this) GW457.out)) | (show (Addr.add _ _).block ≠ _; rw [xah]; exact Nat.ne_of_lt (Nat.lt_of_lt_of_le (by have := World.block_lt_of_cell? _ _ hw461_1; first | rwa [xah] at this | exact this) GW457.out)) | (dsimp only; exact Nat.ne_of_lt (Nat.lt_of_lt_of_le (by have := World.block_lt_of_cell? _ _ hw461_1; first | rwa [xah] at this | exact this) GW457.out))) _).trans (hHeld.2.1)))))), ((xaw (p := ⟨gb457, _, none⟩) (by first | exact Nat.ne_of_lt (Nat.lt_of_lt_of_le (by have := World.block_lt_of_cell? _ _ hw461_2; first | rwa [xah] at this | exact this) GW457.out) | (rw [xah]; exact Nat.ne_of_lt (Nat.lt_of_lt_of_le (by have := World.block_lt_of_cell? _ _ hw461_2; first | rwa [xah] at this | exact this) GW457.out)) | (show (Addr.add _ _).block ≠ _; rw [xah]; exact Nat.ne_of_lt (Nat.lt_of_lt_of_le (by have := World.block_lt_of_cell? _ _ hw461_2; first | rwa [xah] at this | exact this) GW457.out)) | (dsimp only; exact Nat.ne_of_lt (Nat.lt_of_lt_of_le (by have := World.block_lt_of_cell? _ _ hw461_2; first | rwa [xah] at this | exact this) GW457.out))) _).trans (((xaw (p := ⟨gb457, _, none⟩) (by first | exact Nat.ne_of_lt (Nat.lt_of_lt_of_le (by have := World.block_lt_of_cell? _ _ hw461_2; first | rwa [xah] at this | exact this) GW457.out) | (rw [xah]; exact Nat.ne_of_lt (Nat.lt_of_lt_of_le (by have := World.block_lt_of_cell? _ _ hw461_2; first | rwa [xah] at this | exact this) GW457.out)) | (show (Addr.add _ _).block ≠ _; rw [xah]; exact Nat.ne_of_lt (Nat.lt_of_lt_of_le (by have := World.block_lt_of_cell? _ _ hw461_2; first | rwa [xah] at this | exact this) GW457.out)) | (dsimp only; exact Nat.ne_of_lt (Nat.lt_of_lt_of_le (by have := World.block_lt_of_cell? _ _ hw461_2; first | rwa [xah] at this | exact this) GW457.out))) _).trans (((xaw (p := ⟨gb457, _, none⟩) (by first | exact Nat.ne_of_lt (Nat.lt_of_lt_of_le (by have := World.block_lt_of_cell? _ _ hw461_2; first | rwa [xah] at this | exact this) GW457.out) | (rw [xah]; exact Nat.ne_of_lt (Nat.lt_of_lt_of_le (by have := World.block_lt_of_cell? _ _ hw461_2; first | rwa [xah] at this | exact this) GW457.out)) | (show (Addr.add _ _).block ≠ _; rw [xah]; exact Nat.ne_of_lt (Nat.lt_of_lt_of_le (by have := World.block_lt_of_cell? _ _ hw461_2; first | rwa [xah] at this | exact this) GW457.out)) | (dsimp only; exact Nat.ne_of_lt (Nat.lt_of_lt_of_le (by have := World.block_lt_of_cell? _ _ hw461_2; first | rwa [xah] at this | exact this) GW457.out))) _).trans (hHeld.2.2.1)))))), ((xaw (p := ⟨gb457, _, none⟩) (by first | exact Nat.ne_of_lt (Nat.lt_of_lt_of_le (by have := World.block_lt_of_cell? _ _ hw462_0; first | rwa [xah] at this | exact this) GW457.out) | (rw [xah]; exact Nat.ne_of_lt (Nat.lt_of_lt_of_le (by have := World.block_lt_of_cell? _ _ hw462_0; first | rwa [xah] at this | exact this) GW457.out)) | (show (Addr.add _ _).block ≠ _; rw [xah]; exact Nat.ne_of_lt (Nat.lt_of_lt_of_le (by have := World.block_lt_of_cell? _ _ hw462_0; first | rwa [xah] at this | exact this) GW457.out)) | (dsimp only; exact Nat.ne_of_lt (Nat.lt_of_lt_of_le (by have := World.block_lt_of_cell? _ _ hw462_0; first | rwa [xah] at this | exact this) GW457.out))) _).trans (((xaw (p := ⟨gb457, _, none⟩) (by first | exact Nat.ne_of_lt (Nat.lt_of_lt_of_le (by have := World.block_lt_of_cell? _ _ hw462_0; first | rwa [xah] at this | exact this) GW457.out) | (rw [xah]; exact Nat.ne_of_lt (Nat.lt_of_lt_of_le (by have := World.block_lt_of_cell? _ _ hw462_0; first | rwa [xah] at this | exact this) GW457.out)) | (show (Addr.add _ _).block ≠ _; rw [xah]; exact Nat.ne_of_lt (Nat.lt_of_lt_of_le (by have := World.block_lt_of_cell? _ _ hw462_0; first | rwa [xah] at this | exact this) GW457.out)) | (dsimp only; exact Nat.ne_of_lt (Nat.lt_of_lt_of_le (by have := World.block_lt_of_cell? _ _ hw462_0; first | rwa [xah] at this | exact this) GW457.out))) _).trans (((xaw (p := ⟨gb457, _, none⟩) (by first | exact Nat.ne_of_lt (Nat.lt_of_lt_of_le (by have := World.block_lt_of_cell? _ _ hw462_0; first | rwa [xah] at this | exact this) GW457.out) | (rw [xah]; exact Nat.ne_of_lt (Nat.lt_of_lt_of_le (by have := World.block_lt_of_cell? _ _ hw462_0; first | rwa [xah] at this | exact this) GW457.out)) | (show (Addr.add _ _).block ≠ _; rw [xah]; exact Nat.ne_of_lt (Nat.lt_of_lt_of_le (by have := World.block_lt_of_cell? _ _ hw462_0; first | rwa [xah] at this | exact this) GW457.out)) | (dsimp only; exact Nat.ne_of_lt (Nat.lt_of_lt_of_le (by have := World.block_lt_of_cell? _ _ hw462_0; first | rwa [xah] at this | exact this) GW457.out))) _).trans (hHeld.2.2.2.1)))))), ((xaw (p := ⟨gb457, _, none⟩) (by first | exact Nat.ne_of_lt (Nat.lt_of_lt_of_le (by have := World.block_lt_of_cell? _ _ hw462_1; first | rwa [xah] at this | exact this) GW457.out) | (rw [xah]; exact Nat.ne_of_lt (Nat.lt_of_lt_of_le (by have := World.block_lt_of_cell? _ _ hw462_1; first | rwa [xah] at this | exact this) GW457.out)) | (show (Addr.add _ _).block ≠ _; rw [xah]; exact Nat.ne_of_lt (Nat.lt_of_lt_of_le (by have := World.block_lt_of_cell? _ _ hw462_1; first | rwa [xah] at this | exact this) GW457.out)) | (dsimp only; exact Nat.ne_of_lt (Nat.lt_of_lt_of_le (by have := World.block_lt_of_cell? _ _ hw462_1; first | rwa [xah] at this | exact this) GW457.out))) _).trans (((xaw (p := ⟨gb457, _, none⟩) (by first | exact Nat.ne_of_lt (Nat.lt_of_lt_of_le (by have := World.block_lt_of_cell? _ _ hw462_1; first | rwa [xah] at this | exact this) GW457.out) | (rw [xah]; exact Nat.ne_of_lt (Nat.lt_of_lt_of_le (by have := World.block_lt_of_cell? _ _ hw462_1; first | rwa [xah] at this | exact this) GW457.out)) | (show (Addr.add _ _).block ≠ _; rw [xah]; exact Nat.ne_of_lt (Nat.lt_of_lt_of_le (by have := World.block_lt_of_cell? _ _ hw462_1; first | rwa [xah] at this | exact this) GW457.out)) | (dsimp only; exact Nat.ne_of_lt (Nat.lt_of_lt_of_le (by have := World.block_lt_of_cell? _ _ hw462_1; first | rwa [xah] at this | exact this) GW457.out))) _).trans (((xaw (p := ⟨gb457, _, none⟩) (by first | exact Nat.ne_of_lt (Nat.lt_of_lt_of_le (by have := World.block_lt_of_cell? _ _ hw462_1; first | rwa [xah] at this | exact this) GW457.out) | (rw [xah]; exact Nat.ne_of_lt (Nat.lt_of_lt_of_le (by have := World.block_lt_of_cell? _ _ hw462_1; first | rwa [xah] at this | exact this) GW457.out)) | (show (Addr.add _ _).block ≠ _; rw [xah]; exact Nat.ne_of_lt (Nat.lt_of_lt_of_le (by have := World.block_lt_of_cell? _ _ hw462_1; first | rwa [xah] at this | exact this) GW457.out)) | (dsimp only; exact Nat.ne_of_lt (Nat.lt_of_lt_of_le (by have := World.block_lt_of_cell? _ _ hw462_1; first | rwa [xah] at this | exact this) GW457.out))) _).trans (hHeld.2.2.2.2.1)))))), ((xaw (p := ⟨gb457, _, none⟩) (by first | exact Nat.ne_of_lt (Nat.lt_of_lt_of_le (by have := World.block_lt_of_cell? _ _ hw462_2; first | rwa [xah] at this | exact this) GW457.out) | (rw [xah]; exact Nat.ne_of_lt (Nat.lt_of_lt_of_le (by have := World.block_lt_of_cell? _ _ hw462_2; first | rwa [xah] at this | exact this) GW457.out)) | (show (Addr.add _ _).block ≠ _; rw [xah]; exact Nat.ne_of_lt (Nat.lt_of_lt_of_le (by have := World.block_lt_of_cell? _ _ hw462_2; first | rwa [xah] at this | exact this) GW457.out)) | (dsimp only; exact Nat.ne_of_lt (Nat.lt_of_lt_of_le (by have := World.block_lt_of_cell? _ _ hw462_2; first | rwa [xah] at this | exact this) GW457.out))) _).trans (((xaw (p := ⟨gb457, _, none⟩) (by first | exact Nat.ne_of_lt (Nat.lt_of_lt_of_le (by have := World.block_lt_of_cell? _ _ hw462_2; first | rwa [xah] at this | exact this) GW457.out) | (rw [xah]; exact Nat.ne_of_lt (Nat.lt_of_lt_of_le (by have := World.block_lt_of_cell? _ _ hw462_2; first | rwa [xah] at this | exact this) GW457.out)) | (show (Addr.add _ _).block ≠ _; rw [xah]; exact Nat.ne_of_lt (Nat.lt_of_lt_of_le (by have := World.block_lt_of_cell? _ _ hw462_2; first | rwa [xah] at this | exact this) GW457.out)) | (dsimp only; exact Nat.ne_of_lt (Nat.lt_of_lt_of_le (by have := World.block_lt_of_cell? _ _ hw462_2; first | rwa [xah] at this | exact this) GW457.out))) _).trans (((xaw (p := ⟨gb457, _, none⟩) (by first | exact Nat.ne_of_lt (Nat.lt_of_lt_of_le (by have := World.block_lt_of_cell? _ _ hw462_2; first | rwa [xah] at this | exact this) GW457.out) | (rw [xah]; exact Nat.ne_of_lt (Nat.lt_of_lt_of_le (by have := World.block_lt_of_cell? _ _ hw462_2; first | rwa [xah] at this | exact this) GW457.out)) | (show (Addr.add _ _).block ≠ _; rw [xah]; exact Nat.ne_of_lt (Nat.lt_of_lt_of_le (by have := World.block_lt_of_cell? _ _ hw462_2; first | rwa [xah] at this | exact this) GW457.out)) | (dsimp only; exact Nat.ne_of_lt (Nat.lt_of_lt_of_le (by have := World.block_lt_of_cell? _ _ hw462_2; first | rwa [xah] at this | exact this) GW457.out))) _).trans (hHeld.2.2.2.2.2))))))⟩ (fun hHeld => ?_)
         clear hK K
         refine pure_ (i := 13) (N := some 5) (v := ?_) (a' := ?_) #[true, true, true, true, true, true, true, true, true, true, true, true, true, true] rfl rfl (any_of HT_.out (by kernel_rfl)) (fun _ _ _ h => h) (Or.inl ⟨by rfl, ?_⟩) ?_ ?_
         rotate_left
         ·intro w'
          go_simp
          with_reducible rfl
         rotate_left
         ·simp only [Act.put, sI, sZ, sS, i64_w, i32_w]
          rfl
         refine done_ (done_of HT_.out (by kernel_rfl)) ?_
         try go_wp2
         refine bodyPost_ret (xat rfl _ _ gb457 26 #[.int .i8 t463, .int .i64 t464, .string t465] (0, 0) _ rfl (by (with_reducible repeat (first | refine xae ?_ _ | refine xaf ?_ | refine xad ?_ _)); refine xas (cs := #[.int .i8 t463, .int .i64 t464, .string (⟨#[]⟩ : ByteArray)]) ?_ 2 _ rfl; (with_reducible repeat (first | refine xae ?_ _ | refine xaf ?_ | refine xad ?_ _)); refine xas (cs := #[.int .i8 t463, .int .i64 0, .string (⟨#[]⟩ : ByteArray)]) ?_ 1 _ rfl; (with_reducible repeat (first | refine xae ?_ _ | refine xaf ?_ | refine xad ?_ _)); refine xas (cs := #[.int .i8 0, .int .i64 0, .string (⟨#[]⟩ : ByteArray)]) ?_ 0 _ rfl; (with_reducible repeat (first | refine xae ?_ _ | refine xaf ?_ | refine xad ?_ _)); exact BK457.out) Tryd.underlying26 rfl (by kernel_rfl)) rfl ?_
         exact ⟨by first | rfl | (simp [xak, xal] <;> rfl) | (simp [*, xak, xal] <;> rfl), by repeat (first | (with_reducible first | exact HB.out | apply xab | apply xaa | apply xac | refine xag ?_ GE457.out) | exact HB.out)⟩
        ·rw [if_neg c18] at H
         exact absurd H (by simp)
       ·rw [if_neg c17] at H
        exact absurd H (by simp)
      ·replace c16 := Bool.eq_false_iff.mpr c16
       subst c16
       have H1 : (if a0 = 7 then ((r1_kinds.f kj10 l1 2 2).bind fun t467 => (r1_Arith.j2 kj10 a0 l1 t467)) else (r1_Arith.j2 kj10 a0 l1 false)) = some (r1, r2, r3, r4) := by rw [if_neg (show ¬ (false = true) by decide)] at H; exact H
       clear H
       have H := H1
       clear H1
       have HC25 := Aside0.mk H
       clear H
       go_upto_region 5 with (fail)
       go_cut [43] (fun v43 wc => ∃ (kq : Nat) (x43_24 : Bool), v43 = .bool x43_24 ∧ Aside0 (r1_Arith.j2 kq a0 l1 x43_24 = some (r1, r2, r3, r4)) ∧ Aside0 (kq ≤ kj10) ∧ Aside0 (wc.heap[gb457]? = some (.cells #[.int .i8 0, .int .i64 0, .string (⟨#[]⟩ : ByteArray)] 26 (0, 0))) ∧ Aside0 (Below w.heap.size w wc))
       case first =>
        have H := HC25.out
        clear HC25
        by_cases c26 : a0 = 7
        ·rw [if_pos c26] at H
         have c26b0 : (a0 == 7) = true := beq_iff_eq.mpr c26
         have c26b1 : (a0 != 7) = false := bne_eq_false_iff_eq.mpr c26
         clear c26
         (first | rw [c26b0] | (simp only [i64_w, i32_w]; rw [c26b0]) | skip)
         replace H := Option.bind_eq_some_iff.mp H
         obtain ⟨t467, A270, H⟩ := H
         replace H : (r1_Arith.j2 kj10 a0 l1 t467) = some (r1, r2, r3, r4) := H
         have A27 := Aside0.mk A270
         clear A270
         have H' := Aside0.mk H
         clear H
         go_wp2_with (first | (go_at_call 139; (with_reducible refine (r1_kinds.calls kj10 _ _ l1 2 2 t467 _ ?side1 ?side2 A27.out).mono ?_); (case side1 => repeat (first | exact (Kd.C_below HR1.out HB.out) | (with_reducible refine Kd.C_alloc ?_ _) | (with_reducible refine Kd.C_drewN ?_ _) | (with_reducible refine Kd.C_drew ?_))); (case side2 => exact HC1.out); rintro e w28 ⟨rfl, hb⟩; have n0_ := Aside0.mk (xan (g := gb457) (o := .cells #[.int .i8 0, .int .i64 0, .string (⟨#[]⟩ : ByteArray)] 26 (0, 0)) (by (with_reducible repeat (first | refine xae ?_ _ | refine xaf ?_ | refine xad ?_ _)); exact BK457.out) hb); have n1_ := Aside0.mk (xai (by repeat (first | (with_reducible first | exact HB.out | apply xab | apply xaa | apply xac | refine xag ?_ GE457.out) | exact HB.out)) hb); clear BK457; clear HB; have BK457 := n0_; have HB := n1_; clear n0_ n1_; (try clear hb); (try clear hb2); (try clear hk); (try clear hi)))
         go_meet
         case rel => exact ⟨_, (t467), (by first | rfl | (simp; done) | (simp [*]; done)), H', ⟨by have := HJ2.out; have := HJ10.out; first | omega | exact Nat.le_refl _⟩, ⟨by (with_reducible repeat (first | refine xae ?_ _ | refine xaf ?_ | refine xad ?_ _)); exact BK457.out⟩, ⟨by repeat (first | (with_reducible first | exact HB.out | apply xab | apply xaa | apply xac | refine xag ?_ GE457.out) | exact HB.out)⟩⟩
        ·rw [if_neg c26] at H
         have c26b0 : (a0 == 7) = false := beq_eq_false_iff_ne.mpr c26
         have c26b1 : (a0 != 7) = true := bne_iff_ne.mpr c26
         (first | rw [c26b0] | (simp only [i64_w, i32_w]; rw [c26b0]) | skip)
         have H' := Aside0.mk H
         clear H
         go_wp2
         go_meet
         case rel => exact ⟨_, (false), (by first | rfl | (simp; done) | (simp [*]; done)), H', ⟨by have := HJ2.out; have := HJ10.out; first | omega | exact Nat.le_refl _⟩, ⟨by (with_reducible repeat (first | refine xae ?_ _ | refine xaf ?_ | refine xad ?_ _)); exact BK457.out⟩, ⟨by repeat (first | (with_reducible first | exact HB.out | apply xab | apply xaa | apply xac | refine xag ?_ GE457.out) | exact HB.out)⟩⟩
       case rest =>
        clear HC25
        try clear c1
        try clear c2
        try clear p2
        try clear p4
        try clear q4
        try clear hx4
        try clear qi4
        try clear c5
        try clear c5b0
        try clear c5b1
        try clear p6
        try clear c8
        try clear c9
        try clear c9b0
        try clear c9b1
        try clear c12
        try clear c12b0
        try clear c13
        try clear c13b0
        try clear c14
        try clear c16
        try clear c17
        try clear c17b0
        try clear c17b1
        try clear c18
        try clear c18b0
        try clear c18b1
        try clear c26
        try clear c26b0
        try clear c26b1
        try clear hcz10_0
        try clear hcz10_1
        try clear hcz10_2
        try clear hfz10_0
        try clear hfz10_1
        try clear hfz10_2
        try clear hx459_0
        try clear hx459_1
        try clear hx459_2
        try clear hx461_0
        try clear hx461_1
        try clear hx461_2
        try clear hx462_0
        try clear hx462_1
        try clear hx462_2
        try clear p2
        try clear p4
        try clear p459
        try clear p461
        try clear p462
        try clear p6
        try clear q4
        try clear q459
        try clear q461
        try clear q462
        obtain ⟨kq, x43_24, rfl, HA, HJ24, BK457, HB⟩ := hcut
        cases kq with
        | zero => exact absurd HA.out (by simp [r1_Arith.j2])
        | succ kj24 =>
         have H := HA.out
         clear HA
         simp only [r1_Arith.j2] at H
         by_cases c29 : x43_24 = true
         ·subst c29
          have H1 : (if 0 < (l1.length : Int) then (if 1 < (l1.length : Int) then (if ((rd_T26 l1 0).f2).size + ((rd_T26 l1 1).f2).size ≤ 9223372036854775807 then (if ((((rd_T26 l1 0).f2) ++ ((rd_T26 l1 1).f2)).size : Int) > 200 then (some (0, 0, (⟨#[]⟩ : ByteArray), false)) else (some (2, 0, ((rd_T26 l1 0).f2) ++ ((rd_T26 l1 1).f2), true))) else (none)) else (none)) else (none)) = some (r1, r2, r3, r4) := by rw [if_pos rfl] at H; exact H
          clear H
          have H := H1
          clear H1
          by_cases c30 : 0 < (l1.length : Int)
          ·rw [if_pos c30] at H
           have c30b0 : decide (0 < (l1.length : Int)) = true := decide_eq_true c30
           have c30b1 : decide (0 < l1.length) = true := decide_eq_true (by omega)
           clear c30
           by_cases c31 : 1 < (l1.length : Int)
           ·rw [if_pos c31] at H
            have c31b0 : decide (1 < (l1.length : Int)) = true := decide_eq_true c31
            have c31b1 : decide (1 < l1.length) = true := decide_eq_true (by omega)
            clear c31
            by_cases c32 : ((rd_T26 l1 0).f2).size + ((rd_T26 l1 1).f2).size ≤ 9223372036854775807
            ·rw [if_pos c32] at H
             have c32b0 := eq_true c32
             have c32b1 : decide (((rd_T26 l1 0).f2).size + ((rd_T26 l1 1).f2).size ≤ 9223372036854775807) = true := decide_eq_true c32
             try have c32b2 : (9223372036854775807 < ((rd_T26 l1 0).f2).size + ((rd_T26 l1 1).f2).size) = False := eq_false (Nat.not_lt.2 c32)
             by_cases c33 : ((((rd_T26 l1 0).f2) ++ ((rd_T26 l1 1).f2)).size : Int) > 200
             ·rw [if_pos c33] at H
              have c33b0 : decide (200 < ((((rd_T26 l1 0).f2) ++ ((rd_T26 l1 1).f2)).size : Int)) = true := decide_eq_true c33
              have c33b1 : decide (200 < (((rd_T26 l1 0).f2) ++ ((rd_T26 l1 1).f2)).size) = true := decide_eq_true (by omega)
              have c33b7 : decide (200 < ((rd_T26 l1 0).f2).size + ((rd_T26 l1 1).f2).size) = true := by rw [← ByteArray.size_append]; exact c33b1
              have c33b8 : decide ((200 : Int) < (((rd_T26 l1 0).f2).size : Int) + (((rd_T26 l1 1).f2).size : Int)) = true := by rw [← Int.natCast_add, ← ByteArray.size_append]; exact c33b0
              clear c33
              simp only [Option.some.injEq, Prod.mk.injEq] at H
              obtain ⟨rfl, rfl, rfl, rfl⟩ := H
              try go_wp2
              have n0_ := Aside0.mk (xaf BK457.out)
              have n1_ := Aside0.mk (xac HB.out)
              clear BK457
              clear HB
              have BK457 := n0_
              have HB := n1_
              clear n0_ n1_
              have p468 : 0 ≤ (0 : Int) := (by omega)
              have q468 : 0 < (l1.length : Int) := of_decide_eq_true (by first | (with_reducible assumption) | assumption)
              obtain ⟨ad468, e468, hx468_0, hx468_1, hx468_2⟩ := at_T26 HR1.out 0 p468 q468
              have hw468_2 := hx468_2
              (try rw [show ((0 : Int)).toNat = 0 from rfl] at hw468_2)
              (try rw [show 0 * 3 = 0 from rfl] at hw468_2)
              (try rw [Addr.add_zero'] at hw468_2)
              have hw468_1 := hx468_1
              (try rw [show ((0 : Int)).toNat = 0 from rfl] at hw468_1)
              (try rw [show 0 * 3 = 0 from rfl] at hw468_1)
              (try rw [Addr.add_zero'] at hw468_1)
              have hw468_0 := hx468_0
              (try rw [show ((0 : Int)).toNat = 0 from rfl] at hw468_0)
              (try rw [show 0 * 3 = 0 from rfl] at hw468_0)
              (try rw [Addr.add_zero'] at hw468_0)
              cases e468
              have qi468 : (0 < l1.length) = True := eq_true (by omega)
              (try rw [show ((0 : Int)).toNat = 0 from rfl] at hx468_0)
              (try rw [show 0 * 3 = 0 from rfl] at hx468_0)
              (try rw [Addr.add_zero'] at hx468_0)
              (try rw [show ((0 : Int)).toNat = 0 from rfl] at hx468_1)
              (try rw [show 0 * 3 = 0 from rfl] at hx468_1)
              (try rw [Addr.add_zero'] at hx468_1)
              (try rw [show ((0 : Int)).toNat = 0 from rfl] at hx468_2)
              (try rw [show 0 * 3 = 0 from rfl] at hx468_2)
              (try rw [Addr.add_zero'] at hx468_2)
              replace hx468_0 := (HB.out.cell (World.block_lt_of_cell? w _ hx468_0)).trans hx468_0
              replace hx468_1 := (HB.out.cell (World.block_lt_of_cell? w _ hx468_1)).trans hx468_1
              replace hx468_2 := (HB.out.cell (World.block_lt_of_cell? w _ hx468_2)).trans hx468_2
              replace p468 := eq_true p468
              replace q468 := eq_true q468
              have p469 : 0 ≤ (1 : Int) := (by omega)
              have q469 : 1 < (l1.length : Int) := of_decide_eq_true (by first | (with_reducible assumption) | assumption)
              obtain ⟨ad469, e469, hx469_0, hx469_1, hx469_2⟩ := at_T26 HR1.out 1 p469 q469
              have hw469_2 := hx469_2
              (try rw [show ((1 : Int)).toNat = 1 from rfl] at hw469_2)
              (try rw [show 1 * 3 = 3 from rfl] at hw469_2)
              (try simp only [Nat.reduceMul, Nat.reduceEqDiff, Go.Addr.add, ↓reduceIte] at hw469_2)
              have hw469_1 := hx469_1
              (try rw [show ((1 : Int)).toNat = 1 from rfl] at hw469_1)
              (try rw [show 1 * 3 = 3 from rfl] at hw469_1)
              (try simp only [Nat.reduceMul, Nat.reduceEqDiff, Go.Addr.add, ↓reduceIte] at hw469_1)
              have hw469_0 := hx469_0
              (try rw [show ((1 : Int)).toNat = 1 from rfl] at hw469_0)
              (try rw [show 1 * 3 = 3 from rfl] at hw469_0)
              (try simp only [Nat.reduceMul, Nat.reduceEqDiff, Go.Addr.add, ↓reduceIte] at hw469_0)
              obtain rfl : ad468 = ad469 := (by injection e469)
              (try simp only [show (1 : Int).toNat = 1 from rfl, Nat.reduceMul, Nat.reduceEqDiff, Go.Addr.add, ↓reduceIte] at hx469_0)
              (try simp only [show (1 : Int).toNat = 1 from rfl, Nat.reduceMul, Nat.reduceEqDiff, Go.Addr.add, ↓reduceIte] at hx469_1)
              (try simp only [show (1 : Int).toNat = 1 from rfl, Nat.reduceMul, Nat.reduceEqDiff, Go.Addr.add, ↓reduceIte] at hx469_2)
              have qi469 : (1 < l1.length) = True := eq_true (by omega)
              (try rw [show ((1 : Int)).toNat = 1 from rfl] at hx469_0)
              (try rw [show 1 * 3 = 3 from rfl] at hx469_0)
              (try rw [show ((1 : Int)).toNat = 1 from rfl] at hx469_1)
              (try rw [show 1 * 3 = 3 from rfl] at hx469_1)
              (try rw [show ((1 : Int)).toNat = 1 from rfl] at hx469_2)
              (try rw [show 1 * 3 = 3 from rfl] at hx469_2)
              replace hx469_0 := (HB.out.cell (World.block_lt_of_cell? w _ hx469_0)).trans hx469_0
              replace hx469_1 := (HB.out.cell (World.block_lt_of_cell? w _ hx469_1)).trans hx469_1
              replace hx469_2 := (HB.out.cell (World.block_lt_of_cell? w _ hx469_2)).trans hx469_2
              replace p469 := eq_true p469
              replace q469 := eq_true q469
              refine start_ (n := 10) (S := fun w' => w'.cell? ad468 = some (.int .i8 ((rd_T26 l1 0).f0)) ∧ w'.cell? ⟨ad468.block, ad468.off + 1, none⟩ = some (.int .i64 ((rd_T26 l1 0).f1)) ∧ w'.cell? ⟨ad468.block, ad468.off + 2, none⟩ = some (.string ((rd_T26 l1 0).f2)) ∧ w'.cell? ⟨ad468.block, ad468.off + 3, none⟩ = some (.int .i8 ((rd_T26 l1 1).f0)) ∧ w'.cell? ⟨ad468.block, ad468.off + 3 + 1, none⟩ = some (.int .i64 ((rd_T26 l1 1).f1)) ∧ w'.cell? ⟨ad468.block, ad468.off + 3 + 2, none⟩ = some (.string ((rd_T26 l1 1).f2))) (ds := []) #[false, false, false, false, false, false, false, false, false, false] (by kernel_rfl) rfl rfl ⟨((HB.out.cell (World.block_lt_of_cell? w _ hw468_0)).trans hw468_0), ((HB.out.cell (World.block_lt_of_cell? w _ hw468_1)).trans hw468_1), ((HB.out.cell (World.block_lt_of_cell? w _ hw468_2)).trans hw468_2), ((HB.out.cell (World.block_lt_of_cell? w _ hw469_0)).trans hw469_0), ((HB.out.cell (World.block_lt_of_cell? w _ hw469_1)).trans hw469_1), ((HB.out.cell (World.block_lt_of_cell? w _ hw469_2)).trans hw469_2)⟩ (fun hHeld => ?_); refine xbn r1_Arith.tab6 r1_Arith.bits6 (fun HT_ HW_ => ?_)
              generalize wc.drew = w34 at BK457 HB hx468_0 hx468_1 hx468_2 hx469_0 hx469_1 hx469_2 hHeld ⊢
              refine pure_ (i := 0) (N := some 50) (v := ?_) (a' := ?_) #[true, false, false, false, false, false, false, false, false, false] rfl rfl (any_of HT_.out (by kernel_rfl)) (fun _ _ _ h => h) (Or.inl ⟨by rfl, ?_⟩) ?_ ?_
              rotate_left
              ·intro w'
               go_simp
               with_reducible rfl
              rotate_left
              ·simp only [Act.put, sI, sZ, sS, i64_w, i32_w]
               rfl
              refine pure_ (i := 1) (N := some 51) (v := ?_) (a' := ?_) #[true, true, false, false, false, false, false, false, false, false] rfl rfl (any_of HT_.out (by kernel_rfl)) (fun _ _ _ h => h) (Or.inl ⟨by rfl, ?_⟩) ?_ ?_
              rotate_left
              ·intro w'
               go_simp
               with_reducible rfl
              rotate_left
              ·simp only [Act.put, sI, sZ, sS, i64_w, i32_w]
               rfl
              refine pure_ (i := 2) (N := some 52) (v := ?_) (a' := ?_) #[true, true, true, false, false, false, false, false, false, false] rfl rfl (any_of HT_.out (by kernel_rfl)) (fun _ _ _ h => h) (Or.inl ⟨by rfl, ?_⟩) ?_ ?_
              rotate_left
              ·intro w'
               go_simp
               with_reducible rfl
              rotate_left
              ·simp only [Act.put, sI, sZ, sS, i64_w, i32_w]
               rfl
              refine pure_ (i := 4) (N := some 54) (v := ?_) (a' := ?_) #[true, true, true, false, true, false, false, false, false, false] rfl rfl (any_of HT_.out (by kernel_rfl)) (fun _ _ _ h => h) (Or.inl ⟨by rfl, ?_⟩) ?_ ?_
              rotate_left
              ·intro w'
               go_simp
               with_reducible rfl
              rotate_left
              ·simp only [Act.put, sI, sZ, sS, i64_w, i32_w]
               rfl
              refine pure_ (i := 5) (N := some 55) (v := ?_) (a' := ?_) #[true, true, true, false, true, true, false, false, false, false] rfl rfl (any_of HT_.out (by kernel_rfl)) (fun _ _ _ h => h) (Or.inl ⟨by rfl, ?_⟩) ?_ ?_
              rotate_left
              ·intro w'
               go_simp
               with_reducible rfl
              rotate_left
              ·simp only [Act.put, sI, sZ, sS, i64_w, i32_w]
               rfl
              refine pure_ (i := 6) (N := some 56) (v := ?_) (a' := ?_) #[true, true, true, false, true, true, true, false, false, false] rfl rfl (any_of HT_.out (by kernel_rfl)) (fun _ _ _ h => h) (Or.inl ⟨by rfl, ?_⟩) ?_ ?_
              rotate_left
              ·intro w'
               go_simp
               with_reducible rfl
              rotate_left
              ·simp only [Act.put, sI, sZ, sS, i64_w, i32_w]
               rfl
              refine take_ (i := 3) (N := some 53) (v := ?_) (a' := ?_) #[true, true, true, true, true, true, true, false, false, false] rfl rfl (xbb HT_.out HW_.out (by kernel_rfl)) (fun _ _ _ h => h) (Or.inl ⟨by rfl, ?_⟩) hHeld ?_ ?_
              rotate_left
              ·rintro w' ⟨s0, s1, s2, s3, s4, s5⟩
               go_simp
               with_reducible rfl
              rotate_left
              ·simp only [Act.put, sI, sZ, sS, i64_w, i32_w]
               rfl
              refine take_ (i := 7) (N := some 57) (v := ?_) (a' := ?_) #[true, true, true, true, true, true, true, true, false, false] rfl rfl (xbb HT_.out HW_.out (by kernel_rfl)) (fun _ _ _ h => h) (Or.inl ⟨by rfl, ?_⟩) hHeld ?_ ?_
              rotate_left
              ·rintro w' ⟨s0, s1, s2, s3, s4, s5⟩
               go_simp
               with_reducible rfl
              rotate_left
              ·simp only [Act.put, sI, sZ, sS, i64_w, i32_w]
               rfl
              refine pure_ (i := 8) (N := some 58) (v := ?_) (a' := ?_) #[true, true, true, true, true, true, true, true, true, false] rfl rfl (any_of HT_.out (by kernel_rfl)) (fun _ _ _ h => h) (Or.inl ⟨by rfl, ?_⟩) ?_ ?_
              rotate_left
              ·intro w'
               go_simp
               with_reducible rfl
              rotate_left
              ·simp only [Act.put, sI, sZ, sS, i64_w, i32_w]
               rfl
              refine pure_ (i := 9) (N := some 6) (v := ?_) (a' := ?_) #[true, true, true, true, true, true, true, true, true, true] rfl rfl (any_of HT_.out (by kernel_rfl)) (fun _ _ _ h => h) (Or.inl ⟨by rfl, ?_⟩) ?_ ?_
              rotate_left
              ·intro w'
               go_simp
               with_reducible rfl
              rotate_left
              ·simp only [Act.put, sI, sZ, sS, i64_w, i32_w]
               rfl
              refine done_ (done_of HT_.out (by kernel_rfl)) ?_
              obtain ⟨hcz35_0, hcz35_1, hcz35_2⟩ := cz3 BK457.out
              obtain ⟨hfz35_0, hfz35_1, hfz35_2⟩ := fz3 BK457.out
              try go_wp2
              refine bodyPost_ret (xat rfl _ _ gb457 26 #[.int .i8 0, .int .i64 0, .string (⟨#[]⟩ : ByteArray)] (0, 0) _ rfl (by (with_reducible repeat (first | refine xae ?_ _ | refine xaf ?_ | refine xad ?_ _)); refine xas (cs := #[.int .i8 0, .int .i64 0, .string (⟨#[]⟩ : ByteArray)]) ?_ 2 _ rfl; (with_reducible repeat (first | refine xae ?_ _ | refine xaf ?_ | refine xad ?_ _)); refine xas (cs := #[.int .i8 0, .int .i64 0, .string (⟨#[]⟩ : ByteArray)]) ?_ 1 _ rfl; (with_reducible repeat (first | refine xae ?_ _ | refine xaf ?_ | refine xad ?_ _)); refine xas (cs := #[.int .i8 0, .int .i64 0, .string (⟨#[]⟩ : ByteArray)]) ?_ 0 _ rfl; (with_reducible repeat (first | refine xae ?_ _ | refine xaf ?_ | refine xad ?_ _)); exact BK457.out) Tryd.underlying26 rfl (by kernel_rfl)) rfl ?_
              exact ⟨by first | rfl | (simp [xak, xal] <;> rfl) | (simp [*, xak, xal] <;> rfl), by repeat (first | (with_reducible first | exact HB.out | apply xab | apply xaa | apply xac | refine xag ?_ GE457.out) | exact HB.out)⟩
             ·rw [if_neg c33] at H
              have c33b0 : decide (200 < ((((rd_T26 l1 0).f2) ++ ((rd_T26 l1 1).f2)).size : Int)) = false := decide_eq_false c33
              have c33b1 : decide (200 < (((rd_T26 l1 0).f2) ++ ((rd_T26 l1 1).f2)).size) = false := decide_eq_false (by omega)
              have c33b7 : decide (200 < ((rd_T26 l1 0).f2).size + ((rd_T26 l1 1).f2).size) = false := by rw [← ByteArray.size_append]; exact c33b1
              have c33b8 : decide ((200 : Int) < (((rd_T26 l1 0).f2).size : Int) + (((rd_T26 l1 1).f2).size : Int)) = false := by rw [← Int.natCast_add, ← ByteArray.size_append]; exact c33b0
              clear c33
              simp only [Option.some.injEq, Prod.mk.injEq] at H
              obtain ⟨rfl, rfl, rfl, rfl⟩ := H
              try go_wp2
              have n0_ := Aside0.mk (xaf BK457.out)
              have n1_ := Aside0.mk (xac HB.out)
              clear BK457
              clear HB
              have BK457 := n0_
              have HB := n1_
              clear n0_ n1_
              have p468 : 0 ≤ (0 : Int) := (by omega)
              have q468 : 0 < (l1.length : Int) := of_decide_eq_true (by first | (with_reducible assumption) | assumption)
              obtain ⟨ad468, e468, hx468_0, hx468_1, hx468_2⟩ := at_T26 HR1.out 0 p468 q468
              have hw468_2 := hx468_2
              (try rw [show ((0 : Int)).toNat = 0 from rfl] at hw468_2)
              (try rw [show 0 * 3 = 0 from rfl] at hw468_2)
              (try rw [Addr.add_zero'] at hw468_2)
              have hw468_1 := hx468_1
              (try rw [show ((0 : Int)).toNat = 0 from rfl] at hw468_1)
              (try rw [show 0 * 3 = 0 from rfl] at hw468_1)
              (try rw [Addr.add_zero'] at hw468_1)
              have hw468_0 := hx468_0
              (try rw [show ((0 : Int)).toNat = 0 from rfl] at hw468_0)
              (try rw [show 0 * 3 = 0 from rfl] at hw468_0)
              (try rw [Addr.add_zero'] at hw468_0)
              cases e468
              have qi468 : (0 < l1.length) = True := eq_true (by omega)
              (try rw [show ((0 : Int)).toNat = 0 from rfl] at hx468_0)
              (try rw [show 0 * 3 = 0 from rfl] at hx468_0)
              (try rw [Addr.add_zero'] at hx468_0)
              (try rw [show ((0 : Int)).toNat = 0 from rfl] at hx468_1)
              (try rw [show 0 * 3 = 0 from rfl] at hx468_1)
              (try rw [Addr.add_zero'] at hx468_1)
              (try rw [show ((0 : Int)).toNat = 0 from rfl] at hx468_2)
              (try rw [show 0 * 3 = 0 from rfl] at hx468_2)
              (try rw [Addr.add_zero'] at hx468_2)
              replace hx468_0 := (HB.out.cell (World.block_lt_of_cell? w _ hx468_0)).trans hx468_0
              replace hx468_1 := (HB.out.cell (World.block_lt_of_cell? w _ hx468_1)).trans hx468_1
              replace hx468_2 := (HB.out.cell (World.block_lt_of_cell? w _ hx468_2)).trans hx468_2
              replace p468 := eq_true p468
              replace q468 := eq_true q468
              have p469 : 0 ≤ (1 : Int) := (by omega)
              have q469 : 1 < (l1.length : Int) := of_decide_eq_true (by first | (with_reducible assumption) | assumption)
              obtain ⟨ad469, e469, hx469_0, hx469_1, hx469_2⟩ := at_T26 HR1.out 1 p469 q469
              have hw469_2 := hx469_2
              (try rw [show ((1 : Int)).toNat = 1 from rfl] at hw469_2)
              (try rw [show 1 * 3 = 3 from rfl] at hw469_2)
              (try simp only [Nat.reduceMul, Nat.reduceEqDiff, Go.Addr.add, ↓reduceIte] at hw469_2)
              have hw469_1 := hx469_1
              (try rw [show ((1 : Int)).toNat = 1 from rfl] at hw469_1)
              (try rw [show 1 * 3 = 3 from rfl] at hw469_1)
              (try simp only [Nat.reduceMul, Nat.reduceEqDiff, Go.Addr.add, ↓reduceIte] at hw469_1)
              have hw469_0 := hx469_0
              (try rw [show ((1 : Int)).toNat = 1 from rfl] at hw469_0)
              (try rw [show 1 * 3 = 3 from rfl] at hw469_0)
              (try simp only [Nat.reduceMul, Nat.reduceEqDiff, Go.Addr.add, ↓reduceIte] at hw469_0)
              obtain rfl : ad468 = ad469 := (by injection e469)
              (try simp only [show (1 : Int).toNat = 1 from rfl, Nat.reduceMul, Nat.reduceEqDiff, Go.Addr.add, ↓reduceIte] at hx469_0)
              (try simp only [show (1 : Int).toNat = 1 from rfl, Nat.reduceMul, Nat.reduceEqDiff, Go.Addr.add, ↓reduceIte] at hx469_1)
              (try simp only [show (1 : Int).toNat = 1 from rfl, Nat.reduceMul, Nat.reduceEqDiff, Go.Addr.add, ↓reduceIte] at hx469_2)
              have qi469 : (1 < l1.length) = True := eq_true (by omega)
              (try rw [show ((1 : Int)).toNat = 1 from rfl] at hx469_0)
              (try rw [show 1 * 3 = 3 from rfl] at hx469_0)
              (try rw [show ((1 : Int)).toNat = 1 from rfl] at hx469_1)
              (try rw [show 1 * 3 = 3 from rfl] at hx469_1)
              (try rw [show ((1 : Int)).toNat = 1 from rfl] at hx469_2)
              (try rw [show 1 * 3 = 3 from rfl] at hx469_2)
              replace hx469_0 := (HB.out.cell (World.block_lt_of_cell? w _ hx469_0)).trans hx469_0
              replace hx469_1 := (HB.out.cell (World.block_lt_of_cell? w _ hx469_1)).trans hx469_1
              replace hx469_2 := (HB.out.cell (World.block_lt_of_cell? w _ hx469_2)).trans hx469_2
              replace p469 := eq_true p469
              replace q469 := eq_true q469
              refine start_ (n := 10) (S := fun w' => w'.cell? ad468 = some (.int .i8 ((rd_T26 l1 0).f0)) ∧ w'.cell? ⟨ad468.block, ad468.off + 1, none⟩ = some (.int .i64 ((rd_T26 l1 0).f1)) ∧ w'.cell? ⟨ad468.block, ad468.off + 2, none⟩ = some (.string ((rd_T26 l1 0).f2)) ∧ w'.cell? ⟨ad468.block, ad468.off + 3, none⟩ = some (.int .i8 ((rd_T26 l1 1).f0)) ∧ w'.cell? ⟨ad468.block, ad468.off + 3 + 1, none⟩ = some (.int .i64 ((rd_T26 l1 1).f1)) ∧ w'.cell? ⟨ad468.block, ad468.off + 3 + 2, none⟩ = some (.string ((rd_T26 l1 1).f2))) (ds := []) #[false, false, false, false, false, false, false, false, false, false] (by kernel_rfl) rfl rfl ⟨((HB.out.cell (World.block_lt_of_cell? w _ hw468_0)).trans hw468_0), ((HB.out.cell (World.block_lt_of_cell? w _ hw468_1)).trans hw468_1), ((HB.out.cell (World.block_lt_of_cell? w _ hw468_2)).trans hw468_2), ((HB.out.cell (World.block_lt_of_cell? w _ hw469_0)).trans hw469_0), ((HB.out.cell (World.block_lt_of_cell? w _ hw469_1)).trans hw469_1), ((HB.out.cell (World.block_lt_of_cell? w _ hw469_2)).trans hw469_2)⟩ (fun hHeld => ?_); refine xbn r1_Arith.tab6 r1_Arith.bits6 (fun HT_ HW_ => ?_)
              generalize wc.drew = w36 at BK457 HB hx468_0 hx468_1 hx468_2 hx469_0 hx469_1 hx469_2 hHeld ⊢
              refine pure_ (i := 0) (N := some 50) (v := ?_) (a' := ?_) #[true, false, false, false, false, false, false, false, false, false] rfl rfl (any_of HT_.out (by kernel_rfl)) (fun _ _ _ h => h) (Or.inl ⟨by rfl, ?_⟩) ?_ ?_
              rotate_left
              ·intro w'
               go_simp
               with_reducible rfl
              rotate_left
              ·simp only [Act.put, sI, sZ, sS, i64_w, i32_w]
               rfl
              refine pure_ (i := 1) (N := some 51) (v := ?_) (a' := ?_) #[true, true, false, false, false, false, false, false, false, false] rfl rfl (any_of HT_.out (by kernel_rfl)) (fun _ _ _ h => h) (Or.inl ⟨by rfl, ?_⟩) ?_ ?_
              rotate_left
              ·intro w'
               go_simp
               with_reducible rfl
              rotate_left
              ·simp only [Act.put, sI, sZ, sS, i64_w, i32_w]
               rfl
              refine pure_ (i := 2) (N := some 52) (v := ?_) (a' := ?_) #[true, true, true, false, false, false, false, false, false, false] rfl rfl (any_of HT_.out (by kernel_rfl)) (fun _ _ _ h => h) (Or.inl ⟨by rfl, ?_⟩) ?_ ?_
              rotate_left
              ·intro w'
               go_simp
               with_reducible rfl
              rotate_left
              ·simp only [Act.put, sI, sZ, sS, i64_w, i32_w]
               rfl
              refine pure_ (i := 4) (N := some 54) (v := ?_) (a' := ?_) #[true, true, true, false, true, false, false, false, false, false] rfl rfl (any_of HT_.out (by kernel_rfl)) (fun _ _ _ h => h) (Or.inl ⟨by rfl, ?_⟩) ?_ ?_
              rotate_left
              ·intro w'
               go_simp
               with_reducible rfl
              rotate_left
              ·simp only [Act.put, sI, sZ, sS, i64_w, i32_w]
               rfl
              refine pure_ (i := 5) (N := some 55) (v := ?_) (a' := ?_) #[true, true, true, false, true, true, false, false, false, false] rfl rfl (any_of HT_.out (by kernel_rfl)) (fun _ _ _ h => h) (Or.inl ⟨by rfl, ?_⟩) ?_ ?_
              rotate_left
              ·intro w'
               go_simp
               with_reducible rfl
              rotate_left
              ·simp only [Act.put, sI, sZ, sS, i64_w, i32_w]
               rfl
              refine pure_ (i := 6) (N := some 56) (v := ?_) (a' := ?_) #[true, true, true, false, true, true, true, false, false, false] rfl rfl (any_of HT_.out (by kernel_rfl)) (fun _ _ _ h => h) (Or.inl ⟨by rfl, ?_⟩) ?_ ?_
              rotate_left
              ·intro w'
               go_simp
               with_reducible rfl
              rotate_left
              ·simp only [Act.put, sI, sZ, sS, i64_w, i32_w]
               rfl
              refine take_ (i := 3) (N := some 53) (v := ?_) (a' := ?_) #[true, true, true, true, true, true, true, false, false, false] rfl rfl (xbb HT_.out HW_.out (by kernel_rfl)) (fun _ _ _ h => h) (Or.inl ⟨by rfl, ?_⟩) hHeld ?_ ?_
              rotate_left
              ·rintro w' ⟨s0, s1, s2, s3, s4, s5⟩
               go_simp
               with_reducible rfl
              rotate_left
              ·simp only [Act.put, sI, sZ, sS, i64_w, i32_w]
               rfl
              refine take_ (i := 7) (N := some 57) (v := ?_) (a' := ?_) #[true, true, true, true, true, true, true, true, false, false] rfl rfl (xbb HT_.out HW_.out (by kernel_rfl)) (fun _ _ _ h => h) (Or.inl ⟨by rfl, ?_⟩) hHeld ?_ ?_
              rotate_left
              ·rintro w' ⟨s0, s1, s2, s3, s4, s5⟩
               go_simp
               with_reducible rfl
              rotate_left
              ·simp only [Act.put, sI, sZ, sS, i64_w, i32_w]
               rfl
              refine pure_ (i := 8) (N := some 58) (v := ?_) (a' := ?_) #[true, true, true, true, true, true, true, true, true, false] rfl rfl (any_of HT_.out (by kernel_rfl)) (fun _ _ _ h => h) (Or.inl ⟨by rfl, ?_⟩) ?_ ?_
              rotate_left
              ·intro w'
               go_simp
               with_reducible rfl
              rotate_left
              ·simp only [Act.put, sI, sZ, sS, i64_w, i32_w]
               rfl
              refine pure_ (i := 9) (N := some 6) (v := ?_) (a' := ?_) #[true, true, true, true, true, true, true, true, true, true] rfl rfl (any_of HT_.out (by kernel_rfl)) (fun _ _ _ h => h) (Or.inl ⟨by rfl, ?_⟩) ?_ ?_
              rotate_left
              ·intro w'
               go_simp
               with_reducible rfl
              rotate_left
              ·simp only [Act.put, sI, sZ, sS, i64_w, i32_w]
               rfl
              refine done_ (done_of HT_.out (by kernel_rfl)) ?_
              obtain ⟨hcz37_0, hcz37_1, hcz37_2⟩ := cz3 BK457.out
              obtain ⟨hfz37_0, hfz37_1, hfz37_2⟩ := fz3 BK457.out
              try go_wp2
              refine bodyPost_ret (xat rfl _ _ gb457 26 #[.int .i8 2, .int .i64 0, .string (((rd_T26 l1 0).f2) ++ ((rd_T26 l1 1).f2))] (0, 0) _ rfl (by (with_reducible repeat (first | refine xae ?_ _ | refine xaf ?_ | refine xad ?_ _)); refine xas (cs := #[.int .i8 2, .int .i64 0, .string (⟨#[]⟩ : ByteArray)]) ?_ 2 _ rfl; (with_reducible repeat (first | refine xae ?_ _ | refine xaf ?_ | refine xad ?_ _)); refine xas (cs := #[.int .i8 2, .int .i64 0, .string (⟨#[]⟩ : ByteArray)]) ?_ 1 _ rfl; (with_reducible repeat (first | refine xae ?_ _ | refine xaf ?_ | refine xad ?_ _)); refine xas (cs := #[.int .i8 0, .int .i64 0, .string (⟨#[]⟩ : ByteArray)]) ?_ 0 _ rfl; (with_reducible repeat (first | refine xae ?_ _ | refine xaf ?_ | refine xad ?_ _)); exact BK457.out) Tryd.underlying26 rfl (by kernel_rfl)) rfl ?_
              exact ⟨by first | rfl | (simp [xak, xal] <;> rfl) | (simp [*, xak, xal] <;> rfl), by repeat (first | (with_reducible first | exact HB.out | apply xab | apply xaa | apply xac | refine xag ?_ GE457.out) | exact HB.out)⟩
            ·rw [if_neg c32] at H
             exact absurd H (by simp)
           ·rw [if_neg c31] at H
            exact absurd H (by simp)
          ·rw [if_neg c30] at H
           exact absurd H (by simp)
         ·replace c29 := Bool.eq_false_iff.mpr c29
          subst c29
          have H1 : (if a0 ≥ 8 then (if a0 ≤ 10 then ((r1_kinds.f kj24 l1 1 2).bind fun t470 => (if t470 = true then (if 0 < (l1.length : Int) then ((r1_texts.f kj24 a0 ((rd_T26 l1 0).f2)).bind fun bt472 => (some (bt472.1, bt472.2.1, bt472.2.2.1, bt472.2.2.2))) else (none)) else (some (0, 0, (⟨#[]⟩ : ByteArray), false)))) else (some (0, 0, (⟨#[]⟩ : ByteArray), false))) else (some (0, 0, (⟨#[]⟩ : ByteArray), false))) = some (r1, r2, r3, r4) := by rw [if_neg (show ¬ (false = true) by decide)] at H; exact H
          clear H
          have H := H1
          clear H1
          by_cases c38 : a0 ≥ 8
          ·rw [if_pos c38] at H
           have c38b0 : decide (8 ≤ a0) = true := decide_eq_true c38
           clear c38
           by_cases c39 : a0 ≤ 10
           ·rw [if_pos c39] at H
            have c39b0 : decide (a0 ≤ 10) = true := decide_eq_true c39
            clear c39
            replace H := Option.bind_eq_some_iff.mp H
            obtain ⟨t470, A400, H⟩ := H
            replace H : (if t470 = true then (if 0 < (l1.length : Int) then ((r1_texts.f kj24 a0 ((rd_T26 l1 0).f2)).bind fun bt472 => (some (bt472.1, bt472.2.1, bt472.2.2.1, bt472.2.2.2))) else (none)) else (some (0, 0, (⟨#[]⟩ : ByteArray), false))) = some (r1, r2, r3, r4) := H
            have A40 := Aside0.mk A400
            clear A400
            by_cases c41 : t470 = true
            ·subst c41
             have H1 : (if 0 < (l1.length : Int) then ((r1_texts.f kj24 a0 ((rd_T26 l1 0).f2)).bind fun bt472 => (some (bt472.1, bt472.2.1, bt472.2.2.1, bt472.2.2.2))) else (none)) = some (r1, r2, r3, r4) := by rw [if_pos rfl] at H; exact H
             clear H
             have H := H1
             clear H1
             by_cases c42 : 0 < (l1.length : Int)
             ·rw [if_pos c42] at H
              have c42b0 : decide (0 < (l1.length : Int)) = true := decide_eq_true c42
              have c42b1 : decide (0 < l1.length) = true := decide_eq_true (by omega)
              clear c42
              replace H := Option.bind_eq_some_iff.mp H
              obtain ⟨⟨t472, t473, t474, t475⟩, A430, H⟩ := H
              replace H : (some (t472, t473, t474, t475)) = some (r1, r2, r3, r4) := H
              have A43 := Aside0.mk A430
              clear A430
              simp only [Option.some.injEq, Prod.mk.injEq] at H
              obtain ⟨rfl, rfl, rfl, rfl⟩ := H
              go_wp2_with (first | (go_at_call 139; (with_reducible refine (r1_kinds.calls kj24 _ _ l1 1 2 true _ ?side1 ?side2 A40.out).mono ?_); (case side1 => repeat (first | exact (Kd.C_below HR1.out HB.out) | (with_reducible refine Kd.C_alloc ?_ _) | (with_reducible refine Kd.C_drewN ?_ _) | (with_reducible refine Kd.C_drew ?_))); (case side2 => exact HC1.out); rintro e w44 ⟨rfl, hb⟩; have n0_ := Aside0.mk (xan (g := gb457) (o := .cells #[.int .i8 0, .int .i64 0, .string (⟨#[]⟩ : ByteArray)] 26 (0, 0)) (by (with_reducible repeat (first | refine xae ?_ _ | refine xaf ?_ | refine xad ?_ _)); exact BK457.out) hb); have n1_ := Aside0.mk (xai (by repeat (first | (with_reducible first | exact HB.out | apply xab | apply xaa | apply xac | refine xag ?_ GE457.out) | exact HB.out)) hb); clear BK457; clear HB; have BK457 := n0_; have HB := n1_; clear n0_ n1_; (try clear hb); (try clear hb2); (try clear hk); (try clear hi); have p471 : 0 ≤ (0 : Int) := (by omega); have q471 : 0 < (l1.length : Int) := of_decide_eq_true (by first | (with_reducible assumption) | assumption); obtain ⟨ad471, e471, hx471_0, hx471_1, hx471_2⟩ := at_T26 HR1.out 0 p471 q471; cases e471; have qi471 : (0 < l1.length) = True := eq_true (by omega); (try rw [show ((0 : Int)).toNat = 0 from rfl] at hx471_0); (try rw [show 0 * 3 = 0 from rfl] at hx471_0); (try rw [Addr.add_zero'] at hx471_0); (try rw [show ((0 : Int)).toNat = 0 from rfl] at hx471_1); (try rw [show 0 * 3 = 0 from rfl] at hx471_1); (try rw [Addr.add_zero'] at hx471_1); (try rw [show ((0 : Int)).toNat = 0 from rfl] at hx471_2); (try rw [show 0 * 3 = 0 from rfl] at hx471_2); (try rw [Addr.add_zero'] at hx471_2); replace hx471_0 := (HB.out.cell (World.block_lt_of_cell? w _ hx471_0)).trans hx471_0; replace hx471_1 := (HB.out.cell (World.block_lt_of_cell? w _ hx471_1)).trans hx471_1; replace hx471_2 := (HB.out.cell (World.block_lt_of_cell? w _ hx471_2)).trans hx471_2; replace p471 := eq_true p471; replace q471 := eq_true q471) | ((with_reducible refine xav (f := 141) rfl ?_); refine goesL_ (some 81) rfl rfl Tryd.func141 (by kernel_rfl) rfl #[.int .i8 a0, .string ((rd_T26 l1 0).f2)] rfl (by (try simp only [List.map_toArray, List.map_cons, List.map_nil]); first | done | rfl | (simp only [List.length_drop, List.length_take]; rfl)) ?_; (with_reducible refine (r1_texts.calls kj24 a0 ((rd_T26 l1 0).f2) t472 t473 t474 t475 _ A43.out).mono ?_); rintro e w45 ⟨rfl, hb⟩; refine ⟨_, rfl, ?_⟩; have n0_ := Aside0.mk (xan (g := gb457) (o := .cells #[.int .i8 0, .int .i64 0, .string (⟨#[]⟩ : ByteArray)] 26 (0, 0)) (by (with_reducible repeat (first | refine xae ?_ _ | refine xaf ?_ | refine xad ?_ _)); exact BK457.out) hb); have n1_ := Aside0.mk (xai (by repeat (first | (with_reducible first | exact HB.out | apply xab | apply xaa | apply xac | refine xag ?_ GE457.out) | exact HB.out)) hb); clear BK457; clear HB; have BK457 := n0_; have HB := n1_; clear n0_ n1_; (try clear hb); (try clear hb2); (try clear hk); (try clear hi); obtain ⟨hcz46_0, hcz46_1, hcz46_2⟩ := cz3 BK457.out; obtain ⟨hfz46_0, hfz46_1, hfz46_2⟩ := fz3 BK457.out))
              refine bodyPost_ret (xat rfl _ _ gb457 26 #[.int .i8 t472, .int .i64 t473, .string t474] (0, 0) _ rfl (by (with_reducible repeat (first | refine xae ?_ _ | refine xaf ?_ | refine xad ?_ _)); refine xas (cs := #[.int .i8 t472, .int .i64 t473, .string (⟨#[]⟩ : ByteArray)]) ?_ 2 _ rfl; (with_reducible repeat (first | refine xae ?_ _ | refine xaf ?_ | refine xad ?_ _)); refine xas (cs := #[.int .i8 t472, .int .i64 0, .string (⟨#[]⟩ : ByteArray)]) ?_ 1 _ rfl; (with_reducible repeat (first | refine xae ?_ _ | refine xaf ?_ | refine xad ?_ _)); refine xas (cs := #[.int .i8 0, .int .i64 0, .string (⟨#[]⟩ : ByteArray)]) ?_ 0 _ rfl; (with_reducible repeat (first | refine xae ?_ _ | refine xaf ?_ | refine xad ?_ _)); exact BK457.out) Tryd.underlying26 rfl (by kernel_rfl)) rfl ?_
              exact ⟨by first | rfl | (simp [xak, xal] <;> rfl) | (simp [*, xak, xal] <;> rfl), by repeat (first | (with_reducible first | exact HB.out | apply xab | apply xaa | apply xac | refine xag ?_ GE457.out) | exact HB.out)⟩
             ·rw [if_neg c42] at H
              exact absurd H (by simp)
            ·replace c41 := Bool.eq_false_iff.mpr c41
             subst c41
             have H1 : (some (0, 0, (⟨#[]⟩ : ByteArray), false)) = some (r1, r2, r3, r4) := by rw [if_neg (show ¬ (false = true) by decide)] at H; exact H
             clear H
             have H := H1
             clear H1
             simp only [Option.some.injEq, Prod.mk.injEq] at H
             obtain ⟨rfl, rfl, rfl, rfl⟩ := H
             go_wp2_with (first | (go_at_call 139; (with_reducible refine (r1_kinds.calls kj24 _ _ l1 1 2 false _ ?side1 ?side2 A40.out).mono ?_); (case side1 => repeat (first | exact (Kd.C_below HR1.out HB.out) | (with_reducible refine Kd.C_alloc ?_ _) | (with_reducible refine Kd.C_drewN ?_ _) | (with_reducible refine Kd.C_drew ?_))); (case side2 => exact HC1.out); rintro e w47 ⟨rfl, hb⟩; have n0_ := Aside0.mk (xan (g := gb457) (o := .cells #[.int .i8 0, .int .i64 0, .string (⟨#[]⟩ : ByteArray)] 26 (0, 0)) (by (with_reducible repeat (first | refine xae ?_ _ | refine xaf ?_ | refine xad ?_ _)); exact BK457.out) hb); have n1_ := Aside0.mk (xai (by repeat (first | (with_reducible first | exact HB.out | apply xab | apply xaa | apply xac | refine xag ?_ GE457.out) | exact HB.out)) hb); clear BK457; clear HB; have BK457 := n0_; have HB := n1_; clear n0_ n1_; (try clear hb); (try clear hb2); (try clear hk); (try clear hi); obtain ⟨hcz48_0, hcz48_1, hcz48_2⟩ := cz3 BK457.out; obtain ⟨hfz48_0, hfz48_1, hfz48_2⟩ := fz3 BK457.out))
             refine bodyPost_ret (xat rfl _ _ gb457 26 #[.int .i8 0, .int .i64 0, .string (⟨#[]⟩ : ByteArray)] (0, 0) _ rfl (by (with_reducible repeat (first | refine xae ?_ _ | refine xaf ?_ | refine xad ?_ _)); refine xas (cs := #[.int .i8 0, .int .i64 0, .string (⟨#[]⟩ : ByteArray)]) ?_ 2 _ rfl; (with_reducible repeat (first | refine xae ?_ _ | refine xaf ?_ | refine xad ?_ _)); refine xas (cs := #[.int .i8 0, .int .i64 0, .string (⟨#[]⟩ : ByteArray)]) ?_ 1 _ rfl; (with_reducible repeat (first | refine xae ?_ _ | refine xaf ?_ | refine xad ?_ _)); refine xas (cs := #[.int .i8 0, .int .i64 0, .string (⟨#[]⟩ : ByteArray)]) ?_ 0 _ rfl; (with_reducible repeat (first | refine xae ?_ _ | refine xaf ?_ | refine xad ?_ _)); exact BK457.out) Tryd.underlying26 rfl (by kernel_rfl)) rfl ?_
             exact ⟨by first | rfl | (simp [xak, xal] <;> rfl) | (simp [*, xak, xal] <;> rfl), by repeat (first | (with_reducible first | exact HB.out | apply xab | apply xaa | apply xac | refine xag ?_ GE457.out) | exact HB.out)⟩
           ·rw [if_neg c39] at H
            have c39b0 : decide (a0 ≤ 10) = false := decide_eq_false c39
            clear c39
            simp only [Option.some.injEq, Prod.mk.injEq] at H
            obtain ⟨rfl, rfl, rfl, rfl⟩ := H
            obtain ⟨hcz49_0, hcz49_1, hcz49_2⟩ := cz3 BK457.out
            obtain ⟨hfz49_0, hfz49_1, hfz49_2⟩ := fz3 BK457.out
            go_wp2
            refine bodyPost_ret (xat rfl _ _ gb457 26 #[.int .i8 0, .int .i64 0, .string (⟨#[]⟩ : ByteArray)] (0, 0) _ rfl (by (with_reducible repeat (first | refine xae ?_ _ | refine xaf ?_ | refine xad ?_ _)); refine xas (cs := #[.int .i8 0, .int .i64 0, .string (⟨#[]⟩ : ByteArray)]) ?_ 2 _ rfl; (with_reducible repeat (first | refine xae ?_ _ | refine xaf ?_ | refine xad ?_ _)); refine xas (cs := #[.int .i8 0, .int .i64 0, .string (⟨#[]⟩ : ByteArray)]) ?_ 1 _ rfl; (with_reducible repeat (first | refine xae ?_ _ | refine xaf ?_ | refine xad ?_ _)); refine xas (cs := #[.int .i8 0, .int .i64 0, .string (⟨#[]⟩ : ByteArray)]) ?_ 0 _ rfl; (with_reducible repeat (first | refine xae ?_ _ | refine xaf ?_ | refine xad ?_ _)); exact BK457.out) Tryd.underlying26 rfl (by kernel_rfl)) rfl ?_
            exact ⟨by first | rfl | (simp [xak, xal] <;> rfl) | (simp [*, xak, xal] <;> rfl), by repeat (first | (with_reducible first | exact HB.out | apply xab | apply xaa | apply xac | refine xag ?_ GE457.out) | exact HB.out)⟩
          ·rw [if_neg c38] at H
           have c38b0 : decide (8 ≤ a0) = false := decide_eq_false c38
           clear c38
           simp only [Option.some.injEq, Prod.mk.injEq] at H
           obtain ⟨rfl, rfl, rfl, rfl⟩ := H
           obtain ⟨hcz50_0, hcz50_1, hcz50_2⟩ := cz3 BK457.out
           obtain ⟨hfz50_0, hfz50_1, hfz50_2⟩ := fz3 BK457.out
           go_wp2
           refine bodyPost_ret (xat rfl _ _ gb457 26 #[.int .i8 0, .int .i64 0, .string (⟨#[]⟩ : ByteArray)] (0, 0) _ rfl (by (with_reducible repeat (first | refine xae ?_ _ | refine xaf ?_ | refine xad ?_ _)); refine xas (cs := #[.int .i8 0, .int .i64 0, .string (⟨#[]⟩ : ByteArray)]) ?_ 2 _ rfl; (with_reducible repeat (first | refine xae ?_ _ | refine xaf ?_ | refine xad ?_ _)); refine xas (cs := #[.int .i8 0, .int .i64 0, .string (⟨#[]⟩ : ByteArray)]) ?_ 1 _ rfl; (with_reducible repeat (first | refine xae ?_ _ | refine xaf ?_ | refine xad ?_ _)); refine xas (cs := #[.int .i8 0, .int .i64 0, .string (⟨#[]⟩ : ByteArray)]) ?_ 0 _ rfl; (with_reducible repeat (first | refine xae ?_ _ | refine xaf ?_ | refine xad ?_ _)); exact BK457.out) Tryd.underlying26 rfl (by kernel_rfl)) rfl ?_
           exact ⟨by first | rfl | (simp [xak, xal] <;> rfl) | (simp [*, xak, xal] <;> rfl), by repeat (first | (with_reducible first | exact HB.out | apply xab | apply xaa | apply xac | refine xag ?_ GE457.out) | exact HB.out)⟩
theorem kinds_l0 (kd : Int) (l : List S26) (hl : l.length ≤ 100) : ∀ (m i : Nat), l.length - i = m → i ≤ l.length → Ev (fun k => r1_kinds.l0 k l (l.length : Int) kd (i : Int)) ((l.drop i).all (fun v => decide (v.f0 = kd) && valueOk v))
 | 0, i, hm, hi => by
  rw [List.drop_eq_nil_of_le (by omega)]
  exact Ev.of (fun k => by rw [r1_kinds.l0, if_neg (by omega)]; rfl)
 | m + 1, i, hm, hi => by
  have hlt : i < l.length := by omega
  have e : rd_T26 l (i : Int) = l[i] := by rw [rd_T26, List.getD_eq_getElem?_getD, Int.toNat_natCast, List.getElem?_eq_getElem hlt]; rfl
  have ih := kinds_l0 kd l hl m (i + 1) (by omega) (by omega)
  obtain ⟨r, hr, hv⟩ := valueOk_tot l[i]
  rw [List.drop_eq_getElem_cons hlt, List.all_cons]
  by_cases h : l[i].f0 = kd
  ·by_cases h0 : r = 0
   ·rw [show (decide (l[i].f0 = kd) && valueOk l[i]) = true by rw [hv, h0, decide_eq_true h]; rfl, Bool.true_and]
    refine ih.step (fun k => ?_)
    rw [r1_kinds.l0, if_pos (by omega), if_pos (by omega), if_pos (by omega), e, if_pos h, value_same, hr]
    show (if r = 0 then _ else _) = _
    rw [if_pos h0, w64 (by omega) (by omega)]
    rfl
   ·rw [show (decide (l[i].f0 = kd) && valueOk l[i]) = false by rw [hv, show (r == 0) = false by simpa using h0, Bool.and_false], Bool.false_and]
    refine Ev.of (fun k => ?_)
    rw [r1_kinds.l0, if_pos (by omega), if_pos (by omega), if_pos (by omega), e, if_pos h, value_same, hr]
    show (if r = 0 then _ else _) = _
    rw [if_neg h0]
  ·rw [decide_eq_false h, Bool.false_and, Bool.false_and]
   refine Ev.of (fun k => ?_)
   rw [r1_kinds.l0, if_pos (by omega), if_pos (by omega), if_pos (by omega), e, if_neg h]
theorem kinds_ev (n kd : Int) (hn : n ≤ 100) (l : List S26) : Ev (fun k => r1_kinds.f k l n kd) (decide ((l.length : Int) = n) && l.all (fun v => decide (v.f0 = kd) && valueOk v)) := by
 by_cases h : (l.length : Int) = n
 ·subst h
  have h1 := kinds_l0 kd l (by omega) _ 0 rfl (Nat.zero_le _)
  rw [List.drop_zero] at h1
  rw [decide_eq_true rfl, Bool.true_and]
  exact h1.cong (fun k => by rw [r1_kinds.f, if_pos rfl]; rfl)
 ·rw [decide_eq_false h, Bool.false_and]
  exact Ev.const (fun k => by rw [r1_kinds.f, if_neg h])
theorem wrap_add (x : Int) : ∃ t, wrap64 x = x + 18446744073709551616 * t := ⟨-((x + 9223372036854775808) / 18446744073709551616), by unfold wrap64; omega⟩
theorem wrap_same {x y : Int} (t : Int) (h : y = x + 18446744073709551616 * t) : wrap64 y = wrap64 x := by unfold wrap64; omega
theorem rest_eq (a b q : Int) (ha : -9223372036854775808 ≤ a ∧ a ≤ 9223372036854775807) (hq : ∃ t, q = a.tdiv b + 18446744073709551616 * t) : wrap64 (a - wrap64 (q * b)) = a.tmod b := by
 obtain ⟨t, ht⟩ := hq
 obtain ⟨u, hu⟩ := wrap_add (q * b)
 have h1 : a.tmod b = a - b * a.tdiv b := by rw [Int.tmod_def]
 have h2 : q * b = b * a.tdiv b + 18446744073709551616 * (t * b) := by rw [ht, Int.add_mul, Int.mul_comm (a.tdiv b) b, Int.mul_assoc]
 have hr : -9223372036854775808 ≤ a.tmod b ∧ a.tmod b ≤ 9223372036854775807 := by
  have habs : (a.tmod b).natAbs ≤ a.natAbs := by rw [Int.natAbs_tmod]; exact Nat.mod_le _ _
  rcases Int.le_total 0 a with h | h
  ·have g1 := Int.tmod_nonneg b h
   omega
  ·have g1 : (-a).tmod b = -(a.tmod b) := Int.neg_tmod a b
   have g2 := Int.tmod_nonneg b (show 0 ≤ -a by omega)
   omega
 rw [hu, h2]
 rw [wrap_same (x := a.tmod b) (y := a - (b * a.tdiv b + 18446744073709551616 * (t * b) + 18446744073709551616 * u)) (-(t * b) - u) (by rw [h1]; generalize b * a.tdiv b = p; generalize t * b = z; omega)]
 exact w64 (by omega) (by omega)
theorem quotient_eq (a b : Int) (hb : b ≠ 0) : r1_quotient.f a b = some (wrap64 (a.tdiv b)) := by
 rw [r1_quotient.f]
 by_cases h : b = -1
 ·rw [if_pos h, h, Int.tdiv_neg, Int.tdiv_one]
 ·rw [if_neg h, if_neg hb]
def byteN (s : ByteArray) (j : Nat) : Nat := (s.get! j).toNat
theorem byteN_lt (s : ByteArray) (j : Nat) : byteN s j < 256 := (s.get! j).toNat_lt
theorem bt_byteN (s : ByteArray) (j : Nat) (h : j < s.size) : bt s (j : Int) = (byteN s j : Int) := by
 rw [← bt_at s (j : Int) (by simpa using h)]
 simp [byteN, ByteArray.get!, getElem!_pos, h]
 rfl
def widthOf (n b0 b1 b2 b3 : Nat) : Nat :=
 if b0 < 128 then 1
 else if b0 / 32 = 6 ∧ 1 < n ∧ b1 / 64 = 2 then (if (b0 % 32) * 64 + b1 % 64 ≥ 128 then 2 else 1)
 else if b0 / 16 = 14 ∧ 1 < n ∧ b1 / 64 = 2 ∧ 2 < n ∧ b2 / 64 = 2 then (if (b0 % 16) * 4096 + (b1 % 64) * 64 + b2 % 64 ≥ 2048 ∧ ((b0 % 16) * 4096 + (b1 % 64) * 64 + b2 % 64 < 55296 ∨ 57344 ≤ (b0 % 16) * 4096 + (b1 % 64) * 64 + b2 % 64) then 3 else 1)
 else if b0 / 8 = 30 ∧ 1 < n ∧ b1 / 64 = 2 ∧ 2 < n ∧ b2 / 64 = 2 ∧ 3 < n ∧ b3 / 64 = 2 then (if (b0 % 8) * 262144 + (b1 % 64) * 4096 + (b2 % 64) * 64 + b3 % 64 ≥ 65536 ∧ (b0 % 8) * 262144 + (b1 % 64) * 4096 + (b2 % 64) * 64 + b3 % 64 ≤ 1114111 then 4 else 1)
 else 1
def decodeW (b0 b1 b2 b3 : Nat) (d1 d2 d3 : Bool) : Nat × Nat :=
 if b0 < 0x80 then (b0, 1)
 else if b0 / 32 == 6 && (d1 && b1 / 64 == 2) then
  if (b0 % 32) * 64 + b1 % 64 ≥ 0x80 then ((b0 % 32) * 64 + b1 % 64, 2) else (Utf8.runeError, 1)
 else if b0 / 16 == 14 && (d1 && b1 / 64 == 2) && (d2 && b2 / 64 == 2) then
  if (b0 % 16) * 4096 + (b1 % 64) * 64 + b2 % 64 ≥ 0x800 && Utf8.valid (((b0 % 16) * 4096 + (b1 % 64) * 64 + b2 % 64 : Nat) : Int) then ((b0 % 16) * 4096 + (b1 % 64) * 64 + b2 % 64, 3) else (Utf8.runeError, 1)
 else if b0 / 8 == 30 && (d1 && b1 / 64 == 2) && (d2 && b2 / 64 == 2) && (d3 && b3 / 64 == 2) then
  if (b0 % 8) * 262144 + (b1 % 64) * 4096 + (b2 % 64) * 64 + b3 % 64 ≥ 0x10000 && Utf8.valid (((b0 % 8) * 262144 + (b1 % 64) * 4096 + (b2 % 64) * 64 + b3 % 64 : Nat) : Int) then ((b0 % 8) * 262144 + (b1 % 64) * 4096 + (b2 % 64) * 64 + b3 % 64, 4) else (Utf8.runeError, 1)
 else (Utf8.runeError, 1)
theorem decodeW_width (n b0 b1 b2 b3 : Nat) : (decodeW b0 b1 b2 b3 (decide (1 < n)) (decide (2 < n)) (decide (3 < n))).2 = widthOf n b0 b1 b2 b3 := by
 unfold decodeW widthOf Utf8.valid
 simp only [Bool.and_eq_true, decide_eq_true_eq, beq_iff_eq, Bool.or_eq_true, ge_iff_le]
 repeat' split
 all_goals first | rfl | (exfalso; omega) | omega
theorem decode_width (s : ByteArray) (i : Nat) (h : i < s.size) : (Utf8.decode s i).2 = widthOf (s.size - i) (byteN s i) (byteN s (i + 1)) (byteN s (i + 2)) (byteN s (i + 3)) := by
 have e : Utf8.decode s i = decodeW (byteN s i) (byteN s (i + 1)) (byteN s (i + 2)) (byteN s (i + 3)) (decide (i + 1 < s.size)) (decide (i + 2 < s.size)) (decide (i + 3 < s.size)) := rfl
 have e1 : decide (i + 1 < s.size) = decide (1 < s.size - i) := by rw [decide_eq_decide]; omega
 have e2 : decide (i + 2 < s.size) = decide (2 < s.size - i) := by rw [decide_eq_decide]; omega
 have e3 : decide (i + 3 < s.size) = decide (3 < s.size - i) := by rw [decide_eq_decide]; omega
 rw [e, e1, e2, e3, decodeW_width]
def EvW (f : Nat → Option (Int × Bool)) (w : Nat) : Prop := ∃ ok, Ev f ((w : Int), ok)
theorem EvW.step {f g : Nat → Option (Int × Bool)} {w : Nat} (h : EvW f w) (hg : ∀ k, g (k + 1) = f k) : EvW g w := by
 obtain ⟨ok, h⟩ := h
 exact ⟨ok, h.step hg⟩
theorem EvW.one {g : Nat → Option (Int × Bool)} (hg : ∀ k, g (k + 1) = some (1, false)) : EvW g 1 := ⟨false, Ev.of hg⟩
theorem char_end (s : ByteArray) (i n least point j : Nat) (h : n < j) (hn : n ≤ 3) (hp : point < 100000000) (hj : j ≤ 10) :
  EvW (fun k => r1_Char.l0 k s (i : Int) (n : Int) (least : Int) (point : Int) (j : Int)) (if point < least ∨ 1114111 < point ∨ (55296 ≤ point ∧ point ≤ 57343) then 1 else 1 + n) := by
 by_cases h1 : point < least
 ·rw [if_pos (.inl h1)]
  exact EvW.one (fun k => by rw [r1_Char.l0, if_neg (by omega), if_pos (by omega)])
 ·by_cases h2 : 1114111 < point
  ·rw [if_pos (.inr (.inl h2))]
   exact EvW.one (fun k => by rw [r1_Char.l0, if_neg (by omega), if_neg (by omega), if_pos (by omega)])
  ·by_cases h3 : 55296 ≤ point
   ·by_cases h4 : point ≤ 57343
    ·rw [if_pos (.inr (.inr ⟨h3, h4⟩))]
     exact EvW.one (fun k => by rw [r1_Char.l0, if_neg (by omega), if_neg (by omega), if_neg (by omega), if_pos (by omega), if_pos (by omega)])
    ·rw [if_neg (by omega)]
     exact ⟨true, Ev.of (fun k => by rw [r1_Char.l0, if_neg (by omega), if_neg (by omega), if_neg (by omega), if_pos (by omega), if_neg (by omega), w64 (by omega) (by omega)]; simp)⟩
   ·rw [if_neg (by omega)]
    exact ⟨true, Ev.of (fun k => by rw [r1_Char.l0, if_neg (by omega), if_neg (by omega), if_neg (by omega), if_neg (by omega), w64 (by omega) (by omega)]; simp)⟩
theorem char_step (s : ByteArray) (i n least point j w : Nat) (h : j ≤ n) (hn : n ≤ 3) (hs : s.size ≤ 1000000000000) (hi : i + j < s.size) (hp : point < 1000000)
  (hw : byteN s (i + j) / 64 = 2 → EvW (fun k => r1_Char.l0 k s (i : Int) (n : Int) (least : Int) ((point * 64 + byteN s (i + j) % 64 : Nat) : Int) ((j + 1 : Nat) : Int)) w) (h1 : ¬ byteN s (i + j) / 64 = 2 → w = 1) :
  EvW (fun k => r1_Char.l0 k s (i : Int) (n : Int) (least : Int) (point : Int) (j : Int)) w := by
 have hb := byteN_lt s (i + j)
 have e0 : wrap64 ((i : Int) + (j : Int)) = ((i + j : Nat) : Int) := by rw [w64 (by omega) (by omega)]; simp
 have eb := bt_byteN s (i + j) hi
 generalize byteN s (i + j) = b at *
 by_cases c1 : b < 128
 ·have := h1 (by omega)
  subst this
  exact EvW.one (fun k => by rw [r1_Char.l0, if_pos (by omega), e0, if_pos (by omega), if_pos (by omega), eb, if_pos (by omega)])
 ·by_cases c2 : 192 ≤ b
  ·have := h1 (by omega)
   subst this
   exact EvW.one (fun k => by rw [r1_Char.l0, if_pos (by omega), e0, if_pos (by omega), if_pos (by omega), eb, if_neg (by omega), if_pos (by omega)])
  ·refine (hw (by omega)).step (fun k => ?_)
   rw [r1_Char.l0, if_pos (by omega), e0, if_pos (by omega), if_pos (by omega), eb, if_neg (by omega), if_neg (by omega), w64 (n := (point : Int) * 64) (by omega) (by omega), w64 (n := (b : Int)) (by omega) (by omega), w64 (n := (point : Int) * 64 + (b : Int)) (by omega) (by omega), w64 (n := (point : Int) * 64 + (b : Int) - 128) (by omega) (by omega), w64 (n := (j : Int) + 1) (by omega) (by omega)]
   rw [show ((point : Int) * 64 + (b : Int) - 128) = ((point * 64 + b % 64 : Nat) : Int) by omega, show ((j : Int) + 1) = ((j + 1 : Nat) : Int) by omega]
theorem follows_ev (c : Nat) (hc : c < 256) : Ev (fun k => r1_follows.f k (c : Int)) (if c < 128 then ((0 : Int), (0 : Int), (c : Int)) else if c / 32 = 6 then (1, 128, ((c % 32 : Nat) : Int)) else if c / 16 = 14 then (2, 2048, ((c % 16 : Nat) : Int)) else if c / 8 = 30 then (3, 65536, ((c % 8 : Nat) : Int)) else (-1, 0, 0)) := by
 have e0 : wrap64 (c : Int) = c := w64 (by omega) (by omega)
 by_cases h0 : c < 128
 ·rw [if_pos h0]
  exact Ev.const (fun k => by rw [r1_follows.f, if_pos (by omega), e0])
 ·rw [if_neg h0]
  have hj1 : ∀ b, Ev (fun k => r1_follows.j1 k (c : Int) b) (if b = true then ((2 : Int), (2048 : Int), wrap64 (wrap64 (c : Int) - 224)) else if c / 8 = 30 then (3, 65536, ((c % 8 : Nat) : Int)) else (-1, 0, 0)) := by
   intro b
   refine Ev.of (fun k => ?_)
   rw [r1_follows.j1]
   cases b with
   | true => rw [if_pos rfl, if_pos rfl]
   | false =>
    simp only [Bool.false_eq_true, if_false]
    by_cases h1 : c / 8 = 30
    ·rw [if_pos (by omega), if_pos (by omega), if_pos h1, e0, w64 (by omega) (by omega), show (c : Int) - 240 = ((c % 8 : Nat) : Int) by omega]
    ·rw [if_neg h1]
     by_cases h2 : (c : Int) ≥ 240
     ·rw [if_pos h2, if_neg (by omega)]
     ·rw [if_neg h2]
  have hj0 : ∀ b, (b = true → c / 32 = 6) → (b = false → ¬ c / 32 = 6) → Ev (fun k => r1_follows.j0 k (c : Int) b) (if c / 32 = 6 then ((1 : Int), (128 : Int), ((c % 32 : Nat) : Int)) else if c / 16 = 14 then (2, 2048, ((c % 16 : Nat) : Int)) else if c / 8 = 30 then (3, 65536, ((c % 8 : Nat) : Int)) else (-1, 0, 0)) := by
   intro b ht hf
   cases b with
   | true =>
    have h6 := ht rfl
    rw [if_pos h6]
    refine Ev.of (fun k => ?_)
    rw [r1_follows.j0, if_pos rfl, e0, w64 (by omega) (by omega), show (c : Int) - 192 = ((c % 32 : Nat) : Int) by omega]
   | false =>
    have h6 := hf rfl
    rw [if_neg h6]
    by_cases h14 : c / 16 = 14
    ·rw [if_pos h14]
     have := hj1 true
     rw [if_pos rfl, e0, w64 (by omega) (by omega), show (c : Int) - 224 = ((c % 16 : Nat) : Int) by omega] at this
     refine this.step (fun k => ?_)
     rw [r1_follows.j0, if_neg (by simp), if_pos (by omega), show decide ((c : Int) < 240) = true by rw [decide_eq_true_eq]; omega]
    ·rw [if_neg h14]
     have := hj1 false
     rw [if_neg (by simp)] at this
     refine this.step (fun k => ?_)
     rw [r1_follows.j0, if_neg (by simp)]
     by_cases h2 : (c : Int) ≥ 224
     ·rw [if_pos h2, show decide ((c : Int) < 240) = false by rw [decide_eq_false_iff_not]; omega]
     ·rw [if_neg h2]
  by_cases h1 : (c : Int) ≥ 192
  ·refine (hj0 (decide ((c : Int) < 224)) (fun h => by have := of_decide_eq_true h; omega) (fun h => by have := of_decide_eq_false h; omega)).cong (fun k => ?_)
   rw [r1_follows.f, if_neg (by omega), if_pos h1]
  ·refine (hj0 false (fun h => by cases h) (fun _ => by omega)).cong (fun k => ?_)
   rw [r1_follows.f, if_neg (by omega), if_neg h1]
theorem char_begin (s : ByteArray) (i n least point w : Nat) (hn : n ≤ 3) (hs : s.size ≤ 1000000000000) (hi : i < s.size) (h1 : s.size ≤ i + n → w = 1) (h2 : i + n < s.size → EvW (fun k => r1_Char.l0 k s (i : Int) (n : Int) (least : Int) (point : Int) 1) w) :
  EvW (fun k => r1_Char.j0 k s (i : Int) (n : Int) (least : Int) (point : Int) (decide (wrap64 ((i : Int) + (n : Int)) ≥ (s.size : Int)))) w := by
 rw [w64 (by omega) (by omega)]
 by_cases h : s.size ≤ i + n
 ·have := h1 h
  subst this
  exact EvW.one (fun k => by rw [r1_Char.j0, if_pos (by simp; omega)])
 ·exact (h2 (by omega)).step (fun k => by rw [r1_Char.j0, if_neg (by simp; omega)])
theorem EvW.bind {f : Nat → Option (Int × Int × Int)} {r : Int × Int × Int} {g : Nat → Int × Int × Int → Option (Int × Bool)} {w : Nat} (h : Ev f r) (h2 : EvW (fun k => g k r) w) : EvW (fun k => (f k).bind (g k)) w := by
 obtain ⟨ok, h2⟩ := h2
 exact ⟨ok, Ev.bind h h2⟩
theorem EvW.cong {f g : Nat → Option (Int × Bool)} {w : Nat} (h : EvW f w) (hg : ∀ k, g k = f k) : EvW g w := by
 obtain ⟨ok, h⟩ := h
 exact ⟨ok, h.cong hg⟩
theorem char_ev (s : ByteArray) (i : Nat) (hs : s.size ≤ 1000000000000) (hi : i < s.size) : EvW (fun k => r1_Char.f k s (i : Int)) (Utf8.decode s i).2 := by
 rw [decode_width s i hi]
 have h0 := byteN_lt s i
 refine EvW.cong (f := fun k => (r1_follows.f k (byteN s i : Int)).bind fun bt441 => (if bt441.1 < 0 then (r1_Char.j0 k s (i : Int) bt441.1 bt441.2.1 bt441.2.2 true) else (r1_Char.j0 k s (i : Int) bt441.1 bt441.2.1 bt441.2.2 (decide ((wrap64 ((i : Int) + bt441.1)) ≥ (s.size : Int)))))) ?_ (fun k => by rw [r1_Char.f, if_pos (by omega), if_pos (by omega), bt_byteN s i hi])
 refine EvW.bind (g := fun k bt441 => (if bt441.1 < 0 then (r1_Char.j0 k s (i : Int) bt441.1 bt441.2.1 bt441.2.2 true) else (r1_Char.j0 k s (i : Int) bt441.1 bt441.2.1 bt441.2.2 (decide ((wrap64 ((i : Int) + bt441.1)) ≥ (s.size : Int)))))) (follows_ev (byteN s i) h0) ?_
 generalize hb0 : byteN s i = b0 at *
 unfold widthOf
 by_cases c0 : b0 < 128
 ·rw [if_pos c0, if_pos c0]
  have h := char_begin s i 0 0 b0 1 (by omega) hs hi (fun _ => rfl) (fun _ => by
   have := char_end s i 0 0 b0 1 (by omega) (by omega) (by omega) (by omega)
   rw [if_neg (by omega)] at this
   exact this)
  exact h.cong (fun k => by rw [if_neg (by simp)]; rfl)
 ·rw [if_neg c0, if_neg c0]
  by_cases c1 : b0 / 32 = 6
  ·rw [if_pos c1]
   have h := char_begin s i 1 128 (b0 % 32) (if b0 / 32 = 6 ∧ 1 < s.size - i ∧ byteN s (i + 1) / 64 = 2 then (if (b0 % 32) * 64 + byteN s (i + 1) % 64 ≥ 128 then 2 else 1) else 1) (by omega) hs hi (fun h => if_neg (by omega)) (fun h => by
    refine char_step s i 1 128 (b0 % 32) 1 _ (by omega) (by omega) hs h (by omega) (fun hc => ?_) (fun hc => if_neg (by omega))
    have := char_end s i 1 128 ((b0 % 32) * 64 + byteN s (i + 1) % 64) 2 (by omega) (by omega) (by omega) (by omega)
    have hb := byteN_lt s (i + 1)
    rw [if_pos ⟨c1, by omega, hc⟩]
    by_cases hp : (b0 % 32) * 64 + byteN s (i + 1) % 64 ≥ 128
    ·rw [if_pos hp]; rw [if_neg (by omega)] at this; exact this
    ·rw [if_neg hp]; rw [if_pos (by omega)] at this; exact this)
   have e : (if b0 / 32 = 6 ∧ 1 < s.size - i ∧ byteN s (i + 1) / 64 = 2 then (if (b0 % 32) * 64 + byteN s (i + 1) % 64 ≥ 128 then 2 else 1) else if b0 / 16 = 14 ∧ 1 < s.size - i ∧ byteN s (i + 1) / 64 = 2 ∧ 2 < s.size - i ∧ byteN s (i + 2) / 64 = 2 then (if (b0 % 16) * 4096 + (byteN s (i + 1) % 64) * 64 + byteN s (i + 2) % 64 ≥ 2048 ∧ ((b0 % 16) * 4096 + (byteN s (i + 1) % 64) * 64 + byteN s (i + 2) % 64 < 55296 ∨ 57344 ≤ (b0 % 16) * 4096 + (byteN s (i + 1) % 64) * 64 + byteN s (i + 2) % 64) then 3 else 1) else if b0 / 8 = 30 ∧ 1 < s.size - i ∧ byteN s (i + 1) / 64 = 2 ∧ 2 < s.size - i ∧ byteN s (i + 2) / 64 = 2 ∧ 3 < s.size - i ∧ byteN s (i + 3) / 64 = 2 then (if (b0 % 8) * 262144 + (byteN s (i + 1) % 64) * 4096 + (byteN s (i + 2) % 64) * 64 + byteN s (i + 3) % 64 ≥ 65536 ∧ (b0 % 8) * 262144 + (byteN s (i + 1) % 64) * 4096 + (byteN s (i + 2) % 64) * 64 + byteN s (i + 3) % 64 ≤ 1114111 then 4 else 1) else 1) = (if b0 / 32 = 6 ∧ 1 < s.size - i ∧ byteN s (i + 1) / 64 = 2 then (if (b0 % 32) * 64 + byteN s (i + 1) % 64 ≥ 128 then 2 else 1) else 1) := by
    rw [if_neg (c := b0 / 16 = 14 ∧ _) (by omega), if_neg (c := b0 / 8 = 30 ∧ _) (by omega)]
   rw [e]
   exact h.cong (fun k => by rw [if_neg (by simp)]; rfl)
  ·rw [if_neg c1, if_neg (c := b0 / 32 = 6 ∧ _) (by omega)]
   by_cases c2 : b0 / 16 = 14
   ·rw [if_pos c2, if_neg (c := b0 / 8 = 30 ∧ _) (by omega)]
    have hb1 := byteN_lt s (i + 1)
    have hb2 := byteN_lt s (i + 2)
    have h := char_begin s i 2 2048 (b0 % 16) (if b0 / 16 = 14 ∧ 1 < s.size - i ∧ byteN s (i + 1) / 64 = 2 ∧ 2 < s.size - i ∧ byteN s (i + 2) / 64 = 2 then (if (b0 % 16) * 4096 + (byteN s (i + 1) % 64) * 64 + byteN s (i + 2) % 64 ≥ 2048 ∧ ((b0 % 16) * 4096 + (byteN s (i + 1) % 64) * 64 + byteN s (i + 2) % 64 < 55296 ∨ 57344 ≤ (b0 % 16) * 4096 + (byteN s (i + 1) % 64) * 64 + byteN s (i + 2) % 64) then 3 else 1) else 1) (by omega) hs hi (fun h => if_neg (by omega)) (fun h => by
     refine char_step s i 2 2048 (b0 % 16) 1 _ (by omega) (by omega) hs (by omega) (by omega) (fun hc => ?_) (fun hc => if_neg (by omega))
     refine char_step s i 2 2048 _ 2 _ (by omega) (by omega) hs h (by omega) (fun hc2 => ?_) (fun hc => if_neg (by omega))
     have := char_end s i 2 2048 (((b0 % 16) * 64 + byteN s (i + 1) % 64) * 64 + byteN s (i + 2) % 64) 3 (by omega) (by omega) (by omega) (by omega)
     rw [if_pos ⟨c2, by omega, hc, by omega, hc2⟩]
     rw [show (b0 % 16) * 4096 + (byteN s (i + 1) % 64) * 64 + byteN s (i + 2) % 64 = ((b0 % 16) * 64 + byteN s (i + 1) % 64) * 64 + byteN s (i + 2) % 64 by omega]
     have hpb : ((b0 % 16) * 64 + byteN s (i + 1) % 64) * 64 + byteN s (i + 2) % 64 < 65536 := by omega
     generalize ((b0 % 16) * 64 + byteN s (i + 1) % 64) * 64 + byteN s (i + 2) % 64 = p at *
     by_cases hp : p ≥ 2048 ∧ (p < 55296 ∨ 57344 ≤ p)
     ·rw [if_pos hp]; rw [if_neg (by omega)] at this; exact this
     ·rw [if_neg hp]; rw [if_pos (by omega)] at this; exact this)
    exact h.cong (fun k => by rw [if_neg (by simp)]; rfl)
   ·rw [if_neg c2, if_neg (c := b0 / 16 = 14 ∧ _) (by omega)]
    by_cases c3 : b0 / 8 = 30
    ·rw [if_pos c3]
     have hb1 := byteN_lt s (i + 1)
     have hb2 := byteN_lt s (i + 2)
     have hb3 := byteN_lt s (i + 3)
     have h := char_begin s i 3 65536 (b0 % 8) (if b0 / 8 = 30 ∧ 1 < s.size - i ∧ byteN s (i + 1) / 64 = 2 ∧ 2 < s.size - i ∧ byteN s (i + 2) / 64 = 2 ∧ 3 < s.size - i ∧ byteN s (i + 3) / 64 = 2 then (if (b0 % 8) * 262144 + (byteN s (i + 1) % 64) * 4096 + (byteN s (i + 2) % 64) * 64 + byteN s (i + 3) % 64 ≥ 65536 ∧ (b0 % 8) * 262144 + (byteN s (i + 1) % 64) * 4096 + (byteN s (i + 2) % 64) * 64 + byteN s (i + 3) % 64 ≤ 1114111 then 4 else 1) else 1) (by omega) hs hi (fun h => if_neg (by omega)) (fun h => by
      refine char_step s i 3 65536 (b0 % 8) 1 _ (by omega) (by omega) hs (by omega) (by omega) (fun hc => ?_) (fun hc => if_neg (by omega))
      refine char_step s i 3 65536 _ 2 _ (by omega) (by omega) hs (by omega) (by omega) (fun hc2 => ?_) (fun hc => if_neg (by omega))
      refine char_step s i 3 65536 _ 3 _ (by omega) (by omega) hs h (by omega) (fun hc3 => ?_) (fun hc => if_neg (by omega))
      have := char_end s i 3 65536 ((((b0 % 8) * 64 + byteN s (i + 1) % 64) * 64 + byteN s (i + 2) % 64) * 64 + byteN s (i + 3) % 64) 4 (by omega) (by omega) (by omega) (by omega)
      rw [if_pos ⟨c3, by omega, hc, by omega, hc2, by omega, hc3⟩]
      rw [show (b0 % 8) * 262144 + (byteN s (i + 1) % 64) * 4096 + (byteN s (i + 2) % 64) * 64 + byteN s (i + 3) % 64 = (((b0 % 8) * 64 + byteN s (i + 1) % 64) * 64 + byteN s (i + 2) % 64) * 64 + byteN s (i + 3) % 64 by omega]
      generalize (((b0 % 8) * 64 + byteN s (i + 1) % 64) * 64 + byteN s (i + 2) % 64) * 64 + byteN s (i + 3) % 64 = p at *
      by_cases hp : p ≥ 65536 ∧ p ≤ 1114111
      ·rw [if_pos hp]; rw [if_neg (by omega)] at this; exact this
      ·rw [if_neg hp]; rw [if_pos (by omega)] at this; exact this)
     exact h.cong (fun k => by rw [if_neg (by simp)]; rfl)
    ·rw [if_neg c3, if_neg (by omega)]
     exact EvW.one (fun k => by rw [if_pos (by simp), r1_Char.j0, if_pos rfl])
def pieces (s : ByteArray) : Nat → Nat → List ByteArray
 | 0, _ => []
 | f + 1, pos => if pos < s.size then s.extract pos (pos + (Utf8.decode s pos).2) :: pieces s f (pos + (Utf8.decode s pos).2) else []
theorem chars_l0 (s : ByteArray) (hs : s.size ≤ 1000000) : ∀ (b pos : Nat) (acc : List ByteArray), s.size ≤ pos + b → pos ≤ s.size → acc.length + (s.size - pos) ≤ 1000000 → Ev (fun k => r1_Chars.l0 k s acc (pos : Int)) (acc ++ pieces s b pos)
 | 0, pos, acc, hb, hp, ha => Ev.of (fun k => by rw [r1_Chars.l0, if_neg (by omega), pieces, List.append_nil])
 | b + 1, pos, acc, hb, hp, ha => by
  by_cases h : pos < s.size
  ·obtain ⟨g1, g2⟩ := width_pos s pos h
   obtain ⟨ok, hc⟩ := char_ev s pos (by omega) h
   have ih := chars_l0 s hs b (pos + (Utf8.decode s pos).2) (acc ++ [s.extract pos (pos + (Utf8.decode s pos).2)]) (by omega) g2 (by rw [List.length_append, List.length_singleton]; omega)
   have h3 := Ev.bind (g := fun k (bt : Int × Bool) => r1_Chars.l0 k s (acc ++ [s.extract pos (pos + (Utf8.decode s pos).2)]) ((pos + (Utf8.decode s pos).2 : Nat) : Int)) hc ih
   rw [pieces, if_pos h, show acc ++ s.extract pos (pos + (Utf8.decode s pos).2) :: pieces s b (pos + (Utf8.decode s pos).2) = acc ++ [s.extract pos (pos + (Utf8.decode s pos).2)] ++ pieces s b (pos + (Utf8.decode s pos).2) by simp]
   have h4 := Ev.bind (g := fun k (bt444 : Int × Bool) => (if 0 ≤ (pos : Int) then (if (pos : Int) ≤ (wrap64 ((pos : Int) + bt444.1)) then (if (wrap64 ((pos : Int) + bt444.1)) ≤ (s.size : Int) then (if acc.length < 8796093022208 then (r1_Chars.l0 k s (acc ++ [s.extract (pos : Int).toNat ((wrap64 ((pos : Int) + bt444.1)) : Int).toNat]) (wrap64 ((pos : Int) + bt444.1))) else (none)) else (none)) else (none)) else (none))) hc (s := acc ++ [s.extract pos (pos + (Utf8.decode s pos).2)] ++ pieces s b (pos + (Utf8.decode s pos).2)) (by
    refine ih.cong (fun k => ?_)
    have e : wrap64 ((pos : Int) + ((Utf8.decode s pos).2 : Int)) = ((pos + (Utf8.decode s pos).2 : Nat) : Int) := by rw [w64 (by omega) (by omega)]; simp
    simp only [e, Int.toNat_natCast]
    rw [if_pos (by omega), if_pos (by omega), if_pos (by omega), if_pos (by omega)])
   exact h4.step (fun k => by rw [r1_Chars.l0, if_pos (by omega)])
  ·rw [pieces, if_neg h, List.append_nil]
   exact Ev.of (fun k => by rw [r1_Chars.l0, if_neg (by omega)])
theorem chars_ev (s : ByteArray) (hs : s.size ≤ 1000000) : Ev (fun k => r1_Chars.f k s) (pieces s s.size 0) := by
 have h := chars_l0 s hs s.size 0 [] (by omega) (Nat.zero_le _) (by simp; omega)
 rw [List.nil_append] at h
 exact h
theorem charsL_pieces (s : ByteArray) : ∀ (b pos : Nat) (n : Int), charsL s b pos n = n + ((pieces s b pos).length : Int)
 | 0, pos, n => by simp [charsL, pieces]
 | b + 1, pos, n => by
  rw [charsL, pieces]
  by_cases h : pos < s.size
  ·rw [if_pos h, if_pos h, charsL_pieces s b, List.length_cons]; omega
  ·rw [if_neg h, if_neg h]; simp
theorem backL_pieces (s : ByteArray) : ∀ (b pos : Nat) (R : List UInt8), backL s b pos R = ((pieces s b pos).reverse.map (fun p => p.data.toList)).flatten ++ R
 | 0, pos, R => by simp [backL, pieces]
 | b + 1, pos, R => by
  rw [backL, pieces]
  by_cases h : pos < s.size
  ·rw [if_pos h, if_pos h, backL_pieces s b, List.reverse_cons, List.map_append, List.flatten_append, List.map_singleton, List.flatten_singleton, extract_list, Nat.add_sub_cancel_left, List.append_assoc]
  ·rw [if_neg h, if_neg h]; simp
theorem join_list : ∀ (l : List ByteArray) (acc : ByteArray), (l.foldl (fun a b => a ++ b) acc).data.toList = acc.data.toList ++ (l.map (fun p => p.data.toList)).flatten
 | [], acc => by simp
 | p :: l, acc => by rw [List.foldl_cons, join_list l, List.map_cons, List.flatten_cons]; simp
theorem back_join (s : ByteArray) : ((pieces s s.size 0).reverse.foldl (fun a b => a ++ b) ⟨#[]⟩) = backOf s := by
 have h := join_list (pieces s s.size 0).reverse ⟨#[]⟩
 have h2 := backL_pieces s s.size 0 []
 rw [List.append_nil] at h2
 rw [← h2] at h
 rw [backOf]
 generalize (pieces s s.size 0).reverse.foldl (fun a b => a ++ b) ⟨#[]⟩ = q at *
 cases q with
 | mk d =>
  congr 1
  apply Array.toList_inj.1
  simpa using h
theorem texts_l0 (P : List ByteArray) (hP : P.length ≤ 1000000) : ∀ (m : Nat) (acc : ByteArray), m ≤ P.length → acc.size + ((P.take m).map (fun p => p.size)).sum ≤ 1000000 → Ev (fun k => r1_texts.l0 k P acc ((m : Int) - 1)) ((2 : Int), (0 : Int), ((P.take m).reverse.foldl (fun a b => a ++ b) acc), true)
 | 0, acc, hm, ha => Ev.of (fun k => by rw [r1_texts.l0, if_neg (by omega)]; rfl)
 | m + 1, acc, hm, ha => by
  have hlt : m < P.length := by omega
  have e : rdOf ByteArray.empty P (m : Int) = P[m] := by simp [rdOf, List.getD_eq_getElem?_getD, List.getElem?_eq_getElem hlt]
  have et : P.take (m + 1) = P.take m ++ [P[m]] := by rw [List.take_add_one, List.getElem?_eq_getElem hlt]; rfl
  rw [et, List.map_append, List.sum_append, List.map_singleton, List.sum_singleton] at ha
  have ih := texts_l0 P hP m (acc ++ P[m]) (by omega) (by rw [ByteArray.size_append]; omega)
  rw [et, List.reverse_append, List.reverse_singleton, List.singleton_append, List.foldl_cons]
  refine ih.step (fun k => ?_)
  rw [show (((m + 1 : Nat) : Int) - 1) = (m : Int) by omega, r1_texts.l0, if_pos (by omega), if_pos (by omega), if_pos (by omega), e, if_pos (by omega), w64 (by omega) (by omega)]
theorem pieces_sum (s : ByteArray) : ∀ (b pos : Nat), pos ≤ s.size → ((pieces s b pos).map (fun p => p.size)).sum + pos ≤ s.size ∧ (pieces s b pos).length + pos ≤ s.size
 | 0, pos, h => by simp [pieces]; omega
 | b + 1, pos, h => by
  rw [pieces]
  by_cases h1 : pos < s.size
  ·obtain ⟨g1, g2⟩ := width_pos s pos h1
   obtain ⟨i1, i2⟩ := pieces_sum s b (pos + (Utf8.decode s pos).2) g2
   rw [if_pos h1, List.map_cons, List.sum_cons, List.length_cons, extract_size s pos _ (by omega) g2]
   omega
  ·rw [if_neg h1]; simp; omega
theorem texts_ev (op : Int) (h8 : 8 ≤ op) (h10 : op ≤ 10) (s : ByteArray) (hs : s.size ≤ 1000000) : Ev (fun k => r1_texts.f k op s) (if op = 8 then ((1 : Int), (s.size : Int), (⟨#[]⟩ : ByteArray), true) else if op = 9 then (1, charsL s s.size 0 0, ⟨#[]⟩, true) else (2, 0, backOf s, true)) := by
 have hc := chars_ev s hs
 have hsum := pieces_sum s s.size 0 (Nat.zero_le _)
 by_cases c8 : op = 8
 ·rw [if_pos c8]
  exact Ev.const (fun k => by rw [r1_texts.f, if_pos c8])
 ·rw [if_neg c8]
  by_cases c9 : op = 9
  ·rw [if_pos c9, charsL_pieces, Int.zero_add]
   have := Ev.of_bind (g := fun t : List ByteArray => some ((1 : Int), (t.length : Int), (⟨#[]⟩ : ByteArray), true)) hc rfl
   exact this.cong (fun k => by rw [r1_texts.f, if_neg c8, if_pos c9])
  ·rw [if_neg c9, ← back_join]
   have h0 := texts_l0 (pieces s s.size 0) (by omega) (pieces s s.size 0).length ⟨#[]⟩ (Nat.le_refl _) (by
    rw [List.take_of_length_le (Nat.le_refl _)]
    have : (⟨#[]⟩ : ByteArray).size = 0 := rfl
    omega)
   rw [List.take_of_length_le (Nat.le_refl _)] at h0
   have := Ev.bind (g := fun k (t : List ByteArray) => r1_texts.l0 k t (⟨#[]⟩ : ByteArray) (wrap64 ((t.length : Int) - 1))) hc (by
    rw [w64 (by omega) (by omega)]
    exact h0)
   exact this.cong (fun k => by rw [r1_texts.f, if_neg c8, if_neg c9])
abbrev zeroR : Int × Int × ByteArray × Bool := (0, 0, ⟨#[]⟩, false)
abbrev InRange (l : List S26) : Prop := ∀ v ∈ l, -9223372036854775808 ≤ v.f1 ∧ v.f1 ≤ 9223372036854775807
theorem arith_j2 (op : Int) (l : List S26) (h : ¬ (8 ≤ op ∧ op ≤ 10)) : Ev (fun k => r1_Arith.j2 k op l false) zeroR := by
 refine Ev.of (fun k => ?_)
 rw [r1_Arith.j2, if_neg (by simp)]
 by_cases h8 : op ≥ 8
 ·rw [if_pos h8, if_neg (by omega)]
 ·rw [if_neg h8]
theorem arith_j1 (op : Int) (l : List S26) (r : Int × Int × ByteArray × Bool) (h7 : op ≠ 7) (h : Ev (fun k => r1_Arith.j2 k op l false) r) : Ev (fun k => r1_Arith.j1 k op l false) r :=
 h.step (fun k => by rw [r1_Arith.j1, if_neg (by simp), if_neg h7])
theorem arith_j0 (op : Int) (l : List S26) (r : Int × Int × ByteArray × Bool) (h26 : ¬ (2 ≤ op ∧ op ≤ 6)) (h : Ev (fun k => r1_Arith.j1 k op l false) r) : Ev (fun k => r1_Arith.j0 k op l false) r := by
 refine h.step (fun k => ?_)
 rw [r1_Arith.j0, if_neg (by simp)]
 by_cases h2 : op ≥ 2
 ·rw [if_pos h2, if_neg (by omega)]
 ·rw [if_neg h2]
theorem fitsV_kinds (how : Int) (n : Nat) (kd : Int) (l : List S26) (h0 : how ≠ 0) (hn : (if how = 2 ∨ how = 4 then 2 else 1) = n) (hk : (if how = 4 ∨ how = 3 then (2 : Int) else 1) = kd) : fitsV how l = (decide ((l.length : Int) = (n : Int)) && l.all (fun v => decide (v.f0 = kd) && valueOk v)) := by
 rw [fitsV, if_neg h0, hn, hk]
 congr 1
 rw [decide_eq_decide]
 omega
theorem rd_mem (l : List S26) (i : Nat) (h : i < l.length) : rd_T26 l (i : Int) ∈ l := by
 show l.getD (i : Int).toNat z26 ∈ l
 rw [Int.toNat_natCast, List.getD_eq_getElem?_getD, List.getElem?_eq_getElem h]
 exact List.getElem_mem _
set_option maxHeartbeats 1000000 in
theorem arith_ev (op : Int) (l : List S26) (hr : InRange l) : Ev (fun k => r1_Arith.f k op l) (arithV op l) := by
 have hl1 : ∀ how, fitsV how l = true → (how = 1 ∨ how = 3) → l.length = 1 := fun how h hw => by have := xbi h; rw [if_neg (by omega)] at this; exact this
 have hl2 : ∀ how, fitsV how l = true → (how = 2 ∨ how = 4) → l.length = 2 := fun how h hw => by have := xbi h; rw [if_pos hw] at this; exact this
 by_cases c1 : op = 1
 ·subst c1
  have hk := kinds_ev 1 1 (by omega) l
  have hf := fitsV_kinds 1 1 1 l (by decide) (by decide) (by decide)
  have hh : howOf 1 = 1 := rfl
  refine Ev.cong (f := fun k => (r1_kinds.f k l 1 1).bind fun t458 => (r1_Arith.j0 k 1 l t458)) ?_ (fun k => by rw [r1_Arith.f, if_pos rfl])
  refine Ev.bind (g := fun k t458 => r1_Arith.j0 k 1 l t458) hk ?_
  rw [show ((1 : Nat) : Int) = 1 from rfl] at hf
  rw [← hf]
  cases hb : fitsV 1 l with
  | false => rw [xbf (op := 1) hb]; exact arith_j0 1 l _ (by omega) (arith_j1 1 l _ (by omega) (arith_j2 1 l (by omega)))
  | true =>
   have := hl1 1 hb (.inl rfl)
   rw [arithV, if_neg (xbe (op := 1) (by decide) (by decide) hb), if_pos rfl]
   exact Ev.of (fun k => by rw [r1_Arith.j0, if_pos rfl, if_pos (by omega)]; rfl)
 ·refine Ev.cong (f := fun k => r1_Arith.j0 k op l false) ?_ (fun k => by rw [r1_Arith.f, if_neg c1])
  by_cases c26 : 2 ≤ op ∧ op ≤ 6
  ·have hk := kinds_ev 2 1 (by omega) l
   have hf := fitsV_kinds 2 2 1 l (by decide) (by decide) (by decide)
   rw [show ((2 : Nat) : Int) = 2 from rfl] at hf
   have hh : howOf op = 2 := by unfold howOf; rw [if_neg c1, if_pos c26]
   have h3 : Ev (fun k => (r1_kinds.f k l 2 1).bind fun t460 => (r1_Arith.j1 k op l t460)) (arithV op l) := by
    refine Ev.bind (g := fun k t460 => r1_Arith.j1 k op l t460) hk ?_
    rw [← hf]
    cases hb : fitsV 2 l with
    | false => rw [xbf (op := op) (by rw [hh]; exact hb)]; exact arith_j1 op l _ (by omega) (arith_j2 op l (by omega))
    | true =>
     have hlen := hl2 2 hb (.inl rfl)
     have hx := hr _ (rd_mem l 0 (by omega))
     have hy := hr _ (rd_mem l 1 (by omega))
     have key : r1_numbers.f op (rd_T26 l 0).f1 (rd_T26 l 1).f1 = some (arithV op l) := by
      rw [arithV, if_neg (xbe (op := op) (by omega) (by omega) (by rw [hh]; exact hb)), if_neg c1]
      show r1_numbers.f op (rd_T26 l 0).f1 (rd_T26 l 1).f1 = some (if op = 2 then (1, wrap64 ((rd_T26 l 0).f1 + (rd_T26 l 1).f1), ⟨#[]⟩, true) else if op = 3 then (1, wrap64 ((rd_T26 l 0).f1 - (rd_T26 l 1).f1), ⟨#[]⟩, true) else if op = 4 then (1, wrap64 ((rd_T26 l 0).f1 * (rd_T26 l 1).f1), ⟨#[]⟩, true) else if op = 5 ∨ op = 6 then (if (rd_T26 l 1).f1 = 0 then (0, 0, ⟨#[]⟩, false) else (1, (if op = 5 then wrap64 ((rd_T26 l 0).f1.tdiv (rd_T26 l 1).f1) else (rd_T26 l 0).f1.tmod (rd_T26 l 1).f1), ⟨#[]⟩, true)) else _)
      generalize (rd_T26 l 0).f1 = a at *
      generalize (rd_T26 l 1).f1 = b at *
      rw [r1_numbers.f]
      by_cases o2 : op = 2
      ·rw [if_pos o2, if_pos o2]
      ·rw [if_neg o2, if_neg o2]
       by_cases o3 : op = 3
       ·rw [if_pos o3, if_pos o3]
       ·rw [if_neg o3, if_neg o3]
        by_cases o4 : op = 4
        ·rw [if_pos o4, if_pos o4]
        ·rw [if_neg o4, if_neg o4, if_pos (show op = 5 ∨ op = 6 by omega)]
         by_cases hb0 : b = 0
         ·rw [if_pos hb0, if_pos hb0]
         ·rw [if_neg hb0, if_neg hb0, quotient_eq a b hb0]
          by_cases o5 : op = 5
          ·simp [o5]
          ·obtain ⟨t, ht⟩ := wrap_add (a.tdiv b)
           have hrest := rest_eq a b (wrap64 (a.tdiv b)) hx ⟨t, ht⟩
           simp [o5, hrest]
     refine Ev.of (fun k => ?_)
     rw [r1_Arith.j1, if_pos rfl, if_pos (by omega), if_pos (by omega), key]
     rfl
   refine h3.step (fun k => ?_)
   rw [r1_Arith.j0, if_neg (by simp), if_pos (by omega), if_pos (by omega)]
  ·refine arith_j0 op l _ c26 ?_
   by_cases c7 : op = 7
   ·subst c7
    have hk := kinds_ev 2 2 (by omega) l
    have hf := fitsV_kinds 4 2 2 l (by decide) (by decide) (by decide)
    rw [show ((2 : Nat) : Int) = 2 from rfl] at hf
    have hh : howOf 7 = 4 := rfl
    have h3 : Ev (fun k => (r1_kinds.f k l 2 2).bind fun t467 => (r1_Arith.j2 k 7 l t467)) (arithV 7 l) := by
     refine Ev.bind (g := fun k t467 => r1_Arith.j2 k 7 l t467) hk ?_
     rw [← hf]
     cases hb : fitsV 4 l with
     | false => rw [xbf (op := 7) hb]; exact arith_j2 7 l (by omega)
     | true =>
      have hlen := hl2 4 hb (.inr rfl)
      have hx := fits_size hb _ (rd_mem l 0 (by omega))
      have hy := fits_size hb _ (rd_mem l 1 (by omega))
      have key : arithV 7 l = (if (((rd_T26 l 0).f2 ++ (rd_T26 l 1).f2).size : Int) > 200 then (0, 0, ⟨#[]⟩, false) else (2, 0, (rd_T26 l 0).f2 ++ (rd_T26 l 1).f2, true)) := by
       rw [arithV, if_neg (xbe (op := 7) (by decide) (by decide) hb)]
       rfl
      rw [key]
      refine Ev.of (fun k => ?_)
      rw [r1_Arith.j2, if_pos rfl, if_pos (by omega), if_pos (by omega), if_pos (by have := hx; have := hy; simp at *; omega)]
      split <;> rfl
    exact h3.step (fun k => by rw [r1_Arith.j1, if_neg (by simp), if_pos rfl])
   ·refine arith_j1 op l _ c7 ?_
    by_cases c8 : 8 ≤ op ∧ op ≤ 10
    ·have hk := kinds_ev 1 2 (by omega) l
     have hf := fitsV_kinds 3 1 2 l (by decide) (by decide) (by decide)
     rw [show ((1 : Nat) : Int) = 1 from rfl] at hf
     have hh : howOf op = 3 := by unfold howOf; rw [if_neg c1, if_neg c26, if_neg c7, if_pos c8]
     have h3 : Ev (fun k => (r1_kinds.f k l 1 2).bind fun t470 => (if t470 = true then (if 0 < (l.length : Int) then ((r1_texts.f k op ((rd_T26 l 0).f2)).bind fun bt472 => (some (bt472.1, bt472.2.1, bt472.2.2.1, bt472.2.2.2))) else (none)) else (some (0, 0, (⟨#[]⟩ : ByteArray), false)))) (arithV op l) := by
      refine Ev.bind (g := fun k t470 => (if t470 = true then (if 0 < (l.length : Int) then ((r1_texts.f k op ((rd_T26 l 0).f2)).bind fun bt472 => (some (bt472.1, bt472.2.1, bt472.2.2.1, bt472.2.2.2))) else (none)) else (some (0, 0, (⟨#[]⟩ : ByteArray), false)))) hk ?_
      rw [← hf]
      cases hb : fitsV 3 l with
      | false => rw [xbf (op := op) (by rw [hh]; exact hb)]; exact Ev.const (fun k => by rw [if_neg (by simp)])
      | true =>
       have hlen := hl1 3 hb (.inr rfl)
       have hx := fits_size hb _ (rd_mem l 0 (by omega))
       have ht := texts_ev op c8.1 c8.2 (rd_T26 l 0).f2 (by have := hx; simp at *; omega)
       have h4 := Ev.of_bind (g := fun bt472 : Int × Int × ByteArray × Bool => some (bt472.1, bt472.2.1, bt472.2.2.1, bt472.2.2.2)) ht rfl
       have key : arithV op l = (if op = 8 then ((1 : Int), ((rd_T26 l 0).f2.size : Int), (⟨#[]⟩ : ByteArray), true) else if op = 9 then (1, charsL (rd_T26 l 0).f2 (rd_T26 l 0).f2.size 0 0, ⟨#[]⟩, true) else (2, 0, backOf (rd_T26 l 0).f2, true)) := by
        have hbk : ((backOf (rd_T26 l 0).f2).size : Int) ≤ 200 := by
         have := backL_len (rd_T26 l 0).f2 (rd_T26 l 0).f2.size 0 [] (Nat.zero_le _) rfl (by omega)
         have h5 : (backOf (rd_T26 l 0).f2).size = (rd_T26 l 0).f2.size := by show ((backL (rd_T26 l 0).f2 (rd_T26 l 0).f2.size 0 []).toArray).size = _; rw [List.size_toArray]; exact this
         have := hx
         simp at *
         omega
        rw [arithV, if_neg (xbe (op := op) (by omega) (by omega) (by rw [hh]; exact hb)), if_neg c1, if_neg (by omega), if_neg (by omega), if_neg (by omega), if_neg (by omega), if_neg c7]
        show (if op = 8 then ((1 : Int), ((rd_T26 l 0).f2.size : Int), (⟨#[]⟩ : ByteArray), true) else if op = 9 then (1, charsL (rd_T26 l 0).f2 (rd_T26 l 0).f2.size 0 0, ⟨#[]⟩, true) else (if ((backOf (rd_T26 l 0).f2).size : Int) > 200 then (0, 0, ⟨#[]⟩, false) else (2, 0, backOf (rd_T26 l 0).f2, true))) = _
        rw [if_neg (c := ((backOf (rd_T26 l 0).f2).size : Int) > 200) (by omega)]
       rw [key]
       exact h4.cong (fun k => by rw [if_pos rfl, if_pos (by omega)])
     refine h3.step (fun k => ?_)
     rw [r1_Arith.j2, if_neg (by simp), if_pos (by omega), if_pos (by omega)]
    ·have hno : arithV op l = zeroR := by
      by_cases ho : op < 0 ∨ 11 ≤ op
      ·rw [arithV, if_pos]
       rcases ho with h | h
       ·exact .inl h
       ·exact .inr (.inl h)
      ·obtain rfl : op = 0 := by omega
       exact xbf (op := 0) rfl
     rw [hno]
     exact arith_j2 op l c8
def boundV (bs : List S41) (s : ByteArray) : S26 := ((bs.find? (fun b => b.f0.data.toList == s.data.toList)).map (fun b => b.f1)).getD z26
def cellsV (v : S26) : Value := .agg #[.int .i8 v.f0, .int .i64 v.f1, .string v.f2]
def lookV (bs : List S41) : List UInt8 → Option Value := fun q => (bs.find? (fun b => b.f0.data.toList == q)).map (fun b => cellsV b.f1)
theorem lookV_get (bs : List S41) (s : ByteArray) : (lookV bs s.data.toList).getD (cellsV z26) = cellsV (boundV bs s) := by
 unfold lookV boundV
 cases bs.find? (fun b => b.f0.data.toList == s.data.toList) <;> rfl
def asV (r : Int × Int × ByteArray × Bool) : S26 := ⟨r.1, r.2.1, r.2.2.1⟩
def evalN (bs : List S41) : Nat → S31 → Int × Int × ByteArray × Bool
 | 0, _ => (0, 0, ⟨#[]⟩, false)
 | n + 1, x => if x.f0 = 0 then (if x.f1.f0.toList = [] then (x.f1.f1.f0, x.f1.f1.f1, x.f1.f1.f2, true) else if valueOk (boundV bs x.f1.f0) then ((boundV bs x.f1.f0).f0, (boundV bs x.f1.f0).f1, (boundV bs x.f1.f0).f2, true) else (0, 0, ⟨#[]⟩, false))
  else if x.f2.all (fun k => (evalN bs n k).2.2.2) then arithV x.f0 (x.f2.map (fun k => asV (evalN bs n k))) else (0, 0, ⟨#[]⟩, false)
def ReadyE : Nat → S31 → Prop
 | 0, _ => False
 | n + 1, x => x.f1.f0.size ≤ 140737488351232 ∧ -128 ≤ x.f0 ∧ x.f0 ≤ 127 ∧ x.f2.length ≤ 2 ∧ ∀ k ∈ x.f2, ReadyE n k
abbrev EvalC (bs : List S41) (n : Nat) (x : S31) : Prop := ∀ (A : Option Addr) (c : Nat) (w : World) (b N : Nat), Kd.C k31 w A x.f2.length x.f2 → x.f2.length ≤ c → SMap Tryd.prog 9 w b N (lookV bs) → TabA w →
  Calls Tryd.prog 53 #[.agg #[.int .i8 x.f0, .string x.f1.f0, .int .i8 x.f1.f1.f0, .int .i64 x.f1.f1.f1, .string x.f1.f1.f2, .slice A x.f2.length c], .map (some b)] w fun e w' => e = .returned (.tuple #[.agg #[.int .i8 (evalN bs n x).1, .int .i64 (evalN bs n x).2.1, .string (evalN bs n x).2.2.1], .bool (evalN bs n x).2.2.2]) ∧ Below w.heap.size w w'
theorem SMap.below {P : Program} {k : TypeId} {w w' : World} {b n : Nat} {f : List UInt8 → Option Value} (h : SMap P k w b n f) (hb : Below w.heap.size w w') : SMap P k w' b n f := h.move (hb.block b h.lt)
theorem zero_value (w : World) : (zeroValue 26).run Tryd.prog w = .ok (cellsV z26) w := by kernel_rfl
set_option maxHeartbeats 4000000 in
set_option maxRecDepth 100000 in
theorem eval_term (bs : List S41) (n : Nat) (x : S31) (hx : ReadyE (n + 1) x) (h0 : x.f0 = 0) : EvalC bs (n + 1) x := by
 intro A c w b N hr hc hM hT
 obtain ⟨hsz, _, _, _, _⟩ := hx
 have hd : (x.f0 == 0) = true := by simp [h0]
 have HH := Lib.hid h0
 clear h0
 have HM := Lib.hid hM
 have HBX := fun cs : Array Value => xab (xab (Below.refl w.heap.size w) (.cells #[.int .i8 x.f0, .string x.f1.f0, .int .i8 x.f1.f1.f0, .int .i64 x.f1.f1.f1, .string x.f1.f1.f2, .slice A x.f2.length c] 31 (0, 0))) (.cells cs 26 (0, 0))
 have HKX : ∀ cs : Array Value, ((w.alloc (.cells #[.int .i8 x.f0, .string x.f1.f0, .int .i8 x.f1.f1.f0, .int .i64 x.f1.f1.f1, .string x.f1.f1.f2, .slice A x.f2.length c] 31 (0, 0))).alloc (.cells cs 26 (0, 0))).heap[w.heap.size + 1]? = some (.cells cs 26 (0, 0)) := by
  intro cs
  have := xaz (w.alloc (.cells #[.int .i8 x.f0, .string x.f1.f0, .int .i8 x.f1.f1.f0, .int .i64 x.f1.f1.f1, .string x.f1.f1.f2, .slice A x.f2.length c] 31 (0, 0))) (.cells cs 26 (0, 0))
  simpa using this
 have HBY := Lib.hid HBX
 have HKY := Lib.hid HKX
 clear HBX HKX hM hr hT
 by_cases h1 : x.f1.f0.toList = []
 ·have hres : evalN bs (n + 1) x = (x.f1.f1.f0, x.f1.f1.f1, x.f1.f1.f2, true) := by rw [evalN, if_pos HH.out, if_pos h1]
  rw [hres]
  have hd1 : decide (x.f1.f0.toList = []) = true := decide_eq_true h1
  go_enter Tryd.func53, Tryd.ntmps53
  go_wp2_with fail
  refine bodyPost_ret (xat rfl _ _ (w.heap.size + 1) 26 #[.int .i8 x.f1.f1.f0, .int .i64 x.f1.f1.f1, .string x.f1.f1.f2] (0, 0) _ rfl (HKY.out _) Tryd.underlying26 rfl (by kernel_rfl)) rfl ?_
  exact ⟨rfl, HBY.out _⟩
 ·have hd1 : decide (x.f1.f0.toList = []) = false := decide_eq_false h1
  have hd2 : (x.f1.f0.toList == []) = false := by simpa using h1
  have hres : evalN bs (n + 1) x = (if valueOk (boundV bs x.f1.f0) then ((boundV bs x.f1.f0).f0, (boundV bs x.f1.f0).f1, (boundV bs x.f1.f0).f2, true) else (0, 0, ⟨#[]⟩, false)) := by rw [evalN, if_pos HH.out, if_neg h1]
  generalize hrs : evalN bs (n + 1) x = res at *
  have HRS := Lib.hid hres
  clear hres hrs
  obtain ⟨q, hq, hv⟩ := valueOk_tot (boundV bs x.f1.f0)
  have HQ := Lib.hid hq
  have HV := Lib.hid hv
  have hlook := SMap.look (t := 99) (e := 26) (SMap.below HM.out (HBY.out #[.int .i8 0, .int .i64 0, .string ⟨#[]⟩])) Tryd.underlying9 (by kernel_rfl) (zero_value _) x.f1.f0 (by unfold maxLen; omega)
  rw [lookV_get, cellsV] at hlook
  generalize boundV bs x.f1.f0 = v at *
  have HLK := Lib.hid hlook
  clear hq hv
  go_enter Tryd.func53, Tryd.ntmps53
  have HC1 := Lib.hid (xad (HKY.out #[.int .i8 0, .int .i64 0, .string ⟨#[]⟩]) (.cells #[.int .i8 v.f0, .int .i64 v.f1, .string v.f2] 26 (0, 0)))
  have HC2 := Lib.hid (show (((w.alloc (.cells #[.int .i8 x.f0, .string x.f1.f0, .int .i8 x.f1.f1.f0, .int .i64 x.f1.f1.f1, .string x.f1.f1.f2, .slice A x.f2.length c] 31 (0, 0))).alloc (.cells #[.int .i8 0, .int .i64 0, .string ⟨#[]⟩] 26 (0, 0))).alloc (.cells #[.int .i8 v.f0, .int .i64 v.f1, .string v.f2] 26 (0, 0))).heap[w.heap.size + 2]? = some (.cells #[.int .i8 v.f0, .int .i64 v.f1, .string v.f2] 26 (0, 0)) by
   have := xaz ((w.alloc (.cells #[.int .i8 x.f0, .string x.f1.f0, .int .i8 x.f1.f1.f0, .int .i64 x.f1.f1.f1, .string x.f1.f1.f2, .slice A x.f2.length c] 31 (0, 0))).alloc (.cells #[.int .i8 0, .int .i64 0, .string ⟨#[]⟩] 26 (0, 0))) (.cells #[.int .i8 v.f0, .int .i64 v.f1, .string v.f2] 26 (0, 0))
   simpa [Nat.add_assoc] using this)
  have HCB := Lib.hid (xab (HBY.out #[.int .i8 0, .int .i64 0, .string ⟨#[]⟩]) (.cells #[.int .i8 v.f0, .int .i64 v.f1, .string v.f2] 26 (0, 0)))
  go_wp2_with fail
  simp only [Nat.add_assoc, Nat.reduceAdd]
  clear HKY HBY HLK hlook
  generalize ((w.alloc (.cells #[.int .i8 x.f0, .string x.f1.f0, .int .i8 x.f1.f1.f0, .int .i64 x.f1.f1.f1, .string x.f1.f1.f2, .slice A x.f2.length c] 31 (0, 0))).alloc (.cells #[.int .i8 0, .int .i64 0, .string ⟨#[]⟩] 26 (0, 0))).alloc (.cells #[.int .i8 v.f0, .int .i64 v.f1, .string v.f2] 26 (0, 0)) = wc at *
  refine (value_Check.calls v.f0 v.f1 v.f2 q wc HQ.out).mono ?_
  rintro e w2 ⟨rfl, hb⟩
  have HB2 := Lib.hid (xai HCB.out hb)
  have HC3 := Lib.hid (xan HC1.out hb)
  have HC4 := Lib.hid (xan HC2.out hb)
  clear hb HC1 HC2 HCB
  by_cases hq0 : q = 0
  ·have hq1 : (q == 0) = true := by simp [hq0]
   have HRE := Lib.hid (HRS.out.trans (if_pos (by rw [HV.out]; exact hq1)))
   subst hq0
   have z0 : w2.cell? ⟨w.heap.size + 1, 0, none⟩ = some (.int .i8 0) := (xaj HC3.out 0).trans rfl
   have zf0 := xam HC3.out 0
   have z1 : w2.cell? ⟨w.heap.size + 1, 1, none⟩ = some (.int .i64 0) := (xaj HC3.out 1).trans rfl
   have zf1 := xam HC3.out 1
   have z2 : w2.cell? ⟨w.heap.size + 1, 2, none⟩ = some (.string ⟨#[]⟩) := (xaj HC3.out 2).trans rfl
   have zf2 := xam HC3.out 2
   have y0 : w2.cell? ⟨w.heap.size + 2, 0, none⟩ = some (.int .i8 v.f0) := (xaj HC4.out 0).trans rfl
   have yf0 := xam HC4.out 0
   have y1 : w2.cell? ⟨w.heap.size + 2, 1, none⟩ = some (.int .i64 v.f1) := (xaj HC4.out 1).trans rfl
   have yf1 := xam HC4.out 1
   have y2 : w2.cell? ⟨w.heap.size + 2, 2, none⟩ = some (.string v.f2) := (xaj HC4.out 2).trans rfl
   have yf2 := xam HC4.out 2
   go_wp2_with fail
   refine bodyPost_ret (xat rfl _ _ (w.heap.size + 1) 26 #[.int .i8 v.f0, .int .i64 v.f1, .string v.f2] (0, 0) _ rfl (put3 HC3.out) Tryd.underlying26 rfl (by kernel_rfl)) rfl ?_
   exact ⟨by rw [HRE.out]; rfl, below3 HB2.out (Nat.le_succ _) _ _ _⟩
  ·have hq1 : (q == 0) = false := by simpa using hq0
   have HRE := Lib.hid (HRS.out.trans (if_neg (by rw [HV.out, hq1]; simp)))
   have z0 : w2.cell? ⟨w.heap.size + 1, 0, none⟩ = some (.int .i8 0) := (xaj HC3.out 0).trans rfl
   have zf0 := xam HC3.out 0
   have z1 : w2.cell? ⟨w.heap.size + 1, 1, none⟩ = some (.int .i64 0) := (xaj HC3.out 1).trans rfl
   have zf1 := xam HC3.out 1
   have z2 : w2.cell? ⟨w.heap.size + 1, 2, none⟩ = some (.string ⟨#[]⟩) := (xaj HC3.out 2).trans rfl
   have zf2 := xam HC3.out 2
   go_wp2_with fail
   refine bodyPost_ret (xat rfl _ _ (w.heap.size + 1) 26 #[.int .i8 0, .int .i64 0, .string ⟨#[]⟩] (0, 0) _ rfl (put3 HC3.out) Tryd.underlying26 rfl (by kernel_rfl)) rfl ?_
   exact ⟨by rw [HRE.out]; rfl, below3 HB2.out (Nat.le_succ _) _ _ _⟩
theorem kE_eval {bs : List S41} {n : Nat} {x : S31} (hC : EvalC bs n x) {w : World} {cs : Array Value} {b N : Nat} (h : k31.K w x cs.toList) (hM : SMap Tryd.prog 9 w b N (lookV bs)) (hT : TabA w) :
  Calls Tryd.prog 53 #[.agg cs, .map (some b)] w fun e w' => e = .returned (.tuple #[.agg #[.int .i8 (evalN bs n x).1, .int .i64 (evalN bs n x).2.1, .string (evalN bs n x).2.2.1], .bool (evalN bs n x).2.2.2]) ∧ Below w.heap.size w w' := by
 obtain ⟨B, d, he, hd, hD⟩ := k31_open h
 obtain rfl : cs = _ := by rw [← Array.toArray_toList (xs := cs), he]
 exact hC B d w b N hD hd hM hT
theorem all_snd {α : Type} (p : α → Bool) (l : List α) (z : α) (k : Nat) (hk : k < l.length) : (l.take (k + 1)).all p = ((l.take k).all p && p (l.getD k z)) := by
 rw [List.take_add_one, List.getElem?_eq_getElem hk, List.all_append]
 simp [List.getD_eq_getElem?_getD, List.getElem?_eq_getElem hk]
theorem map_snd {α β : Type} (p : α → β) (l : List α) (z : α) (k : Nat) (hk : k < l.length) : (l.take (k + 1)).map p = (l.take k).map p ++ [p (l.getD k z)] := by
 rw [List.take_add_one, List.getElem?_eq_getElem hk, List.map_append]
 simp [List.getD_eq_getElem?_getD, List.getElem?_eq_getElem hk]
theorem all_not {α : Type} (p : α → Bool) (l : List α) (z : α) (k : Nat) (hk : k < l.length) (h : p (l.getD k z) = false) : l.all p = false := by
 have h2 : p l[k] = false := by rw [← h]; simp [List.getD_eq_getElem?_getD, List.getElem?_eq_getElem hk]
 exact List.all_eq_false.2 ⟨l[k], List.getElem_mem hk, by rw [h2]; simp⟩
set_option maxHeartbeats 4000000 in
set_option maxRecDepth 100000 in
theorem eval_op (bs : List S41) (n : Nat) (x : S31) (hx : ReadyE (n + 1) x) (h0 : x.f0 ≠ 0) (hC : Hid (∀ k, k < x.f2.length → EvalC bs n (x.f2.getD k z31))) : EvalC bs (n + 1) x := by
 intro A c w b N hr hc hM hT
 obtain ⟨_, hr1, hr2, hlen, _⟩ := hx
 have hd : (x.f0 == 0) = false := by simpa using h0
 have HE := Lib.hid (show evalN bs (n + 1) x = (if x.f2.all (fun k => (evalN bs n k).2.2.2) then arithV x.f0 (x.f2.map (fun k => asV (evalN bs n k))) else (0, 0, ⟨#[]⟩, false)) by rw [evalN, if_neg h0])
 have hm : x.f2.length ≤ 9223372036854775807 := hr.2.1
 have HRG := Lib.hid (And.intro hr1 hr2)
 clear h0 hr1 hr2
 have HBa := Lib.hid (xab (xab (Below.refl w.heap.size w) (.cells #[.int .i8 x.f0, .string x.f1.f0, .int .i8 x.f1.f1.f0, .int .i64 x.f1.f1.f1, .string x.f1.f1.f2, .slice A x.f2.length c] 31 (0, 0))) (.cells #[.int .i8 0, .int .i64 0, .string ⟨#[]⟩] 26 (0, 0)))
 have HKB := Lib.hid (xan (xaz w (.cells #[.int .i8 x.f0, .string x.f1.f0, .int .i8 x.f1.f1.f0, .int .i64 x.f1.f1.f1, .string x.f1.f1.f2, .slice A x.f2.length c] 31 (0, 0))) (xab (Below.refl _ _) (.cells #[.int .i8 0, .int .i64 0, .string ⟨#[]⟩] 26 (0, 0))))
 have HKZ := Lib.hid (show ((w.alloc (.cells #[.int .i8 x.f0, .string x.f1.f0, .int .i8 x.f1.f1.f0, .int .i64 x.f1.f1.f1, .string x.f1.f1.f2, .slice A x.f2.length c] 31 (0, 0))).alloc (.cells #[.int .i8 0, .int .i64 0, .string ⟨#[]⟩] 26 (0, 0))).heap[w.heap.size + 1]? = some (.cells #[.int .i8 0, .int .i64 0, .string ⟨#[]⟩] 26 (0, 0)) by
  have := xaz (w.alloc (.cells #[.int .i8 x.f0, .string x.f1.f0, .int .i8 x.f1.f1.f0, .int .i64 x.f1.f1.f1, .string x.f1.f1.f2, .slice A x.f2.length c] 31 (0, 0))) (.cells #[.int .i8 0, .int .i64 0, .string ⟨#[]⟩] 26 (0, 0))
  simpa using this)
 have HR := Lib.hid (Kd.C_below hr HBa.out)
 have HM := Lib.hid (SMap.below hM HBa.out)
 have HT := Lib.hid (hT.below HBa.out)
 generalize hres : evalN bs (n + 1) x = res at *
 clear hres
 clear hr hM hT
 have hi1 : (Tryd.prog.info? 31).map (·.size) = some 6 := by kernel_rfl
 go_enter Tryd.func53, Tryd.ntmps53
 go_wp2_with fail
 generalize (w.alloc (.cells #[.int .i8 x.f0, .string x.f1.f0, .int .i8 x.f1.f1.f0, .int .i64 x.f1.f1.f1, .string x.f1.f1.f2, .slice A x.f2.length c] 31 (0, 0))).alloc (.cells #[.int .i8 0, .int .i64 0, .string ⟨#[]⟩] 26 (0, 0)) = wa at *
 go_loopw [7, 35] (fun v i wr => ∃ k : Nat, k ≤ x.f2.length ∧ i = .int .i64 k ∧ Hid ((x.f2.take k).all (fun q => (evalN bs n q).2.2.2) = true) ∧ Hid (Kd.R k26 26 wr wa.heap.size (fun _ => True) v ((x.f2.take k).map (fun q => asV (evalN bs n q)))) ∧ Hid (Below wa.heap.size wa wr)) (fun _ i _ => x.f2.length - (intOf i).toNat)
 case atStart => exact ⟨0, Nat.zero_le _, rfl, Lib.hid rfl, Lib.hid (Kd.R_nil _ _ _ _ _), Lib.hid (Below.refl _ _)⟩
 case round =>
  obtain ⟨k, hk, rfl, HP, HO, HB⟩ := hrel
  by_cases hlt : k < x.f2.length
  ·obtain ⟨ad, cs, e0, hsz, hK, hcell⟩ := C_row (Kd.C_below HR.out HB.out) z31 k hlt
   subst e0
   have HKE := Lib.hid hK
   have HCELL := Lib.hid hcell
   have hsz' : cs.size = 6 := hsz
   have hix : (Tryd.prog.info? 31).map (·.size) = some cs.size := by rw [hsz']; exact hi1
   have hone := K_ones hK
   have HCK := Lib.hid (hC.out k hlt)
   have HS := Lib.hid (all_snd (fun q => (evalN bs n q).2.2.2) x.f2 z31 k hlt)
   have HMS := Lib.hid (map_snd (fun q => asV (evalN bs n q)) x.f2 z31 k hlt)
   have HNA := Lib.hid (all_not (fun q => (evalN bs n q).2.2.2) x.f2 z31 k hlt)
   clear hK hcell
   generalize x.f2.getD k z31 = y at *
   have HVL := Lib.hid (show ((x.f2.take k).map (fun q => asV (evalN bs n q))).length ≤ 2 by rw [List.length_map, List.length_take]; omega)
   generalize (x.f2.take k).map (fun q => asV (evalN bs n q)) = vals at *
   have HZ := Lib.hid (xaz wr (.cells #[.int .i8 0, .string ⟨#[]⟩, .int .i8 0, .int .i64 0, .string ⟨#[]⟩, .slice none 0 0] 31 (0, 0)))
   have HZ2 := Lib.hid (row_new wr #[.int .i8 0, .string ⟨#[]⟩, .int .i8 0, .int .i64 0, .string ⟨#[]⟩, .slice none 0 0] cs 31)
   have HZ3 := Lib.hid (below_row wr #[.int .i8 0, .string ⟨#[]⟩, .int .i8 0, .int .i64 0, .string ⟨#[]⟩, .slice none 0 0] cs 31)
   go_wp2_with first | ((with_reducible refine xar (N := 38) rfl ?_); (refine wpList_load_at rfl 31 (.tmp 37) rfl (ad.add (k * 6)) rfl cs _ HCELL.out Tryd.underlying31 rfl hix ?_)) | ((with_reducible refine xbm (t := 31) (p := 9) rfl ?_); (refine wpList_store_row rfl 31 (.tmp 9) (.tmp 38) rfl wr.heap.size cs rfl rfl 31 #[.int .i8 0, .string ⟨#[]⟩, .int .i8 0, .int .i64 0, .string ⟨#[]⟩, .slice none 0 0] HZ.out hix (by rw [hsz']; rfl) hone ?_)) | ((with_reducible refine xar (N := 40) rfl ?_); (refine wpList_load_row rfl 31 (.tmp 9) rfl wr.heap.size rfl 31 cs (0, 0) _ HZ2.out Tryd.underlying31 rfl hix ?_))
   generalize ((wr.alloc (.cells #[.int .i8 0, .string ⟨#[]⟩, .int .i8 0, .int .i64 0, .string ⟨#[]⟩, .slice none 0 0] 31 (0, 0))).setRow wr.heap.size cs) = w2 at *
   clear HZ HZ2
   have HB2 := Lib.hid (xai HB.out HZ3.out)
   refine (kE_eval HCK.out (k31.K_below HZ3.out HKE.out) (SMap.below HM.out HB2.out) (HT.out.below HB2.out)).mono ?_
   rintro e w3 ⟨rfl, hb⟩
   have HB3 := Lib.hid (xai HB2.out hb)
   have HO3 := Lib.hid (Kd.R_below HO.out (xai HZ3.out hb))
   obtain ⟨Av, cv, hv⟩ := Kd.R_slice HO.out
   subst hv
   clear hb HO HB2 HZ3
   have HO4 := Lib.hid (Kd.R_alloc HO3.out (.cells #[.int .i8 (evalN bs n y).1, .int .i64 (evalN bs n y).2.1, .string (evalN bs n y).2.2.1] 26 (0, 0)))
   have HB4 := Lib.hid (xab HB3.out (.cells #[.int .i8 (evalN bs n y).1, .int .i64 (evalN bs n y).2.1, .string (evalN bs n y).2.2.1] 26 (0, 0)))
   have HSZ := Lib.hid (show (w3.alloc (.cells #[.int .i8 (evalN bs n y).1, .int .i64 (evalN bs n y).2.1, .string (evalN bs n y).2.2.1] 26 (0, 0))).heap.size = w3.heap.size + 1 by simp)
   cases hok : (evalN bs n y).2.2.2 with
   | false =>
    have HRE := Lib.hid (show res = (0, 0, ⟨#[]⟩, false) by rw [HE.out, if_neg (by rw [HNA.out hok]; simp)])
    have HKD := Lib.hid (xan HKZ.out HB4.out)
    have z0 : (w3.alloc (.cells #[.int .i8 (evalN bs n y).1, .int .i64 (evalN bs n y).2.1, .string (evalN bs n y).2.2.1] 26 (0, 0))).cell? ⟨w.heap.size + 1, 0, none⟩ = some (.int .i8 0) := (xaj HKD.out 0).trans rfl
    have zf0 := xam HKD.out 0
    have z1 : (w3.alloc (.cells #[.int .i8 (evalN bs n y).1, .int .i64 (evalN bs n y).2.1, .string (evalN bs n y).2.2.1] 26 (0, 0))).cell? ⟨w.heap.size + 1, 1, none⟩ = some (.int .i64 0) := (xaj HKD.out 1).trans rfl
    have zf1 := xam HKD.out 1
    have z2 : (w3.alloc (.cells #[.int .i8 (evalN bs n y).1, .int .i64 (evalN bs n y).2.1, .string (evalN bs n y).2.2.1] 26 (0, 0))).cell? ⟨w.heap.size + 1, 2, none⟩ = some (.string ⟨#[]⟩) := (xaj HKD.out 2).trans rfl
    have zf2 := xam HKD.out 2
    go_wp2_with fail
    refine bodyPost_ret (xat rfl _ _ (w.heap.size + 1) 26 #[.int .i8 0, .int .i64 0, .string ⟨#[]⟩] (0, 0) _ rfl (put3 HKD.out) Tryd.underlying26 rfl (by kernel_rfl)) rfl ?_
    exact ⟨by rw [HRE.out]; rfl, below3 (xai HBa.out HB4.out) (Nat.le_succ _) _ _ _⟩
   | true =>
    have HP1 := Lib.hid (show (x.f2.take (k + 1)).all (fun q => (evalN bs n q).2.2.2) = true by rw [HS.out, HP.out, hok]; rfl)
    go_wp2_with (at_builtin; go_loud (refine Kd.R_append k26 (w0 := wa) (W := (w3.alloc (.cells #[.int .i8 (evalN bs n y).1, .int .i64 (evalN bs n y).2.1, .string (evalN bs n y).2.2.1] 26 (0, 0)))) wa.heap.size rfl (.tmp 48) (.tmp 50) 47 26 (.agg #[.int .i8 0, .int .i64 0, .string ⟨#[]⟩]) 32 rfl Tryd.underlying47 info26 rfl (by decide) (by decide) (.slice Av vals.length cv) vals (asV (evalN bs n y)) [.int .i8 (evalN bs n y).1, .int .i64 (evalN bs n y).2.1, .string (evalN bs n y).2.2.1] (fun _ => True) (fun _ => False) rfl (by rw [HSZ.out]; rfl) (k26_mkM _ _ _ (asV (evalN bs n y))) (fun _ h => h.elim) (fun _ _ => trivial) HO4.out HB4.out HB4.out.size (by have := HVL.out; omega) ?_); intro v1 w4 hR hB1 hG _; have HO5 := Lib.hid hR; have HB5 := Lib.hid hB1; clear hR hB1 hG)
    go_roundw
    case rel => exact ⟨k + 1, by omega, by go_num, HP1, Lib.hid (by rw [HMS.out]; exact HO5.out), HB5⟩
    case measure => simp [intOf]; omega
  ·have hall := HP.out
   rw [List.take_of_length_le (by omega)] at hall
   have hO := HO.out
   rw [List.take_of_length_le (by omega)] at hO
   have HRE := Lib.hid (show res = arithV x.f0 (x.f2.map (fun q => asV (evalN bs n q))) by rw [HE.out, if_pos hall])
   generalize x.f2.map (fun q => asV (evalN bs n q)) = vals at *
   obtain ⟨Av, cv, hv, hcv, hCv⟩ := Kd.R_reads hO
   subst hv
   have HKw := Lib.hid (xan HKB.out HB.out)
   have HKz := Lib.hid (xan HKZ.out HB.out)
   have b0 : wr.cell? ⟨w.heap.size, 0, none⟩ = some (.int .i8 x.f0) := (xaj HKw.out 0).trans rfl
   have HCV := Lib.hid hCv
   clear hall hO hCv HP HO
   go_wp2_with fail
   obtain ⟨r1, r2, r3, r4⟩ := res
   refine (value_Arith.calls x.f0 Av cv vals r1 r2 r3 r4 wr HCV.out hcv (by rw [value_Arith.f, if_pos HRG.out, ← HRE.out]) (HT.out.below HB.out)).mono ?_
   rintro e w3 ⟨rfl, hb⟩
   have HB3 := Lib.hid (xai HB.out hb)
   have HK3 := Lib.hid (xan HKz.out hb)
   clear hb b0
   have z0 : w3.cell? ⟨w.heap.size + 1, 0, none⟩ = some (.int .i8 0) := (xaj HK3.out 0).trans rfl
   have zf0 := xam HK3.out 0
   have z1 : w3.cell? ⟨w.heap.size + 1, 1, none⟩ = some (.int .i64 0) := (xaj HK3.out 1).trans rfl
   have zf1 := xam HK3.out 1
   have z2 : w3.cell? ⟨w.heap.size + 1, 2, none⟩ = some (.string ⟨#[]⟩) := (xaj HK3.out 2).trans rfl
   have zf2 := xam HK3.out 2
   go_wp2_with fail
   refine bodyPost_ret (xat rfl _ _ (w.heap.size + 1) 26 #[.int .i8 r1, .int .i64 r2, .string r3] (0, 0) _ rfl (put3 HK3.out) Tryd.underlying26 rfl (by kernel_rfl)) rfl ?_
   exact ⟨rfl, below3 (xai HBa.out HB3.out) (Nat.le_succ _) _ _ _⟩
theorem eval_all (bs : List S41) : ∀ (n : Nat) (x : S31), ReadyE n x → EvalC bs n x
 | 0, x, h => h.elim
 | n + 1, x, h => by
  by_cases h0 : x.f0 = 0
  ·exact eval_term bs n x h h0
  ·refine eval_op bs n x h h0 (Lib.hid (fun k hk => eval_all bs n _ (h.2.2.2.2 _ ?_)))
   simp [List.getD_eq_getElem?_getD, List.getElem?_eq_getElem hk]
end Go.Proofs.YtllcmggmcogokaaDoor.PAll
end
section
namespace Go.Proofs.YtllcmggmcogokaaDoor.PAll
open Go.RowKit Go.Proofs.YtllcmggmcogokaaDoorW.PrintWords Go.Proofs.YtllcmggmcogokaaDoorW.PrintLast Go.Proofs.YtllcmggmcogokaaDoorW.PrintMore
attribute [local go_sem] max2_int min2_int max_two min_two max_three min_three max_four min_four
attribute [local go_sem] Oper.semAt_some
abbrev BindOk := { x : Int × S41 // x.2.f0.size ≤ maxLen }
abbrev encB (x : BindOk) : Array Value := #[.int .i64 x.1.1, .agg #[.string x.1.2.f0, .int .i8 x.1.2.f1.f0, .int .i64 x.1.2.f1.f1, .string x.1.2.f1.f2]]
def uptoB (f : Nat → BindOk) (k : Nat) : List BindOk := (List.range k).map f
theorem uptoB_succ (f : Nat → BindOk) (k : Nat) : uptoB f (k + 1) = uptoB f k ++ [f k] := by simp [uptoB, List.range_succ]
theorem uptoB_length (f : Nat → BindOk) (k : Nat) : (uptoB f k).length = k := by simp [uptoB]
def backB (ls : List S41) (hall : ∀ i, (ls.getD i z41).f0.size ≤ maxLen) (k : Nat) : BindOk := ⟨(((ls.length - 1 - k : Nat) : Int), ls.getD (ls.length - 1 - k) z41), hall _⟩
set_option maxRecDepth 100000 in
set_option maxHeartbeats 2000000 in
theorem back1_in (F : Fence) (n : Nat) (hF : F.fn 99) (hro : F.round = none) (hn : 1 ≤ n) (l Bs : Nat) (ls : List S41) (A : Option Addr) (c : Nat) (hall : ∀ i, (ls.getD i z41).f0.size ≤ maxLen) (w0 : World) (hC0 : Kd.C k41 w0 A ls.length ls)
  (J Jx : List BindOk → World → Prop)
  (hY : ∀ pre x W, J pre W → pre.length < ls.length → YieldAt F (n - 1) Tryd.prog l (encB x) W fun e W' =>
   (e = .returned (.bool true) ∧ J (pre ++ [x]) W' ∧ (Below w0.heap.size W W' ∧ W'.heap[Bs]? = W.heap[Bs]?)) ∨ (e = .returned (.bool false) ∧ Jx (pre ++ [x]) W'))
  (W : World) (hBW : Below w0.heap.size w0 W) (hBs : W.heap[Bs]? = some (.cells #[.slice A ls.length c] 32 (0, 0))) (h0 : J [] W) :
  CallsIn F n Tryd.prog 99 #[.func (.yield l) #[] #[], .pointer (some ⟨Bs, 0, none⟩)] W fun e W' => (∃ v, e = .returned v) ∧
   ((∃ ys, ys = uptoB (backB ls hall) ls.length ∧ J ys W') ∨ (∃ pre, (∃ k, k ≤ ls.length ∧ pre = uptoB (backB ls hall) k) ∧ Jx pre W')) := by
 have hm : ls.length ≤ 9223372036854775807 := hC0.2.1
 have hbs : W.cell? ⟨Bs, 0, none⟩ = some (.slice A ls.length c) := (xaj hBs 0).trans rfl
 have HC := Lib.hid hC0
 have HBS := Lib.hid hBs
 clear hC0 hBs
 refine callsIn_of_wp Tryd.func99 rfl hF ?_ hro
 simp only [Tryd.ntmps99, List.size_toArray, List.length_cons, List.length_nil, Nat.reduceAdd, Nat.reduceSub, Array.replicate_succ, Array.replicate_zero, List.push_toArray, List.append_toArray, List.nil_append, List.cons_append]
 gi_wp2
 gi_loopw [3] (fun i wr => ∃ m : Nat, m ≤ ls.length ∧ i = .int .i64 ((m : Int) - 1) ∧ J (uptoB (backB ls hall) (ls.length - m)) wr ∧ Hid (Below w0.heap.size w0 wr) ∧ Hid (wr.heap[Bs]? = some (.cells #[.slice A ls.length c] 32 (0, 0)))) (fun i _ => (intOf i + 1).toNat)
 case atStart => exact ⟨ls.length, Nat.le_refl _, rfl, by rw [Nat.sub_self]; exact h0, Lib.hid hBW, HBS⟩
 case round =>
  clear HBS hbs hBW h0
  obtain ⟨m, hmk, rfl, hJs, HB, HBS⟩ := hrel
  have hbs : wr.cell? ⟨Bs, 0, none⟩ = some (.slice A ls.length c) := (xaj HBS.out 0).trans rfl
  cases m with
  | zero =>
   gi_wp2
   go_end0
   exact ⟨⟨_, rfl⟩, .inl ⟨_, rfl, hJs⟩⟩
  | succ j =>
   rw [show (((j + 1 : Nat) : Int) - 1) = (j : Int) by omega]
   obtain ⟨ad, rfl, g0, g1, g2, g3⟩ := at_T41 (Kd.C_below HC.out HB.out) (j : Int) (by omega) (by omega)
   rw [Int.toNat_natCast] at g0 g1 g2 g3
   have hx : encB (backB ls hall (ls.length - (j + 1))) = #[.int .i64 (j : Int), .agg #[.string (rd_T41 ls (j : Int)).f0, .int .i8 (rd_T41 ls (j : Int)).f1.f0, .int .i64 (rd_T41 ls (j : Int)).f1.f1, .string (rd_T41 ls (j : Int)).f1.f2]] := by
    have e : ls.length - 1 - (ls.length - (j + 1)) = j := by omega
    simp only [encB, backB, e, rd_T41, Int.toNat_natCast]
   obtain ⟨fn, tmps, assign, body, hy, hR⟩ := hY _ (backB ls hall (ls.length - (j + 1))) wr hJs (by rw [uptoB_length]; omega)
   rw [hx] at hy
   gi_wp2
   refine hR.mono ?_
   rintro e W3 (⟨rfl, hJ3, hk3, hk4⟩ | ⟨rfl, hJx3⟩)
   ·have HB3 := Lib.hid (HB.out.trans hk3)
    have HBS3 := Lib.hid (hk4.trans HBS.out)
    gi_wp2
    go_roundw
    case rel => exact ⟨j, by omega, by simp, by rw [show ls.length - j = ls.length - (j + 1) + 1 by omega, uptoB_succ]; exact hJ3, HB3, HBS3⟩
    case measure => simp [intOf]
   ·gi_wp2
    refine bodyPost_ret (results_none rfl _ _ _) rfl ?_
    exact ⟨⟨_, rfl⟩, .inr ⟨_, ⟨ls.length - (j + 1) + 1, by omega, (uptoB_succ _ _).symm⟩, hJx3⟩⟩
theorem back_stops (F : Fence) (n : Nat) (hF : F.fn 99) (hro : F.round = none) (hn : 1 ≤ n) (Bs : Nat) (ls : List S41) (A : Option Addr) (c : Nat) (hall : ∀ i, (ls.getD i z41).f0.size ≤ maxLen) (w0 : World) (hC0 : Kd.C k41 w0 A ls.length ls)
  (w : World) (hBW : Below w0.heap.size w0 w) (hBs : w.heap[Bs]? = some (.cells #[.slice A ls.length c] 32 (0, 0))) :
  SeqStopsK F n Tryd.prog 99 #[.pointer (some ⟨Bs, 0, none⟩)] encB (fun W W' => Below w0.heap.size W W' ∧ W'.heap[Bs]? = W.heap[Bs]?)
   (fun ys => ys = uptoB (backB ls hall) ls.length) (fun pre => ∃ k, k ≤ ls.length ∧ pre = uptoB (backB ls hall) k) ls.length w := fun l J Jx W hW _ _ hY h0 =>
 back1_in F n hF hro hn l Bs ls A c hall w0 hC0 J Jx hY W (xai hBW hW) (by rw [hW.block Bs (blk_lt hBs)]; exact hBs) h0
def putsV (pre : List BindOk) : List UInt8 → Option Value := pre.foldl (fun f x => fun q => if q = x.1.2.f0.data.toList then some (cellsV x.1.2.f1) else f q) (fun _ => none)
theorem putsV_snoc (pre : List BindOk) (x : BindOk) : putsV (pre ++ [x]) = fun q => if q = x.1.2.f0.data.toList then some (cellsV x.1.2.f1) else putsV pre q := by simp [putsV]
theorem putsV_back (ls : List S41) (hall : ∀ i, (ls.getD i z41).f0.size ≤ maxLen) : ∀ k, k ≤ ls.length → putsV (uptoB (backB ls hall) k) = lookV (ls.drop (ls.length - k))
 | 0, _ => by rw [Nat.sub_zero, List.drop_eq_nil_of_le (Nat.le_refl _)]; rfl
 | k + 1, h => by
  have hlt : ls.length - (k + 1) < ls.length := by omega
  rw [uptoB_succ, putsV_snoc, putsV_back ls hall k (by omega), List.drop_eq_getElem_cons hlt, show ls.length - (k + 1) + 1 = ls.length - k by omega]
  funext q
  have e : (backB ls hall k).1.2 = ls[ls.length - (k + 1)] := by
   show ls.getD (ls.length - 1 - k) z41 = _
   rw [show ls.length - 1 - k = ls.length - (k + 1) by omega, List.getD_eq_getElem?_getD, List.getElem?_eq_getElem hlt]
   rfl
  rw [e]
  unfold lookV
  rw [List.find?_cons]
  by_cases hq : q = ls[ls.length - (k + 1)].f0.data.toList
  ·rw [if_pos hq]
   have : (ls[ls.length - (k + 1)].f0.data.toList == q) = true := by simp [hq]
   rw [this]
   rfl
  ·rw [if_neg hq]
   have : (ls[ls.length - (k + 1)].f0.data.toList == q) = false := by simpa using fun h => hq h.symm
   rw [this]
set_option maxHeartbeats 1000000 in
theorem back_in (F : Fence) (n : Nat) (hF : F.fn 52) (hro : F.round = none) (a : Option Addr) (len cap : Nat) (w : World) :
  CallsIn F n Tryd.prog 52 #[.slice a len cap] w fun e w' => e = .returned (.func (.func 99) #[] #[.pointer (some ⟨w.heap.size, 0, none⟩)]) ∧ w' = w.alloc (.cells #[.slice a len cap] 32) := by
 have hmf : ∀ (fn : Fn) (first cap : Array Value) (w : World), (Instr.makeFunc fn first cap).run Tryd.prog w = .ok (.func fn first cap) w := fun _ _ _ _ => rfl
 refine callsIn_of_wp Tryd.func52 rfl hF ?_ hro
 simp only [Tryd.ntmps52, List.size_toArray, List.length_cons, List.length_nil, Nat.reduceAdd, Nat.reduceSub, Array.replicate_succ, Array.replicate_zero, List.push_toArray, List.append_toArray, List.nil_append, List.cons_append]
 gi_wp2
 go_ret
 exact ⟨rfl, rfl⟩
def evalTop (bs : List S41) (x : S31) : Int × Int × ByteArray × Bool := if deepB 8 x then evalN bs 8 x else (0, 0, ⟨#[]⟩, false)
set_option maxRecDepth 100000 in
set_option maxHeartbeats 2000000 in
theorem Eval_walk (x : S31) (bs : List S41) (hall : ∀ i, (bs.getD i z41).f0.size ≤ maxLen) (hrd : Hid (deepB 8 x = true → ReadyE 8 x)) (A1 : Option Addr) (c1 : Nat) (A2 : Option Addr) (c2 : Nat) (w : World) (hr1 : Kd.C k31 w A1 x.f2.length x.f2) (hc1 : x.f2.length ≤ c1) (hr2 : Kd.C k41 w A2 bs.length bs) (hc2 : bs.length ≤ c2) (hT : TabA w)
  (res : Int × Int × ByteArray × Bool) (HR : Hid (evalTop bs x = res)) :
  Calls Tryd.prog 10 #[.agg #[.int .i8 x.f0, .string x.f1.f0, .int .i8 x.f1.f1.f0, .int .i64 x.f1.f1.f1, .string x.f1.f1.f2, .slice A1 x.f2.length c1], .slice A2 bs.length c2] w fun e w' => e = .returned (.tuple #[.agg #[.int .i8 res.1, .int .i64 res.2.1, .string res.2.2.1], .bool res.2.2.2]) ∧ Below w.heap.size w w' := by
 have hmm := @run_makeMap Tryd.prog
 have HX1 := Lib.hid hr1
 have HX2 := Lib.hid hr2
 have HT := Lib.hid hT
 clear hr1 hr2 hT
 have HBa := Lib.hid (xab (xab (Below.refl w.heap.size w) (.cells #[.int .i8 x.f0, .string x.f1.f0, .int .i8 x.f1.f1.f0, .int .i64 x.f1.f1.f1, .string x.f1.f1.f2, .slice A1 x.f2.length c1] 31 (0, 0))) (.cells #[.int .i8 0, .int .i64 0, .string ⟨#[]⟩] 26 (0, 0)))
 have HKB := Lib.hid (xan (xaz w (.cells #[.int .i8 x.f0, .string x.f1.f0, .int .i8 x.f1.f1.f0, .int .i64 x.f1.f1.f1, .string x.f1.f1.f2, .slice A1 x.f2.length c1] 31 (0, 0))) (xab (Below.refl _ _) (.cells #[.int .i8 0, .int .i64 0, .string ⟨#[]⟩] 26 (0, 0))))
 have HKZ := Lib.hid (show ((w.alloc (.cells #[.int .i8 x.f0, .string x.f1.f0, .int .i8 x.f1.f1.f0, .int .i64 x.f1.f1.f1, .string x.f1.f1.f2, .slice A1 x.f2.length c1] 31 (0, 0))).alloc (.cells #[.int .i8 0, .int .i64 0, .string ⟨#[]⟩] 26 (0, 0))).heap[w.heap.size + 1]? = some (.cells #[.int .i8 0, .int .i64 0, .string ⟨#[]⟩] 26 (0, 0)) by
  have := xaz (w.alloc (.cells #[.int .i8 x.f0, .string x.f1.f0, .int .i8 x.f1.f1.f0, .int .i64 x.f1.f1.f1, .string x.f1.f1.f2, .slice A1 x.f2.length c1] 31 (0, 0))) (.cells #[.int .i8 0, .int .i64 0, .string ⟨#[]⟩] 26 (0, 0))
  simpa using this)
 refine (callsIn_wide (n := 5)).1 ?_
 refine callsIn_of_wp_marks Tryd.func10 rfl trivial ?_ rfl
 simp only [Tryd.ntmps10, List.size_toArray, List.length_cons, List.length_nil, Nat.reduceAdd, Nat.reduceSub, Array.replicate_succ, Array.replicate_zero, List.push_toArray, List.append_toArray, List.nil_append, List.cons_append]
 cases hd8 : deepB 8 x with
 | false =>
  have HDP := Lib.hid (show term_CheckExpr.f x.f0 x.f1.f0 x.f1.f1.f0 x.f1.f1.f1 x.f1.f1.f2 x.f2 = some 40 by rw [checkExpr_eq x, hd8]; rfl)
  have HRE := Lib.hid (show res = (0, 0, ⟨#[]⟩, false) by rw [← HR.out, evalTop, hd8]; rfl)
  clear hd8
  gi_wp2_with (refine ⟨trivial, ?_⟩; gi_at_call 51; refine (callsIn_wide.2 (term_CheckExpr.calls (r := 40) (hr0_5 := Kd.C_below HX1.out HBa.out) (hc0_5 := hc1) (h := HDP.out))).mono ?_; rintro e w1 ⟨rfl, hb⟩; have hk := xan HKZ.out hb; have z0 := (xaj hk 0).trans rfl; have z1 := (xaj hk 1).trans rfl; have z2 := (xaj hk 2).trans rfl; have y0 := xam hk 0; have y1 := xam hk 1; have y2 := xam hk 2; have HK1 := Lib.hid hk; have HB1 := Lib.hid (xai HBa.out hb); clear hk hb)
  exact ⟨_, xat rfl _ _ (w.heap.size + 1) 26 #[.int .i8 0, .int .i64 0, .string ⟨#[]⟩] (0, 0) _ rfl (put3 HK1.out) Tryd.underlying26 rfl (by kernel_rfl), by rw [HRE.out]; rfl, below3 HB1.out (Nat.le_succ _) _ _ _⟩
 | true =>
  have HDP := Lib.hid (show term_CheckExpr.f x.f0 x.f1.f0 x.f1.f1.f0 x.f1.f1.f1 x.f1.f1.f2 x.f2 = some 0 by rw [checkExpr_eq x, hd8]; rfl)
  have HRE := Lib.hid (show res = evalN bs 8 x by rw [← HR.out, evalTop, hd8]; rfl)
  have HRD := Lib.hid (hrd.out hd8)
  clear hd8
  gi_wp2_with first | (refine ⟨trivial, ?_⟩; gi_at_call 51; refine (callsIn_wide.2 (term_CheckExpr.calls (r := 0) (hr0_5 := Kd.C_below HX1.out HBa.out) (hc0_5 := hc1) (h := HDP.out))).mono ?_; rintro e w1 ⟨rfl, hb⟩) | (refine ⟨trivial, ?_⟩; gi_at_call 52; refine (back_in Fence.wide _ trivial rfl _ _ _ _).mono ?_; rintro e w2 ⟨rfl, rfl⟩)
  have HB1 := Lib.hid (xai HBa.out hb)
  have HKB1 := Lib.hid (xan HKB.out hb)
  have HKZ1 := Lib.hid (xan HKZ.out hb)
  clear hb HBa HKB HKZ
  have HBl := Lib.hid (xab (xab (xab HB1.out (.map #[] 0)) (.cells #[.map (some w1.heap.size)] 99 (0, 0))) (.cells #[.slice A2 bs.length c2] 32 (0, 0)))
  have HKBl := Lib.hid (xad (xad (xad HKB1.out (.map #[] 0)) (.cells #[.map (some w1.heap.size)] 99 (0, 0))) (.cells #[.slice A2 bs.length c2] 32 (0, 0)))
  have HKZl := Lib.hid (xad (xad (xad HKZ1.out (.map #[] 0)) (.cells #[.map (some w1.heap.size)] 99 (0, 0))) (.cells #[.slice A2 bs.length c2] 32 (0, 0)))
  have HS0 := Lib.hid (((SMap.made Tryd.prog 9 w1).kept (World.grownBy_alloc _ (.cells #[.map (some w1.heap.size)] 99 (0, 0)) none) (by simp)).kept (World.grownBy_alloc _ (.cells #[.slice A2 bs.length c2] 32 (0, 0)) none) (by simp))
  have HC6 := Lib.hid (show (((w1.alloc (.map #[] 0)).alloc (.cells #[.map (some w1.heap.size)] 99 (0, 0))).alloc (.cells #[.slice A2 bs.length c2] 32 (0, 0))).heap[w1.heap.size + 1]? = some (.cells #[.map (some w1.heap.size)] 99 (0, 0)) by
   have := xad (xaz (w1.alloc (.map #[] 0)) (.cells #[.map (some w1.heap.size)] 99 (0, 0))) (.cells #[.slice A2 bs.length c2] 32 (0, 0))
   simpa using this)
  have HBS := Lib.hid (show (((w1.alloc (.map #[] 0)).alloc (.cells #[.map (some w1.heap.size)] 99 (0, 0))).alloc (.cells #[.slice A2 bs.length c2] 32 (0, 0))).heap[w1.heap.size + 2]? = some (.cells #[.slice A2 bs.length c2] 32 (0, 0)) by
   have := xaz ((w1.alloc (.map #[] 0)).alloc (.cells #[.map (some w1.heap.size)] 99 (0, 0))) (.cells #[.slice A2 bs.length c2] 32 (0, 0))
   simpa [Nat.add_assoc] using this)
  have hsz : (((w1.alloc (.map #[] 0)).alloc (.cells #[.map (some w1.heap.size)] 99 (0, 0))).alloc (.cells #[.slice A2 bs.length c2] 32 (0, 0))).heap.size = w1.heap.size + 3 := by simp
  have hle1 : w.heap.size + 2 ≤ w1.heap.size := Nat.lt_of_lt_of_le (blk_lt HKZ1.out) (Nat.le_refl _)
  simp only [Nat.add_assoc, Nat.reduceAdd]
  generalize (((w1.alloc (.map #[] 0)).alloc (.cells #[.map (some w1.heap.size)] 99 (0, 0))).alloc (.cells #[.slice A2 bs.length c2] 32 (0, 0))) = wl at *
  generalize hm : w1.heap.size = m at *
  have hI : OwnFrom wl.heap.size (fun (pre : List BindOk) W => (SMap Tryd.prog 9 W m pre.length (putsV pre) ∧ W.heap[m + 1]? = some (.cells #[.map (some m)] 99 (0, 0)) ∧ W.heap[w.heap.size]? = some (.cells #[.int .i8 x.f0, .string x.f1.f0, .int .i8 x.f1.f1.f0, .int .i64 x.f1.f1.f1, .string x.f1.f1.f2, .slice A1 x.f2.length c1] 31 (0, 0)) ∧ W.heap[w.heap.size + 1]? = some (.cells #[.int .i8 0, .int .i64 0, .string ⟨#[]⟩] 26 (0, 0)) ∧ m + 3 ≤ W.heap.size) ∧ Below w.heap.size w W) := by
   intro s X Y row hs hg hr
   have hne : ∀ k, k < m + 3 → some k ≠ row := fun k hk e => by have := (hr k e.symm).1; omega
   exact ⟨⟨hs.1.1.kept hg (hne m (by omega)), xbh hs.1.2.1 hg (hne _ (by omega)), xbh hs.1.2.2.1 hg (hne _ (by omega)), xbh hs.1.2.2.2.1 hg (hne _ (by omega)), Nat.le_trans hs.1.2.2.2.2 hg.size⟩, hs.2.grown hg hs.2.size (fun k e => by have := (hr k e).1; omega)⟩
  refine wpIn_rangeFunc_ownH (w := wl) rfl (by omega) (gf := 99) (lb := #[.pointer (some ⟨m + 2, 0, none⟩)]) rfl trivial (enters_of Tryd.func99 (by kernel_rfl) rfl)
   (back_stops Fence.wide _ trivial rfl (by omega) (m + 2) bs A2 c2 hall w HX2.out wl HBl.out HBS.out)
   (fun h k => ⟨h.1.trans k.1, k.2.trans h.2⟩)
   (fun W l o o' hl h hc hw => ⟨belowK_b (w := wl) (by omega) W l o o' hl h hc hw, World.putObj_heap_other (by omega)⟩)
   (Below.refl _ _) (fun _ => rfl)
   (fun (pre : List BindOk) W => (SMap Tryd.prog 9 W m pre.length (putsV pre) ∧ W.heap[m + 1]? = some (.cells #[.map (some m)] 99 (0, 0)) ∧ W.heap[w.heap.size]? = some (.cells #[.int .i8 x.f0, .string x.f1.f0, .int .i8 x.f1.f1.f0, .int .i64 x.f1.f1.f1, .string x.f1.f1.f2, .slice A1 x.f2.length c1] 31 (0, 0)) ∧ W.heap[w.heap.size + 1]? = some (.cells #[.int .i8 0, .int .i64 0, .string ⟨#[]⟩] 26 (0, 0)) ∧ m + 3 ≤ W.heap.size) ∧ Below w.heap.size w W)
   (fun _ _ _ => False) hI (fun _ _ _ _ _ hs _ _ => hs) ⟨⟨HS0.out, HC6.out, HKBl.out, HKZl.out, by omega⟩, HBl.out⟩
   (fun x' a' W => ∃ Bx, W.heap[Bx]? = some (.cells #[.string x'.1.2.f0, .int .i8 x'.1.2.f1.f0, .int .i64 x'.1.2.f1.f1, .string x'.1.2.f1.f2] 41 (0, 0)) ∧ a' = { tmps := #[.agg #[.int .i8 x.f0, .string x.f1.f0, .int .i8 x.f1.f1.f0, .int .i64 x.f1.f1.f1, .string x.f1.f1.f2, .slice A1 x.f2.length c1], .slice A2 bs.length c2, .pointer (some ⟨w.heap.size, 0, none⟩), undef, .pointer (some ⟨w.heap.size + 1, 0, none⟩), .bool false, .pointer (some ⟨m + 1, 0, none⟩), undef, .pointer (some ⟨Bx, 0, none⟩), .agg #[.int .i8 x.f0, .string x.f1.f0, .int .i8 x.f1.f1.f0, .int .i64 x.f1.f1.f1, .string x.f1.f1.f2, .slice A1 x.f2.length c1], .int .i64 0, .bool false, undef, .map (some m), .slice A2 bs.length c2, .func (.func 99) #[] #[.pointer (some ⟨m + 2, 0, none⟩)], .int .i64 x'.1.1, .agg #[.string x'.1.2.f0, .int .i8 x'.1.2.f1.f0, .int .i64 x'.1.2.f1.f1, .string x'.1.2.f1.f2], undef, undef, undef, undef, undef, undef, undef, undef, undef, undef], defers := [] })
   (fun x' a' s X Y row hs hg hr => by
    obtain ⟨Bx, hb, he⟩ := hs
    refine ⟨Bx, xbh hb hg (fun e => ?_), he⟩
    obtain ⟨o, ho, hc⟩ := (hr Bx e.symm).2
    rw [hb] at ho
    cases ho
    cases hc)
   ?assign ?body ?done ?stop
  case assign =>
   intro l pre x' W K hi hK
   gi_wp2
   exact hK _ _ ((KeepsOthers.alloc _ _).from _) ⟨(Below.refl _ _).alloc hi.2.size _, Below.heap_alloc W _ _ (Nat.lt_of_lt_of_le (show m + 2 < m + 3 by omega) hi.1.2.2.2.2)⟩ (hI.alloc _ hi) ⟨W.heap.size, xaz _ _, rfl⟩
  case body =>
   rintro l pre x' a' W hl hrr ⟨⟨hS, h6, h31, hz, hWs⟩, hB⟩ ⟨Bx, hBx, rfl⟩ hlen
   have hmx : bs.length ≤ 9223372036854775807 := HX2.out.2.1
   obtain ⟨w', hrun, hS', hg'⟩ := SMap.put (t := 99) (e := 26) hS Tryd.underlying9 (by kernel_rfl) (by unfold maxLen; omega) x'.1.2.f0 x'.2 (cellsV x'.1.2.f1)
   unfold cellsV at hrun
   have h6c : W.cell? ⟨m + 1, 0, none⟩ = some (.map (some m)) := (xaj h6 0).trans rfl
   have b0 : W.cell? ⟨Bx, 0, none⟩ = some (.string x'.1.2.f0) := (xaj hBx 0).trans rfl
   have b1 : W.cell? ⟨Bx, 1, none⟩ = some (.int .i8 x'.1.2.f1.f0) := (xaj hBx 1).trans rfl
   have b2 : W.cell? ⟨Bx, 2, none⟩ = some (.int .i64 x'.1.2.f1.f1) := (xaj hBx 2).trans rfl
   have b3 : W.cell? ⟨Bx, 3, none⟩ = some (.string x'.1.2.f1.f2) := (xaj hBx 3).trans rfl
   have HW := Lib.hid (And.intro hWs hB)
   have HG := Lib.hid hg'
   have HS := Lib.hid hS'
   have HP := Lib.hid (And.intro h6 (And.intro h31 hz))
   clear hS hg' hS' h6 h31 hz hB hBx
   gi_wp2
   exact ⟨KeepsFrom.of_grownBy HG.out (fun j e => by cases e; omega), ⟨(Below.refl _ W).grown HG.out HW.out.2.size (fun k e => by cases e; omega), HG.out.block (m + 2) (by have := HW.out.1; omega) (by simp)⟩,
    ⟨⟨by rw [putsV_snoc, List.length_append]; exact HS.out, xbh HP.out.1 HG.out (by simp), xbh HP.out.2.1 HG.out (by intro e; cases e; omega), xbh HP.out.2.2 HG.out (by intro e; cases e; omega), Nat.le_trans HW.out.1 HG.out.size⟩, HW.out.2.grown HG.out HW.out.2.size (fun k e => by cases e; omega)⟩⟩
  case done =>
   rintro D ys W hD rfl ⟨⟨hS, h6, h31, hz, hWs⟩, hB⟩ hK
   have hput := putsV_back bs hall bs.length (Nat.le_refl _)
   rw [Nat.sub_self, List.drop_zero] at hput
   rw [hput] at hS
   have h6c : W.cell? ⟨m + 1, 0, none⟩ = some (.map (some m)) := (xaj h6 0).trans rfl
   have b0 : W.cell? ⟨w.heap.size, 0, none⟩ = some (.int .i8 x.f0) := (xaj h31 0).trans rfl
   have b1 : W.cell? ⟨w.heap.size, 1, none⟩ = some (.string x.f1.f0) := (xaj h31 1).trans rfl
   have b2 : W.cell? ⟨w.heap.size, 2, none⟩ = some (.int .i8 x.f1.f1.f0) := (xaj h31 2).trans rfl
   have b3 : W.cell? ⟨w.heap.size, 3, none⟩ = some (.int .i64 x.f1.f1.f1) := (xaj h31 3).trans rfl
   have b4 : W.cell? ⟨w.heap.size, 4, none⟩ = some (.string x.f1.f1.f2) := (xaj h31 4).trans rfl
   have b5 : W.cell? ⟨w.heap.size, 5, none⟩ = some (.slice A1 x.f2.length c1) := (xaj h31 5).trans rfl
   have HS := Lib.hid hS
   have HW := Lib.hid (And.intro hWs hB)
   have HKD := Lib.hid hK
   have HZW := Lib.hid hz
   clear hS h6 h31 hB hK hz hput
   gi_wp2_with (refine ⟨trivial, ?_⟩; gi_at_call 53; refine (callsIn_wide.2 (eval_all bs 8 x HRD.out A1 c1 W m _ (Kd.C_below HX1.out HW.out.2) hc1 HS.out (HT.out.below HW.out.2))).mono ?_; rintro e w5 ⟨rfl, hb⟩; have hk := xan HZW.out hb; have z0 := (xaj hk 0).trans rfl; have z1 := (xaj hk 1).trans rfl; have z2 := (xaj hk 2).trans rfl; have y0 := xam hk 0; have y1 := xam hk 1; have y2 := xam hk 2; have HK5 := Lib.hid hk; have HB5 := Lib.hid hb; clear hk hb)
   have hDw : D < W.heap.size := (Array.getElem?_eq_some_iff.1 HKD.out).1
   have hne : D ≠ w.heap.size + 1 := by omega
   have hKf : (((w5.setCell ⟨w.heap.size + 1, 0, none⟩ (.int .i8 (evalN bs 8 x).1)).setCell ⟨w.heap.size + 1, 1, none⟩ (.int .i64 (evalN bs 8 x).2.1)).setCell ⟨w.heap.size + 1, 2, none⟩ (.string (evalN bs 8 x).2.2.1)).heap[D]? = some (.deferred (some [])) := by
    rw [Below.heap_setCell _ _ _ D hne, Below.heap_setCell _ _ _ D hne, Below.heap_setCell _ _ _ D hne]
    exact (HB5.out.block D hDw).trans HKD.out
   have hBf := below3 (xai HW.out.2 HB5.out) (Nat.le_succ w.heap.size) (.int .i8 (evalN bs 8 x).1) (.int .i64 (evalN bs 8 x).2.1) (.string (evalN bs 8 x).2.2.1)
   refine ⟨by simp, .inl ⟨_, _, rfl, run_takeDeferred hKf, ?_⟩⟩
   exact ⟨_, xat rfl _ _ (w.heap.size + 1) 26 #[.int .i8 (evalN bs 8 x).1, .int .i64 (evalN bs 8 x).2.1, .string (evalN bs 8 x).2.2.1] (0, 0) _ rfl ((World.putObj_heap_other (fun e => hne e.symm)).trans (put3 HK5.out)) Tryd.underlying26 rfl (by kernel_rfl), by rw [HRE.out]; rfl, hBf.trans (belowK_b (w := w) (Nat.le_refl _) _ D _ _ (by omega) hKf rfl rfl)⟩
  case stop =>
   rintro D c pre W _ _ h _
   exact h.elim
end Go.Proofs.YtllcmggmcogokaaDoor.PAll
end
section
namespace Go.Proofs.YtllcmggmcogokaaDoor.PAll
open Go.RowKit Go.Proofs.YtllcmggmcogokaaDoorW.PrintWords Go.Proofs.YtllcmggmcogokaaDoorW.PrintLast Go.Proofs.YtllcmggmcogokaaDoorW.PrintMore
attribute [local go_sem] max2_int min2_int max_two min_two max_three min_three max_four min_four
def r4_Bound.l0 : Nat → List (S41) → Int → ByteArray → Int → Int → ByteArray → Option (Int × Int × ByteArray × Bool)
 | 0, _, _, _, _, _, _ => none
 | k + 1, x0, x6, x431000, x431001, x431002, x431003 => if x6 < (x0.length : Int) then (if 0 ≤ x6 then (if ((rd_T41 x0 x6).f0).toList = x431000.toList then ((r1_Check.f ((rd_T41 x0 x6).f1.f0) ((rd_T41 x0 x6).f1.f1) ((rd_T41 x0 x6).f1.f2)).bind fun t435 => (some ((rd_T41 x0 x6).f1.f0, (rd_T41 x0 x6).f1.f1, (rd_T41 x0 x6).f1.f2, (t435 == 0)))) else (r4_Bound.l0 k x0 (wrap64 (x6 + 1)) x431000 x431001 x431002 x431003)) else (none)) else (some (0, 0, (⟨#[]⟩ : ByteArray), false))
def r4_Bound.f (k : Nat) (l0 : List (S41)) (a1_0 : ByteArray) (a1_1 : Int) (a1_2 : Int) (a1_3 : ByteArray) : Option (Int × Int × ByteArray × Bool) := if a1_0.toList = ([] : List UInt8) then (some (a1_1, a1_2, a1_3, true)) else (r4_Bound.l0 k l0 0 a1_0 a1_1 a1_2 a1_3)
def r4_Bound.T6 : Bool × List (List Nat × List Nat) := (true, [([], []), ([], []), ([0, 1], [0, 1]), ([2], [2]), ([3], [3]), ([], []), ([5], [5]), ([4, 6], [4, 6])])
def r4_Bound.B6 : List Nat := [0, 0, 3, 7, 15, 0, 32, 127]
theorem r4_Bound.tab6 : rtab .any (opsOf Tryd.f121 6) = r4_Bound.T6 := by kernel_rfl
theorem r4_Bound.bits6 : waitsOk r4_Bound.T6.2 r4_Bound.B6 = true := by kernel_rfl
def r4_Bound.T7 : Bool × List (List Nat × List Nat) := (true, [([], []), ([], []), ([0, 1], [0, 1]), ([2], [2]), ([3], [3]), ([], []), ([], []), ([5, 6], [5, 6]), ([7], [7]), ([8], [8]), ([9], [9]), ([10], [10]), ([4, 10, 0, 1, 2, 3, 4], [4]), ([11, 12, 0, 1, 2, 3, 4, 5, 6, 7, 8, 9, 10, 11, 12], [11])])
def r4_Bound.B7 : List Nat := [0, 0, 3, 7, 15, 0, 0, 96, 224, 480, 992, 2016, 2047, 8191]
theorem r4_Bound.tab7 : rtab .any (opsOf Tryd.f121 7) = r4_Bound.T7 := by kernel_rfl
theorem r4_Bound.bits7 : waitsOk r4_Bound.T7.2 r4_Bound.B7 = true := by kernel_rfl
set_option maxHeartbeats 8000000 in
set_option maxRecDepth 100000 in
theorem r4_Bound.calls (k : Nat) (A0 : Option Addr) (c0 : Nat) (l0 : List (S41)) (a1_0 : ByteArray) (a1_1 : Int) (a1_2 : Int) (a1_3 : ByteArray) (r1 : Int) (r2 : Int) (r3 : ByteArray) (r4 : Bool) (w : World) (hr0 : Kd.C k41 w A0 l0.length l0) (hc0 : l0.length ≤ c0) (h : r4_Bound.f k l0 a1_0 a1_1 a1_2 a1_3 = some (r1, r2, r3, r4)) :
  Calls Tryd.prog 121 #[.slice A0 l0.length c0, .agg #[.string a1_0, .int .i8 a1_1, .int .i64 a1_2, .string a1_3]] w fun e w' => e = .returned (.tuple #[.agg #[.int .i8 r1, .int .i64 r2, .string r3], .bool r4]) ∧ Below w.heap.size w w' := by
 have hu28 := Tryd.underlying28
 have hu26 := Tryd.underlying26
 have HR0 := Aside0.mk hr0
 have HC0 := Aside0.mk hc0
 clear hr0 hc0
 have HB := Aside0.mk (Below.refl w.heap.size w)
 have H : (if a1_0.toList = ([] : List UInt8) then (some (a1_1, a1_2, a1_3, true)) else (r4_Bound.l0 k l0 0 a1_0 a1_1 a1_2 a1_3)) = some (r1, r2, r3, r4) := h
 clear h
 by_cases c3 : a1_0.toList = ([] : List UInt8)
 ·rw [if_pos c3] at H
  have c3b0 : (a1_0.toList == ([] : List UInt8)) = true := beq_iff_eq.mpr c3
  have c3b1 : (a1_0.toList != ([] : List UInt8)) = false := bne_eq_false_iff_eq.mpr c3
  clear c3
  simp only [Option.some.injEq, Prod.mk.injEq] at H
  obtain ⟨rfl, rfl, rfl, rfl⟩ := H
  go_enter Tryd.func121, Tryd.ntmps121
  go_wp2_with (first | ((with_reducible refine xar (N := 3) rfl ?_); refine xaq ?hg (N := 3) ?hd (cs := #[.string a1_0, .int .i8 a1_1, .int .i64 a1_2, .string a1_3]) (t := 28) ?hr ?_; (case hd => rfl); (case hg => rfl); (case hr => first | (go_simp; done) | (go_simp; rfl)); intro gb430 hg w4 hbox hb; have n0_ := Aside0.mk (xai (by repeat (first | (with_reducible first | exact HB.out | apply xab | apply xaa | apply xac) | exact HB.out)) hb); have n1_ := Aside0.mk (hbox); have n2_ := Aside0.mk ((by rw [hg]; exact (xap (by repeat (first | (with_reducible first | exact HB.out | apply xab | apply xaa | apply xac) | exact HB.out))) : w.heap.size ≤ gb430)); have n3_ := n2_; clear HB; have HB := n0_; have BK430 := n1_; have GW430 := n2_; have GE430 := n3_; clear n0_ n1_ n2_ n3_; clear hb hbox hg) | ((with_reducible refine xar (N := 4) rfl ?_); refine xaq ?hg (N := 4) ?hd (cs := #[.int .i8 0, .int .i64 0, .string (⟨#[]⟩ : ByteArray)]) (t := 26) ?hr ?_; (case hd => rfl); (case hg => rfl); (case hr => first | (go_simp; done) | (go_simp; rfl)); intro gb431 hg w5 hbox hb; have n0_ := Aside0.mk (xan (g := gb430) (o := .cells #[.string a1_0, .int .i8 a1_1, .int .i64 a1_2, .string a1_3] 28 (0, 0)) (by (with_reducible repeat (first | refine xae ?_ _ | refine xaf ?_ | refine xad ?_ _)); exact BK430.out) hb); have n1_ := Aside0.mk (xai (by repeat (first | (with_reducible first | exact HB.out | apply xab | apply xaa | apply xac | refine xag ?_ GE430.out) | exact HB.out)) hb); have n2_ := Aside0.mk (hbox); have n3_ := Aside0.mk ((by rw [hg]; exact (xap (by repeat (first | (with_reducible first | exact HB.out | apply xab | apply xaa | apply xac | refine xag ?_ GE430.out) | exact HB.out))) : w.heap.size ≤ gb431)); have n4_ := n3_; have n5_ := Aside0.mk ((by rw [hg]; exact Nat.ne_of_lt (blk_lt (g := gb430) (o := .cells #[.string a1_0, .int .i8 a1_1, .int .i64 a1_2, .string a1_3] 28 (0, 0)) (by (with_reducible repeat (first | refine xae ?_ _ | refine xaf ?_ | refine xad ?_ _)); exact BK430.out)) : gb430 ≠ gb431)); have n6_ := Aside0.mk ((by rw [hg]; exact Nat.ne_of_gt (blk_lt (g := gb430) (o := .cells #[.string a1_0, .int .i8 a1_1, .int .i64 a1_2, .string a1_3] 28 (0, 0)) (by (with_reducible repeat (first | refine xae ?_ _ | refine xaf ?_ | refine xad ?_ _)); exact BK430.out)) : gb431 ≠ gb430)); clear BK430; clear HB; have BK430 := n0_; have HB := n1_; have BK431 := n2_; have GW431 := n3_; have GE431 := n4_; have NB430_431 := n5_; have NB431_430 := n6_; clear n0_ n1_ n2_ n3_ n4_ n5_ n6_; clear hb hbox hg; have hnb6 := NB430_431.out; have hnc6 := NB431_430.out; obtain ⟨hcz7_0, hcz7_1, hcz7_2, hcz7_3⟩ := cz4 BK430.out; obtain ⟨hfz7_0, hfz7_1, hfz7_2, hfz7_3⟩ := fz4 BK430.out; obtain ⟨hcz8_0, hcz8_1, hcz8_2⟩ := cz3 BK431.out; obtain ⟨hfz8_0, hfz8_1, hfz8_2⟩ := fz3 BK431.out))
  refine bodyPost_ret (xat rfl _ _ gb431 26 #[.int .i8 a1_1, .int .i64 a1_2, .string a1_3] (0, 0) _ rfl (by (with_reducible repeat (first | refine xae ?_ _ | refine xaf ?_ | refine xad ?_ _)); refine xas (cs := #[.int .i8 a1_1, .int .i64 a1_2, .string (⟨#[]⟩ : ByteArray)]) ?_ 2 _ rfl; (with_reducible repeat (first | refine xae ?_ _ | refine xaf ?_ | refine xad ?_ _)); refine xas (cs := #[.int .i8 a1_1, .int .i64 0, .string (⟨#[]⟩ : ByteArray)]) ?_ 1 _ rfl; (with_reducible repeat (first | refine xae ?_ _ | refine xaf ?_ | refine xad ?_ _)); refine xas (cs := #[.int .i8 0, .int .i64 0, .string (⟨#[]⟩ : ByteArray)]) ?_ 0 _ rfl; (with_reducible repeat (first | refine xae ?_ _ | refine xaf ?_ | refine xad ?_ _)); exact BK431.out) Tryd.underlying26 rfl (by kernel_rfl)) rfl ?_
  exact ⟨by first | rfl | (simp [xak, xal] <;> rfl) | (simp [*, xak, xal] <;> rfl), by repeat (first | (with_reducible first | exact HB.out | apply xab | apply xaa | apply xac | refine xag ?_ GE430.out | refine xag ?_ GE431.out) | exact HB.out)⟩
 ·rw [if_neg c3] at H
  have c3b0 : (a1_0.toList == ([] : List UInt8)) = false := beq_eq_false_iff_ne.mpr c3
  have c3b1 : (a1_0.toList != ([] : List UInt8)) = true := bne_iff_ne.mpr c3
  have H' := Aside0.mk H
  clear H
  go_enter Tryd.func121, Tryd.ntmps121
  go_wp2_with (first | ((with_reducible refine xar (N := 3) rfl ?_); refine xaq ?hg (N := 3) ?hd (cs := #[.string a1_0, .int .i8 a1_1, .int .i64 a1_2, .string a1_3]) (t := 28) ?hr ?_; (case hd => rfl); (case hg => rfl); (case hr => first | (go_simp; done) | (go_simp; rfl)); intro gb430 hg w9 hbox hb; have n0_ := Aside0.mk (xai (by repeat (first | (with_reducible first | exact HB.out | apply xab | apply xaa | apply xac) | exact HB.out)) hb); have n1_ := Aside0.mk (hbox); have n2_ := Aside0.mk ((by rw [hg]; exact (xap (by repeat (first | (with_reducible first | exact HB.out | apply xab | apply xaa | apply xac) | exact HB.out))) : w.heap.size ≤ gb430)); have n3_ := n2_; clear HB; have HB := n0_; have BK430 := n1_; have GW430 := n2_; have GE430 := n3_; clear n0_ n1_ n2_ n3_; clear hb hbox hg) | ((with_reducible refine xar (N := 4) rfl ?_); refine xaq ?hg (N := 4) ?hd (cs := #[.int .i8 0, .int .i64 0, .string (⟨#[]⟩ : ByteArray)]) (t := 26) ?hr ?_; (case hd => rfl); (case hg => rfl); (case hr => first | (go_simp; done) | (go_simp; rfl)); intro gb431 hg w10 hbox hb; have n0_ := Aside0.mk (xan (g := gb430) (o := .cells #[.string a1_0, .int .i8 a1_1, .int .i64 a1_2, .string a1_3] 28 (0, 0)) (by (with_reducible repeat (first | refine xae ?_ _ | refine xaf ?_ | refine xad ?_ _)); exact BK430.out) hb); have n1_ := Aside0.mk (xai (by repeat (first | (with_reducible first | exact HB.out | apply xab | apply xaa | apply xac | refine xag ?_ GE430.out) | exact HB.out)) hb); have n2_ := Aside0.mk (hbox); have n3_ := Aside0.mk ((by rw [hg]; exact (xap (by repeat (first | (with_reducible first | exact HB.out | apply xab | apply xaa | apply xac | refine xag ?_ GE430.out) | exact HB.out))) : w.heap.size ≤ gb431)); have n4_ := n3_; have n5_ := Aside0.mk ((by rw [hg]; exact Nat.ne_of_lt (blk_lt (g := gb430) (o := .cells #[.string a1_0, .int .i8 a1_1, .int .i64 a1_2, .string a1_3] 28 (0, 0)) (by (with_reducible repeat (first | refine xae ?_ _ | refine xaf ?_ | refine xad ?_ _)); exact BK430.out)) : gb430 ≠ gb431)); have n6_ := Aside0.mk ((by rw [hg]; exact Nat.ne_of_gt (blk_lt (g := gb430) (o := .cells #[.string a1_0, .int .i8 a1_1, .int .i64 a1_2, .string a1_3] 28 (0, 0)) (by (with_reducible repeat (first | refine xae ?_ _ | refine xaf ?_ | refine xad ?_ _)); exact BK430.out)) : gb431 ≠ gb430)); clear BK430; clear HB; have BK430 := n0_; have HB := n1_; have BK431 := n2_; have GW431 := n3_; have GE431 := n4_; have NB430_431 := n5_; have NB431_430 := n6_; clear n0_ n1_ n2_ n3_ n4_ n5_ n6_; clear hb hbox hg; have hnb11 := NB430_431.out; have hnc11 := NB431_430.out; obtain ⟨hcz12_0, hcz12_1, hcz12_2, hcz12_3⟩ := cz4 BK430.out; obtain ⟨hfz12_0, hfz12_1, hfz12_2, hfz12_3⟩ := fz4 BK430.out))
  go_loopg [6] k (fun kq v6 w' => ∃ (x6_1 : Int) (x432000_1 : Int) (x432001_1 : Int) (x432002_1 : ByteArray), v6 = .int .i64 x6_1 ∧ Aside0 (r4_Bound.l0 kq l0 x6_1 a1_0 a1_1 a1_2 a1_3 = some (r1, r2, r3, r4)) ∧ Aside0 (kq ≤ k) ∧ Aside0 (w'.heap[gb430]? = some (.cells #[.string a1_0, .int .i8 a1_1, .int .i64 a1_2, .string a1_3] 28 (0, 0))) ∧ Aside0 (w'.heap[gb431]? = some (.cells #[.int .i8 x432000_1, .int .i64 x432001_1, .string x432002_1] 26 (0, 0))) ∧ Aside0 (Below w.heap.size w w'))
  case atStart => exact ⟨(0), (0), (0), ((⟨#[]⟩ : ByteArray)), (by first | rfl | (simp; done) | (simp [*]; done)), H', ⟨Nat.le_refl _⟩, ⟨by (with_reducible repeat (first | refine xae ?_ _ | refine xaf ?_ | refine xad ?_ _)); exact BK430.out⟩, ⟨by (with_reducible repeat (first | refine xae ?_ _ | refine xaf ?_ | refine xad ?_ _)); exact BK431.out⟩, ⟨by repeat (first | (with_reducible first | exact HB.out | apply xab | apply xaa | apply xac | refine xag ?_ GE430.out | refine xag ?_ GE431.out) | exact HB.out)⟩⟩
  case round =>
   clear H'
   try clear c1
   try clear p2
   try clear c3
   try clear c3b0
   try clear c3b1
   try clear c6
   try clear c11
   try clear c12
   try clear hcz12_0
   try clear hcz12_1
   try clear hcz12_2
   try clear hcz12_3
   try clear hcz7_0
   try clear hcz7_1
   try clear hcz7_2
   try clear hcz7_3
   try clear hcz8_0
   try clear hcz8_1
   try clear hcz8_2
   try clear hfz12_0
   try clear hfz12_1
   try clear hfz12_2
   try clear hfz12_3
   try clear hfz7_0
   try clear hfz7_1
   try clear hfz7_2
   try clear hfz7_3
   try clear hfz8_0
   try clear hfz8_1
   try clear hfz8_2
   obtain ⟨x6_1, x432000_1, x432001_1, x432002_1, rfl, HA, HK1, BK430, BK431, HB⟩ := hrel
   cases gk with
   | zero => exact absurd HA.out (by simp [r4_Bound.l0])
   | succ k1 =>
    have H := HA.out
    clear HA
    simp only [r4_Bound.l0] at H
    by_cases c13 : x6_1 < (l0.length : Int)
    ·rw [if_pos c13] at H
     have c13b0 : decide (x6_1 < (l0.length : Int)) = true := decide_eq_true c13
     clear c13
     by_cases c14 : 0 ≤ x6_1
     ·rw [if_pos c14] at H
      have c14b0 : decide (0 ≤ x6_1) = true := decide_eq_true c14
      clear c14
      by_cases c15 : ((rd_T41 l0 x6_1).f0).toList = a1_0.toList
      ·rw [if_pos c15] at H
       have c15b0 : (((rd_T41 l0 x6_1).f0).toList == a1_0.toList) = true := beq_iff_eq.mpr c15
       have c15b1 : (((rd_T41 l0 x6_1).f0).toList != a1_0.toList) = false := bne_eq_false_iff_eq.mpr c15
       clear c15
       replace H := Option.bind_eq_some_iff.mp H
       obtain ⟨t435, A160, H⟩ := H
       replace H : (some ((rd_T41 l0 x6_1).f1.f0, (rd_T41 l0 x6_1).f1.f1, (rd_T41 l0 x6_1).f1.f2, (t435 == 0))) = some (r1, r2, r3, r4) := H
       have A16 := Aside0.mk A160
       clear A160
       simp only [Option.some.injEq, Prod.mk.injEq] at H
       obtain ⟨rfl, rfl, rfl, rfl⟩ := H
       try go_wp2
       have n0_ := Aside0.mk (xaf BK430.out)
       have n1_ := Aside0.mk (xaf BK431.out)
       have n2_ := Aside0.mk (xac HB.out)
       clear BK430
       clear BK431
       clear HB
       have BK430 := n0_
       have BK431 := n1_
       have HB := n2_
       clear n0_ n1_ n2_
       have p432 : 0 ≤ (x6_1 : Int) := of_decide_eq_true (by first | (with_reducible assumption) | assumption)
       have q432 : x6_1 < (l0.length : Int) := of_decide_eq_true (by first | (with_reducible assumption) | assumption)
       obtain ⟨ad432, e432, hx432_0, hx432_1, hx432_2, hx432_3⟩ := at_T41 HR0.out x6_1 p432 q432
       have hw432_3 := hx432_3
       have hw432_2 := hx432_2
       have hw432_1 := hx432_1
       have hw432_0 := hx432_0
       cases e432
       replace hx432_0 := (HB.out.cell (World.block_lt_of_cell? w _ hx432_0)).trans hx432_0
       replace hx432_1 := (HB.out.cell (World.block_lt_of_cell? w _ hx432_1)).trans hx432_1
       replace hx432_2 := (HB.out.cell (World.block_lt_of_cell? w _ hx432_2)).trans hx432_2
       replace hx432_3 := (HB.out.cell (World.block_lt_of_cell? w _ hx432_3)).trans hx432_3
       replace p432 := eq_true p432
       replace q432 := eq_true q432
       refine start_ (n := 8) (S := fun w' => w'.cell? ⟨gb430, 0, none⟩ = some (.string a1_0) ∧ w'.cell? ⟨gb430, 1, none⟩ = some (.int .i8 a1_1) ∧ w'.cell? ⟨gb430, 2, none⟩ = some (.int .i64 a1_2) ∧ w'.cell? ⟨gb430, 3, none⟩ = some (.string a1_3) ∧ w'.cell? (ad432.add ((x6_1).toNat * 4)) = some (.string ((rd_T41 l0 x6_1).f0)) ∧ w'.cell? ⟨(ad432.add ((x6_1).toNat * 4)).block, (ad432.add ((x6_1).toNat * 4)).off + 1, none⟩ = some (.int .i8 ((rd_T41 l0 x6_1).f1.f0)) ∧ w'.cell? ⟨(ad432.add ((x6_1).toNat * 4)).block, (ad432.add ((x6_1).toNat * 4)).off + 2, none⟩ = some (.int .i64 ((rd_T41 l0 x6_1).f1.f1)) ∧ w'.cell? ⟨(ad432.add ((x6_1).toNat * 4)).block, (ad432.add ((x6_1).toNat * 4)).off + 3, none⟩ = some (.string ((rd_T41 l0 x6_1).f1.f2))) (ds := []) #[false, false, false, false, false, false, false, false] (by kernel_rfl) rfl rfl ⟨(xaj BK430.out 0).trans rfl, (xaj BK430.out 1).trans rfl, (xaj BK430.out 2).trans rfl, (xaj BK430.out 3).trans rfl, ((HB.out.cell (World.block_lt_of_cell? w _ hw432_0)).trans hw432_0), ((HB.out.cell (World.block_lt_of_cell? w _ hw432_1)).trans hw432_1), ((HB.out.cell (World.block_lt_of_cell? w _ hw432_2)).trans hw432_2), ((HB.out.cell (World.block_lt_of_cell? w _ hw432_3)).trans hw432_3)⟩ (fun hHeld => ?_); refine xbn r4_Bound.tab6 r4_Bound.bits6 (fun HT_ HW_ => ?_)
       generalize wr.drew = w17 at BK430 BK431 HB hx432_0 hx432_1 hx432_2 hx432_3 hHeld ⊢
       refine pure_ (i := 0) (N := some 18) (v := ?_) (a' := ?_) #[true, false, false, false, false, false, false, false] rfl rfl (any_of HT_.out (by kernel_rfl)) (fun _ _ _ h => h) (Or.inl ⟨by rfl, ?_⟩) ?_ ?_
       rotate_left
       ·intro w'
        go_simp
        with_reducible rfl
       rotate_left
       ·simp only [Act.put, sI, sZ, sS, i64_w, i32_w]
        rfl
       refine pure_ (i := 1) (N := some 19) (v := ?_) (a' := ?_) #[true, true, false, false, false, false, false, false] rfl rfl (any_of HT_.out (by kernel_rfl)) (fun _ _ _ h => h) (Or.inl ⟨by rfl, ?_⟩) ?_ ?_
       rotate_left
       ·intro w'
        go_simp
        with_reducible rfl
       rotate_left
       ·simp only [Act.put, sI, sZ, sS, i64_w, i32_w]
        rfl
       refine pure_ (i := 2) (N := some 20) (v := ?_) (a' := ?_) #[true, true, true, false, false, false, false, false] rfl rfl (any_of HT_.out (by kernel_rfl)) (fun _ _ _ h => h) (Or.inl ⟨by rfl, ?_⟩) ?_ ?_
       rotate_left
       ·intro w'
        go_simp
        with_reducible rfl
       rotate_left
       ·simp only [Act.put, sI, sZ, sS, i64_w, i32_w]
        rfl
       refine pure_ (i := 3) (N := some 21) (v := ?_) (a' := ?_) #[true, true, true, true, false, false, false, false] rfl rfl (any_of HT_.out (by kernel_rfl)) (fun _ _ _ h => h) (Or.inl ⟨by rfl, ?_⟩) ?_ ?_
       rotate_left
       ·intro w'
        go_simp
        with_reducible rfl
       rotate_left
       ·simp only [Act.put, sI, sZ, sS, i64_w, i32_w]
        rfl
       refine pure_ (i := 5) (N := some 23) (v := ?_) (a' := ?_) #[true, true, true, true, false, true, false, false] rfl rfl (any_of HT_.out (by kernel_rfl)) (fun _ _ _ h => h) (Or.inl ⟨by rfl, ?_⟩) ?_ ?_
       rotate_left
       ·intro w'
        go_simp
        with_reducible rfl
       rotate_left
       ·simp only [Act.put, sI, sZ, sS, i64_w, i32_w]
        rfl
       refine take_ (i := 4) (N := some 22) (v := ?_) (a' := ?_) #[true, true, true, true, true, true, false, false] rfl rfl (xbb HT_.out HW_.out (by kernel_rfl)) (fun _ _ _ h => h) (Or.inl ⟨by rfl, ?_⟩) hHeld ?_ ?_
       rotate_left
       ·rintro w' ⟨s0, s1, s2, s3, s4, s5, s6, s7⟩
        go_simp
        with_reducible rfl
       rotate_left
       ·simp only [Act.put, sI, sZ, sS, i64_w, i32_w]
        rfl
       refine take_ (i := 6) (N := some 24) (v := ?_) (a' := ?_) #[true, true, true, true, true, true, true, false] rfl rfl (xbb HT_.out HW_.out (by kernel_rfl)) (fun _ _ _ h => h) (Or.inl ⟨by rfl, ?_⟩) hHeld ?_ ?_
       rotate_left
       ·rintro w' ⟨s0, s1, s2, s3, s4, s5, s6, s7⟩
        go_simp
        with_reducible rfl
       rotate_left
       ·simp only [Act.put, sI, sZ, sS, i64_w, i32_w]
        rfl
       refine pure_ (i := 7) (N := some 25) (v := ?_) (a' := ?_) #[true, true, true, true, true, true, true, true] rfl rfl (any_of HT_.out (by kernel_rfl)) (fun _ _ _ h => h) (Or.inl ⟨by rfl, ?_⟩) ?_ ?_
       rotate_left
       ·intro w'
        go_simp
        with_reducible rfl
       rotate_left
       ·simp only [Act.put, sI, sZ, sS, i64_w, i32_w]
        rfl
       refine done_ (done_of HT_.out (by kernel_rfl)) ?_
       try go_wp2
       have n0_ := Aside0.mk (xaf BK430.out)
       have n1_ := Aside0.mk (xaf BK431.out)
       have n2_ := Aside0.mk (xac HB.out)
       clear BK430
       clear BK431
       clear HB
       have BK430 := n0_
       have BK431 := n1_
       have HB := n2_
       clear n0_ n1_ n2_
       have p433 : 0 ≤ (x6_1 : Int) := of_decide_eq_true (by first | (with_reducible assumption) | assumption)
       have q433 : x6_1 < (l0.length : Int) := of_decide_eq_true (by first | (with_reducible assumption) | assumption)
       obtain ⟨ad433, e433, hx433_0, hx433_1, hx433_2, hx433_3⟩ := at_T41 HR0.out x6_1 p433 q433
       have hw433_3 := hx433_3
       have hw433_2 := hx433_2
       have hw433_1 := hx433_1
       have hw433_0 := hx433_0
       obtain rfl : ad432 = ad433 := (by injection e433)
       replace hx433_0 := (HB.out.cell (World.block_lt_of_cell? w _ hx433_0)).trans hx433_0
       replace hx433_1 := (HB.out.cell (World.block_lt_of_cell? w _ hx433_1)).trans hx433_1
       replace hx433_2 := (HB.out.cell (World.block_lt_of_cell? w _ hx433_2)).trans hx433_2
       replace hx433_3 := (HB.out.cell (World.block_lt_of_cell? w _ hx433_3)).trans hx433_3
       replace p433 := eq_true p433
       replace q433 := eq_true q433
       have p434 : 0 ≤ (x6_1 : Int) := of_decide_eq_true (by first | (with_reducible assumption) | assumption)
       have q434 : x6_1 < (l0.length : Int) := of_decide_eq_true (by first | (with_reducible assumption) | assumption)
       obtain ⟨ad434, e434, hx434_0, hx434_1, hx434_2, hx434_3⟩ := at_T41 HR0.out x6_1 p434 q434
       have hw434_3 := hx434_3
       have hw434_2 := hx434_2
       have hw434_1 := hx434_1
       have hw434_0 := hx434_0
       obtain rfl : ad432 = ad434 := (by injection e434)
       replace hx434_0 := (HB.out.cell (World.block_lt_of_cell? w _ hx434_0)).trans hx434_0
       replace hx434_1 := (HB.out.cell (World.block_lt_of_cell? w _ hx434_1)).trans hx434_1
       replace hx434_2 := (HB.out.cell (World.block_lt_of_cell? w _ hx434_2)).trans hx434_2
       replace hx434_3 := (HB.out.cell (World.block_lt_of_cell? w _ hx434_3)).trans hx434_3
       replace p434 := eq_true p434
       replace q434 := eq_true q434
       refine start_ (n := 14) (S := fun w' => w'.cell? (ad432.add ((x6_1).toNat * 4)) = some (.string ((rd_T41 l0 x6_1).f0)) ∧ w'.cell? ⟨(ad432.add ((x6_1).toNat * 4)).block, (ad432.add ((x6_1).toNat * 4)).off + 1, none⟩ = some (.int .i8 ((rd_T41 l0 x6_1).f1.f0)) ∧ w'.cell? ⟨(ad432.add ((x6_1).toNat * 4)).block, (ad432.add ((x6_1).toNat * 4)).off + 2, none⟩ = some (.int .i64 ((rd_T41 l0 x6_1).f1.f1)) ∧ w'.cell? ⟨(ad432.add ((x6_1).toNat * 4)).block, (ad432.add ((x6_1).toNat * 4)).off + 3, none⟩ = some (.string ((rd_T41 l0 x6_1).f1.f2)) ∧ w'.cell? (ad432.add ((x6_1).toNat * 4)) = some (.string ((rd_T41 l0 x6_1).f0)) ∧ w'.cell? ⟨(ad432.add ((x6_1).toNat * 4)).block, (ad432.add ((x6_1).toNat * 4)).off + 1, none⟩ = some (.int .i8 ((rd_T41 l0 x6_1).f1.f0)) ∧ w'.cell? ⟨(ad432.add ((x6_1).toNat * 4)).block, (ad432.add ((x6_1).toNat * 4)).off + 2, none⟩ = some (.int .i64 ((rd_T41 l0 x6_1).f1.f1)) ∧ w'.cell? ⟨(ad432.add ((x6_1).toNat * 4)).block, (ad432.add ((x6_1).toNat * 4)).off + 3, none⟩ = some (.string ((rd_T41 l0 x6_1).f1.f2))) (ds := []) #[false, false, false, false, false, false, false, false, false, false, false, false, false, false] (by kernel_rfl) rfl rfl ⟨((HB.out.cell (World.block_lt_of_cell? w _ hw433_0)).trans hw433_0), ((HB.out.cell (World.block_lt_of_cell? w _ hw433_1)).trans hw433_1), ((HB.out.cell (World.block_lt_of_cell? w _ hw433_2)).trans hw433_2), ((HB.out.cell (World.block_lt_of_cell? w _ hw433_3)).trans hw433_3), ((HB.out.cell (World.block_lt_of_cell? w _ hw434_0)).trans hw434_0), ((HB.out.cell (World.block_lt_of_cell? w _ hw434_1)).trans hw434_1), ((HB.out.cell (World.block_lt_of_cell? w _ hw434_2)).trans hw434_2), ((HB.out.cell (World.block_lt_of_cell? w _ hw434_3)).trans hw434_3)⟩ (fun hHeld => ?_); refine xbn r4_Bound.tab7 r4_Bound.bits7 (fun HT_ HW_ => ?_)
       generalize w17.drew = w18 at BK430 BK431 HB hx433_0 hx433_1 hx433_2 hx433_3 hx434_0 hx434_1 hx434_2 hx434_3 hHeld ⊢
       refine pure_ (i := 0) (N := some 26) (v := ?_) (a' := ?_) #[true, false, false, false, false, false, false, false, false, false, false, false, false, false] rfl rfl (any_of HT_.out (by kernel_rfl)) (fun _ _ _ h => h) (Or.inl ⟨by rfl, ?_⟩) ?_ ?_
       rotate_left
       ·intro w'
        go_simp
        with_reducible rfl
       rotate_left
       ·simp only [Act.put, sI, sZ, sS, i64_w, i32_w]
        rfl
       refine pure_ (i := 1) (N := some 27) (v := ?_) (a' := ?_) #[true, true, false, false, false, false, false, false, false, false, false, false, false, false] rfl rfl (any_of HT_.out (by kernel_rfl)) (fun _ _ _ h => h) (Or.inl ⟨by rfl, ?_⟩) ?_ ?_
       rotate_left
       ·intro w'
        go_simp
        with_reducible rfl
       rotate_left
       ·simp only [Act.put, sI, sZ, sS, i64_w, i32_w]
        rfl
       refine pure_ (i := 2) (N := some 28) (v := ?_) (a' := ?_) #[true, true, true, false, false, false, false, false, false, false, false, false, false, false] rfl rfl (any_of HT_.out (by kernel_rfl)) (fun _ _ _ h => h) (Or.inl ⟨by rfl, ?_⟩) ?_ ?_
       rotate_left
       ·intro w'
        go_simp
        with_reducible rfl
       rotate_left
       ·simp only [Act.put, sI, sZ, sS, i64_w, i32_w]
        rfl
       refine pure_ (i := 3) (N := some 29) (v := ?_) (a' := ?_) #[true, true, true, true, false, false, false, false, false, false, false, false, false, false] rfl rfl (any_of HT_.out (by kernel_rfl)) (fun _ _ _ h => h) (Or.inl ⟨by rfl, ?_⟩) ?_ ?_
       rotate_left
       ·intro w'
        go_simp
        with_reducible rfl
       rotate_left
       ·simp only [Act.put, sI, sZ, sS, i64_w, i32_w]
        rfl
       refine pure_ (i := 5) (N := some 31) (v := ?_) (a' := ?_) #[true, true, true, true, false, true, false, false, false, false, false, false, false, false] rfl rfl (any_of HT_.out (by kernel_rfl)) (fun _ _ _ h => h) (Or.inl ⟨by rfl, ?_⟩) ?_ ?_
       rotate_left
       ·intro w'
        go_simp
        with_reducible rfl
       rotate_left
       ·simp only [Act.put, sI, sZ, sS, i64_w, i32_w]
        rfl
       refine pure_ (i := 6) (N := some 32) (v := ?_) (a' := ?_) #[true, true, true, true, false, true, true, false, false, false, false, false, false, false] rfl rfl (any_of HT_.out (by kernel_rfl)) (fun _ _ _ h => h) (Or.inl ⟨by rfl, ?_⟩) ?_ ?_
       rotate_left
       ·intro w'
        go_simp
        with_reducible rfl
       rotate_left
       ·simp only [Act.put, sI, sZ, sS, i64_w, i32_w]
        rfl
       refine pure_ (i := 7) (N := some 33) (v := ?_) (a' := ?_) #[true, true, true, true, false, true, true, true, false, false, false, false, false, false] rfl rfl (any_of HT_.out (by kernel_rfl)) (fun _ _ _ h => h) (Or.inl ⟨by rfl, ?_⟩) ?_ ?_
       rotate_left
       ·intro w'
        go_simp
        with_reducible rfl
       rotate_left
       ·simp only [Act.put, sI, sZ, sS, i64_w, i32_w]
        rfl
       refine pure_ (i := 8) (N := some 34) (v := ?_) (a' := ?_) #[true, true, true, true, false, true, true, true, true, false, false, false, false, false] rfl rfl (any_of HT_.out (by kernel_rfl)) (fun _ _ _ h => h) (Or.inl ⟨by rfl, ?_⟩) ?_ ?_
       rotate_left
       ·intro w'
        go_simp
        with_reducible rfl
       rotate_left
       ·simp only [Act.put, sI, sZ, sS, i64_w, i32_w]
        rfl
       refine take_ (i := 4) (N := some 30) (v := ?_) (a' := ?_) #[true, true, true, true, true, true, true, true, true, false, false, false, false, false] rfl rfl (xbb HT_.out HW_.out (by kernel_rfl)) (fun _ _ _ h => h) (Or.inl ⟨by rfl, ?_⟩) hHeld ?_ ?_
       rotate_left
       ·rintro w' ⟨s0, s1, s2, s3, s4, s5, s6, s7⟩
        go_simp
        with_reducible rfl
       rotate_left
       ·simp only [Act.put, sI, sZ, sS, i64_w, i32_w]
        rfl
       refine take_ (i := 9) (N := some 35) (v := ?_) (a' := ?_) #[true, true, true, true, true, true, true, true, true, true, false, false, false, false] rfl rfl (xbb HT_.out HW_.out (by kernel_rfl)) (fun _ _ _ h => h) (Or.inl ⟨by rfl, ?_⟩) hHeld ?_ ?_
       rotate_left
       ·rintro w' ⟨s0, s1, s2, s3, s4, s5, s6, s7⟩
        go_simp
        with_reducible rfl
       rotate_left
       ·simp only [Act.put, sI, sZ, sS, i64_w, i32_w]
        rfl
       refine one_ (i := 10) (N := some 36) #[true, true, true, true, true, true, true, true, true, true, true, false, false, false] rfl rfl (one_of HT_.out (by kernel_rfl)) (by decide) (fun K hK => ?_)
       refine goes_ Tryd.func13 (by kernel_rfl) rfl #[.agg #[.int .i8 ((rd_T41 l0 x6_1).f1.f0), .int .i64 ((rd_T41 l0 x6_1).f1.f1), .string ((rd_T41 l0 x6_1).f1.f2)]] (by rfl) rfl rfl (by (try simp only [List.map_toArray, List.map_cons, List.map_nil]); first | done | rfl | (simp only [List.length_drop, List.length_take]; rfl)) ?_
       with_reducible refine (r1_Check.calls ((rd_T41 l0 x6_1).f1.f0) ((rd_T41 l0 x6_1).f1.f1) ((rd_T41 l0 x6_1).f1.f2) t435 _ A16.out).mono ?_
       rintro e w19 ⟨rfl, hb⟩
       refine ⟨_, rfl, ?_⟩
       have n0_ := Aside0.mk (xan (g := gb430) (o := .cells #[.string a1_0, .int .i8 a1_1, .int .i64 a1_2, .string a1_3] 28 (0, 0)) (by (with_reducible repeat (first | refine xae ?_ _ | refine xaf ?_ | refine xad ?_ _)); exact BK430.out) hb)
       have n1_ := Aside0.mk (xan (g := gb431) (o := .cells #[.int .i8 x432000_1, .int .i64 x432001_1, .string x432002_1] 26 (0, 0)) (by (with_reducible repeat (first | refine xae ?_ _ | refine xaf ?_ | refine xad ?_ _)); exact BK431.out) hb)
       have n2_ := Aside0.mk (xai (by repeat (first | (with_reducible first | exact HB.out | apply xab | apply xaa | apply xac | refine xag ?_ GE430.out | refine xag ?_ GE431.out) | exact HB.out)) hb)
       clear BK430
       clear BK431
       clear HB
       have BK430 := n0_
       have BK431 := n1_
       have HB := n2_
       clear n0_ n1_ n2_
       (try clear hb)
       (try clear hb2)
       (try clear hk)
       (try clear hi)
       refine hK.out _ _ ⟨((HB.out.cell (World.block_lt_of_cell? w _ hw433_0)).trans hw433_0), ((HB.out.cell (World.block_lt_of_cell? w _ hw433_1)).trans hw433_1), ((HB.out.cell (World.block_lt_of_cell? w _ hw433_2)).trans hw433_2), ((HB.out.cell (World.block_lt_of_cell? w _ hw433_3)).trans hw433_3), ((HB.out.cell (World.block_lt_of_cell? w _ hw434_0)).trans hw434_0), ((HB.out.cell (World.block_lt_of_cell? w _ hw434_1)).trans hw434_1), ((HB.out.cell (World.block_lt_of_cell? w _ hw434_2)).trans hw434_2), ((HB.out.cell (World.block_lt_of_cell? w _ hw434_3)).trans hw434_3)⟩ (fun hHeld => ?_)
       clear hK K
       refine norm_ (a' := ?_) ?_ ?_
       rotate_left
       ·show Act.put _ (some 36) _ = _
        simp only [Act.put, sI, sZ, sS, i64_w, i32_w]
        rfl
       refine pure_ (i := 11) (N := some 37) (v := ?_) (a' := ?_) #[true, true, true, true, true, true, true, true, true, true, true, true, false, false] rfl rfl (any_of HT_.out (by kernel_rfl)) (fun _ _ _ h => h) (Or.inl ⟨by rfl, ?_⟩) ?_ ?_
       rotate_left
       ·intro w'
        go_simp
        with_reducible rfl
       rotate_left
       ·simp only [Act.put, sI, sZ, sS, i64_w, i32_w]
        rfl
       refine one_ (i := 12) (N := none) #[true, true, true, true, true, true, true, true, true, true, true, true, true, false] rfl rfl (one_of HT_.out (by kernel_rfl)) (by decide) (fun K hK => ?_)
       have hs20 : w19.cell? ⟨gb431, 0, none⟩ = some (.int .i8 x432000_1) := (xaj BK431.out 0).trans rfl
       have hfs20 := xam BK431.out 0
       have hns20_0 := NB430_431.out
       have hms20_0 := NB431_430.out
       have hs21 : w19.cell? ⟨gb431, 1, none⟩ = some (.int .i64 x432001_1) := (xaj BK431.out 1).trans rfl
       have hfs21 := xam BK431.out 1
       have hns21_0 := NB430_431.out
       have hms21_0 := NB431_430.out
       have hs22 : w19.cell? ⟨gb431, 2, none⟩ = some (.string x432002_1) := (xaj BK431.out 2).trans rfl
       have hfs22 := xam BK431.out 2
       have hns22_0 := NB430_431.out
       have hms22_0 := NB431_430.out
       refine skip_ (w1 := ?_) (by rfl) rfl ?_ ?_
       rotate_left
       ·go_simp
        rfl
       refine hK.out _ _ ⟨((xaw (p := ⟨gb431, _, none⟩) (by first | exact Nat.ne_of_lt (Nat.lt_of_lt_of_le (by have := World.block_lt_of_cell? _ _ hw433_0; first | rwa [xah] at this | exact this) GW431.out) | (rw [xah]; exact Nat.ne_of_lt (Nat.lt_of_lt_of_le (by have := World.block_lt_of_cell? _ _ hw433_0; first | rwa [xah] at this | exact this) GW431.out)) | (show (Addr.add _ _).block ≠ _; rw [xah]; exact Nat.ne_of_lt (Nat.lt_of_lt_of_le (by have := World.block_lt_of_cell? _ _ hw433_0; first | rwa [xah] at this | exact this) GW431.out)) | (dsimp only; exact Nat.ne_of_lt (Nat.lt_of_lt_of_le (by have := World.block_lt_of_cell? _ _ hw433_0; first | rwa [xah] at this | exact this) GW431.out))) _).trans (((xaw (p := ⟨gb431, _, none⟩) (by first | exact Nat.ne_of_lt (Nat.lt_of_lt_of_le (by have := World.block_lt_of_cell? _ _ hw433_0; first | rwa [xah] at this | exact this) GW431.out) | (rw [xah]; exact Nat.ne_of_lt (Nat.lt_of_lt_of_le (by have := World.block_lt_of_cell? _ _ hw433_0; first | rwa [xah] at this | exact this) GW431.out)) | (show (Addr.add _ _).block ≠ _; rw [xah]; exact Nat.ne_of_lt (Nat.lt_of_lt_of_le (by have := World.block_lt_of_cell? _ _ hw433_0; first | rwa [xah] at this | exact this) GW431.out)) | (dsimp only; exact Nat.ne_of_lt (Nat.lt_of_lt_of_le (by have := World.block_lt_of_cell? _ _ hw433_0; first | rwa [xah] at this | exact this) GW431.out))) _).trans (((xaw (p := ⟨gb431, _, none⟩) (by first | exact Nat.ne_of_lt (Nat.lt_of_lt_of_le (by have := World.block_lt_of_cell? _ _ hw433_0; first | rwa [xah] at this | exact this) GW431.out) | (rw [xah]; exact Nat.ne_of_lt (Nat.lt_of_lt_of_le (by have := World.block_lt_of_cell? _ _ hw433_0; first | rwa [xah] at this | exact this) GW431.out)) | (show (Addr.add _ _).block ≠ _; rw [xah]; exact Nat.ne_of_lt (Nat.lt_of_lt_of_le (by have := World.block_lt_of_cell? _ _ hw433_0; first | rwa [xah] at this | exact this) GW431.out)) | (dsimp only; exact Nat.ne_of_lt (Nat.lt_of_lt_of_le (by have := World.block_lt_of_cell? _ _ hw433_0; first | rwa [xah] at this | exact this) GW431.out))) _).trans (hHeld.1)))))), ((xaw (p := ⟨gb431, _, none⟩) (by first | exact Nat.ne_of_lt (Nat.lt_of_lt_of_le (by have := World.block_lt_of_cell? _ _ hw433_1; first | rwa [xah] at this | exact this) GW431.out) | (rw [xah]; exact Nat.ne_of_lt (Nat.lt_of_lt_of_le (by have := World.block_lt_of_cell? _ _ hw433_1; first | rwa [xah] at this | exact this) GW431.out)) | (show (Addr.add _ _).block ≠ _; rw [xah]; exact Nat.ne_of_lt (Nat.lt_of_lt_of_le (by have := World.block_lt_of_cell? _ _ hw433_1; first | rwa [xah] at this | exact this) GW431.out)) | (dsimp only; exact Nat.ne_of_lt (Nat.lt_of_lt_of_le (by have := World.block_lt_of_cell? _ _ hw433_1; first | rwa [xah] at this | exact this) GW431.out))) _).trans (((xaw (p := ⟨gb431, _, none⟩) (by first | exact Nat.ne_of_lt (Nat.lt_of_lt_of_le (by have := World.block_lt_of_cell? _ _ hw433_1; first | rwa [xah] at this | exact this) GW431.out) | (rw [xah]; exact Nat.ne_of_lt (Nat.lt_of_lt_of_le (by have := World.block_lt_of_cell? _ _ hw433_1; first | rwa [xah] at this | exact this) GW431.out)) | (show (Addr.add _ _).block ≠ _; rw [xah]; exact Nat.ne_of_lt (Nat.lt_of_lt_of_le (by have := World.block_lt_of_cell? _ _ hw433_1; first | rwa [xah] at this | exact this) GW431.out)) | (dsimp only; exact Nat.ne_of_lt (Nat.lt_of_lt_of_le (by have := World.block_lt_of_cell? _ _ hw433_1; first | rwa [xah] at this | exact this) GW431.out))) _).trans (((xaw (p := ⟨gb431, _, none⟩) (by first | exact Nat.ne_of_lt (Nat.lt_of_lt_of_le (by have := World.block_lt_of_cell? _ _ hw433_1; first | rwa [xah] at this | exact this) GW431.out) | (rw [xah]; exact Nat.ne_of_lt (Nat.lt_of_lt_of_le (by have := World.block_lt_of_cell? _ _ hw433_1; first | rwa [xah] at this | exact this) GW431.out)) | (show (Addr.add _ _).block ≠ _; rw [xah]; exact Nat.ne_of_lt (Nat.lt_of_lt_of_le (by have := World.block_lt_of_cell? _ _ hw433_1; first | rwa [xah] at this | exact this) GW431.out)) | (dsimp only; exact Nat.ne_of_lt (Nat.lt_of_lt_of_le (by have := World.block_lt_of_cell? _ _ hw433_1; first | rwa [xah] at this | exact this) GW431.out))) _).trans (hHeld.2.1)))))), ((xaw (p := ⟨gb431, _, none⟩) (by first | exact Nat.ne_of_lt (Nat.lt_of_lt_of_le (by have := World.block_lt_of_cell? _ _ hw433_2; first | rwa [xah] at this | exact this) GW431.out) | (rw [xah]; exact Nat.ne_of_lt (Nat.lt_of_lt_of_le (by have := World.block_lt_of_cell? _ _ hw433_2; first | rwa [xah] at this | exact this) GW431.out)) | (show (Addr.add _ _).block ≠ _; rw [xah]; exact Nat.ne_of_lt (Nat.lt_of_lt_of_le (by have := World.block_lt_of_cell? _ _ hw433_2; first | rwa [xah] at this | exact this) GW431.out)) | (dsimp only; exact Nat.ne_of_lt (Nat.lt_of_lt_of_le (by have := World.block_lt_of_cell? _ _ hw433_2; first | rwa [xah] at this | exact this) GW431.out))) _).trans (((xaw (p := ⟨gb431, _, none⟩) (by first | exact Nat.ne_of_lt (Nat.lt_of_lt_of_le (by have := World.block_lt_of_cell? _ _ hw433_2; first | rwa [xah] at this | exact this) GW431.out) | (rw [xah]; exact Nat.ne_of_lt (Nat.lt_of_lt_of_le (by have := World.block_lt_of_cell? _ _ hw433_2; first | rwa [xah] at this | exact this) GW431.out)) | (show (Addr.add _ _).block ≠ _; rw [xah]; exact Nat.ne_of_lt (Nat.lt_of_lt_of_le (by have := World.block_lt_of_cell? _ _ hw433_2; first | rwa [xah] at this | exact this) GW431.out)) | (dsimp only; exact Nat.ne_of_lt (Nat.lt_of_lt_of_le (by have := World.block_lt_of_cell? _ _ hw433_2; first | rwa [xah] at this | exact this) GW431.out))) _).trans (((xaw (p := ⟨gb431, _, none⟩) (by first | exact Nat.ne_of_lt (Nat.lt_of_lt_of_le (by have := World.block_lt_of_cell? _ _ hw433_2; first | rwa [xah] at this | exact this) GW431.out) | (rw [xah]; exact Nat.ne_of_lt (Nat.lt_of_lt_of_le (by have := World.block_lt_of_cell? _ _ hw433_2; first | rwa [xah] at this | exact this) GW431.out)) | (show (Addr.add _ _).block ≠ _; rw [xah]; exact Nat.ne_of_lt (Nat.lt_of_lt_of_le (by have := World.block_lt_of_cell? _ _ hw433_2; first | rwa [xah] at this | exact this) GW431.out)) | (dsimp only; exact Nat.ne_of_lt (Nat.lt_of_lt_of_le (by have := World.block_lt_of_cell? _ _ hw433_2; first | rwa [xah] at this | exact this) GW431.out))) _).trans (hHeld.2.2.1)))))), ((xaw (p := ⟨gb431, _, none⟩) (by first | exact Nat.ne_of_lt (Nat.lt_of_lt_of_le (by have := World.block_lt_of_cell? _ _ hw433_3; first | rwa [xah] at this | exact this) GW431.out) | (rw [xah]; exact Nat.ne_of_lt (Nat.lt_of_lt_of_le (by have := World.block_lt_of_cell? _ _ hw433_3; first | rwa [xah] at this | exact this) GW431.out)) | (show (Addr.add _ _).block ≠ _; rw [xah]; exact Nat.ne_of_lt (Nat.lt_of_lt_of_le (by have := World.block_lt_of_cell? _ _ hw433_3; first | rwa [xah] at this | exact this) GW431.out)) | (dsimp only; exact Nat.ne_of_lt (Nat.lt_of_lt_of_le (by have := World.block_lt_of_cell? _ _ hw433_3; first | rwa [xah] at this | exact this) GW431.out))) _).trans (((xaw (p := ⟨gb431, _, none⟩) (by first | exact Nat.ne_of_lt (Nat.lt_of_lt_of_le (by have := World.block_lt_of_cell? _ _ hw433_3; first | rwa [xah] at this | exact this) GW431.out) | (rw [xah]; exact Nat.ne_of_lt (Nat.lt_of_lt_of_le (by have := World.block_lt_of_cell? _ _ hw433_3; first | rwa [xah] at this | exact this) GW431.out)) | (show (Addr.add _ _).block ≠ _; rw [xah]; exact Nat.ne_of_lt (Nat.lt_of_lt_of_le (by have := World.block_lt_of_cell? _ _ hw433_3; first | rwa [xah] at this | exact this) GW431.out)) | (dsimp only; exact Nat.ne_of_lt (Nat.lt_of_lt_of_le (by have := World.block_lt_of_cell? _ _ hw433_3; first | rwa [xah] at this | exact this) GW431.out))) _).trans (((xaw (p := ⟨gb431, _, none⟩) (by first | exact Nat.ne_of_lt (Nat.lt_of_lt_of_le (by have := World.block_lt_of_cell? _ _ hw433_3; first | rwa [xah] at this | exact this) GW431.out) | (rw [xah]; exact Nat.ne_of_lt (Nat.lt_of_lt_of_le (by have := World.block_lt_of_cell? _ _ hw433_3; first | rwa [xah] at this | exact this) GW431.out)) | (show (Addr.add _ _).block ≠ _; rw [xah]; exact Nat.ne_of_lt (Nat.lt_of_lt_of_le (by have := World.block_lt_of_cell? _ _ hw433_3; first | rwa [xah] at this | exact this) GW431.out)) | (dsimp only; exact Nat.ne_of_lt (Nat.lt_of_lt_of_le (by have := World.block_lt_of_cell? _ _ hw433_3; first | rwa [xah] at this | exact this) GW431.out))) _).trans (hHeld.2.2.2.1)))))), ((xaw (p := ⟨gb431, _, none⟩) (by first | exact Nat.ne_of_lt (Nat.lt_of_lt_of_le (by have := World.block_lt_of_cell? _ _ hw434_0; first | rwa [xah] at this | exact this) GW431.out) | (rw [xah]; exact Nat.ne_of_lt (Nat.lt_of_lt_of_le (by have := World.block_lt_of_cell? _ _ hw434_0; first | rwa [xah] at this | exact this) GW431.out)) | (show (Addr.add _ _).block ≠ _; rw [xah]; exact Nat.ne_of_lt (Nat.lt_of_lt_of_le (by have := World.block_lt_of_cell? _ _ hw434_0; first | rwa [xah] at this | exact this) GW431.out)) | (dsimp only; exact Nat.ne_of_lt (Nat.lt_of_lt_of_le (by have := World.block_lt_of_cell? _ _ hw434_0; first | rwa [xah] at this | exact this) GW431.out))) _).trans (((xaw (p := ⟨gb431, _, none⟩) (by first | exact Nat.ne_of_lt (Nat.lt_of_lt_of_le (by have := World.block_lt_of_cell? _ _ hw434_0; first | rwa [xah] at this | exact this) GW431.out) | (rw [xah]; exact Nat.ne_of_lt (Nat.lt_of_lt_of_le (by have := World.block_lt_of_cell? _ _ hw434_0; first | rwa [xah] at this | exact this) GW431.out)) | (show (Addr.add _ _).block ≠ _; rw [xah]; exact Nat.ne_of_lt (Nat.lt_of_lt_of_le (by have := World.block_lt_of_cell? _ _ hw434_0; first | rwa [xah] at this | exact this) GW431.out)) | (dsimp only; exact Nat.ne_of_lt (Nat.lt_of_lt_of_le (by have := World.block_lt_of_cell? _ _ hw434_0; first | rwa [xah] at this | exact this) GW431.out))) _).trans (((xaw (p := ⟨gb431, _, none⟩) (by first | exact Nat.ne_of_lt (Nat.lt_of_lt_of_le (by have := World.block_lt_of_cell? _ _ hw434_0; first | rwa [xah] at this | exact this) GW431.out) | (rw [xah]; exact Nat.ne_of_lt (Nat.lt_of_lt_of_le (by have := World.block_lt_of_cell? _ _ hw434_0; first | rwa [xah] at this | exact this) GW431.out)) | (show (Addr.add _ _).block ≠ _; rw [xah]; exact Nat.ne_of_lt (Nat.lt_of_lt_of_le (by have := World.block_lt_of_cell? _ _ hw434_0; first | rwa [xah] at this | exact this) GW431.out)) | (dsimp only; exact Nat.ne_of_lt (Nat.lt_of_lt_of_le (by have := World.block_lt_of_cell? _ _ hw434_0; first | rwa [xah] at this | exact this) GW431.out))) _).trans (hHeld.2.2.2.2.1)))))), ((xaw (p := ⟨gb431, _, none⟩) (by first | exact Nat.ne_of_lt (Nat.lt_of_lt_of_le (by have := World.block_lt_of_cell? _ _ hw434_1; first | rwa [xah] at this | exact this) GW431.out) | (rw [xah]; exact Nat.ne_of_lt (Nat.lt_of_lt_of_le (by have := World.block_lt_of_cell? _ _ hw434_1; first | rwa [xah] at this | exact this) GW431.out)) | (show (Addr.add _ _).block ≠ _; rw [xah]; exact Nat.ne_of_lt (Nat.lt_of_lt_of_le (by have := World.block_lt_of_cell? _ _ hw434_1; first | rwa [xah] at this | exact this) GW431.out)) | (dsimp only; exact Nat.ne_of_lt (Nat.lt_of_lt_of_le (by have := World.block_lt_of_cell? _ _ hw434_1; first | rwa [xah] at this | exact this) GW431.out))) _).trans (((xaw (p := ⟨gb431, _, none⟩) (by first | exact Nat.ne_of_lt (Nat.lt_of_lt_of_le (by have := World.block_lt_of_cell? _ _ hw434_1; first | rwa [xah] at this | exact this) GW431.out) | (rw [xah]; exact Nat.ne_of_lt (Nat.lt_of_lt_of_le (by have := World.block_lt_of_cell? _ _ hw434_1; first | rwa [xah] at this | exact this) GW431.out)) | (show (Addr.add _ _).block ≠ _; rw [xah]; exact Nat.ne_of_lt (Nat.lt_of_lt_of_le (by have := World.block_lt_of_cell? _ _ hw434_1; first | rwa [xah] at this | exact this) GW431.out)) | (dsimp only; exact Nat.ne_of_lt (Nat.lt_of_lt_of_le (by have := World.block_lt_of_cell? _ _ hw434_1; first | rwa [xah] at this | exact this) GW431.out))) _).trans (((xaw (p := ⟨gb431, _, none⟩) (by first | exact Nat.ne_of_lt (Nat.lt_of_lt_of_le (by have := World.block_lt_of_cell? _ _ hw434_1; first | rwa [xah] at this | exact this) GW431.out) | (rw [xah]; exact Nat.ne_of_lt (Nat.lt_of_lt_of_le (by have := World.block_lt_of_cell? _ _ hw434_1; first | rwa [xah] at this | exact this) GW431.out)) | (show (Addr.add _ _).block ≠ _; rw [xah]; exact Nat.ne_of_lt (Nat.lt_of_lt_of_le (by have := World.block_lt_of_cell? _ _ hw434_1; first | rwa [xah] at this | exact this) GW431.out)) | (dsimp only; exact Nat.ne_of_lt (Nat.lt_of_lt_of_le (by have := World.block_lt_of_cell? _ _ hw434_1; first | rwa [xah] at this | exact this) GW431.out))) _).trans (hHeld.2.2.2.2.2.1)))))), ((xaw (p := ⟨gb431, _, none⟩) (by first | exact Nat.ne_of_lt (Nat.lt_of_lt_of_le (by have := World.block_lt_of_cell? _ _ hw434_2; first | rwa [xah] at this | exact this) GW431.out) | (rw [xah]; exact Nat.ne_of_lt (Nat.lt_of_lt_of_le (by have := World.block_lt_of_cell? _ _ hw434_2; first | rwa [xah] at this | exact this) GW431.out)) | (show (Addr.add _ _).block ≠ _; rw [xah]; exact Nat.ne_of_lt (Nat.lt_of_lt_of_le (by have := World.block_lt_of_cell? _ _ hw434_2; first | rwa [xah] at this | exact this) GW431.out)) | (dsimp only; exact Nat.ne_of_lt (Nat.lt_of_lt_of_le (by have := World.block_lt_of_cell? _ _ hw434_2; first | rwa [xah] at this | exact this) GW431.out))) _).trans (((xaw (p := ⟨gb431, _, none⟩) (by first | exact Nat.ne_of_lt (Nat.lt_of_lt_of_le (by have := World.block_lt_of_cell? _ _ hw434_2; first | rwa [xah] at this | exact this) GW431.out) | (rw [xah]; exact Nat.ne_of_lt (Nat.lt_of_lt_of_le (by have := World.block_lt_of_cell? _ _ hw434_2; first | rwa [xah] at this | exact this) GW431.out)) | (show (Addr.add _ _).block ≠ _; rw [xah]; exact Nat.ne_of_lt (Nat.lt_of_lt_of_le (by have := World.block_lt_of_cell? _ _ hw434_2; first | rwa [xah] at this | exact this) GW431.out)) | (dsimp only; exact Nat.ne_of_lt (Nat.lt_of_lt_of_le (by have := World.block_lt_of_cell? _ _ hw434_2; first | rwa [xah] at this | exact this) GW431.out))) _).trans (((xaw (p := ⟨gb431, _, none⟩) (by first | exact Nat.ne_of_lt (Nat.lt_of_lt_of_le (by have := World.block_lt_of_cell? _ _ hw434_2; first | rwa [xah] at this | exact this) GW431.out) | (rw [xah]; exact Nat.ne_of_lt (Nat.lt_of_lt_of_le (by have := World.block_lt_of_cell? _ _ hw434_2; first | rwa [xah] at this | exact this) GW431.out)) | (show (Addr.add _ _).block ≠ _; rw [xah]; exact Nat.ne_of_lt (Nat.lt_of_lt_of_le (by have := World.block_lt_of_cell? _ _ hw434_2; first | rwa [xah] at this | exact this) GW431.out)) | (dsimp only; exact Nat.ne_of_lt (Nat.lt_of_lt_of_le (by have := World.block_lt_of_cell? _ _ hw434_2; first | rwa [xah] at this | exact this) GW431.out))) _).trans (hHeld.2.2.2.2.2.2.1)))))), ((xaw (p := ⟨gb431, _, none⟩) (by first | exact Nat.ne_of_lt (Nat.lt_of_lt_of_le (by have := World.block_lt_of_cell? _ _ hw434_3; first | rwa [xah] at this | exact this) GW431.out) | (rw [xah]; exact Nat.ne_of_lt (Nat.lt_of_lt_of_le (by have := World.block_lt_of_cell? _ _ hw434_3; first | rwa [xah] at this | exact this) GW431.out)) | (show (Addr.add _ _).block ≠ _; rw [xah]; exact Nat.ne_of_lt (Nat.lt_of_lt_of_le (by have := World.block_lt_of_cell? _ _ hw434_3; first | rwa [xah] at this | exact this) GW431.out)) | (dsimp only; exact Nat.ne_of_lt (Nat.lt_of_lt_of_le (by have := World.block_lt_of_cell? _ _ hw434_3; first | rwa [xah] at this | exact this) GW431.out))) _).trans (((xaw (p := ⟨gb431, _, none⟩) (by first | exact Nat.ne_of_lt (Nat.lt_of_lt_of_le (by have := World.block_lt_of_cell? _ _ hw434_3; first | rwa [xah] at this | exact this) GW431.out) | (rw [xah]; exact Nat.ne_of_lt (Nat.lt_of_lt_of_le (by have := World.block_lt_of_cell? _ _ hw434_3; first | rwa [xah] at this | exact this) GW431.out)) | (show (Addr.add _ _).block ≠ _; rw [xah]; exact Nat.ne_of_lt (Nat.lt_of_lt_of_le (by have := World.block_lt_of_cell? _ _ hw434_3; first | rwa [xah] at this | exact this) GW431.out)) | (dsimp only; exact Nat.ne_of_lt (Nat.lt_of_lt_of_le (by have := World.block_lt_of_cell? _ _ hw434_3; first | rwa [xah] at this | exact this) GW431.out))) _).trans (((xaw (p := ⟨gb431, _, none⟩) (by first | exact Nat.ne_of_lt (Nat.lt_of_lt_of_le (by have := World.block_lt_of_cell? _ _ hw434_3; first | rwa [xah] at this | exact this) GW431.out) | (rw [xah]; exact Nat.ne_of_lt (Nat.lt_of_lt_of_le (by have := World.block_lt_of_cell? _ _ hw434_3; first | rwa [xah] at this | exact this) GW431.out)) | (show (Addr.add _ _).block ≠ _; rw [xah]; exact Nat.ne_of_lt (Nat.lt_of_lt_of_le (by have := World.block_lt_of_cell? _ _ hw434_3; first | rwa [xah] at this | exact this) GW431.out)) | (dsimp only; exact Nat.ne_of_lt (Nat.lt_of_lt_of_le (by have := World.block_lt_of_cell? _ _ hw434_3; first | rwa [xah] at this | exact this) GW431.out))) _).trans (hHeld.2.2.2.2.2.2.2))))))⟩ (fun hHeld => ?_)
       clear hK K
       refine pure_ (i := 13) (N := some 5) (v := ?_) (a' := ?_) #[true, true, true, true, true, true, true, true, true, true, true, true, true, true] rfl rfl (any_of HT_.out (by kernel_rfl)) (fun _ _ _ h => h) (Or.inl ⟨by rfl, ?_⟩) ?_ ?_
       rotate_left
       ·intro w'
        go_simp
        with_reducible rfl
       rotate_left
       ·simp only [Act.put, sI, sZ, sS, i64_w, i32_w]
        rfl
       refine done_ (done_of HT_.out (by kernel_rfl)) ?_
       try go_wp2
       refine bodyPost_ret (xat rfl _ _ gb431 26 #[.int .i8 ((rd_T41 l0 x6_1).f1.f0), .int .i64 ((rd_T41 l0 x6_1).f1.f1), .string ((rd_T41 l0 x6_1).f1.f2)] (0, 0) _ rfl (by (with_reducible repeat (first | refine xae ?_ _ | refine xaf ?_ | refine xad ?_ _)); refine xas (cs := #[.int .i8 ((rd_T41 l0 x6_1).f1.f0), .int .i64 ((rd_T41 l0 x6_1).f1.f1), .string x432002_1]) ?_ 2 _ rfl; (with_reducible repeat (first | refine xae ?_ _ | refine xaf ?_ | refine xad ?_ _)); refine xas (cs := #[.int .i8 ((rd_T41 l0 x6_1).f1.f0), .int .i64 x432001_1, .string x432002_1]) ?_ 1 _ rfl; (with_reducible repeat (first | refine xae ?_ _ | refine xaf ?_ | refine xad ?_ _)); refine xas (cs := #[.int .i8 x432000_1, .int .i64 x432001_1, .string x432002_1]) ?_ 0 _ rfl; (with_reducible repeat (first | refine xae ?_ _ | refine xaf ?_ | refine xad ?_ _)); exact BK431.out) Tryd.underlying26 rfl (by kernel_rfl)) rfl ?_
       exact ⟨by first | rfl | (simp [xak, xal] <;> rfl) | (simp [*, xak, xal] <;> rfl), by repeat (first | (with_reducible first | exact HB.out | apply xab | apply xaa | apply xac | refine xag ?_ GE430.out | refine xag ?_ GE431.out) | exact HB.out)⟩
      ·rw [if_neg c15] at H
       have c15b0 : (((rd_T41 l0 x6_1).f0).toList == a1_0.toList) = false := beq_eq_false_iff_ne.mpr c15
       have c15b1 : (((rd_T41 l0 x6_1).f0).toList != a1_0.toList) = true := bne_iff_ne.mpr c15
       have H' := Aside0.mk H
       clear H
       try go_wp2
       have n0_ := Aside0.mk (xaf BK430.out)
       have n1_ := Aside0.mk (xaf BK431.out)
       have n2_ := Aside0.mk (xac HB.out)
       clear BK430
       clear BK431
       clear HB
       have BK430 := n0_
       have BK431 := n1_
       have HB := n2_
       clear n0_ n1_ n2_
       have p432 : 0 ≤ (x6_1 : Int) := of_decide_eq_true (by first | (with_reducible assumption) | assumption)
       have q432 : x6_1 < (l0.length : Int) := of_decide_eq_true (by first | (with_reducible assumption) | assumption)
       obtain ⟨ad432, e432, hx432_0, hx432_1, hx432_2, hx432_3⟩ := at_T41 HR0.out x6_1 p432 q432
       have hw432_3 := hx432_3
       have hw432_2 := hx432_2
       have hw432_1 := hx432_1
       have hw432_0 := hx432_0
       cases e432
       replace hx432_0 := (HB.out.cell (World.block_lt_of_cell? w _ hx432_0)).trans hx432_0
       replace hx432_1 := (HB.out.cell (World.block_lt_of_cell? w _ hx432_1)).trans hx432_1
       replace hx432_2 := (HB.out.cell (World.block_lt_of_cell? w _ hx432_2)).trans hx432_2
       replace hx432_3 := (HB.out.cell (World.block_lt_of_cell? w _ hx432_3)).trans hx432_3
       replace p432 := eq_true p432
       replace q432 := eq_true q432
       refine start_ (n := 8) (S := fun w' => w'.cell? ⟨gb430, 0, none⟩ = some (.string a1_0) ∧ w'.cell? ⟨gb430, 1, none⟩ = some (.int .i8 a1_1) ∧ w'.cell? ⟨gb430, 2, none⟩ = some (.int .i64 a1_2) ∧ w'.cell? ⟨gb430, 3, none⟩ = some (.string a1_3) ∧ w'.cell? (ad432.add ((x6_1).toNat * 4)) = some (.string ((rd_T41 l0 x6_1).f0)) ∧ w'.cell? ⟨(ad432.add ((x6_1).toNat * 4)).block, (ad432.add ((x6_1).toNat * 4)).off + 1, none⟩ = some (.int .i8 ((rd_T41 l0 x6_1).f1.f0)) ∧ w'.cell? ⟨(ad432.add ((x6_1).toNat * 4)).block, (ad432.add ((x6_1).toNat * 4)).off + 2, none⟩ = some (.int .i64 ((rd_T41 l0 x6_1).f1.f1)) ∧ w'.cell? ⟨(ad432.add ((x6_1).toNat * 4)).block, (ad432.add ((x6_1).toNat * 4)).off + 3, none⟩ = some (.string ((rd_T41 l0 x6_1).f1.f2))) (ds := []) #[false, false, false, false, false, false, false, false] (by kernel_rfl) rfl rfl ⟨(xaj BK430.out 0).trans rfl, (xaj BK430.out 1).trans rfl, (xaj BK430.out 2).trans rfl, (xaj BK430.out 3).trans rfl, ((HB.out.cell (World.block_lt_of_cell? w _ hw432_0)).trans hw432_0), ((HB.out.cell (World.block_lt_of_cell? w _ hw432_1)).trans hw432_1), ((HB.out.cell (World.block_lt_of_cell? w _ hw432_2)).trans hw432_2), ((HB.out.cell (World.block_lt_of_cell? w _ hw432_3)).trans hw432_3)⟩ (fun hHeld => ?_); refine xbn r4_Bound.tab6 r4_Bound.bits6 (fun HT_ HW_ => ?_)
       generalize wr.drew = w23 at BK430 BK431 HB hx432_0 hx432_1 hx432_2 hx432_3 hHeld ⊢
       refine pure_ (i := 0) (N := some 18) (v := ?_) (a' := ?_) #[true, false, false, false, false, false, false, false] rfl rfl (any_of HT_.out (by kernel_rfl)) (fun _ _ _ h => h) (Or.inl ⟨by rfl, ?_⟩) ?_ ?_
       rotate_left
       ·intro w'
        go_simp
        with_reducible rfl
       rotate_left
       ·simp only [Act.put, sI, sZ, sS, i64_w, i32_w]
        rfl
       refine pure_ (i := 1) (N := some 19) (v := ?_) (a' := ?_) #[true, true, false, false, false, false, false, false] rfl rfl (any_of HT_.out (by kernel_rfl)) (fun _ _ _ h => h) (Or.inl ⟨by rfl, ?_⟩) ?_ ?_
       rotate_left
       ·intro w'
        go_simp
        with_reducible rfl
       rotate_left
       ·simp only [Act.put, sI, sZ, sS, i64_w, i32_w]
        rfl
       refine pure_ (i := 2) (N := some 20) (v := ?_) (a' := ?_) #[true, true, true, false, false, false, false, false] rfl rfl (any_of HT_.out (by kernel_rfl)) (fun _ _ _ h => h) (Or.inl ⟨by rfl, ?_⟩) ?_ ?_
       rotate_left
       ·intro w'
        go_simp
        with_reducible rfl
       rotate_left
       ·simp only [Act.put, sI, sZ, sS, i64_w, i32_w]
        rfl
       refine pure_ (i := 3) (N := some 21) (v := ?_) (a' := ?_) #[true, true, true, true, false, false, false, false] rfl rfl (any_of HT_.out (by kernel_rfl)) (fun _ _ _ h => h) (Or.inl ⟨by rfl, ?_⟩) ?_ ?_
       rotate_left
       ·intro w'
        go_simp
        with_reducible rfl
       rotate_left
       ·simp only [Act.put, sI, sZ, sS, i64_w, i32_w]
        rfl
       refine pure_ (i := 5) (N := some 23) (v := ?_) (a' := ?_) #[true, true, true, true, false, true, false, false] rfl rfl (any_of HT_.out (by kernel_rfl)) (fun _ _ _ h => h) (Or.inl ⟨by rfl, ?_⟩) ?_ ?_
       rotate_left
       ·intro w'
        go_simp
        with_reducible rfl
       rotate_left
       ·simp only [Act.put, sI, sZ, sS, i64_w, i32_w]
        rfl
       refine take_ (i := 4) (N := some 22) (v := ?_) (a' := ?_) #[true, true, true, true, true, true, false, false] rfl rfl (xbb HT_.out HW_.out (by kernel_rfl)) (fun _ _ _ h => h) (Or.inl ⟨by rfl, ?_⟩) hHeld ?_ ?_
       rotate_left
       ·rintro w' ⟨s0, s1, s2, s3, s4, s5, s6, s7⟩
        go_simp
        with_reducible rfl
       rotate_left
       ·simp only [Act.put, sI, sZ, sS, i64_w, i32_w]
        rfl
       refine take_ (i := 6) (N := some 24) (v := ?_) (a' := ?_) #[true, true, true, true, true, true, true, false] rfl rfl (xbb HT_.out HW_.out (by kernel_rfl)) (fun _ _ _ h => h) (Or.inl ⟨by rfl, ?_⟩) hHeld ?_ ?_
       rotate_left
       ·rintro w' ⟨s0, s1, s2, s3, s4, s5, s6, s7⟩
        go_simp
        with_reducible rfl
       rotate_left
       ·simp only [Act.put, sI, sZ, sS, i64_w, i32_w]
        rfl
       refine pure_ (i := 7) (N := some 25) (v := ?_) (a' := ?_) #[true, true, true, true, true, true, true, true] rfl rfl (any_of HT_.out (by kernel_rfl)) (fun _ _ _ h => h) (Or.inl ⟨by rfl, ?_⟩) ?_ ?_
       rotate_left
       ·intro w'
        go_simp
        with_reducible rfl
       rotate_left
       ·simp only [Act.put, sI, sZ, sS, i64_w, i32_w]
        rfl
       refine done_ (done_of HT_.out (by kernel_rfl)) ?_
       try go_wp2
       go_roundg k1
       case measure => have := HK1.out; omega
       case rel => exact ⟨(wrap64 (x6_1 + 1)), (x432000_1), (x432001_1), (x432002_1), (by first | rfl | (simp; done) | (simp [*]; done)), H', ⟨by have := HK1.out; omega⟩, ⟨by (with_reducible repeat (first | refine xae ?_ _ | refine xaf ?_ | refine xad ?_ _)); exact BK430.out⟩, ⟨by (with_reducible repeat (first | refine xae ?_ _ | refine xaf ?_ | refine xad ?_ _)); exact BK431.out⟩, ⟨by repeat (first | (with_reducible first | exact HB.out | apply xab | apply xaa | apply xac | refine xag ?_ GE430.out | refine xag ?_ GE431.out) | exact HB.out)⟩⟩
     ·rw [if_neg c14] at H
      exact absurd H (by simp)
    ·rw [if_neg c13] at H
     have c13b0 : decide (x6_1 < (l0.length : Int)) = false := decide_eq_false c13
     clear c13
     simp only [Option.some.injEq, Prod.mk.injEq] at H
     obtain ⟨rfl, rfl, rfl, rfl⟩ := H
     have hnb24 := NB431_430.out
     have hnc24 := NB430_431.out
     obtain ⟨hcz25_0, hcz25_1, hcz25_2⟩ := cz3 BK431.out
     obtain ⟨hfz25_0, hfz25_1, hfz25_2⟩ := fz3 BK431.out
     go_wp2
     refine bodyPost_ret (xat rfl _ _ gb431 26 #[.int .i8 0, .int .i64 0, .string (⟨#[]⟩ : ByteArray)] (0, 0) _ rfl (by (with_reducible repeat (first | refine xae ?_ _ | refine xaf ?_ | refine xad ?_ _)); refine xas (cs := #[.int .i8 0, .int .i64 0, .string x432002_1]) ?_ 2 _ rfl; (with_reducible repeat (first | refine xae ?_ _ | refine xaf ?_ | refine xad ?_ _)); refine xas (cs := #[.int .i8 0, .int .i64 x432001_1, .string x432002_1]) ?_ 1 _ rfl; (with_reducible repeat (first | refine xae ?_ _ | refine xaf ?_ | refine xad ?_ _)); refine xas (cs := #[.int .i8 x432000_1, .int .i64 x432001_1, .string x432002_1]) ?_ 0 _ rfl; (with_reducible repeat (first | refine xae ?_ _ | refine xaf ?_ | refine xad ?_ _)); exact BK431.out) Tryd.underlying26 rfl (by kernel_rfl)) rfl ?_
     exact ⟨by first | rfl | (simp [xak, xal] <;> rfl) | (simp [*, xak, xal] <;> rfl), by repeat (first | (with_reducible first | exact HB.out | apply xab | apply xaa | apply xac | refine xag ?_ GE430.out | refine xag ?_ GE431.out) | exact HB.out)⟩
mutual
def r4_worth.l0 : Nat → List (S41) → List (S26) → Int → Int → ByteArray → Int → Int → ByteArray → List (S31) → Option (Int × Int × ByteArray × Bool)
 | 0, _, _, _, _, _, _, _, _, _ => none
 | k + 1, x1, x8, x9, x477000, x477001, x477002, x477003, x477004, x477005 => if x9 < (x477005.length : Int) then (if 0 ≤ x9 then ((r4_worth.f k ((rd_T31 x477005 x9).f0) ((rd_T31 x477005 x9).f1.f0) ((rd_T31 x477005 x9).f1.f1.f0) ((rd_T31 x477005 x9).f1.f1.f1) ((rd_T31 x477005 x9).f1.f1.f2) ((rd_T31 x477005 x9).f2) x1).bind fun bt484 => (if bt484.2.2.2 = true then (if x8.length < 4398046511104 then (r4_worth.l0 k x1 (x8 ++ [(⟨bt484.1, bt484.2.1, bt484.2.2.1⟩ : S26)]) (wrap64 (x9 + 1)) x477000 x477001 x477002 x477003 x477004 x477005) else (none)) else (some (0, 0, (⟨#[]⟩ : ByteArray), false)))) else (none)) else ((r1_Arith.f k x477000 x8).bind fun bt492 => (some (bt492.1, bt492.2.1, bt492.2.2.1, bt492.2.2.2)))
def r4_worth.f : Nat → Int → ByteArray → Int → Int → ByteArray → List (S31) → List (S41) → Option (Int × Int × ByteArray × Bool)
 | 0, _, _, _, _, _, _, _ => none
 | k + 1, a0_0, a0_1, a0_2, a0_3, a0_4, l0_5, l1 => if a0_0 = 0 then ((r4_Bound.f k l1 a0_1 a0_2 a0_3 a0_4).bind fun bt478 => (if bt478.2.2.2 = true then (some (bt478.1, bt478.2.1, bt478.2.2.1, true)) else (some (0, 0, (⟨#[]⟩ : ByteArray), false)))) else (r4_worth.l0 k l1 ([] : List (S26)) 0 a0_0 a0_1 a0_2 a0_3 a0_4 l0_5)
end
set_option maxHeartbeats 8000000 in
set_option maxRecDepth 100000 in
theorem r4_worth.calls (k : Nat) : ∀ (a0_0 : Int) (a0_1 : ByteArray) (a0_2 : Int) (a0_3 : Int) (a0_4 : ByteArray) (A0_5 : Option Addr) (c0_5 : Nat) (l0_5 : List (S31)) (A1 : Option Addr) (c1 : Nat) (l1 : List (S41)) (r1 : Int) (r2 : Int) (r3 : ByteArray) (r4 : Bool) (w : World) (hr0_5 : Kd.C k31 w A0_5 l0_5.length l0_5) (hc0_5 : l0_5.length ≤ c0_5) (hr1 : Kd.C k41 w A1 l1.length l1) (hc1 : l1.length ≤ c1) (h : r4_worth.f k a0_0 a0_1 a0_2 a0_3 a0_4 l0_5 l1 = some (r1, r2, r3, r4)),
  Calls Tryd.prog 88 #[.agg #[.int .i8 a0_0, .string a0_1, .int .i8 a0_2, .int .i64 a0_3, .string a0_4, .slice A0_5 l0_5.length c0_5], .slice A1 l1.length c1] w fun e w' => e = .returned (.tuple #[.agg #[.int .i8 r1, .int .i64 r2, .string r3], .bool r4]) ∧ Below w.heap.size w w' := by
 induction k using Nat.strongRecOn with
 | _ k ih =>
 intro a0_0 a0_1 a0_2 a0_3 a0_4 A0_5 c0_5 l0_5 A1 c1 l1 r1 r2 r3 r4 w hr0_5 hc0_5 hr1 hc1 h
 cases k with
 | zero => exact absurd h (by simp [r4_worth.f])
 | succ k =>
 simp only [r4_worth.f] at h
 have hu31 := Tryd.underlying31
 have hu26 := Tryd.underlying26
 have hu28 := Tryd.underlying28
 have HR0_5 := Aside0.mk hr0_5
 have HC0_5 := Aside0.mk hc0_5
 clear hr0_5 hc0_5
 have HR1 := Aside0.mk hr1
 have HC1 := Aside0.mk hc1
 clear hr1 hc1
 have HB := Aside0.mk (Below.refl w.heap.size w)
 have H : (if a0_0 = 0 then ((r4_Bound.f k l1 a0_1 a0_2 a0_3 a0_4).bind fun bt478 => (if bt478.2.2.2 = true then (some (bt478.1, bt478.2.1, bt478.2.2.1, true)) else (some (0, 0, (⟨#[]⟩ : ByteArray), false)))) else (r4_worth.l0 k l1 ([] : List (S26)) 0 a0_0 a0_1 a0_2 a0_3 a0_4 l0_5)) = some (r1, r2, r3, r4) := h
 clear h
 by_cases c3 : a0_0 = 0
 ·rw [if_pos c3] at H
  have c3b0 : (a0_0 == 0) = true := beq_iff_eq.mpr c3
  have c3b1 : (a0_0 != 0) = false := bne_eq_false_iff_eq.mpr c3
  clear c3
  replace H := Option.bind_eq_some_iff.mp H
  obtain ⟨⟨t478, t479, t480, t481⟩, A40, H⟩ := H
  replace H : (if t481 = true then (some (t478, t479, t480, true)) else (some (0, 0, (⟨#[]⟩ : ByteArray), false))) = some (r1, r2, r3, r4) := H
  have A4 := Aside0.mk A40
  clear A40
  by_cases c5 : t481 = true
  ·subst c5
   have H1 : (some (t478, t479, t480, true)) = some (r1, r2, r3, r4) := by rw [if_pos rfl] at H; exact H
   clear H
   have H := H1
   clear H1
   simp only [Option.some.injEq, Prod.mk.injEq] at H
   obtain ⟨rfl, rfl, rfl, rfl⟩ := H
   go_enter Tryd.func88, Tryd.ntmps88
   go_wp2_with (first | ((with_reducible refine xar (N := 2) rfl ?_); refine xaq ?hg (N := 2) ?hd (cs := #[.int .i8 a0_0, .string a0_1, .int .i8 a0_2, .int .i64 a0_3, .string a0_4, .slice A0_5 l0_5.length c0_5]) (t := 31) ?hr ?_; (case hd => rfl); (case hg => rfl); (case hr => first | (go_simp; done) | (go_simp; rfl)); intro gb476 hg w6 hbox hb; have n0_ := Aside0.mk (xai (by repeat (first | (with_reducible first | exact HB.out | apply xab | apply xaa | apply xac) | exact HB.out)) hb); have n1_ := Aside0.mk (hbox); have n2_ := Aside0.mk ((by rw [hg]; exact (xap (by repeat (first | (with_reducible first | exact HB.out | apply xab | apply xaa | apply xac) | exact HB.out))) : w.heap.size ≤ gb476)); have n3_ := n2_; clear HB; have HB := n0_; have BK476 := n1_; have GW476 := n2_; have GE476 := n3_; clear n0_ n1_ n2_ n3_; clear hb hbox hg) | ((with_reducible refine xar (N := 4) rfl ?_); refine xaq ?hg (N := 4) ?hd (cs := #[.int .i8 0, .int .i64 0, .string (⟨#[]⟩ : ByteArray)]) (t := 26) ?hr ?_; (case hd => rfl); (case hg => rfl); (case hr => first | (go_simp; done) | (go_simp; rfl)); intro gb477 hg w7 hbox hb; have n0_ := Aside0.mk (xan (g := gb476) (o := .cells #[.int .i8 a0_0, .string a0_1, .int .i8 a0_2, .int .i64 a0_3, .string a0_4, .slice A0_5 l0_5.length c0_5] 31 (0, 0)) (by (with_reducible repeat (first | refine xae ?_ _ | refine xaf ?_ | refine xad ?_ _)); exact BK476.out) hb); have n1_ := Aside0.mk (xai (by repeat (first | (with_reducible first | exact HB.out | apply xab | apply xaa | apply xac | refine xag ?_ GE476.out) | exact HB.out)) hb); have n2_ := Aside0.mk (hbox); have n3_ := Aside0.mk ((by rw [hg]; exact (xap (by repeat (first | (with_reducible first | exact HB.out | apply xab | apply xaa | apply xac | refine xag ?_ GE476.out) | exact HB.out))) : w.heap.size ≤ gb477)); have n4_ := n3_; have n5_ := Aside0.mk ((by rw [hg]; exact Nat.ne_of_lt (blk_lt (g := gb476) (o := .cells #[.int .i8 a0_0, .string a0_1, .int .i8 a0_2, .int .i64 a0_3, .string a0_4, .slice A0_5 l0_5.length c0_5] 31 (0, 0)) (by (with_reducible repeat (first | refine xae ?_ _ | refine xaf ?_ | refine xad ?_ _)); exact BK476.out)) : gb476 ≠ gb477)); have n6_ := Aside0.mk ((by rw [hg]; exact Nat.ne_of_gt (blk_lt (g := gb476) (o := .cells #[.int .i8 a0_0, .string a0_1, .int .i8 a0_2, .int .i64 a0_3, .string a0_4, .slice A0_5 l0_5.length c0_5] 31 (0, 0)) (by (with_reducible repeat (first | refine xae ?_ _ | refine xaf ?_ | refine xad ?_ _)); exact BK476.out)) : gb477 ≠ gb476)); clear BK476; clear HB; have BK476 := n0_; have HB := n1_; have BK477 := n2_; have GW477 := n3_; have GE477 := n4_; have NB476_477 := n5_; have NB477_476 := n6_; clear n0_ n1_ n2_ n3_ n4_ n5_ n6_; clear hb hbox hg; have hnb8 := NB476_477.out; have hnc8 := NB477_476.out; obtain ⟨hcz9_0, hcz9_1, hcz9_2, hcz9_3, hcz9_4, hcz9_5⟩ := cz6 BK476.out; obtain ⟨hfz9_0, hfz9_1, hfz9_2, hfz9_3, hfz9_4, hfz9_5⟩ := fz6 BK476.out) | ((with_reducible refine xav (f := 121) rfl ?_); refine goesL_ (some 19) rfl rfl Tryd.func121 (by kernel_rfl) rfl #[.slice A1 l1.length c1, .agg #[.string a0_1, .int .i8 a0_2, .int .i64 a0_3, .string a0_4]] rfl (by (try simp only [List.map_toArray, List.map_cons, List.map_nil]); first | done | rfl | (simp only [List.length_drop, List.length_take]; rfl)) ?_; (with_reducible refine (r4_Bound.calls k _ _ l1 a0_1 a0_2 a0_3 a0_4 t478 t479 t480 true _ ?side1 ?side2 A4.out).mono ?_); (case side1 => repeat (first | exact (Kd.C_below HR1.out HB.out) | (with_reducible refine Kd.C_alloc ?_ _) | (with_reducible refine Kd.C_drewN ?_ _) | (with_reducible refine Kd.C_drew ?_))); (case side2 => exact HC1.out); rintro e w10 ⟨rfl, hb⟩; refine ⟨_, rfl, ?_⟩; have n0_ := Aside0.mk (xan (g := gb476) (o := .cells #[.int .i8 a0_0, .string a0_1, .int .i8 a0_2, .int .i64 a0_3, .string a0_4, .slice A0_5 l0_5.length c0_5] 31 (0, 0)) (by (with_reducible repeat (first | refine xae ?_ _ | refine xaf ?_ | refine xad ?_ _)); exact BK476.out) hb); have n1_ := Aside0.mk (xan (g := gb477) (o := .cells #[.int .i8 0, .int .i64 0, .string (⟨#[]⟩ : ByteArray)] 26 (0, 0)) (by (with_reducible repeat (first | refine xae ?_ _ | refine xaf ?_ | refine xad ?_ _)); exact BK477.out) hb); have n2_ := Aside0.mk (xai (by repeat (first | (with_reducible first | exact HB.out | apply xab | apply xaa | apply xac | refine xag ?_ GE476.out | refine xag ?_ GE477.out) | exact HB.out)) hb); clear BK476; clear BK477; clear HB; have BK476 := n0_; have BK477 := n1_; have HB := n2_; clear n0_ n1_ n2_; (try clear hb); (try clear hb2); (try clear hk); (try clear hi)) | ((with_reducible refine xar (N := 6) rfl ?_); refine xaq ?hg (N := 6) ?hd (cs := #[.int .i8 0, .int .i64 0, .string (⟨#[]⟩ : ByteArray)]) (t := 26) ?hr ?_; (case hd => rfl); (case hg => rfl); (case hr => first | (go_simp; done) | (go_simp; rfl)); intro gb482 hg w11 hbox hb; have n0_ := Aside0.mk (xan (g := gb476) (o := .cells #[.int .i8 a0_0, .string a0_1, .int .i8 a0_2, .int .i64 a0_3, .string a0_4, .slice A0_5 l0_5.length c0_5] 31 (0, 0)) (by (with_reducible repeat (first | refine xae ?_ _ | refine xaf ?_ | refine xad ?_ _)); exact BK476.out) hb); have n1_ := Aside0.mk (xan (g := gb477) (o := .cells #[.int .i8 0, .int .i64 0, .string (⟨#[]⟩ : ByteArray)] 26 (0, 0)) (by (with_reducible repeat (first | refine xae ?_ _ | refine xaf ?_ | refine xad ?_ _)); exact BK477.out) hb); have n2_ := Aside0.mk (xai (by repeat (first | (with_reducible first | exact HB.out | apply xab | apply xaa | apply xac | refine xag ?_ GE476.out | refine xag ?_ GE477.out) | exact HB.out)) hb); have n3_ := Aside0.mk (hbox); have n4_ := Aside0.mk ((by rw [hg]; exact (xap (by repeat (first | (with_reducible first | exact HB.out | apply xab | apply xaa | apply xac | refine xag ?_ GE476.out | refine xag ?_ GE477.out) | exact HB.out))) : w.heap.size ≤ gb482)); have n5_ := n4_; have n6_ := Aside0.mk ((by rw [hg]; exact Nat.ne_of_lt (blk_lt (g := gb476) (o := .cells #[.int .i8 a0_0, .string a0_1, .int .i8 a0_2, .int .i64 a0_3, .string a0_4, .slice A0_5 l0_5.length c0_5] 31 (0, 0)) (by (with_reducible repeat (first | refine xae ?_ _ | refine xaf ?_ | refine xad ?_ _)); exact BK476.out)) : gb476 ≠ gb482)); have n7_ := Aside0.mk ((by rw [hg]; exact Nat.ne_of_gt (blk_lt (g := gb476) (o := .cells #[.int .i8 a0_0, .string a0_1, .int .i8 a0_2, .int .i64 a0_3, .string a0_4, .slice A0_5 l0_5.length c0_5] 31 (0, 0)) (by (with_reducible repeat (first | refine xae ?_ _ | refine xaf ?_ | refine xad ?_ _)); exact BK476.out)) : gb482 ≠ gb476)); have n8_ := Aside0.mk ((by rw [hg]; exact Nat.ne_of_lt (blk_lt (g := gb477) (o := .cells #[.int .i8 0, .int .i64 0, .string (⟨#[]⟩ : ByteArray)] 26 (0, 0)) (by (with_reducible repeat (first | refine xae ?_ _ | refine xaf ?_ | refine xad ?_ _)); exact BK477.out)) : gb477 ≠ gb482)); have n9_ := Aside0.mk ((by rw [hg]; exact Nat.ne_of_gt (blk_lt (g := gb477) (o := .cells #[.int .i8 0, .int .i64 0, .string (⟨#[]⟩ : ByteArray)] 26 (0, 0)) (by (with_reducible repeat (first | refine xae ?_ _ | refine xaf ?_ | refine xad ?_ _)); exact BK477.out)) : gb482 ≠ gb477)); clear BK476; clear BK477; clear HB; have BK476 := n0_; have BK477 := n1_; have HB := n2_; have BK482 := n3_; have GW482 := n4_; have GE482 := n5_; have NB476_482 := n6_; have NB482_476 := n7_; have NB477_482 := n8_; have NB482_477 := n9_; clear n0_ n1_ n2_ n3_ n4_ n5_ n6_ n7_ n8_ n9_; clear hb hbox hg; have hnb12 := NB482_476.out; have hnc12 := NB476_482.out; have hnb13 := NB482_477.out; have hnc13 := NB477_482.out; obtain ⟨hcz14_0, hcz14_1, hcz14_2⟩ := cz3 BK482.out; obtain ⟨hfz14_0, hfz14_1, hfz14_2⟩ := fz3 BK482.out; obtain ⟨hcz15_0, hcz15_1, hcz15_2⟩ := cz3 BK477.out; obtain ⟨hfz15_0, hfz15_1, hfz15_2⟩ := fz3 BK477.out))
   refine bodyPost_ret (xat rfl _ _ gb477 26 #[.int .i8 t478, .int .i64 t479, .string t480] (0, 0) _ rfl (by (with_reducible repeat (first | refine xae ?_ _ | refine xaf ?_ | refine xad ?_ _)); refine xas (cs := #[.int .i8 t478, .int .i64 t479, .string (⟨#[]⟩ : ByteArray)]) ?_ 2 _ rfl; (with_reducible repeat (first | refine xae ?_ _ | refine xaf ?_ | refine xad ?_ _)); refine xas (cs := #[.int .i8 t478, .int .i64 0, .string (⟨#[]⟩ : ByteArray)]) ?_ 1 _ rfl; (with_reducible repeat (first | refine xae ?_ _ | refine xaf ?_ | refine xad ?_ _)); refine xas (cs := #[.int .i8 0, .int .i64 0, .string (⟨#[]⟩ : ByteArray)]) ?_ 0 _ rfl; (with_reducible repeat (first | refine xae ?_ _ | refine xaf ?_ | refine xad ?_ _)); refine xay ?_ NB477_482.out _; (with_reducible repeat (first | refine xae ?_ _ | refine xaf ?_ | refine xad ?_ _)); refine xay ?_ NB477_482.out _; (with_reducible repeat (first | refine xae ?_ _ | refine xaf ?_ | refine xad ?_ _)); refine xay ?_ NB477_482.out _; (with_reducible repeat (first | refine xae ?_ _ | refine xaf ?_ | refine xad ?_ _)); exact BK477.out) Tryd.underlying26 rfl (by kernel_rfl)) rfl ?_
   exact ⟨by first | rfl | (simp [xak, xal] <;> rfl) | (simp [*, xak, xal] <;> rfl), by repeat (first | (with_reducible first | exact HB.out | apply xab | apply xaa | apply xac | refine xag ?_ GE476.out | refine xag ?_ GE477.out | refine xag ?_ GE482.out) | exact HB.out)⟩
  ·replace c5 := Bool.eq_false_iff.mpr c5
   subst c5
   have H1 : (some (0, 0, (⟨#[]⟩ : ByteArray), false)) = some (r1, r2, r3, r4) := by rw [if_neg (show ¬ (false = true) by decide)] at H; exact H
   clear H
   have H := H1
   clear H1
   simp only [Option.some.injEq, Prod.mk.injEq] at H
   obtain ⟨rfl, rfl, rfl, rfl⟩ := H
   go_enter Tryd.func88, Tryd.ntmps88
   go_wp2_with (first | ((with_reducible refine xar (N := 2) rfl ?_); refine xaq ?hg (N := 2) ?hd (cs := #[.int .i8 a0_0, .string a0_1, .int .i8 a0_2, .int .i64 a0_3, .string a0_4, .slice A0_5 l0_5.length c0_5]) (t := 31) ?hr ?_; (case hd => rfl); (case hg => rfl); (case hr => first | (go_simp; done) | (go_simp; rfl)); intro gb476 hg w16 hbox hb; have n0_ := Aside0.mk (xai (by repeat (first | (with_reducible first | exact HB.out | apply xab | apply xaa | apply xac) | exact HB.out)) hb); have n1_ := Aside0.mk (hbox); have n2_ := Aside0.mk ((by rw [hg]; exact (xap (by repeat (first | (with_reducible first | exact HB.out | apply xab | apply xaa | apply xac) | exact HB.out))) : w.heap.size ≤ gb476)); have n3_ := n2_; clear HB; have HB := n0_; have BK476 := n1_; have GW476 := n2_; have GE476 := n3_; clear n0_ n1_ n2_ n3_; clear hb hbox hg) | ((with_reducible refine xar (N := 4) rfl ?_); refine xaq ?hg (N := 4) ?hd (cs := #[.int .i8 0, .int .i64 0, .string (⟨#[]⟩ : ByteArray)]) (t := 26) ?hr ?_; (case hd => rfl); (case hg => rfl); (case hr => first | (go_simp; done) | (go_simp; rfl)); intro gb477 hg w17 hbox hb; have n0_ := Aside0.mk (xan (g := gb476) (o := .cells #[.int .i8 a0_0, .string a0_1, .int .i8 a0_2, .int .i64 a0_3, .string a0_4, .slice A0_5 l0_5.length c0_5] 31 (0, 0)) (by (with_reducible repeat (first | refine xae ?_ _ | refine xaf ?_ | refine xad ?_ _)); exact BK476.out) hb); have n1_ := Aside0.mk (xai (by repeat (first | (with_reducible first | exact HB.out | apply xab | apply xaa | apply xac | refine xag ?_ GE476.out) | exact HB.out)) hb); have n2_ := Aside0.mk (hbox); have n3_ := Aside0.mk ((by rw [hg]; exact (xap (by repeat (first | (with_reducible first | exact HB.out | apply xab | apply xaa | apply xac | refine xag ?_ GE476.out) | exact HB.out))) : w.heap.size ≤ gb477)); have n4_ := n3_; have n5_ := Aside0.mk ((by rw [hg]; exact Nat.ne_of_lt (blk_lt (g := gb476) (o := .cells #[.int .i8 a0_0, .string a0_1, .int .i8 a0_2, .int .i64 a0_3, .string a0_4, .slice A0_5 l0_5.length c0_5] 31 (0, 0)) (by (with_reducible repeat (first | refine xae ?_ _ | refine xaf ?_ | refine xad ?_ _)); exact BK476.out)) : gb476 ≠ gb477)); have n6_ := Aside0.mk ((by rw [hg]; exact Nat.ne_of_gt (blk_lt (g := gb476) (o := .cells #[.int .i8 a0_0, .string a0_1, .int .i8 a0_2, .int .i64 a0_3, .string a0_4, .slice A0_5 l0_5.length c0_5] 31 (0, 0)) (by (with_reducible repeat (first | refine xae ?_ _ | refine xaf ?_ | refine xad ?_ _)); exact BK476.out)) : gb477 ≠ gb476)); clear BK476; clear HB; have BK476 := n0_; have HB := n1_; have BK477 := n2_; have GW477 := n3_; have GE477 := n4_; have NB476_477 := n5_; have NB477_476 := n6_; clear n0_ n1_ n2_ n3_ n4_ n5_ n6_; clear hb hbox hg; have hnb18 := NB476_477.out; have hnc18 := NB477_476.out; obtain ⟨hcz19_0, hcz19_1, hcz19_2, hcz19_3, hcz19_4, hcz19_5⟩ := cz6 BK476.out; obtain ⟨hfz19_0, hfz19_1, hfz19_2, hfz19_3, hfz19_4, hfz19_5⟩ := fz6 BK476.out) | ((with_reducible refine xav (f := 121) rfl ?_); refine goesL_ (some 19) rfl rfl Tryd.func121 (by kernel_rfl) rfl #[.slice A1 l1.length c1, .agg #[.string a0_1, .int .i8 a0_2, .int .i64 a0_3, .string a0_4]] rfl (by (try simp only [List.map_toArray, List.map_cons, List.map_nil]); first | done | rfl | (simp only [List.length_drop, List.length_take]; rfl)) ?_; (with_reducible refine (r4_Bound.calls k _ _ l1 a0_1 a0_2 a0_3 a0_4 t478 t479 t480 false _ ?side1 ?side2 A4.out).mono ?_); (case side1 => repeat (first | exact (Kd.C_below HR1.out HB.out) | (with_reducible refine Kd.C_alloc ?_ _) | (with_reducible refine Kd.C_drewN ?_ _) | (with_reducible refine Kd.C_drew ?_))); (case side2 => exact HC1.out); rintro e w20 ⟨rfl, hb⟩; refine ⟨_, rfl, ?_⟩; have n0_ := Aside0.mk (xan (g := gb476) (o := .cells #[.int .i8 a0_0, .string a0_1, .int .i8 a0_2, .int .i64 a0_3, .string a0_4, .slice A0_5 l0_5.length c0_5] 31 (0, 0)) (by (with_reducible repeat (first | refine xae ?_ _ | refine xaf ?_ | refine xad ?_ _)); exact BK476.out) hb); have n1_ := Aside0.mk (xan (g := gb477) (o := .cells #[.int .i8 0, .int .i64 0, .string (⟨#[]⟩ : ByteArray)] 26 (0, 0)) (by (with_reducible repeat (first | refine xae ?_ _ | refine xaf ?_ | refine xad ?_ _)); exact BK477.out) hb); have n2_ := Aside0.mk (xai (by repeat (first | (with_reducible first | exact HB.out | apply xab | apply xaa | apply xac | refine xag ?_ GE476.out | refine xag ?_ GE477.out) | exact HB.out)) hb); clear BK476; clear BK477; clear HB; have BK476 := n0_; have BK477 := n1_; have HB := n2_; clear n0_ n1_ n2_; (try clear hb); (try clear hb2); (try clear hk); (try clear hi)) | ((with_reducible refine xar (N := 6) rfl ?_); refine xaq ?hg (N := 6) ?hd (cs := #[.int .i8 0, .int .i64 0, .string (⟨#[]⟩ : ByteArray)]) (t := 26) ?hr ?_; (case hd => rfl); (case hg => rfl); (case hr => first | (go_simp; done) | (go_simp; rfl)); intro gb482 hg w21 hbox hb; have n0_ := Aside0.mk (xan (g := gb476) (o := .cells #[.int .i8 a0_0, .string a0_1, .int .i8 a0_2, .int .i64 a0_3, .string a0_4, .slice A0_5 l0_5.length c0_5] 31 (0, 0)) (by (with_reducible repeat (first | refine xae ?_ _ | refine xaf ?_ | refine xad ?_ _)); exact BK476.out) hb); have n1_ := Aside0.mk (xan (g := gb477) (o := .cells #[.int .i8 0, .int .i64 0, .string (⟨#[]⟩ : ByteArray)] 26 (0, 0)) (by (with_reducible repeat (first | refine xae ?_ _ | refine xaf ?_ | refine xad ?_ _)); exact BK477.out) hb); have n2_ := Aside0.mk (xai (by repeat (first | (with_reducible first | exact HB.out | apply xab | apply xaa | apply xac | refine xag ?_ GE476.out | refine xag ?_ GE477.out) | exact HB.out)) hb); have n3_ := Aside0.mk (hbox); have n4_ := Aside0.mk ((by rw [hg]; exact (xap (by repeat (first | (with_reducible first | exact HB.out | apply xab | apply xaa | apply xac | refine xag ?_ GE476.out | refine xag ?_ GE477.out) | exact HB.out))) : w.heap.size ≤ gb482)); have n5_ := n4_; have n6_ := Aside0.mk ((by rw [hg]; exact Nat.ne_of_lt (blk_lt (g := gb476) (o := .cells #[.int .i8 a0_0, .string a0_1, .int .i8 a0_2, .int .i64 a0_3, .string a0_4, .slice A0_5 l0_5.length c0_5] 31 (0, 0)) (by (with_reducible repeat (first | refine xae ?_ _ | refine xaf ?_ | refine xad ?_ _)); exact BK476.out)) : gb476 ≠ gb482)); have n7_ := Aside0.mk ((by rw [hg]; exact Nat.ne_of_gt (blk_lt (g := gb476) (o := .cells #[.int .i8 a0_0, .string a0_1, .int .i8 a0_2, .int .i64 a0_3, .string a0_4, .slice A0_5 l0_5.length c0_5] 31 (0, 0)) (by (with_reducible repeat (first | refine xae ?_ _ | refine xaf ?_ | refine xad ?_ _)); exact BK476.out)) : gb482 ≠ gb476)); have n8_ := Aside0.mk ((by rw [hg]; exact Nat.ne_of_lt (blk_lt (g := gb477) (o := .cells #[.int .i8 0, .int .i64 0, .string (⟨#[]⟩ : ByteArray)] 26 (0, 0)) (by (with_reducible repeat (first | refine xae ?_ _ | refine xaf ?_ | refine xad ?_ _)); exact BK477.out)) : gb477 ≠ gb482)); have n9_ := Aside0.mk ((by rw [hg]; exact Nat.ne_of_gt (blk_lt (g := gb477) (o := .cells #[.int .i8 0, .int .i64 0, .string (⟨#[]⟩ : ByteArray)] 26 (0, 0)) (by (with_reducible repeat (first | refine xae ?_ _ | refine xaf ?_ | refine xad ?_ _)); exact BK477.out)) : gb482 ≠ gb477)); clear BK476; clear BK477; clear HB; have BK476 := n0_; have BK477 := n1_; have HB := n2_; have BK482 := n3_; have GW482 := n4_; have GE482 := n5_; have NB476_482 := n6_; have NB482_476 := n7_; have NB477_482 := n8_; have NB482_477 := n9_; clear n0_ n1_ n2_ n3_ n4_ n5_ n6_ n7_ n8_ n9_; clear hb hbox hg; have hnb22 := NB482_476.out; have hnc22 := NB476_482.out; have hnb23 := NB482_477.out; have hnc23 := NB477_482.out; obtain ⟨hcz24_0, hcz24_1, hcz24_2⟩ := cz3 BK482.out; obtain ⟨hfz24_0, hfz24_1, hfz24_2⟩ := fz3 BK482.out; obtain ⟨hcz25_0, hcz25_1, hcz25_2⟩ := cz3 BK477.out; obtain ⟨hfz25_0, hfz25_1, hfz25_2⟩ := fz3 BK477.out))
   refine bodyPost_ret (xat rfl _ _ gb477 26 #[.int .i8 0, .int .i64 0, .string (⟨#[]⟩ : ByteArray)] (0, 0) _ rfl (by (with_reducible repeat (first | refine xae ?_ _ | refine xaf ?_ | refine xad ?_ _)); refine xas (cs := #[.int .i8 0, .int .i64 0, .string (⟨#[]⟩ : ByteArray)]) ?_ 2 _ rfl; (with_reducible repeat (first | refine xae ?_ _ | refine xaf ?_ | refine xad ?_ _)); refine xas (cs := #[.int .i8 0, .int .i64 0, .string (⟨#[]⟩ : ByteArray)]) ?_ 1 _ rfl; (with_reducible repeat (first | refine xae ?_ _ | refine xaf ?_ | refine xad ?_ _)); refine xas (cs := #[.int .i8 0, .int .i64 0, .string (⟨#[]⟩ : ByteArray)]) ?_ 0 _ rfl; (with_reducible repeat (first | refine xae ?_ _ | refine xaf ?_ | refine xad ?_ _)); refine xay ?_ NB477_482.out _; (with_reducible repeat (first | refine xae ?_ _ | refine xaf ?_ | refine xad ?_ _)); refine xay ?_ NB477_482.out _; (with_reducible repeat (first | refine xae ?_ _ | refine xaf ?_ | refine xad ?_ _)); refine xay ?_ NB477_482.out _; (with_reducible repeat (first | refine xae ?_ _ | refine xaf ?_ | refine xad ?_ _)); exact BK477.out) Tryd.underlying26 rfl (by kernel_rfl)) rfl ?_
   exact ⟨by first | rfl | (simp [xak, xal] <;> rfl) | (simp [*, xak, xal] <;> rfl), by repeat (first | (with_reducible first | exact HB.out | apply xab | apply xaa | apply xac | refine xag ?_ GE476.out | refine xag ?_ GE477.out | refine xag ?_ GE482.out) | exact HB.out)⟩
 ·rw [if_neg c3] at H
  have c3b0 : (a0_0 == 0) = false := beq_eq_false_iff_ne.mpr c3
  have c3b1 : (a0_0 != 0) = true := bne_iff_ne.mpr c3
  have H' := Aside0.mk H
  clear H
  go_enter Tryd.func88, Tryd.ntmps88
  go_wp2_with (first | ((with_reducible refine xar (N := 2) rfl ?_); refine xaq ?hg (N := 2) ?hd (cs := #[.int .i8 a0_0, .string a0_1, .int .i8 a0_2, .int .i64 a0_3, .string a0_4, .slice A0_5 l0_5.length c0_5]) (t := 31) ?hr ?_; (case hd => rfl); (case hg => rfl); (case hr => first | (go_simp; done) | (go_simp; rfl)); intro gb476 hg w26 hbox hb; have n0_ := Aside0.mk (xai (by repeat (first | (with_reducible first | exact HB.out | apply xab | apply xaa | apply xac) | exact HB.out)) hb); have n1_ := Aside0.mk (hbox); have n2_ := Aside0.mk ((by rw [hg]; exact (xap (by repeat (first | (with_reducible first | exact HB.out | apply xab | apply xaa | apply xac) | exact HB.out))) : w.heap.size ≤ gb476)); have n3_ := n2_; clear HB; have HB := n0_; have BK476 := n1_; have GW476 := n2_; have GE476 := n3_; clear n0_ n1_ n2_ n3_; clear hb hbox hg) | ((with_reducible refine xar (N := 4) rfl ?_); refine xaq ?hg (N := 4) ?hd (cs := #[.int .i8 0, .int .i64 0, .string (⟨#[]⟩ : ByteArray)]) (t := 26) ?hr ?_; (case hd => rfl); (case hg => rfl); (case hr => first | (go_simp; done) | (go_simp; rfl)); intro gb477 hg w27 hbox hb; have n0_ := Aside0.mk (xan (g := gb476) (o := .cells #[.int .i8 a0_0, .string a0_1, .int .i8 a0_2, .int .i64 a0_3, .string a0_4, .slice A0_5 l0_5.length c0_5] 31 (0, 0)) (by (with_reducible repeat (first | refine xae ?_ _ | refine xaf ?_ | refine xad ?_ _)); exact BK476.out) hb); have n1_ := Aside0.mk (xai (by repeat (first | (with_reducible first | exact HB.out | apply xab | apply xaa | apply xac | refine xag ?_ GE476.out) | exact HB.out)) hb); have n2_ := Aside0.mk (hbox); have n3_ := Aside0.mk ((by rw [hg]; exact (xap (by repeat (first | (with_reducible first | exact HB.out | apply xab | apply xaa | apply xac | refine xag ?_ GE476.out) | exact HB.out))) : w.heap.size ≤ gb477)); have n4_ := n3_; have n5_ := Aside0.mk ((by rw [hg]; exact Nat.ne_of_lt (blk_lt (g := gb476) (o := .cells #[.int .i8 a0_0, .string a0_1, .int .i8 a0_2, .int .i64 a0_3, .string a0_4, .slice A0_5 l0_5.length c0_5] 31 (0, 0)) (by (with_reducible repeat (first | refine xae ?_ _ | refine xaf ?_ | refine xad ?_ _)); exact BK476.out)) : gb476 ≠ gb477)); have n6_ := Aside0.mk ((by rw [hg]; exact Nat.ne_of_gt (blk_lt (g := gb476) (o := .cells #[.int .i8 a0_0, .string a0_1, .int .i8 a0_2, .int .i64 a0_3, .string a0_4, .slice A0_5 l0_5.length c0_5] 31 (0, 0)) (by (with_reducible repeat (first | refine xae ?_ _ | refine xaf ?_ | refine xad ?_ _)); exact BK476.out)) : gb477 ≠ gb476)); clear BK476; clear HB; have BK476 := n0_; have HB := n1_; have BK477 := n2_; have GW477 := n3_; have GE477 := n4_; have NB476_477 := n5_; have NB477_476 := n6_; clear n0_ n1_ n2_ n3_ n4_ n5_ n6_; clear hb hbox hg; have hnb28 := NB476_477.out; have hnc28 := NB477_476.out; obtain ⟨hcz29_0, hcz29_1, hcz29_2, hcz29_3, hcz29_4, hcz29_5⟩ := cz6 BK476.out; obtain ⟨hfz29_0, hfz29_1, hfz29_2, hfz29_3, hfz29_4, hfz29_5⟩ := fz6 BK476.out))
  go_loopg [8, 9] k (fun kq v8 v9 w' => ∃ (x8_1 : List (S26)) (x9_1 : Int) (x478000_1 : Int) (x478001_1 : Int) (x478002_1 : ByteArray), v9 = .int .i64 x9_1 ∧ Aside0 (r4_worth.l0 kq l1 x8_1 x9_1 a0_0 a0_1 a0_2 a0_3 a0_4 l0_5 = some (r1, r2, r3, r4)) ∧ Aside0 (kq ≤ k) ∧ Aside0 (Kd.R k26 26 w' w.heap.size (fun k_ => k_ ≠ gb477) v8 x8_1) ∧ Aside0 (w'.heap[gb476]? = some (.cells #[.int .i8 a0_0, .string a0_1, .int .i8 a0_2, .int .i64 a0_3, .string a0_4, (.slice A0_5 l0_5.length c0_5)] 31 (0, 0))) ∧ Aside0 (w'.heap[gb477]? = some (.cells #[.int .i8 x478000_1, .int .i64 x478001_1, .string x478002_1] 26 (0, 0))) ∧ Aside0 (Below w.heap.size w w'))
  case atStart => exact ⟨(([] : List (S26))), (0), (0), (0), ((⟨#[]⟩ : ByteArray)), (by first | rfl | (simp; done) | (simp [*]; done)), H', ⟨Nat.le_refl _⟩, ⟨by first | exact Kd.R_nil _ _ _ _ _ | exact Kd.N_nil _ _ _ _ _ | exact Kd.V_nil _ _ _ _ _ | exact Kd.Q_nil _ _ _ _ _ | exact Kd.S_nil _ _ _ _ _⟩, ⟨by (with_reducible repeat (first | refine xae ?_ _ | refine xaf ?_ | refine xad ?_ _)); exact BK476.out⟩, ⟨by (with_reducible repeat (first | refine xae ?_ _ | refine xaf ?_ | refine xad ?_ _)); exact BK477.out⟩, ⟨by repeat (first | (with_reducible first | exact HB.out | apply xab | apply xaa | apply xac | refine xag ?_ GE476.out | refine xag ?_ GE477.out) | exact HB.out)⟩⟩
  case round =>
   clear H'
   try clear c1
   try clear c2
   try clear p2
   try clear c3
   try clear c3b0
   try clear c3b1
   try clear c5
   try clear c8
   try clear c12
   try clear c13
   try clear c18
   try clear c22
   try clear c23
   try clear c28
   try clear hcz14_0
   try clear hcz14_1
   try clear hcz14_2
   try clear hcz15_0
   try clear hcz15_1
   try clear hcz15_2
   try clear hcz19_0
   try clear hcz19_1
   try clear hcz19_2
   try clear hcz19_3
   try clear hcz19_4
   try clear hcz19_5
   try clear hcz24_0
   try clear hcz24_1
   try clear hcz24_2
   try clear hcz25_0
   try clear hcz25_1
   try clear hcz25_2
   try clear hcz29_0
   try clear hcz29_1
   try clear hcz29_2
   try clear hcz29_3
   try clear hcz29_4
   try clear hcz29_5
   try clear hcz9_0
   try clear hcz9_1
   try clear hcz9_2
   try clear hcz9_3
   try clear hcz9_4
   try clear hcz9_5
   try clear hfz14_0
   try clear hfz14_1
   try clear hfz14_2
   try clear hfz15_0
   try clear hfz15_1
   try clear hfz15_2
   try clear hfz19_0
   try clear hfz19_1
   try clear hfz19_2
   try clear hfz19_3
   try clear hfz19_4
   try clear hfz19_5
   try clear hfz24_0
   try clear hfz24_1
   try clear hfz24_2
   try clear hfz25_0
   try clear hfz25_1
   try clear hfz25_2
   try clear hfz29_0
   try clear hfz29_1
   try clear hfz29_2
   try clear hfz29_3
   try clear hfz29_4
   try clear hfz29_5
   try clear hfz9_0
   try clear hfz9_1
   try clear hfz9_2
   try clear hfz9_3
   try clear hfz9_4
   try clear hfz9_5
   obtain ⟨x8_1, x9_1, x478000_1, x478001_1, x478002_1, rfl, HA, HK1, HO_8, BK476, BK477, HB⟩ := hrel
   cases gk with
   | zero => exact absurd HA.out (by simp [r4_worth.l0])
   | succ k1 =>
    have H := HA.out
    clear HA
    simp only [r4_worth.l0] at H
    by_cases c30 : x9_1 < (l0_5.length : Int)
    ·rw [if_pos c30] at H
     have c30b0 : decide (x9_1 < (l0_5.length : Int)) = true := decide_eq_true c30
     clear c30
     by_cases c31 : 0 ≤ x9_1
     ·rw [if_pos c31] at H
      have c31b0 : decide (0 ≤ x9_1) = true := decide_eq_true c31
      clear c31
      replace H := Option.bind_eq_some_iff.mp H
      obtain ⟨⟨t484, t485, t486, t487⟩, A320, H⟩ := H
      replace H : (if t487 = true then (if x8_1.length < 4398046511104 then (r4_worth.l0 k1 l1 (x8_1 ++ [(⟨t484, t485, t486⟩ : S26)]) (wrap64 (x9_1 + 1)) a0_0 a0_1 a0_2 a0_3 a0_4 l0_5) else (none)) else (some (0, 0, (⟨#[]⟩ : ByteArray), false))) = some (r1, r2, r3, r4) := H
      have A32 := Aside0.mk A320
      clear A320
      by_cases c33 : t487 = true
      ·subst c33
       have H1 : (if x8_1.length < 4398046511104 then (r4_worth.l0 k1 l1 (x8_1 ++ [(⟨t484, t485, t486⟩ : S26)]) (wrap64 (x9_1 + 1)) a0_0 a0_1 a0_2 a0_3 a0_4 l0_5) else (none)) = some (r1, r2, r3, r4) := by rw [if_pos rfl] at H; exact H
       clear H
       have H := H1
       clear H1
       by_cases c34 : x8_1.length < 4398046511104
       ·rw [if_pos c34] at H
        have LMc34 := Aside0.mk c34
        clear c34
        obtain ⟨y489, hy489⟩ : ∃ y_ : List (S26), y_ = (x8_1 ++ [(⟨t484, t485, t486⟩ : S26)]) := ⟨_, rfl⟩
        replace H : (r4_worth.l0 k1 l1 y489 (wrap64 (x9_1 + 1)) a0_0 a0_1 a0_2 a0_3 a0_4 l0_5) = some (r1, r2, r3, r4) := by first | (rw [hy489]; with_reducible exact H) | (have H2_ := (Option.bind_some _ _).symm.trans H; rw [hy489]; with_reducible exact H2_) | (have H2_ := (Option.bind_some _ _).symm.trans H; with_reducible exact H2_) | with_reducible exact H | (rw [hy489]; exact H) | exact H
        have Ny489 := Aside0.mk hy489
        clear hy489
        have H' := Aside0.mk H
        clear H
        have hnb35 := NB476_477.out
        have hnc35 := NB477_476.out
        obtain ⟨hcz36_0, hcz36_1, hcz36_2, hcz36_3, hcz36_4, hcz36_5⟩ := cz6 BK476.out
        obtain ⟨hfz36_0, hfz36_1, hfz36_2, hfz36_3, hfz36_4, hfz36_5⟩ := fz6 BK476.out
        have p483 : 0 ≤ (x9_1 : Int) := of_decide_eq_true (by first | (with_reducible assumption) | assumption)
        have q483 : x9_1 < (l0_5.length : Int) := of_decide_eq_true (by first | (with_reducible assumption) | assumption)
        obtain ⟨ad483, A483_5, c483_5, e483, hx483_0, hx483_1, hx483_2, hx483_3, hx483_4, hx483_5, hl483_5, hi483_5⟩ := at_T31 HR0_5.out x9_1 p483 q483
        cases e483
        replace hx483_0 := (HB.out.cell (World.block_lt_of_cell? w _ hx483_0)).trans hx483_0
        replace hx483_1 := (HB.out.cell (World.block_lt_of_cell? w _ hx483_1)).trans hx483_1
        replace hx483_2 := (HB.out.cell (World.block_lt_of_cell? w _ hx483_2)).trans hx483_2
        replace hx483_3 := (HB.out.cell (World.block_lt_of_cell? w _ hx483_3)).trans hx483_3
        replace hx483_4 := (HB.out.cell (World.block_lt_of_cell? w _ hx483_4)).trans hx483_4
        replace hx483_5 := (HB.out.cell (World.block_lt_of_cell? w _ hx483_5)).trans hx483_5
        have HR483_5 := Aside0.mk hi483_5
        have HC483_5 := Aside0.mk hl483_5
        clear hi483_5 hl483_5
        replace p483 := eq_true p483
        replace q483 := eq_true q483
        go_wp2_with (first | ((with_reducible refine xav (f := 88) rfl ?_); refine goesL_ (some 40) rfl rfl Tryd.func88 (by kernel_rfl) rfl #[.agg #[.int .i8 ((rd_T31 l0_5 x9_1).f0), .string ((rd_T31 l0_5 x9_1).f1.f0), .int .i8 ((rd_T31 l0_5 x9_1).f1.f1.f0), .int .i64 ((rd_T31 l0_5 x9_1).f1.f1.f1), .string ((rd_T31 l0_5 x9_1).f1.f1.f2), .slice A483_5 ((rd_T31 l0_5 x9_1).f2).length c483_5], .slice A1 l1.length c1] rfl (by (try simp only [List.map_toArray, List.map_cons, List.map_nil]); first | done | rfl | (simp only [List.length_drop, List.length_take]; rfl)) ?_; (with_reducible refine (ih k1 (by have := HK1.out; omega) ((rd_T31 l0_5 x9_1).f0) ((rd_T31 l0_5 x9_1).f1.f0) ((rd_T31 l0_5 x9_1).f1.f1.f0) ((rd_T31 l0_5 x9_1).f1.f1.f1) ((rd_T31 l0_5 x9_1).f1.f1.f2) _ _ ((rd_T31 l0_5 x9_1).f2) _ _ l1 t484 t485 t486 true _ ?side1 ?side2 ?side3 ?side4 A32.out).mono ?_); (case side1 => repeat (first | exact (Kd.C_below HR483_5.out HB.out) | (with_reducible refine Kd.C_alloc ?_ _) | (with_reducible refine Kd.C_drewN ?_ _) | (with_reducible refine Kd.C_drew ?_))); (case side2 => exact HC483_5.out); (case side3 => repeat (first | exact (Kd.C_below HR1.out HB.out) | (with_reducible refine Kd.C_alloc ?_ _) | (with_reducible refine Kd.C_drewN ?_ _) | (with_reducible refine Kd.C_drew ?_))); (case side4 => exact HC1.out); rintro e w37 ⟨rfl, hb⟩; refine ⟨_, rfl, ?_⟩; have n0_ := Aside0.mk (Kd.R_below (by (with_reducible repeat (first | apply Kd.R_alloc | apply Kd.R_drewN | apply Kd.R_drew)); exact HO_8.out) hb); have n1_ := Aside0.mk (xan (g := gb476) (o := .cells #[.int .i8 a0_0, .string a0_1, .int .i8 a0_2, .int .i64 a0_3, .string a0_4, .slice (some ad483) l0_5.length c0_5] 31 (0, 0)) (by (with_reducible repeat (first | refine xae ?_ _ | refine xaf ?_ | refine xad ?_ _)); exact BK476.out) hb); have n2_ := Aside0.mk (xan (g := gb477) (o := .cells #[.int .i8 x478000_1, .int .i64 x478001_1, .string x478002_1] 26 (0, 0)) (by (with_reducible repeat (first | refine xae ?_ _ | refine xaf ?_ | refine xad ?_ _)); exact BK477.out) hb); have n3_ := Aside0.mk (xai (by repeat (first | (with_reducible first | exact HB.out | apply xab | apply xaa | apply xac | refine xag ?_ GE476.out | refine xag ?_ GE477.out) | exact HB.out)) hb); clear HO_8; clear BK476; clear BK477; clear HB; have HO_8 := n0_; have BK476 := n1_; have BK477 := n2_; have HB := n3_; clear n0_ n1_ n2_ n3_; (try clear hb); (try clear hb2); (try clear hk); (try clear hi)) | ((with_reducible refine xar (N := 10) rfl ?_); refine xaq ?hg (N := 10) ?hd (cs := #[.int .i8 0, .int .i64 0, .string (⟨#[]⟩ : ByteArray)]) (t := 26) ?hr ?_; (case hd => rfl); (case hg => rfl); (case hr => first | (go_simp; done) | (go_simp; rfl)); intro gb488 hg w38 hbox hb; have n0_ := Aside0.mk (Kd.R_below (Kd.R_elderB (by (with_reducible repeat (first | apply Kd.R_alloc | apply Kd.R_drewN | apply Kd.R_drew)); exact HO_8.out) gb488 (Nat.le_of_eq hg.symm)) hb); have n1_ := Aside0.mk (xan (g := gb476) (o := .cells #[.int .i8 a0_0, .string a0_1, .int .i8 a0_2, .int .i64 a0_3, .string a0_4, .slice (some ad483) l0_5.length c0_5] 31 (0, 0)) (by (with_reducible repeat (first | refine xae ?_ _ | refine xaf ?_ | refine xad ?_ _)); exact BK476.out) hb); have n2_ := Aside0.mk (xan (g := gb477) (o := .cells #[.int .i8 x478000_1, .int .i64 x478001_1, .string x478002_1] 26 (0, 0)) (by (with_reducible repeat (first | refine xae ?_ _ | refine xaf ?_ | refine xad ?_ _)); exact BK477.out) hb); have n3_ := Aside0.mk (xai (by repeat (first | (with_reducible first | exact HB.out | apply xab | apply xaa | apply xac | refine xag ?_ GE476.out | refine xag ?_ GE477.out) | exact HB.out)) hb); have n4_ := Aside0.mk (hbox); have n5_ := Aside0.mk ((by rw [hg]; exact (xap (by repeat (first | (with_reducible first | exact HB.out | apply xab | apply xaa | apply xac | refine xag ?_ GE476.out | refine xag ?_ GE477.out) | exact HB.out))) : w.heap.size ≤ gb488)); have n6_ := n5_; have n7_ := Aside0.mk ((by rw [hg]; exact Nat.ne_of_lt (blk_lt (g := gb476) (o := .cells #[.int .i8 a0_0, .string a0_1, .int .i8 a0_2, .int .i64 a0_3, .string a0_4, .slice (some ad483) l0_5.length c0_5] 31 (0, 0)) (by (with_reducible repeat (first | refine xae ?_ _ | refine xaf ?_ | refine xad ?_ _)); exact BK476.out)) : gb476 ≠ gb488)); have n8_ := Aside0.mk ((by rw [hg]; exact Nat.ne_of_gt (blk_lt (g := gb476) (o := .cells #[.int .i8 a0_0, .string a0_1, .int .i8 a0_2, .int .i64 a0_3, .string a0_4, .slice (some ad483) l0_5.length c0_5] 31 (0, 0)) (by (with_reducible repeat (first | refine xae ?_ _ | refine xaf ?_ | refine xad ?_ _)); exact BK476.out)) : gb488 ≠ gb476)); have n9_ := Aside0.mk ((by rw [hg]; exact Nat.ne_of_lt (blk_lt (g := gb477) (o := .cells #[.int .i8 x478000_1, .int .i64 x478001_1, .string x478002_1] 26 (0, 0)) (by (with_reducible repeat (first | refine xae ?_ _ | refine xaf ?_ | refine xad ?_ _)); exact BK477.out)) : gb477 ≠ gb488)); have n10_ := Aside0.mk ((by rw [hg]; exact Nat.ne_of_gt (blk_lt (g := gb477) (o := .cells #[.int .i8 x478000_1, .int .i64 x478001_1, .string x478002_1] 26 (0, 0)) (by (with_reducible repeat (first | refine xae ?_ _ | refine xaf ?_ | refine xad ?_ _)); exact BK477.out)) : gb488 ≠ gb477)); clear HO_8; clear BK476; clear BK477; clear HB; have HO_8 := n0_; have BK476 := n1_; have BK477 := n2_; have HB := n3_; have BK488 := n4_; have GW488 := n5_; have GE488 := n6_; have NB476_488 := n7_; have NB488_476 := n8_; have NB477_488 := n9_; have NB488_477 := n10_; clear n0_ n1_ n2_ n3_ n4_ n5_ n6_ n7_ n8_ n9_ n10_; clear hb hbox hg; have hnb39 := NB488_476.out; have hnc39 := NB476_488.out; have hnb40 := NB488_477.out; have hnc40 := NB477_488.out; obtain ⟨hcz41_0, hcz41_1, hcz41_2⟩ := cz3 BK488.out; obtain ⟨hfz41_0, hfz41_1, hfz41_2⟩ := fz3 BK488.out) | ((with_reducible refine gate_builtin (b := .append) (xs := #[.tmp 46, .tmp 48]) rfl ?_); at_builtin; refine Kd.R_append k26 (w0 := w) w.heap.size rfl (.tmp 46) (.tmp 48) 47 26 (.agg #[(.int .i8 0), (.int .i64 0), (.string ⟨#[]⟩)]) 32 rfl Tryd.underlying47 info26 rfl (by decide) (by omega) u8 x8_1 (⟨t484, t485, t486⟩ : S26) [.int .i8 t484, .int .i64 t485, .string t486] (fun k_ => k_ ≠ gb477 ∧ k_ ≠ gb488) (fun _ => False) rfl (by first | (go_simp; done) | (go_simp; rfl)) ?aP (fun _ hk => hk.elim) ?aF ?aO ?aB ?aS ?aL ?_; (case aP => exact k26_mkM _ _ _ (⟨t484, t485, t486⟩ : S26)); (case aB => exact (by repeat (first | (with_reducible first | exact HB.out | apply xab | apply xaa | apply xac | refine xag ?_ GE476.out | refine xag ?_ GE477.out | refine xag ?_ GE488.out) | exact HB.out))); (case aF => exact (fun k_ hk => ⟨Kd.freshB (g := gb477) (o := .cells #[.int .i8 x478000_1, .int .i64 x478001_1, .string x478002_1] 26 (0, 0)) (by (with_reducible repeat (first | refine xae ?_ _ | refine xaf ?_ | refine xad ?_ _)); refine xay ?_ NB477_488.out _; (with_reducible repeat (first | refine xae ?_ _ | refine xaf ?_ | refine xad ?_ _)); refine xay ?_ NB477_488.out _; (with_reducible repeat (first | refine xae ?_ _ | refine xaf ?_ | refine xad ?_ _)); refine xay ?_ NB477_488.out _; (with_reducible repeat (first | refine xae ?_ _ | refine xaf ?_ | refine xad ?_ _)); exact BK477.out) k_ hk, Kd.freshB (g := gb488) (o := .cells #[.int .i8 t484, .int .i64 t485, .string t486] 26 (0, 0)) (by (with_reducible repeat (first | refine xae ?_ _ | refine xaf ?_ | refine xad ?_ _)); refine xas (cs := #[.int .i8 t484, .int .i64 t485, .string (⟨#[]⟩ : ByteArray)]) ?_ 2 _ rfl; (with_reducible repeat (first | refine xae ?_ _ | refine xaf ?_ | refine xad ?_ _)); refine xas (cs := #[.int .i8 t484, .int .i64 0, .string (⟨#[]⟩ : ByteArray)]) ?_ 1 _ rfl; (with_reducible repeat (first | refine xae ?_ _ | refine xaf ?_ | refine xad ?_ _)); refine xas (cs := #[.int .i8 0, .int .i64 0, .string (⟨#[]⟩ : ByteArray)]) ?_ 0 _ rfl; (with_reducible repeat (first | refine xae ?_ _ | refine xaf ?_ | refine xad ?_ _)); exact BK488.out) k_ hk⟩)); (case aO => exact (by (with_reducible repeat (first | apply Kd.R_alloc | apply Kd.R_drewN | apply Kd.R_drew)); exact Kd.R_mono (Kd.R_far (p := ⟨gb488, 2, none⟩) (Kd.R_far (p := ⟨gb488, 1, none⟩) (Kd.R_far (p := ⟨gb488, 0, none⟩) (Kd.R_mono HO_8.out (fun k_ hk => (⟨hk, hk.2⟩ : _ ∧ k_ ≠ gb488))) (fun _ hk => hk.2) (.int .i8 t484)) (fun _ hk => hk.2) (.int .i64 t485)) (fun _ hk => hk.2) (.string t486)) (fun _ hk => ⟨hk.1.1, hk.1.2⟩))); (case aS => exact (xap (by repeat (first | (with_reducible first | exact HB.out | apply xab | apply xaa | apply xac | refine xag ?_ GE476.out | refine xag ?_ GE477.out | refine xag ?_ GE488.out) | exact HB.out)))); (case aL => have := LMc34.out; omega); intro v490 w42 ho hb hg hat; rw [← Ny489.out] at ho; have n0_ := Aside0.mk (xbh (g := gb476) (o := .cells #[.int .i8 a0_0, .string a0_1, .int .i8 a0_2, .int .i64 a0_3, .string a0_4, .slice (some ad483) l0_5.length c0_5] 31 (0, 0)) (by (with_reducible repeat (first | refine xae ?_ _ | refine xaf ?_ | refine xad ?_ _)); refine xay ?_ NB476_488.out _; (with_reducible repeat (first | refine xae ?_ _ | refine xaf ?_ | refine xad ?_ _)); refine xay ?_ NB476_488.out _; (with_reducible repeat (first | refine xae ?_ _ | refine xaf ?_ | refine xad ?_ _)); refine xay ?_ NB476_488.out _; (with_reducible repeat (first | refine xae ?_ _ | refine xaf ?_ | refine xad ?_ _)); exact BK476.out) hg (Kd.R_ne HO_8.out BK476.out (by decide))); have n1_ := Aside0.mk (xbh (g := gb477) (o := .cells #[.int .i8 x478000_1, .int .i64 x478001_1, .string x478002_1] 26 (0, 0)) (by (with_reducible repeat (first | refine xae ?_ _ | refine xaf ?_ | refine xad ?_ _)); refine xay ?_ NB477_488.out _; (with_reducible repeat (first | refine xae ?_ _ | refine xaf ?_ | refine xad ?_ _)); refine xay ?_ NB477_488.out _; (with_reducible repeat (first | refine xae ?_ _ | refine xaf ?_ | refine xad ?_ _)); refine xay ?_ NB477_488.out _; (with_reducible repeat (first | refine xae ?_ _ | refine xaf ?_ | refine xad ?_ _)); exact BK477.out) hg (Kd.R_away HO_8.out (fun _ hk => hk.1))); have n2_ := Aside0.mk (xbh (g := gb488) (o := .cells #[.int .i8 t484, .int .i64 t485, .string t486] 26 (0, 0)) (by (with_reducible repeat (first | refine xae ?_ _ | refine xaf ?_ | refine xad ?_ _)); refine xas (cs := #[.int .i8 t484, .int .i64 t485, .string (⟨#[]⟩ : ByteArray)]) ?_ 2 _ rfl; (with_reducible repeat (first | refine xae ?_ _ | refine xaf ?_ | refine xad ?_ _)); refine xas (cs := #[.int .i8 t484, .int .i64 0, .string (⟨#[]⟩ : ByteArray)]) ?_ 1 _ rfl; (with_reducible repeat (first | refine xae ?_ _ | refine xaf ?_ | refine xad ?_ _)); refine xas (cs := #[.int .i8 0, .int .i64 0, .string (⟨#[]⟩ : ByteArray)]) ?_ 0 _ rfl; (with_reducible repeat (first | refine xae ?_ _ | refine xaf ?_ | refine xad ?_ _)); exact BK488.out) hg (Kd.R_away HO_8.out (fun _ hk => hk.2))); have n3_ := Aside0.mk (hb); have n4_ := Aside0.mk (ho); clear BK476; clear BK477; clear BK488; clear HB; clear HO_8; have BK476 := n0_; have BK477 := n1_; have BK488 := n2_; have HB := n3_; have HO491 := n4_; clear n0_ n1_ n2_ n3_ n4_; clear ho hb hg hat))
        go_roundg k1
        case measure => have := HK1.out; omega
        case rel => exact ⟨(y489), (wrap64 (x9_1 + 1)), (x478000_1), (x478001_1), (x478002_1), (by first | rfl | (simp; done) | (simp [*]; done)), H', ⟨by have := HK1.out; omega⟩, ⟨by (with_reducible repeat (first | apply Kd.R_alloc | apply Kd.R_drewN | apply Kd.R_drew)); exact Kd.R_mono HO491.out (fun _ hk => hk.1)⟩, ⟨by (with_reducible repeat (first | refine xae ?_ _ | refine xaf ?_ | refine xad ?_ _)); exact BK476.out⟩, ⟨by (with_reducible repeat (first | refine xae ?_ _ | refine xaf ?_ | refine xad ?_ _)); exact BK477.out⟩, ⟨by repeat (first | (with_reducible first | exact HB.out | apply xab | apply xaa | apply xac | refine xag ?_ GE476.out | refine xag ?_ GE477.out | refine xag ?_ GE488.out) | exact HB.out)⟩⟩
       ·rw [if_neg c34] at H
        exact absurd H (by simp)
      ·replace c33 := Bool.eq_false_iff.mpr c33
       subst c33
       have H1 : (some (0, 0, (⟨#[]⟩ : ByteArray), false)) = some (r1, r2, r3, r4) := by rw [if_neg (show ¬ (false = true) by decide)] at H; exact H
       clear H
       have H := H1
       clear H1
       simp only [Option.some.injEq, Prod.mk.injEq] at H
       obtain ⟨rfl, rfl, rfl, rfl⟩ := H
       have hnb43 := NB476_477.out
       have hnc43 := NB477_476.out
       obtain ⟨hcz44_0, hcz44_1, hcz44_2, hcz44_3, hcz44_4, hcz44_5⟩ := cz6 BK476.out
       obtain ⟨hfz44_0, hfz44_1, hfz44_2, hfz44_3, hfz44_4, hfz44_5⟩ := fz6 BK476.out
       have p483 : 0 ≤ (x9_1 : Int) := of_decide_eq_true (by first | (with_reducible assumption) | assumption)
       have q483 : x9_1 < (l0_5.length : Int) := of_decide_eq_true (by first | (with_reducible assumption) | assumption)
       obtain ⟨ad483, A483_5, c483_5, e483, hx483_0, hx483_1, hx483_2, hx483_3, hx483_4, hx483_5, hl483_5, hi483_5⟩ := at_T31 HR0_5.out x9_1 p483 q483
       cases e483
       replace hx483_0 := (HB.out.cell (World.block_lt_of_cell? w _ hx483_0)).trans hx483_0
       replace hx483_1 := (HB.out.cell (World.block_lt_of_cell? w _ hx483_1)).trans hx483_1
       replace hx483_2 := (HB.out.cell (World.block_lt_of_cell? w _ hx483_2)).trans hx483_2
       replace hx483_3 := (HB.out.cell (World.block_lt_of_cell? w _ hx483_3)).trans hx483_3
       replace hx483_4 := (HB.out.cell (World.block_lt_of_cell? w _ hx483_4)).trans hx483_4
       replace hx483_5 := (HB.out.cell (World.block_lt_of_cell? w _ hx483_5)).trans hx483_5
       have HR483_5 := Aside0.mk hi483_5
       have HC483_5 := Aside0.mk hl483_5
       clear hi483_5 hl483_5
       replace p483 := eq_true p483
       replace q483 := eq_true q483
       go_wp2_with (first | ((with_reducible refine xav (f := 88) rfl ?_); refine goesL_ (some 40) rfl rfl Tryd.func88 (by kernel_rfl) rfl #[.agg #[.int .i8 ((rd_T31 l0_5 x9_1).f0), .string ((rd_T31 l0_5 x9_1).f1.f0), .int .i8 ((rd_T31 l0_5 x9_1).f1.f1.f0), .int .i64 ((rd_T31 l0_5 x9_1).f1.f1.f1), .string ((rd_T31 l0_5 x9_1).f1.f1.f2), .slice A483_5 ((rd_T31 l0_5 x9_1).f2).length c483_5], .slice A1 l1.length c1] rfl (by (try simp only [List.map_toArray, List.map_cons, List.map_nil]); first | done | rfl | (simp only [List.length_drop, List.length_take]; rfl)) ?_; (with_reducible refine (ih k1 (by have := HK1.out; omega) ((rd_T31 l0_5 x9_1).f0) ((rd_T31 l0_5 x9_1).f1.f0) ((rd_T31 l0_5 x9_1).f1.f1.f0) ((rd_T31 l0_5 x9_1).f1.f1.f1) ((rd_T31 l0_5 x9_1).f1.f1.f2) _ _ ((rd_T31 l0_5 x9_1).f2) _ _ l1 t484 t485 t486 false _ ?side1 ?side2 ?side3 ?side4 A32.out).mono ?_); (case side1 => repeat (first | exact (Kd.C_below HR483_5.out HB.out) | (with_reducible refine Kd.C_alloc ?_ _) | (with_reducible refine Kd.C_drewN ?_ _) | (with_reducible refine Kd.C_drew ?_))); (case side2 => exact HC483_5.out); (case side3 => repeat (first | exact (Kd.C_below HR1.out HB.out) | (with_reducible refine Kd.C_alloc ?_ _) | (with_reducible refine Kd.C_drewN ?_ _) | (with_reducible refine Kd.C_drew ?_))); (case side4 => exact HC1.out); rintro e w45 ⟨rfl, hb⟩; refine ⟨_, rfl, ?_⟩; have n0_ := Aside0.mk (Kd.R_below (by (with_reducible repeat (first | apply Kd.R_alloc | apply Kd.R_drewN | apply Kd.R_drew)); exact HO_8.out) hb); have n1_ := Aside0.mk (xan (g := gb476) (o := .cells #[.int .i8 a0_0, .string a0_1, .int .i8 a0_2, .int .i64 a0_3, .string a0_4, .slice (some ad483) l0_5.length c0_5] 31 (0, 0)) (by (with_reducible repeat (first | refine xae ?_ _ | refine xaf ?_ | refine xad ?_ _)); exact BK476.out) hb); have n2_ := Aside0.mk (xan (g := gb477) (o := .cells #[.int .i8 x478000_1, .int .i64 x478001_1, .string x478002_1] 26 (0, 0)) (by (with_reducible repeat (first | refine xae ?_ _ | refine xaf ?_ | refine xad ?_ _)); exact BK477.out) hb); have n3_ := Aside0.mk (xai (by repeat (first | (with_reducible first | exact HB.out | apply xab | apply xaa | apply xac | refine xag ?_ GE476.out | refine xag ?_ GE477.out) | exact HB.out)) hb); clear HO_8; clear BK476; clear BK477; clear HB; have HO_8 := n0_; have BK476 := n1_; have BK477 := n2_; have HB := n3_; clear n0_ n1_ n2_ n3_; (try clear hb); (try clear hb2); (try clear hk); (try clear hi)) | ((with_reducible refine xar (N := 10) rfl ?_); refine xaq ?hg (N := 10) ?hd (cs := #[.int .i8 0, .int .i64 0, .string (⟨#[]⟩ : ByteArray)]) (t := 26) ?hr ?_; (case hd => rfl); (case hg => rfl); (case hr => first | (go_simp; done) | (go_simp; rfl)); intro gb488 hg w46 hbox hb; have n0_ := Aside0.mk (Kd.R_below (Kd.R_elderB (by (with_reducible repeat (first | apply Kd.R_alloc | apply Kd.R_drewN | apply Kd.R_drew)); exact HO_8.out) gb488 (Nat.le_of_eq hg.symm)) hb); have n1_ := Aside0.mk (xan (g := gb476) (o := .cells #[.int .i8 a0_0, .string a0_1, .int .i8 a0_2, .int .i64 a0_3, .string a0_4, .slice (some ad483) l0_5.length c0_5] 31 (0, 0)) (by (with_reducible repeat (first | refine xae ?_ _ | refine xaf ?_ | refine xad ?_ _)); exact BK476.out) hb); have n2_ := Aside0.mk (xan (g := gb477) (o := .cells #[.int .i8 x478000_1, .int .i64 x478001_1, .string x478002_1] 26 (0, 0)) (by (with_reducible repeat (first | refine xae ?_ _ | refine xaf ?_ | refine xad ?_ _)); exact BK477.out) hb); have n3_ := Aside0.mk (xai (by repeat (first | (with_reducible first | exact HB.out | apply xab | apply xaa | apply xac | refine xag ?_ GE476.out | refine xag ?_ GE477.out) | exact HB.out)) hb); have n4_ := Aside0.mk (hbox); have n5_ := Aside0.mk ((by rw [hg]; exact (xap (by repeat (first | (with_reducible first | exact HB.out | apply xab | apply xaa | apply xac | refine xag ?_ GE476.out | refine xag ?_ GE477.out) | exact HB.out))) : w.heap.size ≤ gb488)); have n6_ := n5_; have n7_ := Aside0.mk ((by rw [hg]; exact Nat.ne_of_lt (blk_lt (g := gb476) (o := .cells #[.int .i8 a0_0, .string a0_1, .int .i8 a0_2, .int .i64 a0_3, .string a0_4, .slice (some ad483) l0_5.length c0_5] 31 (0, 0)) (by (with_reducible repeat (first | refine xae ?_ _ | refine xaf ?_ | refine xad ?_ _)); exact BK476.out)) : gb476 ≠ gb488)); have n8_ := Aside0.mk ((by rw [hg]; exact Nat.ne_of_gt (blk_lt (g := gb476) (o := .cells #[.int .i8 a0_0, .string a0_1, .int .i8 a0_2, .int .i64 a0_3, .string a0_4, .slice (some ad483) l0_5.length c0_5] 31 (0, 0)) (by (with_reducible repeat (first | refine xae ?_ _ | refine xaf ?_ | refine xad ?_ _)); exact BK476.out)) : gb488 ≠ gb476)); have n9_ := Aside0.mk ((by rw [hg]; exact Nat.ne_of_lt (blk_lt (g := gb477) (o := .cells #[.int .i8 x478000_1, .int .i64 x478001_1, .string x478002_1] 26 (0, 0)) (by (with_reducible repeat (first | refine xae ?_ _ | refine xaf ?_ | refine xad ?_ _)); exact BK477.out)) : gb477 ≠ gb488)); have n10_ := Aside0.mk ((by rw [hg]; exact Nat.ne_of_gt (blk_lt (g := gb477) (o := .cells #[.int .i8 x478000_1, .int .i64 x478001_1, .string x478002_1] 26 (0, 0)) (by (with_reducible repeat (first | refine xae ?_ _ | refine xaf ?_ | refine xad ?_ _)); exact BK477.out)) : gb488 ≠ gb477)); clear HO_8; clear BK476; clear BK477; clear HB; have HO_8 := n0_; have BK476 := n1_; have BK477 := n2_; have HB := n3_; have BK488 := n4_; have GW488 := n5_; have GE488 := n6_; have NB476_488 := n7_; have NB488_476 := n8_; have NB477_488 := n9_; have NB488_477 := n10_; clear n0_ n1_ n2_ n3_ n4_ n5_ n6_ n7_ n8_ n9_ n10_; clear hb hbox hg; have hnb47 := NB488_476.out; have hnc47 := NB476_488.out; have hnb48 := NB488_477.out; have hnc48 := NB477_488.out; obtain ⟨hcz49_0, hcz49_1, hcz49_2⟩ := cz3 BK488.out; obtain ⟨hfz49_0, hfz49_1, hfz49_2⟩ := fz3 BK488.out; obtain ⟨hcz50_0, hcz50_1, hcz50_2⟩ := cz3 BK477.out; obtain ⟨hfz50_0, hfz50_1, hfz50_2⟩ := fz3 BK477.out))
       refine bodyPost_ret (xat rfl _ _ gb477 26 #[.int .i8 0, .int .i64 0, .string (⟨#[]⟩ : ByteArray)] (0, 0) _ rfl (by (with_reducible repeat (first | refine xae ?_ _ | refine xaf ?_ | refine xad ?_ _)); refine xas (cs := #[.int .i8 0, .int .i64 0, .string x478002_1]) ?_ 2 _ rfl; (with_reducible repeat (first | refine xae ?_ _ | refine xaf ?_ | refine xad ?_ _)); refine xas (cs := #[.int .i8 0, .int .i64 x478001_1, .string x478002_1]) ?_ 1 _ rfl; (with_reducible repeat (first | refine xae ?_ _ | refine xaf ?_ | refine xad ?_ _)); refine xas (cs := #[.int .i8 x478000_1, .int .i64 x478001_1, .string x478002_1]) ?_ 0 _ rfl; (with_reducible repeat (first | refine xae ?_ _ | refine xaf ?_ | refine xad ?_ _)); refine xay ?_ NB477_488.out _; (with_reducible repeat (first | refine xae ?_ _ | refine xaf ?_ | refine xad ?_ _)); refine xay ?_ NB477_488.out _; (with_reducible repeat (first | refine xae ?_ _ | refine xaf ?_ | refine xad ?_ _)); refine xay ?_ NB477_488.out _; (with_reducible repeat (first | refine xae ?_ _ | refine xaf ?_ | refine xad ?_ _)); exact BK477.out) Tryd.underlying26 rfl (by kernel_rfl)) rfl ?_
       exact ⟨by first | rfl | (simp [xak, xal] <;> rfl) | (simp [*, xak, xal] <;> rfl), by repeat (first | (with_reducible first | exact HB.out | apply xab | apply xaa | apply xac | refine xag ?_ GE476.out | refine xag ?_ GE477.out | refine xag ?_ GE488.out) | exact HB.out)⟩
     ·rw [if_neg c31] at H
      exact absurd H (by simp)
    ·rw [if_neg c30] at H
     have c30b0 : decide (x9_1 < (l0_5.length : Int)) = false := decide_eq_false c30
     clear c30
     replace H := Option.bind_eq_some_iff.mp H
     obtain ⟨⟨t492, t493, t494, t495⟩, A510, H⟩ := H
     replace H : (some (t492, t493, t494, t495)) = some (r1, r2, r3, r4) := H
     have A51 := Aside0.mk A510
     clear A510
     simp only [Option.some.injEq, Prod.mk.injEq] at H
     obtain ⟨rfl, rfl, rfl, rfl⟩ := H
     have hnb52 := NB476_477.out
     have hnc52 := NB477_476.out
     obtain ⟨hcz53_0, hcz53_1, hcz53_2, hcz53_3, hcz53_4, hcz53_5⟩ := cz6 BK476.out
     obtain ⟨hfz53_0, hfz53_1, hfz53_2, hfz53_3, hfz53_4, hfz53_5⟩ := fz6 BK476.out
     obtain ⟨Ao54, co54, eo54⟩ := Kd.R_slice HO_8.out
     subst eo54
     go_wp2_with (first | ((with_reducible refine xav (f := 122) rfl ?_); refine goesL_ (some 53) rfl rfl Tryd.func122 (by kernel_rfl) rfl #[.int .i8 a0_0, .slice Ao54 x8_1.length co54] rfl (by (try simp only [List.map_toArray, List.map_cons, List.map_nil]); first | done | rfl | (simp only [List.length_drop, List.length_take]; rfl)) ?_; (with_reducible refine (r1_Arith.calls k1 a0_0 _ _ x8_1 t492 t493 t494 t495 _ ?side1 ?side2 A51.out).mono ?_); (case side1 => repeat (first | exact (Kd.R_reads' HO_8.out).2.2 | (with_reducible refine Kd.C_alloc ?_ _) | (with_reducible refine Kd.C_drewN ?_ _) | (with_reducible refine Kd.C_drew ?_))); (case side2 => exact (Kd.R_reads' HO_8.out).2.1); rintro e w55 ⟨rfl, hb⟩; refine ⟨_, rfl, ?_⟩; have n0_ := Aside0.mk (Kd.R_below (by (with_reducible repeat (first | apply Kd.R_alloc | apply Kd.R_drewN | apply Kd.R_drew)); exact HO_8.out) hb); have n1_ := Aside0.mk (xan (g := gb476) (o := .cells #[.int .i8 a0_0, .string a0_1, .int .i8 a0_2, .int .i64 a0_3, .string a0_4, .slice A0_5 l0_5.length c0_5] 31 (0, 0)) (by (with_reducible repeat (first | refine xae ?_ _ | refine xaf ?_ | refine xad ?_ _)); exact BK476.out) hb); have n2_ := Aside0.mk (xan (g := gb477) (o := .cells #[.int .i8 x478000_1, .int .i64 x478001_1, .string x478002_1] 26 (0, 0)) (by (with_reducible repeat (first | refine xae ?_ _ | refine xaf ?_ | refine xad ?_ _)); exact BK477.out) hb); have n3_ := Aside0.mk (xai (by repeat (first | (with_reducible first | exact HB.out | apply xab | apply xaa | apply xac | refine xag ?_ GE476.out | refine xag ?_ GE477.out) | exact HB.out)) hb); clear HO_8; clear BK476; clear BK477; clear HB; have HO_8 := n0_; have BK476 := n1_; have BK477 := n2_; have HB := n3_; clear n0_ n1_ n2_ n3_; (try clear hb); (try clear hb2); (try clear hk); (try clear hi); obtain ⟨hcz56_0, hcz56_1, hcz56_2⟩ := cz3 BK477.out; obtain ⟨hfz56_0, hfz56_1, hfz56_2⟩ := fz3 BK477.out))
     refine bodyPost_ret (xat rfl _ _ gb477 26 #[.int .i8 t492, .int .i64 t493, .string t494] (0, 0) _ rfl (by (with_reducible repeat (first | refine xae ?_ _ | refine xaf ?_ | refine xad ?_ _)); refine xas (cs := #[.int .i8 t492, .int .i64 t493, .string x478002_1]) ?_ 2 _ rfl; (with_reducible repeat (first | refine xae ?_ _ | refine xaf ?_ | refine xad ?_ _)); refine xas (cs := #[.int .i8 t492, .int .i64 x478001_1, .string x478002_1]) ?_ 1 _ rfl; (with_reducible repeat (first | refine xae ?_ _ | refine xaf ?_ | refine xad ?_ _)); refine xas (cs := #[.int .i8 x478000_1, .int .i64 x478001_1, .string x478002_1]) ?_ 0 _ rfl; (with_reducible repeat (first | refine xae ?_ _ | refine xaf ?_ | refine xad ?_ _)); exact BK477.out) Tryd.underlying26 rfl (by kernel_rfl)) rfl ?_
     exact ⟨by first | rfl | (simp [xak, xal] <;> rfl) | (simp [*, xak, xal] <;> rfl), by repeat (first | (with_reducible first | exact HB.out | apply xab | apply xaa | apply xac | refine xag ?_ GE476.out | refine xag ?_ GE477.out) | exact HB.out)⟩
def r4_Eval.f (k : Nat) (a0_0 : Int) (a0_1 : ByteArray) (a0_2 : Int) (a0_3 : Int) (a0_4 : ByteArray) (l0_5 : List (S31)) (l1 : List (S41)) : Option (Int × Int × ByteArray × Bool) := (r4_expr.f k a0_0 a0_1 a0_2 a0_3 a0_4 l0_5 8).bind fun t498 => (if t498 = true then ((r4_worth.f k a0_0 a0_1 a0_2 a0_3 a0_4 l0_5 l1).bind fun bt499 => (some (bt499.1, bt499.2.1, bt499.2.2.1, bt499.2.2.2))) else (some (0, 0, (⟨#[]⟩ : ByteArray), false)))
end Go.Proofs.YtllcmggmcogokaaDoor.PAll
end
