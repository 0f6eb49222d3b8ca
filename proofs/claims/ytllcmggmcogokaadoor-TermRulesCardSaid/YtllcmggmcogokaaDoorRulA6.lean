-- Written by programs of this work and by hand, joined by a program. Lean checks it.
import Derived.Laws.CopyOwn
import Derived.Test.YtllcmggmcogokaaDoorCards
import Derived.Test.YtllcmggmcogokaaDoorTie
import Derived.WalkKit
import Derived.ProofKit
import Derived.OpenShut
import Derived.Carry
import Derived.Deep.DeepHandedRow
import Derived.Lib.LaidTab
import Derived.Test.YtllcmggmcogokaaDoorRulA5
set_option linter.unusedVariables false
set_option linter.unusedSimpArgs false
section
namespace Go.Proofs.YtllcmggmcogokaaDoor.PAll
open Go.RowKit Go.Proofs.YtllcmggmcogokaaDoorW.PrintWords Go.Proofs.YtllcmggmcogokaaDoorW.PrintLast Go.Proofs.YtllcmggmcogokaaDoorW.PrintMore
attribute [local go_sem] max2_int min2_int max_two min_two max_three min_three max_four min_four
set_option maxHeartbeats 8000000 in
set_option maxRecDepth 100000 in
theorem term_Head.calls (k : Nat) (a0_0 : ByteArray) (A0_1 : Option Addr) (c0_1 : Nat) (l0_1 : List (S125)) (A0_2 : Option Addr) (c0_2 : Nat) (l0_2 : List (S56)) (r1 : ByteArray) (r2 : List (S28)) (r3 : Bool) (w : World) (hr0_1 : Kd.C k125 w A0_1 l0_1.length l0_1) (hc0_1 : l0_1.length ≤ c0_1) (hr0_2 : Kd.C k56 w A0_2 l0_2.length l0_2) (hc0_2 : l0_2.length ≤ c0_2) (h : term_Head.f k a0_0 l0_1 l0_2 = some (r1, r2, r3)) :
  Calls Tryd.prog 29 #[.agg #[.string a0_0, .slice A0_1 l0_1.length c0_1, .slice A0_2 l0_2.length c0_2]] w fun e w' => ∃ v1_ : Value, e = .returned (.tuple #[.agg #[.string r1, v1_], .bool r3]) ∧ Kd.R k28 28 w' w.heap.size (fun _ => True) v1_ r2 ∧ Below w.heap.size w w' := by
 have hu67 := Tryd.underlying67
 have hu53 := Tryd.underlying53
 have hu125 := Tryd.underlying125
 have hu28 := Tryd.underlying28
 have HR0_1 := Aside0.mk hr0_1
 have HC0_1 := Aside0.mk hc0_1
 clear hr0_1 hc0_1
 have HR0_2 := Aside0.mk hr0_2
 have HC0_2 := Aside0.mk hc0_2
 clear hr0_2 hc0_2
 have HB := Aside0.mk (Below.refl w.heap.size w)
 have H : (term_Head.l0 k l0_1 (l0_1.length : Int) 0 a0_0 ([] : List (S28))) = some (r1, r2, r3) := h
 clear h
 have H' := Aside0.mk H
 clear H
 go_enter Tryd.func29, Tryd.ntmps29
 go_wp2_with (first | ((with_reducible refine xar (N := 1) rfl ?_); refine xap ?hg (N := 1) ?hd (cs := #[.string a0_0, .slice A0_1 l0_1.length c0_1, .slice A0_2 l0_2.length c0_2]) (t := 67) ?hr ?_; (case hd => rfl); (case hg => rfl); (case hr => first | (go_simp; done) | (go_simp; rfl)); intro gb336 hg w2 hbox hb; have n0_ := Aside0.mk (xah (by repeat (first | (with_reducible first | exact HB.out | apply xab | apply xaa | apply xac) | exact HB.out)) hb); have n1_ := Aside0.mk (hbox); have n2_ := Aside0.mk ((by rw [hg]; exact (xao (by repeat (first | (with_reducible first | exact HB.out | apply xab | apply xaa | apply xac) | exact HB.out))) : w.heap.size ≤ gb336)); have n3_ := n2_; clear HB; have HB := n0_; have BK336 := n1_; have GW336 := n2_; have GE336 := n3_; clear n0_ n1_ n2_ n3_; clear hb hbox hg) | ((with_reducible refine xar (N := 2) rfl ?_); refine xap ?hg (N := 2) ?hd (cs := #[.string (⟨#[]⟩ : ByteArray), .slice none 0 0]) (t := 53) ?hr ?_; (case hd => rfl); (case hg => rfl); (case hr => first | (go_simp; done) | (go_simp; rfl)); intro gb337 hg w3 hbox hb; have n0_ := Aside0.mk (xam (g := gb336) (o := .cells #[.string a0_0, .slice A0_1 l0_1.length c0_1, .slice A0_2 l0_2.length c0_2] 67 (0, 0)) (by (with_reducible repeat (first | refine xag ?_ _ | refine xai ?_ | refine xaf ?_ _)); exact BK336.out) hb); have n1_ := Aside0.mk (xah (by repeat (first | (with_reducible first | exact HB.out | apply xab | apply xaa | apply xac | refine xad ?_ GE336.out) | exact HB.out)) hb); have n2_ := Aside0.mk (hbox); have n3_ := Aside0.mk ((by rw [hg]; exact (xao (by repeat (first | (with_reducible first | exact HB.out | apply xab | apply xaa | apply xac | refine xad ?_ GE336.out) | exact HB.out))) : w.heap.size ≤ gb337)); have n4_ := n3_; have n5_ := Aside0.mk ((by rw [hg]; exact Nat.ne_of_lt (blk_lt (g := gb336) (o := .cells #[.string a0_0, .slice A0_1 l0_1.length c0_1, .slice A0_2 l0_2.length c0_2] 67 (0, 0)) (by (with_reducible repeat (first | refine xag ?_ _ | refine xai ?_ | refine xaf ?_ _)); exact BK336.out)) : gb336 ≠ gb337)); have n6_ := Aside0.mk ((by rw [hg]; exact Nat.ne_of_gt (blk_lt (g := gb336) (o := .cells #[.string a0_0, .slice A0_1 l0_1.length c0_1, .slice A0_2 l0_2.length c0_2] 67 (0, 0)) (by (with_reducible repeat (first | refine xag ?_ _ | refine xai ?_ | refine xaf ?_ _)); exact BK336.out)) : gb337 ≠ gb336)); clear BK336; clear HB; have BK336 := n0_; have HB := n1_; have BK337 := n2_; have GW337 := n3_; have GE337 := n4_; have NB336_337 := n5_; have NB337_336 := n6_; clear n0_ n1_ n2_ n3_ n4_ n5_ n6_; clear hb hbox hg; have hnb4 := NB336_337.out; have hnc4 := NB337_336.out; obtain ⟨hcz5_0, hcz5_1, hcz5_2⟩ := cz3 BK336.out; obtain ⟨hfz5_0, hfz5_1, hfz5_2⟩ := fz3 BK336.out) | ((with_reducible refine xar (N := 4) rfl ?_); refine xap ?hg (N := 4) ?hd (cs := #[.string (⟨#[]⟩ : ByteArray), .slice none 0 0]) (t := 53) ?hr ?_; (case hd => rfl); (case hg => rfl); (case hr => first | (go_simp; done) | (go_simp; rfl)); intro gb338 hg w6 hbox hb; have n0_ := Aside0.mk (xam (g := gb336) (o := .cells #[.string a0_0, .slice A0_1 l0_1.length c0_1, .slice A0_2 l0_2.length c0_2] 67 (0, 0)) (by (with_reducible repeat (first | refine xag ?_ _ | refine xai ?_ | refine xaf ?_ _)); exact BK336.out) hb); have n1_ := Aside0.mk (xam (g := gb337) (o := .cells #[.string (⟨#[]⟩ : ByteArray), .slice none 0 0] 53 (0, 0)) (by (with_reducible repeat (first | refine xag ?_ _ | refine xai ?_ | refine xaf ?_ _)); exact BK337.out) hb); have n2_ := Aside0.mk (xah (by repeat (first | (with_reducible first | exact HB.out | apply xab | apply xaa | apply xac | refine xad ?_ GE336.out | refine xad ?_ GE337.out) | exact HB.out)) hb); have n3_ := Aside0.mk (hbox); have n4_ := Aside0.mk ((by rw [hg]; exact (xao (by repeat (first | (with_reducible first | exact HB.out | apply xab | apply xaa | apply xac | refine xad ?_ GE336.out | refine xad ?_ GE337.out) | exact HB.out))) : w.heap.size ≤ gb338)); have n5_ := n4_; have n6_ := Aside0.mk ((by rw [hg]; exact Nat.ne_of_lt (blk_lt (g := gb336) (o := .cells #[.string a0_0, .slice A0_1 l0_1.length c0_1, .slice A0_2 l0_2.length c0_2] 67 (0, 0)) (by (with_reducible repeat (first | refine xag ?_ _ | refine xai ?_ | refine xaf ?_ _)); exact BK336.out)) : gb336 ≠ gb338)); have n7_ := Aside0.mk ((by rw [hg]; exact Nat.ne_of_gt (blk_lt (g := gb336) (o := .cells #[.string a0_0, .slice A0_1 l0_1.length c0_1, .slice A0_2 l0_2.length c0_2] 67 (0, 0)) (by (with_reducible repeat (first | refine xag ?_ _ | refine xai ?_ | refine xaf ?_ _)); exact BK336.out)) : gb338 ≠ gb336)); have n8_ := Aside0.mk ((by rw [hg]; exact Nat.ne_of_lt (blk_lt (g := gb337) (o := .cells #[.string (⟨#[]⟩ : ByteArray), .slice none 0 0] 53 (0, 0)) (by (with_reducible repeat (first | refine xag ?_ _ | refine xai ?_ | refine xaf ?_ _)); exact BK337.out)) : gb337 ≠ gb338)); have n9_ := Aside0.mk ((by rw [hg]; exact Nat.ne_of_gt (blk_lt (g := gb337) (o := .cells #[.string (⟨#[]⟩ : ByteArray), .slice none 0 0] 53 (0, 0)) (by (with_reducible repeat (first | refine xag ?_ _ | refine xai ?_ | refine xaf ?_ _)); exact BK337.out)) : gb338 ≠ gb337)); clear BK336; clear BK337; clear HB; have BK336 := n0_; have BK337 := n1_; have HB := n2_; have BK338 := n3_; have GW338 := n4_; have GE338 := n5_; have NB336_338 := n6_; have NB338_336 := n7_; have NB337_338 := n8_; have NB338_337 := n9_; clear n0_ n1_ n2_ n3_ n4_ n5_ n6_ n7_ n8_ n9_; clear hb hbox hg; have hnb7 := NB338_336.out; have hnc7 := NB336_338.out; have hnb8 := NB338_337.out; have hnc8 := NB337_338.out; obtain ⟨hcz9_0, hcz9_1⟩ := cz2 BK338.out; obtain ⟨hfz9_0, hfz9_1⟩ := fz2 BK338.out; obtain ⟨hcz10_0, hcz10_1, hcz10_2⟩ := cz3 BK336.out; obtain ⟨hfz10_0, hfz10_1, hfz10_2⟩ := fz3 BK336.out))
 go_loopg [13] k (fun kq v13 w' => ∃ (x13_1 : Int) (x338000_1 : ByteArray) (x339001_1 : List (S28)) (u339001 : Value), v13 = .int .i64 x13_1 ∧ Aside0 (term_Head.l0 kq l0_1 (l0_1.length : Int) x13_1 a0_0 x339001_1 = some (r1, r2, r3)) ∧ Aside0 (kq ≤ k) ∧ Aside0 (Kd.R k28 28 w' w.heap.size (fun _ => True) u339001 x339001_1) ∧ Aside0 (w'.heap[gb336]? = some (.cells #[.string a0_0, (.slice A0_1 l0_1.length c0_1), (.slice A0_2 l0_2.length c0_2)] 67 (0, 0))) ∧ Aside0 (w'.heap[gb337]? = some (.cells #[.string x338000_1, (.slice none 0 0)] 53 (0, 0))) ∧ Aside0 (w'.heap[gb338]? = some (.cells #[.string a0_0, u339001] 53 (0, 0))) ∧ Aside0 (Below w.heap.size w w'))
 case atStart => exact ⟨(0), ((⟨#[]⟩ : ByteArray)), (([] : List (S28))), (.slice none 0 0), (by first | rfl | (simp; done) | (simp [*]; done)), H', ⟨Nat.le_refl _⟩, ⟨by first | exact Kd.R_nil _ _ _ _ _ | exact Kd.N_nil _ _ _ _ _ | exact Kd.V_nil _ _ _ _ _ | exact Kd.Q_nil _ _ _ _ _ | exact Kd.S_nil _ _ _ _ _⟩, ⟨by (with_reducible repeat (first | refine xag ?_ _ | refine xai ?_ | refine xaf ?_ _)); refine xax ?_ NB336_338.out _; (with_reducible repeat (first | refine xag ?_ _ | refine xai ?_ | refine xaf ?_ _)); refine xax ?_ NB336_338.out _; (with_reducible repeat (first | refine xag ?_ _ | refine xai ?_ | refine xaf ?_ _)); exact BK336.out⟩, ⟨by (with_reducible repeat (first | refine xag ?_ _ | refine xai ?_ | refine xaf ?_ _)); refine xax ?_ NB337_338.out _; (with_reducible repeat (first | refine xag ?_ _ | refine xai ?_ | refine xaf ?_ _)); refine xax ?_ NB337_338.out _; (with_reducible repeat (first | refine xag ?_ _ | refine xai ?_ | refine xaf ?_ _)); exact BK337.out⟩, ⟨by (with_reducible repeat (first | refine xag ?_ _ | refine xai ?_ | refine xaf ?_ _)); refine xas (cs := #[.string a0_0, .slice none 0 0]) ?_ 1 _ rfl; (with_reducible repeat (first | refine xag ?_ _ | refine xai ?_ | refine xaf ?_ _)); refine xas (cs := #[.string (⟨#[]⟩ : ByteArray), .slice none 0 0]) ?_ 0 _ rfl; (with_reducible repeat (first | refine xag ?_ _ | refine xai ?_ | refine xaf ?_ _)); exact BK338.out⟩, ⟨by repeat (first | (with_reducible first | exact HB.out | apply xab | apply xaa | apply xac | refine xad ?_ GE336.out | refine xad ?_ GE337.out | refine xad ?_ GE338.out) | exact HB.out)⟩⟩
 case round =>
  clear H'
  try clear c2
  try clear p2
  try clear c4
  try clear c7
  try clear c8
  try clear hcz10_0
  try clear hcz10_1
  try clear hcz10_2
  try clear hcz5_0
  try clear hcz5_1
  try clear hcz5_2
  try clear hcz9_0
  try clear hcz9_1
  try clear hfz10_0
  try clear hfz10_1
  try clear hfz10_2
  try clear hfz5_0
  try clear hfz5_1
  try clear hfz5_2
  try clear hfz9_0
  try clear hfz9_1
  obtain ⟨x13_1, x338000_1, x339001_1, u339001, rfl, HA, HK1, HO_339001, BK336, BK337, BK338, HB⟩ := hrel
  cases gk with
  | zero => exact absurd HA.out (by simp [term_Head.l0])
  | succ k1 =>
   have H := HA.out
   clear HA
   simp only [term_Head.l0] at H
   by_cases c11 : x13_1 < (l0_1.length : Int)
   ·rw [if_pos c11] at H
    have c11b0 : decide (x13_1 < (l0_1.length : Int)) = true := decide_eq_true c11
    clear c11
    by_cases c12 : 0 ≤ x13_1
    ·rw [if_pos c12] at H
     have c12b0 : decide (0 ≤ x13_1) = true := decide_eq_true c12
     clear c12
     by_cases c13 : x13_1 < (l0_1.length : Int)
     ·rw [if_pos c13] at H
      have c13b0 : decide (x13_1 < (l0_1.length : Int)) = true := decide_eq_true c13
      clear c13
      by_cases c14 : ((xaq l0_1 x13_1).f0) = 0
      ·rw [if_pos c14] at H
       have c14b0 : (((xaq l0_1 x13_1).f0) == 0) = true := beq_iff_eq.mpr c14
       have c14b1 : (((xaq l0_1 x13_1).f0) != 0) = false := bne_eq_false_iff_eq.mpr c14
       clear c14
       by_cases c15 : x339001_1.length < 2932031007402
       ·rw [if_pos c15] at H
        have LMc15 := Aside0.mk c15
        clear c15
        obtain ⟨y341, hy341⟩ : ∃ y_ : List (S28), y_ = (x339001_1 ++ [(⟨(xaq l0_1 x13_1).f1.f0, (⟨(xaq l0_1 x13_1).f1.f1.f0, (xaq l0_1 x13_1).f1.f1.f1, (xaq l0_1 x13_1).f1.f1.f2⟩ : S26)⟩ : S28)]) := ⟨_, rfl⟩
        replace H : (term_Head.l0 k1 l0_1 (l0_1.length : Int) (wrap64 (x13_1 + 1)) a0_0 y341) = some (r1, r2, r3) := by first | (rw [hy341]; with_reducible exact H) | (have H2_ := (Option.bind_some _ _).symm.trans H; rw [hy341]; with_reducible exact H2_) | (have H2_ := (Option.bind_some _ _).symm.trans H; with_reducible exact H2_) | with_reducible exact H | (rw [hy341]; exact H) | exact H
        have Ny341 := Aside0.mk hy341
        clear hy341
        have H' := Aside0.mk H
        clear H
        have p339 : 0 ≤ (x13_1 : Int) := of_decide_eq_true (by first | (with_reducible assumption) | assumption)
        have q339 : x13_1 < (l0_1.length : Int) := of_decide_eq_true (by first | (with_reducible assumption) | assumption)
        obtain ⟨ad339, e339, hx339_0, hx339_1, hx339_2, hx339_3, hx339_4⟩ := xbp HR0_1.out x13_1 p339 q339
        cases e339
        replace hx339_0 := (HB.out.cell (World.block_lt_of_cell? w _ hx339_0)).trans hx339_0
        replace hx339_1 := (HB.out.cell (World.block_lt_of_cell? w _ hx339_1)).trans hx339_1
        replace hx339_2 := (HB.out.cell (World.block_lt_of_cell? w _ hx339_2)).trans hx339_2
        replace hx339_3 := (HB.out.cell (World.block_lt_of_cell? w _ hx339_3)).trans hx339_3
        replace hx339_4 := (HB.out.cell (World.block_lt_of_cell? w _ hx339_4)).trans hx339_4
        replace p339 := eq_true p339
        replace q339 := eq_true q339
        go_wp2_with (first | ((with_reducible refine xar (N := 6) rfl ?_); refine xap ?hg (N := 6) ?hd (cs := #[.int .i8 0, .string (⟨#[]⟩ : ByteArray), .int .i8 0, .int .i64 0, .string (⟨#[]⟩ : ByteArray)]) (t := 125) ?hr ?_; (case hd => rfl); (case hg => rfl); (case hr => first | (go_simp; done) | (go_simp; rfl)); intro gb340 hg w16 hbox hb; have n0_ := Aside0.mk (Kd.R_below (by (with_reducible repeat (first | apply Kd.R_alloc | apply Kd.R_drewN | apply Kd.R_drew)); exact HO_339001.out) hb); have n1_ := Aside0.mk (xam (g := gb336) (o := .cells #[.string a0_0, .slice (some ad339) l0_1.length c0_1, .slice A0_2 l0_2.length c0_2] 67 (0, 0)) (by (with_reducible repeat (first | refine xag ?_ _ | refine xai ?_ | refine xaf ?_ _)); exact BK336.out) hb); have n2_ := Aside0.mk (xam (g := gb337) (o := .cells #[.string x338000_1, .slice none 0 0] 53 (0, 0)) (by (with_reducible repeat (first | refine xag ?_ _ | refine xai ?_ | refine xaf ?_ _)); exact BK337.out) hb); have n3_ := Aside0.mk (xam (g := gb338) (o := .cells #[.string a0_0, u339001] 53 (0, 0)) (by (with_reducible repeat (first | refine xag ?_ _ | refine xai ?_ | refine xaf ?_ _)); exact BK338.out) hb); have n4_ := Aside0.mk (xah (by repeat (first | (with_reducible first | exact HB.out | apply xab | apply xaa | apply xac | refine xad ?_ GE336.out | refine xad ?_ GE337.out | refine xad ?_ GE338.out) | exact HB.out)) hb); have n5_ := Aside0.mk (hbox); have n6_ := Aside0.mk ((by rw [hg]; exact (xao (by repeat (first | (with_reducible first | exact HB.out | apply xab | apply xaa | apply xac | refine xad ?_ GE336.out | refine xad ?_ GE337.out | refine xad ?_ GE338.out) | exact HB.out))) : w.heap.size ≤ gb340)); have n7_ := n6_; have n8_ := Aside0.mk ((by rw [hg]; exact Nat.ne_of_lt (blk_lt (g := gb336) (o := .cells #[.string a0_0, .slice (some ad339) l0_1.length c0_1, .slice A0_2 l0_2.length c0_2] 67 (0, 0)) (by (with_reducible repeat (first | refine xag ?_ _ | refine xai ?_ | refine xaf ?_ _)); exact BK336.out)) : gb336 ≠ gb340)); have n9_ := Aside0.mk ((by rw [hg]; exact Nat.ne_of_gt (blk_lt (g := gb336) (o := .cells #[.string a0_0, .slice (some ad339) l0_1.length c0_1, .slice A0_2 l0_2.length c0_2] 67 (0, 0)) (by (with_reducible repeat (first | refine xag ?_ _ | refine xai ?_ | refine xaf ?_ _)); exact BK336.out)) : gb340 ≠ gb336)); have n10_ := Aside0.mk ((by rw [hg]; exact Nat.ne_of_lt (blk_lt (g := gb337) (o := .cells #[.string x338000_1, .slice none 0 0] 53 (0, 0)) (by (with_reducible repeat (first | refine xag ?_ _ | refine xai ?_ | refine xaf ?_ _)); exact BK337.out)) : gb337 ≠ gb340)); have n11_ := Aside0.mk ((by rw [hg]; exact Nat.ne_of_gt (blk_lt (g := gb337) (o := .cells #[.string x338000_1, .slice none 0 0] 53 (0, 0)) (by (with_reducible repeat (first | refine xag ?_ _ | refine xai ?_ | refine xaf ?_ _)); exact BK337.out)) : gb340 ≠ gb337)); have n12_ := Aside0.mk ((by rw [hg]; exact Nat.ne_of_lt (blk_lt (g := gb338) (o := .cells #[.string a0_0, u339001] 53 (0, 0)) (by (with_reducible repeat (first | refine xag ?_ _ | refine xai ?_ | refine xaf ?_ _)); exact BK338.out)) : gb338 ≠ gb340)); have n13_ := Aside0.mk ((by rw [hg]; exact Nat.ne_of_gt (blk_lt (g := gb338) (o := .cells #[.string a0_0, u339001] 53 (0, 0)) (by (with_reducible repeat (first | refine xag ?_ _ | refine xai ?_ | refine xaf ?_ _)); exact BK338.out)) : gb340 ≠ gb338)); clear HO_339001; clear BK336; clear BK337; clear BK338; clear HB; have HO_339001 := n0_; have BK336 := n1_; have BK337 := n2_; have BK338 := n3_; have HB := n4_; have BK340 := n5_; have GW340 := n6_; have GE340 := n7_; have NB336_340 := n8_; have NB340_336 := n9_; have NB337_340 := n10_; have NB340_337 := n11_; have NB338_340 := n12_; have NB340_338 := n13_; clear n0_ n1_ n2_ n3_ n4_ n5_ n6_ n7_ n8_ n9_ n10_ n11_ n12_ n13_; clear hb hbox hg; have hnb17 := NB340_336.out; have hnc17 := NB336_340.out; have hnb18 := NB340_337.out; have hnc18 := NB337_340.out; have hnb19 := NB340_338.out; have hnc19 := NB338_340.out; obtain ⟨hcz20_0, hcz20_1, hcz20_2, hcz20_3, hcz20_4⟩ := cz5 BK340.out; obtain ⟨hfz20_0, hfz20_1, hfz20_2, hfz20_3, hfz20_4⟩ := fz5 BK340.out; have hnb21 := NB338_336.out; have hnc21 := NB336_338.out; have hnb22 := NB338_337.out; have hnc22 := NB337_338.out; obtain ⟨hcz23_0, hcz23_1⟩ := cz2 BK338.out; obtain ⟨hfz23_0, hfz23_1⟩ := fz2 BK338.out) | ((with_reducible refine gate_builtin (b := .append) (xs := #[.tmp 22, .tmp 25]) rfl ?_); at_builtin; refine Kd.R_append k28 (w0 := w) w.heap.size rfl (.tmp 22) (.tmp 25) 51 28 (.agg #[(.string ⟨#[]⟩), (.int .i8 0), (.int .i64 0), (.string ⟨#[]⟩)]) 48 rfl Tryd.underlying51 info28 rfl (by decide) (by omega) u339001 x339001_1 (⟨(xaq l0_1 x13_1).f1.f0, (⟨(xaq l0_1 x13_1).f1.f1.f0, (xaq l0_1 x13_1).f1.f1.f1, (xaq l0_1 x13_1).f1.f1.f2⟩ : S26)⟩ : S28) [.string ((xaq l0_1 x13_1).f1.f0), .int .i8 ((xaq l0_1 x13_1).f1.f1.f0), .int .i64 ((xaq l0_1 x13_1).f1.f1.f1), .string ((xaq l0_1 x13_1).f1.f1.f2)] (fun _ => True) (fun _ => False) rfl (by first | (go_simp; done) | (go_simp; rfl)) ?aP (fun _ hk => hk.elim) ?aF ?aO ?aB ?aS ?aL ?_; (case aP => exact k28_mkM _ _ _ (⟨(xaq l0_1 x13_1).f1.f0, (⟨(xaq l0_1 x13_1).f1.f1.f0, (xaq l0_1 x13_1).f1.f1.f1, (xaq l0_1 x13_1).f1.f1.f2⟩ : S26)⟩ : S28)); (case aB => exact (by repeat (first | (with_reducible first | exact HB.out | apply xab | apply xaa | apply xac | refine xad ?_ GE336.out | refine xad ?_ GE337.out | refine xad ?_ GE338.out | refine xad ?_ GE340.out) | exact HB.out))); (case aF => exact (fun _ _ => trivial)); (case aO => exact (by (with_reducible repeat (first | apply Kd.R_alloc | apply Kd.R_drewN | apply Kd.R_drew)); exact Kd.R_mono (Kd.R_far (p := ⟨gb340, 4, none⟩) (Kd.R_far (p := ⟨gb340, 3, none⟩) (Kd.R_far (p := ⟨gb340, 2, none⟩) (Kd.R_far (p := ⟨gb340, 1, none⟩) (Kd.R_far (p := ⟨gb340, 0, none⟩) (Kd.R_types HO_339001.out BK340.out (by decide)) (fun _ hk => hk.2) (.int .i8 ((xaq l0_1 x13_1).f0))) (fun _ hk => hk.2) (.string ((xaq l0_1 x13_1).f1.f0))) (fun _ hk => hk.2) (.int .i8 ((xaq l0_1 x13_1).f1.f1.f0))) (fun _ hk => hk.2) (.int .i64 ((xaq l0_1 x13_1).f1.f1.f1))) (fun _ hk => hk.2) (.string ((xaq l0_1 x13_1).f1.f1.f2))) (fun _ hk => trivial))); (case aS => exact (xao (by repeat (first | (with_reducible first | exact HB.out | apply xab | apply xaa | apply xac | refine xad ?_ GE336.out | refine xad ?_ GE337.out | refine xad ?_ GE338.out | refine xad ?_ GE340.out) | exact HB.out)))); (case aL => have := LMc15.out; omega); intro v342 w24 ho hb hg hat; rw [← Ny341.out] at ho; have n0_ := Aside0.mk (xbf (g := gb336) (o := .cells #[.string a0_0, .slice (some ad339) l0_1.length c0_1, .slice A0_2 l0_2.length c0_2] 67 (0, 0)) (by (with_reducible repeat (first | refine xag ?_ _ | refine xai ?_ | refine xaf ?_ _)); refine xax ?_ NB336_340.out _; (with_reducible repeat (first | refine xag ?_ _ | refine xai ?_ | refine xaf ?_ _)); refine xax ?_ NB336_340.out _; (with_reducible repeat (first | refine xag ?_ _ | refine xai ?_ | refine xaf ?_ _)); refine xax ?_ NB336_340.out _; (with_reducible repeat (first | refine xag ?_ _ | refine xai ?_ | refine xaf ?_ _)); refine xax ?_ NB336_340.out _; (with_reducible repeat (first | refine xag ?_ _ | refine xai ?_ | refine xaf ?_ _)); refine xax ?_ NB336_340.out _; (with_reducible repeat (first | refine xag ?_ _ | refine xai ?_ | refine xaf ?_ _)); exact BK336.out) hg (Kd.R_ne HO_339001.out BK336.out (by decide))); have n1_ := Aside0.mk (xbf (g := gb337) (o := .cells #[.string x338000_1, .slice none 0 0] 53 (0, 0)) (by (with_reducible repeat (first | refine xag ?_ _ | refine xai ?_ | refine xaf ?_ _)); refine xax ?_ NB337_340.out _; (with_reducible repeat (first | refine xag ?_ _ | refine xai ?_ | refine xaf ?_ _)); refine xax ?_ NB337_340.out _; (with_reducible repeat (first | refine xag ?_ _ | refine xai ?_ | refine xaf ?_ _)); refine xax ?_ NB337_340.out _; (with_reducible repeat (first | refine xag ?_ _ | refine xai ?_ | refine xaf ?_ _)); refine xax ?_ NB337_340.out _; (with_reducible repeat (first | refine xag ?_ _ | refine xai ?_ | refine xaf ?_ _)); refine xax ?_ NB337_340.out _; (with_reducible repeat (first | refine xag ?_ _ | refine xai ?_ | refine xaf ?_ _)); exact BK337.out) hg (Kd.R_ne HO_339001.out BK337.out (by decide))); have n2_ := Aside0.mk (xbf (g := gb338) (o := .cells #[.string a0_0, u339001] 53 (0, 0)) (by (with_reducible repeat (first | refine xag ?_ _ | refine xai ?_ | refine xaf ?_ _)); refine xax ?_ NB338_340.out _; (with_reducible repeat (first | refine xag ?_ _ | refine xai ?_ | refine xaf ?_ _)); refine xax ?_ NB338_340.out _; (with_reducible repeat (first | refine xag ?_ _ | refine xai ?_ | refine xaf ?_ _)); refine xax ?_ NB338_340.out _; (with_reducible repeat (first | refine xag ?_ _ | refine xai ?_ | refine xaf ?_ _)); refine xax ?_ NB338_340.out _; (with_reducible repeat (first | refine xag ?_ _ | refine xai ?_ | refine xaf ?_ _)); refine xax ?_ NB338_340.out _; (with_reducible repeat (first | refine xag ?_ _ | refine xai ?_ | refine xaf ?_ _)); exact BK338.out) hg (Kd.R_ne HO_339001.out BK338.out (by decide))); have n3_ := Aside0.mk (xbf (g := gb340) (o := .cells #[.int .i8 ((xaq l0_1 x13_1).f0), .string ((xaq l0_1 x13_1).f1.f0), .int .i8 ((xaq l0_1 x13_1).f1.f1.f0), .int .i64 ((xaq l0_1 x13_1).f1.f1.f1), .string ((xaq l0_1 x13_1).f1.f1.f2)] 125 (0, 0)) (by (with_reducible repeat (first | refine xag ?_ _ | refine xai ?_ | refine xaf ?_ _)); refine xas (cs := #[.int .i8 ((xaq l0_1 x13_1).f0), .string ((xaq l0_1 x13_1).f1.f0), .int .i8 ((xaq l0_1 x13_1).f1.f1.f0), .int .i64 ((xaq l0_1 x13_1).f1.f1.f1), .string (⟨#[]⟩ : ByteArray)]) ?_ 4 _ rfl; (with_reducible repeat (first | refine xag ?_ _ | refine xai ?_ | refine xaf ?_ _)); refine xas (cs := #[.int .i8 ((xaq l0_1 x13_1).f0), .string ((xaq l0_1 x13_1).f1.f0), .int .i8 ((xaq l0_1 x13_1).f1.f1.f0), .int .i64 0, .string (⟨#[]⟩ : ByteArray)]) ?_ 3 _ rfl; (with_reducible repeat (first | refine xag ?_ _ | refine xai ?_ | refine xaf ?_ _)); refine xas (cs := #[.int .i8 ((xaq l0_1 x13_1).f0), .string ((xaq l0_1 x13_1).f1.f0), .int .i8 0, .int .i64 0, .string (⟨#[]⟩ : ByteArray)]) ?_ 2 _ rfl; (with_reducible repeat (first | refine xag ?_ _ | refine xai ?_ | refine xaf ?_ _)); refine xas (cs := #[.int .i8 ((xaq l0_1 x13_1).f0), .string (⟨#[]⟩ : ByteArray), .int .i8 0, .int .i64 0, .string (⟨#[]⟩ : ByteArray)]) ?_ 1 _ rfl; (with_reducible repeat (first | refine xag ?_ _ | refine xai ?_ | refine xaf ?_ _)); refine xas (cs := #[.int .i8 0, .string (⟨#[]⟩ : ByteArray), .int .i8 0, .int .i64 0, .string (⟨#[]⟩ : ByteArray)]) ?_ 0 _ rfl; (with_reducible repeat (first | refine xag ?_ _ | refine xai ?_ | refine xaf ?_ _)); exact BK340.out) hg (Kd.R_ne HO_339001.out BK340.out (by decide))); have n4_ := Aside0.mk (hb); have n5_ := Aside0.mk (ho); clear BK336; clear BK337; clear BK338; clear BK340; clear HB; clear HO_339001; have BK336 := n0_; have BK337 := n1_; have BK338 := n2_; have BK340 := n3_; have HB := n4_; have HO343 := n5_; clear n0_ n1_ n2_ n3_ n4_ n5_; clear ho hb hg hat; obtain ⟨Ao25, co25, eo25⟩ := Kd.R_slice HO343.out; subst eo25; obtain ⟨hcz26_0, hcz26_1⟩ := cz2 BK338.out; obtain ⟨hfz26_0, hfz26_1⟩ := fz2 BK338.out))
        go_roundg k1
        case measure => have := HK1.out; omega
        case rel => exact ⟨(wrap64 (x13_1 + 1)), (x338000_1), (y341), (.slice Ao25 y341.length co25), (by first | rfl | (simp; done) | (simp [*]; done)), H', ⟨by have := HK1.out; omega⟩, ⟨by (with_reducible repeat (first | apply Kd.R_alloc | apply Kd.R_drewN | apply Kd.R_drew)); exact Kd.R_mono (Kd.R_far (p := ⟨gb338, 1, none⟩) (Kd.R_types HO343.out BK338.out (by decide)) (fun _ hk => hk.2) (.slice Ao25 y341.length co25)) (fun _ hk => trivial)⟩, ⟨by (with_reducible repeat (first | refine xag ?_ _ | refine xai ?_ | refine xaf ?_ _)); refine xax ?_ NB336_338.out _; (with_reducible repeat (first | refine xag ?_ _ | refine xai ?_ | refine xaf ?_ _)); exact BK336.out⟩, ⟨by (with_reducible repeat (first | refine xag ?_ _ | refine xai ?_ | refine xaf ?_ _)); refine xax ?_ NB337_338.out _; (with_reducible repeat (first | refine xag ?_ _ | refine xai ?_ | refine xaf ?_ _)); exact BK337.out⟩, ⟨by (with_reducible repeat (first | refine xag ?_ _ | refine xai ?_ | refine xaf ?_ _)); refine xas (cs := #[.string a0_0, u339001]) ?_ 1 _ rfl; (with_reducible repeat (first | refine xag ?_ _ | refine xai ?_ | refine xaf ?_ _)); exact BK338.out⟩, ⟨by repeat (first | (with_reducible first | exact HB.out | apply xab | apply xaa | apply xac | refine xad ?_ GE336.out | refine xad ?_ GE337.out | refine xad ?_ GE338.out | refine xad ?_ GE340.out) | exact HB.out)⟩⟩
       ·rw [if_neg c15] at H
        exact absurd H (by simp)
      ·rw [if_neg c14] at H
       have c14b0 : (((xaq l0_1 x13_1).f0) == 0) = false := beq_eq_false_iff_ne.mpr c14
       have c14b1 : (((xaq l0_1 x13_1).f0) != 0) = true := bne_iff_ne.mpr c14
       simp only [Option.some.injEq, Prod.mk.injEq] at H
       obtain ⟨rfl, rfl, rfl⟩ := H
       have p339 : 0 ≤ (x13_1 : Int) := of_decide_eq_true (by first | (with_reducible assumption) | assumption)
       have q339 : x13_1 < (l0_1.length : Int) := of_decide_eq_true (by first | (with_reducible assumption) | assumption)
       obtain ⟨ad339, e339, hx339_0, hx339_1, hx339_2, hx339_3, hx339_4⟩ := xbp HR0_1.out x13_1 p339 q339
       cases e339
       replace hx339_0 := (HB.out.cell (World.block_lt_of_cell? w _ hx339_0)).trans hx339_0
       replace hx339_1 := (HB.out.cell (World.block_lt_of_cell? w _ hx339_1)).trans hx339_1
       replace hx339_2 := (HB.out.cell (World.block_lt_of_cell? w _ hx339_2)).trans hx339_2
       replace hx339_3 := (HB.out.cell (World.block_lt_of_cell? w _ hx339_3)).trans hx339_3
       replace hx339_4 := (HB.out.cell (World.block_lt_of_cell? w _ hx339_4)).trans hx339_4
       replace p339 := eq_true p339
       replace q339 := eq_true q339
       go_wp2_with (first | ((with_reducible refine xar (N := 6) rfl ?_); refine xap ?hg (N := 6) ?hd (cs := #[.int .i8 0, .string (⟨#[]⟩ : ByteArray), .int .i8 0, .int .i64 0, .string (⟨#[]⟩ : ByteArray)]) (t := 125) ?hr ?_; (case hd => rfl); (case hg => rfl); (case hr => first | (go_simp; done) | (go_simp; rfl)); intro gb340 hg w27 hbox hb; have n0_ := Aside0.mk (Kd.R_below (by (with_reducible repeat (first | apply Kd.R_alloc | apply Kd.R_drewN | apply Kd.R_drew)); exact HO_339001.out) hb); have n1_ := Aside0.mk (xam (g := gb336) (o := .cells #[.string a0_0, .slice (some ad339) l0_1.length c0_1, .slice A0_2 l0_2.length c0_2] 67 (0, 0)) (by (with_reducible repeat (first | refine xag ?_ _ | refine xai ?_ | refine xaf ?_ _)); exact BK336.out) hb); have n2_ := Aside0.mk (xam (g := gb337) (o := .cells #[.string x338000_1, .slice none 0 0] 53 (0, 0)) (by (with_reducible repeat (first | refine xag ?_ _ | refine xai ?_ | refine xaf ?_ _)); exact BK337.out) hb); have n3_ := Aside0.mk (xam (g := gb338) (o := .cells #[.string a0_0, u339001] 53 (0, 0)) (by (with_reducible repeat (first | refine xag ?_ _ | refine xai ?_ | refine xaf ?_ _)); exact BK338.out) hb); have n4_ := Aside0.mk (xah (by repeat (first | (with_reducible first | exact HB.out | apply xab | apply xaa | apply xac | refine xad ?_ GE336.out | refine xad ?_ GE337.out | refine xad ?_ GE338.out) | exact HB.out)) hb); have n5_ := Aside0.mk (hbox); have n6_ := Aside0.mk ((by rw [hg]; exact (xao (by repeat (first | (with_reducible first | exact HB.out | apply xab | apply xaa | apply xac | refine xad ?_ GE336.out | refine xad ?_ GE337.out | refine xad ?_ GE338.out) | exact HB.out))) : w.heap.size ≤ gb340)); have n7_ := n6_; have n8_ := Aside0.mk ((by rw [hg]; exact Nat.ne_of_lt (blk_lt (g := gb336) (o := .cells #[.string a0_0, .slice (some ad339) l0_1.length c0_1, .slice A0_2 l0_2.length c0_2] 67 (0, 0)) (by (with_reducible repeat (first | refine xag ?_ _ | refine xai ?_ | refine xaf ?_ _)); exact BK336.out)) : gb336 ≠ gb340)); have n9_ := Aside0.mk ((by rw [hg]; exact Nat.ne_of_gt (blk_lt (g := gb336) (o := .cells #[.string a0_0, .slice (some ad339) l0_1.length c0_1, .slice A0_2 l0_2.length c0_2] 67 (0, 0)) (by (with_reducible repeat (first | refine xag ?_ _ | refine xai ?_ | refine xaf ?_ _)); exact BK336.out)) : gb340 ≠ gb336)); have n10_ := Aside0.mk ((by rw [hg]; exact Nat.ne_of_lt (blk_lt (g := gb337) (o := .cells #[.string x338000_1, .slice none 0 0] 53 (0, 0)) (by (with_reducible repeat (first | refine xag ?_ _ | refine xai ?_ | refine xaf ?_ _)); exact BK337.out)) : gb337 ≠ gb340)); have n11_ := Aside0.mk ((by rw [hg]; exact Nat.ne_of_gt (blk_lt (g := gb337) (o := .cells #[.string x338000_1, .slice none 0 0] 53 (0, 0)) (by (with_reducible repeat (first | refine xag ?_ _ | refine xai ?_ | refine xaf ?_ _)); exact BK337.out)) : gb340 ≠ gb337)); have n12_ := Aside0.mk ((by rw [hg]; exact Nat.ne_of_lt (blk_lt (g := gb338) (o := .cells #[.string a0_0, u339001] 53 (0, 0)) (by (with_reducible repeat (first | refine xag ?_ _ | refine xai ?_ | refine xaf ?_ _)); exact BK338.out)) : gb338 ≠ gb340)); have n13_ := Aside0.mk ((by rw [hg]; exact Nat.ne_of_gt (blk_lt (g := gb338) (o := .cells #[.string a0_0, u339001] 53 (0, 0)) (by (with_reducible repeat (first | refine xag ?_ _ | refine xai ?_ | refine xaf ?_ _)); exact BK338.out)) : gb340 ≠ gb338)); clear HO_339001; clear BK336; clear BK337; clear BK338; clear HB; have HO_339001 := n0_; have BK336 := n1_; have BK337 := n2_; have BK338 := n3_; have HB := n4_; have BK340 := n5_; have GW340 := n6_; have GE340 := n7_; have NB336_340 := n8_; have NB340_336 := n9_; have NB337_340 := n10_; have NB340_337 := n11_; have NB338_340 := n12_; have NB340_338 := n13_; clear n0_ n1_ n2_ n3_ n4_ n5_ n6_ n7_ n8_ n9_ n10_ n11_ n12_ n13_; clear hb hbox hg; have hnb28 := NB340_336.out; have hnc28 := NB336_340.out; have hnb29 := NB340_337.out; have hnc29 := NB337_340.out; have hnb30 := NB340_338.out; have hnc30 := NB338_340.out; obtain ⟨hcz31_0, hcz31_1, hcz31_2, hcz31_3, hcz31_4⟩ := cz5 BK340.out; obtain ⟨hfz31_0, hfz31_1, hfz31_2, hfz31_3, hfz31_4⟩ := fz5 BK340.out; have hnb32 := NB337_336.out; have hnc32 := NB336_337.out; have hnb33 := NB337_338.out; have hnc33 := NB338_337.out; obtain ⟨hcz34_0, hcz34_1⟩ := cz2 BK337.out; obtain ⟨hfz34_0, hfz34_1⟩ := fz2 BK337.out))
       refine bodyPost_ret (results_ct rfl _ _ gb337 53 #[.string (⟨#[]⟩ : ByteArray), .slice none 0 0] (0, 0) _ rfl (by (with_reducible repeat (first | refine xag ?_ _ | refine xai ?_ | refine xaf ?_ _)); refine xas (cs := #[.string (⟨#[]⟩ : ByteArray), .slice none 0 0]) ?_ 1 _ rfl; (with_reducible repeat (first | refine xag ?_ _ | refine xai ?_ | refine xaf ?_ _)); refine xas (cs := #[.string x338000_1, .slice none 0 0]) ?_ 0 _ rfl; (with_reducible repeat (first | refine xag ?_ _ | refine xai ?_ | refine xaf ?_ _)); refine xax ?_ NB337_340.out _; (with_reducible repeat (first | refine xag ?_ _ | refine xai ?_ | refine xaf ?_ _)); refine xax ?_ NB337_340.out _; (with_reducible repeat (first | refine xag ?_ _ | refine xai ?_ | refine xaf ?_ _)); refine xax ?_ NB337_340.out _; (with_reducible repeat (first | refine xag ?_ _ | refine xai ?_ | refine xaf ?_ _)); refine xax ?_ NB337_340.out _; (with_reducible repeat (first | refine xag ?_ _ | refine xai ?_ | refine xaf ?_ _)); refine xax ?_ NB337_340.out _; (with_reducible repeat (first | refine xag ?_ _ | refine xai ?_ | refine xaf ?_ _)); exact BK337.out) Tryd.underlying53 rfl (by kernel_rfl)) rfl ?_
       exact ⟨_, by first | rfl | (simp [xak, xaj] <;> rfl) | (simp [*, xak, xaj] <;> rfl), by first | exact Kd.R_nil _ _ _ _ _ | exact Kd.N_nil _ _ _ _ _ | exact Kd.V_nil _ _ _ _ _ | exact Kd.Q_nil _ _ _ _ _ | exact Kd.S_nil _ _ _ _ _, by repeat (first | (with_reducible first | exact HB.out | apply xab | apply xaa | apply xac | refine xad ?_ GE336.out | refine xad ?_ GE337.out | refine xad ?_ GE338.out | refine xad ?_ GE340.out) | exact HB.out)⟩
     ·rw [if_neg c13] at H
      exact absurd H (by simp)
    ·rw [if_neg c12] at H
     exact absurd H (by simp)
   ·rw [if_neg c11] at H
    have c11b0 : decide (x13_1 < (l0_1.length : Int)) = false := decide_eq_false c11
    clear c11
    simp only [Option.some.injEq, Prod.mk.injEq] at H
    obtain ⟨rfl, rfl, rfl⟩ := H
    have hnb35 := NB338_336.out
    have hnc35 := NB336_338.out
    have hnb36 := NB338_337.out
    have hnc36 := NB337_338.out
    obtain ⟨hcz37_0, hcz37_1⟩ := cz2 BK338.out
    obtain ⟨hfz37_0, hfz37_1⟩ := fz2 BK338.out
    have hnb38 := NB337_336.out
    have hnc38 := NB336_337.out
    obtain ⟨hcz39_0, hcz39_1⟩ := cz2 BK337.out
    obtain ⟨hfz39_0, hfz39_1⟩ := fz2 BK337.out
    obtain ⟨Ao40, co40, eo40⟩ := Kd.R_slice HO_339001.out
    subst eo40
    go_wp2
    refine bodyPost_ret (results_ct rfl _ _ gb337 53 #[.string a0_0, .slice Ao40 x339001_1.length co40] (0, 0) _ rfl (by (with_reducible repeat (first | refine xag ?_ _ | refine xai ?_ | refine xaf ?_ _)); refine xas (cs := #[.string a0_0, .slice none 0 0]) ?_ 1 _ rfl; (with_reducible repeat (first | refine xag ?_ _ | refine xai ?_ | refine xaf ?_ _)); refine xas (cs := #[.string x338000_1, .slice none 0 0]) ?_ 0 _ rfl; (with_reducible repeat (first | refine xag ?_ _ | refine xai ?_ | refine xaf ?_ _)); exact BK337.out) Tryd.underlying53 rfl (by kernel_rfl)) rfl ?_
    exact ⟨_, by first | rfl | (simp [xak, xaj] <;> rfl) | (simp [*, xak, xaj] <;> rfl), by (with_reducible repeat (first | apply Kd.R_alloc | apply Kd.R_drewN | apply Kd.R_drew)); exact Kd.R_mono (Kd.R_far (p := ⟨gb337, 1, none⟩) (Kd.R_far (p := ⟨gb337, 0, none⟩) (Kd.R_types HO_339001.out BK337.out (by decide)) (fun _ hk => hk.2) (.string a0_0)) (fun _ hk => hk.2) (.slice Ao40 x339001_1.length co40)) (fun _ hk => trivial), by repeat (first | (with_reducible first | exact HB.out | apply xab | apply xaa | apply xac | refine xad ?_ GE336.out | refine xad ?_ GE337.out | refine xad ?_ GE338.out) | exact HB.out)⟩
def w1_SameAtom.f (k : Nat) (a0_0 : ByteArray) (l0_1 : List (S28)) (a1_0 : ByteArray) (l1_1 : List (S28)) : Option (Bool) := if a0_0.toList = a1_0.toList then ((w1_SameTerms.f k l0_1 l1_1).bind fun t386 => (some t386)) else (some false)
set_option maxHeartbeats 8000000 in
set_option maxRecDepth 100000 in
theorem w1_SameAtom.calls (k : Nat) (a0_0 : ByteArray) (A0_1 : Option Addr) (c0_1 : Nat) (l0_1 : List (S28)) (a1_0 : ByteArray) (A1_1 : Option Addr) (c1_1 : Nat) (l1_1 : List (S28)) (r : Bool) (w : World) (hr0_1 : Kd.C k28 w A0_1 l0_1.length l0_1) (hc0_1 : l0_1.length ≤ c0_1) (hr1_1 : Kd.C k28 w A1_1 l1_1.length l1_1) (hc1_1 : l1_1.length ≤ c1_1) (h : w1_SameAtom.f k a0_0 l0_1 a1_0 l1_1 = some r) :
  Calls Tryd.prog 34 #[.agg #[.string a0_0, .slice A0_1 l0_1.length c0_1], .agg #[.string a1_0, .slice A1_1 l1_1.length c1_1]] w fun e w' => e = .returned (.bool r) ∧ Below w.heap.size w w' := by
 have hu53 := Tryd.underlying53
 have HR0_1 := Aside0.mk hr0_1
 have HC0_1 := Aside0.mk hc0_1
 clear hr0_1 hc0_1
 have HR1_1 := Aside0.mk hr1_1
 have HC1_1 := Aside0.mk hc1_1
 clear hr1_1 hc1_1
 have HB := Aside0.mk (Below.refl w.heap.size w)
 have H : (if a0_0.toList = a1_0.toList then ((w1_SameTerms.f k l0_1 l1_1).bind fun t386 => (some t386)) else (some false)) = some r := h
 clear h
 by_cases c3 : a0_0.toList = a1_0.toList
 ·rw [if_pos c3] at H
  have c3b0 : (a0_0.toList == a1_0.toList) = true := beq_iff_eq.mpr c3
  have c3b1 : (a0_0.toList != a1_0.toList) = false := bne_eq_false_iff_eq.mpr c3
  clear c3
  replace H := Option.bind_eq_some_iff.mp H
  obtain ⟨t386, A40, H⟩ := H
  replace H : (some t386) = some r := H
  have A4 := Aside0.mk A40
  clear A40
  obtain rfl := Option.some.inj H
  go_enter Tryd.func34, Tryd.ntmps34
  go_wp2_with (first | ((with_reducible refine xar (N := 2) rfl ?_); refine xap ?hg (N := 2) ?hd (cs := #[.string a0_0, .slice A0_1 l0_1.length c0_1]) (t := 53) ?hr ?_; (case hd => rfl); (case hg => rfl); (case hr => first | (go_simp; done) | (go_simp; rfl)); intro gb384 hg w5 hbox hb; have n0_ := Aside0.mk (xah (by repeat (first | (with_reducible first | exact HB.out | apply xab | apply xaa | apply xac) | exact HB.out)) hb); have n1_ := Aside0.mk (hbox); have n2_ := Aside0.mk ((by rw [hg]; exact (xao (by repeat (first | (with_reducible first | exact HB.out | apply xab | apply xaa | apply xac) | exact HB.out))) : w.heap.size ≤ gb384)); have n3_ := n2_; clear HB; have HB := n0_; have BK384 := n1_; have GW384 := n2_; have GE384 := n3_; clear n0_ n1_ n2_ n3_; clear hb hbox hg) | ((with_reducible refine xar (N := 3) rfl ?_); refine xap ?hg (N := 3) ?hd (cs := #[.string a1_0, .slice A1_1 l1_1.length c1_1]) (t := 53) ?hr ?_; (case hd => rfl); (case hg => rfl); (case hr => first | (go_simp; done) | (go_simp; rfl)); intro gb385 hg w6 hbox hb; have n0_ := Aside0.mk (xam (g := gb384) (o := .cells #[.string a0_0, .slice A0_1 l0_1.length c0_1] 53 (0, 0)) (by (with_reducible repeat (first | refine xag ?_ _ | refine xai ?_ | refine xaf ?_ _)); exact BK384.out) hb); have n1_ := Aside0.mk (xah (by repeat (first | (with_reducible first | exact HB.out | apply xab | apply xaa | apply xac | refine xad ?_ GE384.out) | exact HB.out)) hb); have n2_ := Aside0.mk (hbox); have n3_ := Aside0.mk ((by rw [hg]; exact (xao (by repeat (first | (with_reducible first | exact HB.out | apply xab | apply xaa | apply xac | refine xad ?_ GE384.out) | exact HB.out))) : w.heap.size ≤ gb385)); have n4_ := n3_; have n5_ := Aside0.mk ((by rw [hg]; exact Nat.ne_of_lt (blk_lt (g := gb384) (o := .cells #[.string a0_0, .slice A0_1 l0_1.length c0_1] 53 (0, 0)) (by (with_reducible repeat (first | refine xag ?_ _ | refine xai ?_ | refine xaf ?_ _)); exact BK384.out)) : gb384 ≠ gb385)); have n6_ := Aside0.mk ((by rw [hg]; exact Nat.ne_of_gt (blk_lt (g := gb384) (o := .cells #[.string a0_0, .slice A0_1 l0_1.length c0_1] 53 (0, 0)) (by (with_reducible repeat (first | refine xag ?_ _ | refine xai ?_ | refine xaf ?_ _)); exact BK384.out)) : gb385 ≠ gb384)); clear BK384; clear HB; have BK384 := n0_; have HB := n1_; have BK385 := n2_; have GW385 := n3_; have GE385 := n4_; have NB384_385 := n5_; have NB385_384 := n6_; clear n0_ n1_ n2_ n3_ n4_ n5_ n6_; clear hb hbox hg; have hnb7 := NB384_385.out; have hnc7 := NB385_384.out; obtain ⟨hcz8_0, hcz8_1⟩ := cz2 BK384.out; obtain ⟨hfz8_0, hfz8_1⟩ := fz2 BK384.out; obtain ⟨hcz9_0, hcz9_1⟩ := cz2 BK385.out; obtain ⟨hfz9_0, hfz9_1⟩ := fz2 BK385.out) | (go_at_call 78; (with_reducible refine (w1_SameTerms.calls k _ _ l0_1 _ _ l1_1 t386 _ ?side1 ?side2 ?side3 ?side4 A4.out).mono ?_); (case side1 => repeat (first | exact (Kd.C_below HR0_1.out HB.out) | (with_reducible refine Kd.C_alloc ?_ _) | (with_reducible refine Kd.C_drewN ?_ _) | (with_reducible refine Kd.C_drew ?_))); (case side2 => exact HC0_1.out); (case side3 => repeat (first | exact (Kd.C_below HR1_1.out HB.out) | (with_reducible refine Kd.C_alloc ?_ _) | (with_reducible refine Kd.C_drewN ?_ _) | (with_reducible refine Kd.C_drew ?_))); (case side4 => exact HC1_1.out); rintro e w' ⟨rfl, ⟨nd, rfl⟩⟩))
  go_ret
  exact ⟨by first | rfl | (simp [xak, xaj] <;> rfl) | (simp [*, xak, xaj] <;> rfl), by repeat (first | (with_reducible first | exact HB.out | apply xab | apply xaa | apply xac | refine xad ?_ GE384.out | refine xad ?_ GE385.out) | exact HB.out)⟩
 ·rw [if_neg c3] at H
  have c3b0 : (a0_0.toList == a1_0.toList) = false := beq_eq_false_iff_ne.mpr c3
  have c3b1 : (a0_0.toList != a1_0.toList) = true := bne_iff_ne.mpr c3
  obtain rfl := Option.some.inj H
  go_enter Tryd.func34, Tryd.ntmps34
  go_wp2_with (first | ((with_reducible refine xar (N := 2) rfl ?_); refine xap ?hg (N := 2) ?hd (cs := #[.string a0_0, .slice A0_1 l0_1.length c0_1]) (t := 53) ?hr ?_; (case hd => rfl); (case hg => rfl); (case hr => first | (go_simp; done) | (go_simp; rfl)); intro gb384 hg w10 hbox hb; have n0_ := Aside0.mk (xah (by repeat (first | (with_reducible first | exact HB.out | apply xab | apply xaa | apply xac) | exact HB.out)) hb); have n1_ := Aside0.mk (hbox); have n2_ := Aside0.mk ((by rw [hg]; exact (xao (by repeat (first | (with_reducible first | exact HB.out | apply xab | apply xaa | apply xac) | exact HB.out))) : w.heap.size ≤ gb384)); have n3_ := n2_; clear HB; have HB := n0_; have BK384 := n1_; have GW384 := n2_; have GE384 := n3_; clear n0_ n1_ n2_ n3_; clear hb hbox hg) | ((with_reducible refine xar (N := 3) rfl ?_); refine xap ?hg (N := 3) ?hd (cs := #[.string a1_0, .slice A1_1 l1_1.length c1_1]) (t := 53) ?hr ?_; (case hd => rfl); (case hg => rfl); (case hr => first | (go_simp; done) | (go_simp; rfl)); intro gb385 hg w11 hbox hb; have n0_ := Aside0.mk (xam (g := gb384) (o := .cells #[.string a0_0, .slice A0_1 l0_1.length c0_1] 53 (0, 0)) (by (with_reducible repeat (first | refine xag ?_ _ | refine xai ?_ | refine xaf ?_ _)); exact BK384.out) hb); have n1_ := Aside0.mk (xah (by repeat (first | (with_reducible first | exact HB.out | apply xab | apply xaa | apply xac | refine xad ?_ GE384.out) | exact HB.out)) hb); have n2_ := Aside0.mk (hbox); have n3_ := Aside0.mk ((by rw [hg]; exact (xao (by repeat (first | (with_reducible first | exact HB.out | apply xab | apply xaa | apply xac | refine xad ?_ GE384.out) | exact HB.out))) : w.heap.size ≤ gb385)); have n4_ := n3_; have n5_ := Aside0.mk ((by rw [hg]; exact Nat.ne_of_lt (blk_lt (g := gb384) (o := .cells #[.string a0_0, .slice A0_1 l0_1.length c0_1] 53 (0, 0)) (by (with_reducible repeat (first | refine xag ?_ _ | refine xai ?_ | refine xaf ?_ _)); exact BK384.out)) : gb384 ≠ gb385)); have n6_ := Aside0.mk ((by rw [hg]; exact Nat.ne_of_gt (blk_lt (g := gb384) (o := .cells #[.string a0_0, .slice A0_1 l0_1.length c0_1] 53 (0, 0)) (by (with_reducible repeat (first | refine xag ?_ _ | refine xai ?_ | refine xaf ?_ _)); exact BK384.out)) : gb385 ≠ gb384)); clear BK384; clear HB; have BK384 := n0_; have HB := n1_; have BK385 := n2_; have GW385 := n3_; have GE385 := n4_; have NB384_385 := n5_; have NB385_384 := n6_; clear n0_ n1_ n2_ n3_ n4_ n5_ n6_; clear hb hbox hg; have hnb12 := NB384_385.out; have hnc12 := NB385_384.out; obtain ⟨hcz13_0, hcz13_1⟩ := cz2 BK384.out; obtain ⟨hfz13_0, hfz13_1⟩ := fz2 BK384.out; obtain ⟨hcz14_0, hcz14_1⟩ := cz2 BK385.out; obtain ⟨hfz14_0, hfz14_1⟩ := fz2 BK385.out))
  go_ret
  exact ⟨by first | rfl | (simp [xak, xaj] <;> rfl) | (simp [*, xak, xaj] <;> rfl), by repeat (first | (with_reducible first | exact HB.out | apply xab | apply xaa | apply xac | refine xad ?_ GE384.out | refine xad ?_ GE385.out) | exact HB.out)⟩
def w1_isLiteral.f (a0_0 : Int) (a0_1 : ByteArray) (l0_2 : List (S28)) (a0_3 : Int) (a0_4 : Int) (a0_5 : ByteArray) (a0_6 : Int) (a0_7 : Int) (a0_8 : ByteArray) (l0_9 : List (S31)) (a0_10 : Int) (a0_11 : ByteArray) (a0_12 : Int) (a0_13 : Int) (a0_14 : ByteArray) (l0_15 : List (S31)) (a1 : Int) : Option (Bool) := if a0_0 = 99 then ((w1_word.f a1).bind fun t392 => (if a0_1.toList = t392.toList then (some ((l0_2.length : Int) == 0)) else (some false))) else (some false)
def w1_isLiteral.T1 : Bool × List (List Nat × List Nat) := (true, [([], []), ([0], [0]), ([1], [1]), ([2], [2]), ([3], [3]), ([4, 3], [3, 4]), ([5, 3], [3, 5]), ([3], [3]), ([7, 3, 3], [3, 7]), ([6, 8, 3], [3, 6, 8]), ([3, 9], [3, 9]), ([10, 8], [10]), ([11], [11]), ([12, 11], [11, 12]), ([13, 11], [11, 13]), ([14, 11], [11, 14]), ([15, 11], [11, 15]), ([11, 16], [11, 16]), ([17, 11, 0, 1, 2, 3, 4, 5, 6, 7, 8, 9, 10, 11, 12, 13, 14, 15, 16, 17], [17])])
def w1_isLiteral.B1 : List Nat := [0, 1, 3, 7, 15, 31, 63, 15, 143, 511, 1023, 2047, 4095, 8191, 16383, 32767, 65535, 131071, 262143]
theorem w1_isLiteral.tab1 : rtab .any (opsOf Tryd.f118 1) = w1_isLiteral.T1 := by kernel_rfl
theorem w1_isLiteral.bits1 : waitsOk w1_isLiteral.T1.2 w1_isLiteral.B1 = true := by kernel_rfl
set_option maxHeartbeats 8000000 in
set_option maxRecDepth 100000 in
theorem w1_isLiteral.calls (a0_0 : Int) (a0_1 : ByteArray) (A0_2 : Option Addr) (c0_2 : Nat) (l0_2 : List (S28)) (a0_3 : Int) (a0_4 : Int) (a0_5 : ByteArray) (a0_6 : Int) (a0_7 : Int) (a0_8 : ByteArray) (A0_9 : Option Addr) (c0_9 : Nat) (l0_9 : List (S31)) (a0_10 : Int) (a0_11 : ByteArray) (a0_12 : Int) (a0_13 : Int) (a0_14 : ByteArray) (A0_15 : Option Addr) (c0_15 : Nat) (l0_15 : List (S31)) (a1 : Int) (r : Bool) (w : World) (hr0_2 : Kd.C k28 w A0_2 l0_2.length l0_2) (hc0_2 : l0_2.length ≤ c0_2) (hr0_9 : Kd.C k31 w A0_9 l0_9.length l0_9) (hc0_9 : l0_9.length ≤ c0_9) (hr0_15 : Kd.C k31 w A0_15 l0_15.length l0_15) (hc0_15 : l0_15.length ≤ c0_15) (hTB : TabB w) (h : w1_isLiteral.f a0_0 a0_1 l0_2 a0_3 a0_4 a0_5 a0_6 a0_7 a0_8 l0_9 a0_10 a0_11 a0_12 a0_13 a0_14 l0_15 a1 = some r) :
  Calls Tryd.prog 118 #[.agg #[.int .i8 a0_0, .string a0_1, .slice A0_2 l0_2.length c0_2, .int .i8 a0_3, .int .i8 a0_4, .string a0_5, .int .i8 a0_6, .int .i64 a0_7, .string a0_8, .slice A0_9 l0_9.length c0_9, .int .i8 a0_10, .string a0_11, .int .i8 a0_12, .int .i64 a0_13, .string a0_14, .slice A0_15 l0_15.length c0_15], .int .i64 a1] w fun e w' => e = .returned (.bool r) ∧ Below w.heap.size w w' := by
 have hu56 := Tryd.underlying56
 have HR0_2 := Aside0.mk hr0_2
 have HC0_2 := Aside0.mk hc0_2
 clear hr0_2 hc0_2
 have HR0_9 := Aside0.mk hr0_9
 have HC0_9 := Aside0.mk hc0_9
 clear hr0_9 hc0_9
 have HR0_15 := Aside0.mk hr0_15
 have HC0_15 := Aside0.mk hc0_15
 clear hr0_15 hc0_15
 have HB := Aside0.mk (Below.refl w.heap.size w)
 have HTB := Aside0.mk hTB
 clear hTB
 have H : (if a0_0 = 99 then ((w1_word.f a1).bind fun t392 => (if a0_1.toList = t392.toList then (some ((l0_2.length : Int) == 0)) else (some false))) else (some false)) = some r := h
 clear h
 by_cases c3 : a0_0 = 99
 ·rw [if_pos c3] at H
  have c3b0 : (a0_0 == 99) = true := beq_iff_eq.mpr c3
  have c3b1 : (a0_0 != 99) = false := bne_eq_false_iff_eq.mpr c3
  clear c3
  replace H := Option.bind_eq_some_iff.mp H
  obtain ⟨t392, A40, H⟩ := H
  replace H : (if a0_1.toList = t392.toList then (some ((l0_2.length : Int) == 0)) else (some false)) = some r := H
  have A4 := Aside0.mk A40
  clear A40
  by_cases c5 : a0_1.toList = t392.toList
  ·rw [if_pos c5] at H
   have c5b0 : (a0_1.toList == t392.toList) = true := beq_iff_eq.mpr c5
   have c5b1 : (a0_1.toList != t392.toList) = false := bne_eq_false_iff_eq.mpr c5
   clear c5
   obtain rfl := Option.some.inj H
   go_enter Tryd.func118, Tryd.ntmps118
   try go_wp2_with (first | ((with_reducible refine xar (N := 2) rfl ?_); (try (refine xav (by rfl) ?_; dsimp only)); refine xap ?hg (N := 2) ?hd (cs := #[.int .i8 a0_0, .string a0_1, .slice A0_2 l0_2.length c0_2, .int .i8 a0_3, .int .i8 a0_4, .string a0_5, .int .i8 a0_6, .int .i64 a0_7, .string a0_8, .slice A0_9 l0_9.length c0_9, .int .i8 a0_10, .string a0_11, .int .i8 a0_12, .int .i64 a0_13, .string a0_14, .slice A0_15 l0_15.length c0_15]) (t := 56) ?hr ?_; (case hd => rfl); (case hg => rfl); (case hr => first | (go_simp; done) | (go_simp; rfl)); intro gb391 hg w6 hbox hb; have n0_ := Aside0.mk (xah (by repeat (first | (with_reducible first | exact HB.out | apply xab | apply xaa | apply xac) | exact HB.out)) hb); have n1_ := Aside0.mk (hbox); have n2_ := Aside0.mk ((by rw [hg]; exact (xao (by repeat (first | (with_reducible first | exact HB.out | apply xab | apply xaa | apply xac) | exact HB.out))) : w.heap.size ≤ gb391)); have n3_ := n2_; clear HB; have HB := n0_; have BK391 := n1_; have GW391 := n2_; have GE391 := n3_; clear n0_ n1_ n2_ n3_; clear hb hbox hg))
   have n0_ := Aside0.mk (xai BK391.out)
   have n1_ := Aside0.mk (xac HB.out)
   clear BK391
   clear HB
   have BK391 := n0_
   have HB := n1_
   clear n0_ n1_
   refine start_ (n := 19) (S := fun w' => w'.cell? ⟨gb391, 0, none⟩ = some (.int .i8 a0_0) ∧ w'.cell? ⟨gb391, 1, none⟩ = some (.string a0_1) ∧ w'.cell? ⟨gb391, 2, none⟩ = some (.slice A0_2 l0_2.length c0_2) ∧ w'.cell? ⟨gb391, 3, none⟩ = some (.int .i8 a0_3) ∧ w'.cell? ⟨gb391, 4, none⟩ = some (.int .i8 a0_4) ∧ w'.cell? ⟨gb391, 5, none⟩ = some (.string a0_5) ∧ w'.cell? ⟨gb391, 6, none⟩ = some (.int .i8 a0_6) ∧ w'.cell? ⟨gb391, 7, none⟩ = some (.int .i64 a0_7) ∧ w'.cell? ⟨gb391, 8, none⟩ = some (.string a0_8) ∧ w'.cell? ⟨gb391, 9, none⟩ = some (.slice A0_9 l0_9.length c0_9) ∧ w'.cell? ⟨gb391, 10, none⟩ = some (.int .i8 a0_10) ∧ w'.cell? ⟨gb391, 11, none⟩ = some (.string a0_11) ∧ w'.cell? ⟨gb391, 12, none⟩ = some (.int .i8 a0_12) ∧ w'.cell? ⟨gb391, 13, none⟩ = some (.int .i64 a0_13) ∧ w'.cell? ⟨gb391, 14, none⟩ = some (.string a0_14) ∧ w'.cell? ⟨gb391, 15, none⟩ = some (.slice A0_15 l0_15.length c0_15)) (ds := []) #[false, false, false, false, false, false, false, false, false, false, false, false, false, false, false, false, false, false, false] (by kernel_rfl) rfl rfl ⟨(xae BK391.out 0).trans rfl, (xae BK391.out 1).trans rfl, (xae BK391.out 2).trans rfl, (xae BK391.out 3).trans rfl, (xae BK391.out 4).trans rfl, (xae BK391.out 5).trans rfl, (xae BK391.out 6).trans rfl, (xae BK391.out 7).trans rfl, (xae BK391.out 8).trans rfl, (xae BK391.out 9).trans rfl, (xae BK391.out 10).trans rfl, (xae BK391.out 11).trans rfl, (xae BK391.out 12).trans rfl, (xae BK391.out 13).trans rfl, (xae BK391.out 14).trans rfl, (xae BK391.out 15).trans rfl⟩ (fun hHeld => ?_); refine xbo w1_isLiteral.tab1 w1_isLiteral.bits1 (fun HT_ HW_ => ?_)
   generalize w6.drew = w7 at BK391 HB hHeld ⊢
   refine pure_ (i := 0) (N := some 5) (v := ?_) (a' := ?_) #[true, false, false, false, false, false, false, false, false, false, false, false, false, false, false, false, false, false, false] rfl rfl (any_of HT_.out (by kernel_rfl)) (fun _ _ _ h => h) (Or.inl ⟨by rfl, ?_⟩) ?_ ?_
   rotate_left
   ·intro w'
    go_simp
    with_reducible rfl
   rotate_left
   ·simp only [Act.put, sI, sZ, sS, i64_w, i32_w]
    rfl
   refine take_ (i := 1) (N := some 6) (v := ?_) (a' := ?_) #[true, true, false, false, false, false, false, false, false, false, false, false, false, false, false, false, false, false, false] rfl rfl (xbb HT_.out HW_.out (by kernel_rfl)) (fun _ _ _ h => h) (Or.inl ⟨by rfl, ?_⟩) hHeld ?_ ?_
   rotate_left
   ·rintro w' ⟨s0, s1, s2, s3, s4, s5, s6, s7, s8, s9, s10, s11, s12, s13, s14, s15⟩
    go_simp
    with_reducible rfl
   rotate_left
   ·simp only [Act.put, sI, sZ, sS, i64_w, i32_w]
    rfl
   refine pure_ (i := 2) (N := some 7) (v := ?_) (a' := ?_) #[true, true, true, false, false, false, false, false, false, false, false, false, false, false, false, false, false, false, false] rfl rfl (any_of HT_.out (by kernel_rfl)) (fun _ _ _ h => h) (Or.inl ⟨by rfl, ?_⟩) ?_ ?_
   rotate_left
   ·intro w'
    go_simp
    with_reducible rfl
   rotate_left
   ·simp only [Act.put, sI, sZ, sS, i64_w, i32_w]
    rfl
   refine pure_ (i := 3) (N := some 8) (v := ?_) (a' := ?_) #[true, true, true, true, false, false, false, false, false, false, false, false, false, false, false, false, false, false, false] rfl rfl (any_of HT_.out (by kernel_rfl)) (fun _ _ _ h => h) (Or.inl ⟨by rfl, ?_⟩) ?_ ?_
   rotate_left
   ·intro w'
    go_simp
    with_reducible rfl
   rotate_left
   ·simp only [Act.put, sI, sZ, sS, i64_w, i32_w]
    rfl
   refine pure_ (i := 4) (N := some 9) (v := ?_) (a' := ?_) #[true, true, true, true, true, false, false, false, false, false, false, false, false, false, false, false, false, false, false] rfl rfl (any_of HT_.out (by kernel_rfl)) (fun _ _ _ h => h) (Or.inl ⟨by rfl, ?_⟩) ?_ ?_
   rotate_left
   ·intro w'
    go_simp
    with_reducible rfl
   rotate_left
   ·simp only [Act.put, sI, sZ, sS, i64_w, i32_w]
    rfl
   refine pure_ (i := 5) (N := some 10) (v := ?_) (a' := ?_) #[true, true, true, true, true, true, false, false, false, false, false, false, false, false, false, false, false, false, false] rfl rfl (any_of HT_.out (by kernel_rfl)) (fun _ _ _ h => h) (Or.inl ⟨by rfl, ?_⟩) ?_ ?_
   rotate_left
   ·intro w'
    go_simp
    with_reducible rfl
   rotate_left
   ·simp only [Act.put, sI, sZ, sS, i64_w, i32_w]
    rfl
   refine pure_ (i := 7) (N := some 12) (v := ?_) (a' := ?_) #[true, true, true, true, true, true, false, true, false, false, false, false, false, false, false, false, false, false, false] rfl rfl (any_of HT_.out (by kernel_rfl)) (fun _ _ _ h => h) (Or.inl ⟨by rfl, ?_⟩) ?_ ?_
   rotate_left
   ·intro w'
    go_simp
    with_reducible rfl
   rotate_left
   ·simp only [Act.put, sI, sZ, sS, i64_w, i32_w]
    rfl
   refine take_ (i := 6) (N := some 11) (v := ?_) (a' := ?_) #[true, true, true, true, true, true, true, true, false, false, false, false, false, false, false, false, false, false, false] rfl rfl (xbb HT_.out HW_.out (by kernel_rfl)) (fun _ _ _ h => h) (Or.inl ⟨by rfl, ?_⟩) hHeld ?_ ?_
   rotate_left
   ·rintro w' ⟨s0, s1, s2, s3, s4, s5, s6, s7, s8, s9, s10, s11, s12, s13, s14, s15⟩
    go_simp
    with_reducible rfl
   rotate_left
   ·simp only [Act.put, sI, sZ, sS, i64_w, i32_w]
    rfl
   refine one_ (i := 8) (N := some 13) #[true, true, true, true, true, true, true, true, true, false, false, false, false, false, false, false, false, false, false] rfl rfl (one_of HT_.out (by kernel_rfl)) (by decide) (fun K hK => ?_)
   refine goes_ Tryd.func124 (by kernel_rfl) rfl #[.int .i64 a1] (by rfl) rfl rfl (by (try simp only [List.map_toArray, List.map_cons, List.map_nil]); first | done | rfl | (simp only [List.length_drop, List.length_take]; rfl)) ?_
   with_reducible refine (w1_word.calls a1 t392 _ ?side1 A4.out).mono ?_
   (case side1 => exact TabB.below HTB.out (by repeat (first | (with_reducible first | exact HB.out | apply xab | apply xaa | apply xac | refine xad ?_ GE391.out) | exact HB.out)))
   rintro e w8 ⟨rfl, hb⟩
   refine ⟨_, rfl, ?_⟩
   have n0_ := Aside0.mk (xam (g := gb391) (o := .cells #[.int .i8 a0_0, .string a0_1, .slice A0_2 l0_2.length c0_2, .int .i8 a0_3, .int .i8 a0_4, .string a0_5, .int .i8 a0_6, .int .i64 a0_7, .string a0_8, .slice A0_9 l0_9.length c0_9, .int .i8 a0_10, .string a0_11, .int .i8 a0_12, .int .i64 a0_13, .string a0_14, .slice A0_15 l0_15.length c0_15] 56 (0, 0)) (by (with_reducible repeat (first | refine xag ?_ _ | refine xai ?_ | refine xaf ?_ _)); exact BK391.out) hb)
   have n1_ := Aside0.mk (xah (by repeat (first | (with_reducible first | exact HB.out | apply xab | apply xaa | apply xac | refine xad ?_ GE391.out) | exact HB.out)) hb)
   clear BK391
   clear HB
   have BK391 := n0_
   have HB := n1_
   clear n0_ n1_
   (try clear hb)
   (try clear hb2)
   (try clear hk)
   (try clear hi)
   refine hK.out _ _ ⟨(xae BK391.out 0).trans rfl, (xae BK391.out 1).trans rfl, (xae BK391.out 2).trans rfl, (xae BK391.out 3).trans rfl, (xae BK391.out 4).trans rfl, (xae BK391.out 5).trans rfl, (xae BK391.out 6).trans rfl, (xae BK391.out 7).trans rfl, (xae BK391.out 8).trans rfl, (xae BK391.out 9).trans rfl, (xae BK391.out 10).trans rfl, (xae BK391.out 11).trans rfl, (xae BK391.out 12).trans rfl, (xae BK391.out 13).trans rfl, (xae BK391.out 14).trans rfl, (xae BK391.out 15).trans rfl⟩ (fun hHeld => ?_)
   clear hK K
   refine norm_ (a' := ?_) ?_ ?_
   rotate_left
   ·show Act.put _ (some 13) _ = _
    simp only [Act.put, sI, sZ, sS, i64_w, i32_w]
    rfl
   refine pure_ (i := 9) (N := some 14) (v := ?_) (a' := ?_) #[true, true, true, true, true, true, true, true, true, true, false, false, false, false, false, false, false, false, false] rfl rfl (any_of HT_.out (by kernel_rfl)) (fun _ _ _ h => h) (Or.inl ⟨by rfl, ?_⟩) ?_ ?_
   rotate_left
   ·intro w'
    go_simp
    with_reducible rfl
   rotate_left
   ·simp only [Act.put, sI, sZ, sS, i64_w, i32_w]
    rfl
   refine pure_ (i := 10) (N := some 15) (v := ?_) (a' := ?_) #[true, true, true, true, true, true, true, true, true, true, true, false, false, false, false, false, false, false, false] rfl rfl (any_of HT_.out (by kernel_rfl)) (fun _ _ _ h => h) (Or.inl ⟨by rfl, ?_⟩) ?_ ?_
   rotate_left
   ·intro w'
    go_simp
    with_reducible rfl
   rotate_left
   ·simp only [Act.put, sI, sZ, sS, i64_w, i32_w]
    rfl
   refine pure_ (i := 11) (N := some 16) (v := ?_) (a' := ?_) #[true, true, true, true, true, true, true, true, true, true, true, true, false, false, false, false, false, false, false] rfl rfl (any_of HT_.out (by kernel_rfl)) (fun _ _ _ h => h) (Or.inl ⟨by rfl, ?_⟩) ?_ ?_
   rotate_left
   ·intro w'
    go_simp
    with_reducible rfl
   rotate_left
   ·simp only [Act.put, sI, sZ, sS, i64_w, i32_w]
    rfl
   refine pure_ (i := 12) (N := some 17) (v := ?_) (a' := ?_) #[true, true, true, true, true, true, true, true, true, true, true, true, true, false, false, false, false, false, false] rfl rfl (any_of HT_.out (by kernel_rfl)) (fun _ _ _ h => h) (Or.inl ⟨by rfl, ?_⟩) ?_ ?_
   rotate_left
   ·intro w'
    go_simp
    with_reducible rfl
   rotate_left
   ·simp only [Act.put, sI, sZ, sS, i64_w, i32_w]
    rfl
   refine pure_ (i := 13) (N := some 18) (v := ?_) (a' := ?_) #[true, true, true, true, true, true, true, true, true, true, true, true, true, true, false, false, false, false, false] rfl rfl (any_of HT_.out (by kernel_rfl)) (fun _ _ _ h => h) (Or.inl ⟨by rfl, ?_⟩) ?_ ?_
   rotate_left
   ·intro w'
    go_simp
    with_reducible rfl
   rotate_left
   ·simp only [Act.put, sI, sZ, sS, i64_w, i32_w]
    rfl
   refine take_ (i := 14) (N := some 19) (v := ?_) (a' := ?_) #[true, true, true, true, true, true, true, true, true, true, true, true, true, true, true, false, false, false, false] rfl rfl (xbb HT_.out HW_.out (by kernel_rfl)) (fun _ _ _ h => h) (Or.inl ⟨by rfl, ?_⟩) hHeld ?_ ?_
   rotate_left
   ·rintro w' ⟨s0, s1, s2, s3, s4, s5, s6, s7, s8, s9, s10, s11, s12, s13, s14, s15⟩
    go_simp
    with_reducible rfl
   rotate_left
   ·simp only [Act.put, sI, sZ, sS, i64_w, i32_w]
    rfl
   refine pure_ (i := 15) (N := some 20) (v := ?_) (a' := ?_) #[true, true, true, true, true, true, true, true, true, true, true, true, true, true, true, true, false, false, false] rfl rfl (any_of HT_.out (by kernel_rfl)) (fun _ _ _ h => h) (Or.inl ⟨by rfl, ?_⟩) ?_ ?_
   rotate_left
   ·intro w'
    go_simp
    with_reducible rfl
   rotate_left
   ·simp only [Act.put, sI, sZ, sS, i64_w, i32_w]
    rfl
   refine pure_ (i := 16) (N := some 21) (v := ?_) (a' := ?_) #[true, true, true, true, true, true, true, true, true, true, true, true, true, true, true, true, true, false, false] rfl rfl (any_of HT_.out (by kernel_rfl)) (fun _ _ _ h => h) (Or.inl ⟨by rfl, ?_⟩) ?_ ?_
   rotate_left
   ·intro w'
    go_simp
    with_reducible rfl
   rotate_left
   ·simp only [Act.put, sI, sZ, sS, i64_w, i32_w]
    rfl
   refine pure_ (i := 17) (N := some 22) (v := ?_) (a' := ?_) #[true, true, true, true, true, true, true, true, true, true, true, true, true, true, true, true, true, true, false] rfl rfl (any_of HT_.out (by kernel_rfl)) (fun _ _ _ h => h) (Or.inl ⟨by rfl, ?_⟩) ?_ ?_
   rotate_left
   ·intro w'
    go_simp
    with_reducible rfl
   rotate_left
   ·simp only [Act.put, sI, sZ, sS, i64_w, i32_w]
    rfl
   refine pure_ (i := 18) (N := some 4) (v := ?_) (a' := ?_) #[true, true, true, true, true, true, true, true, true, true, true, true, true, true, true, true, true, true, true] rfl rfl (any_of HT_.out (by kernel_rfl)) (fun _ _ _ h => h) (Or.inl ⟨by rfl, ?_⟩) ?_ ?_
   rotate_left
   ·intro w'
    go_simp
    with_reducible rfl
   rotate_left
   ·simp only [Act.put, sI, sZ, sS, i64_w, i32_w]
    rfl
   refine done_ (done_of HT_.out (by kernel_rfl)) ?_
   try go_wp2
   go_ret
   exact ⟨by first | rfl | (simp [xak, xaj] <;> rfl) | (simp [*, xak, xaj] <;> rfl), by repeat (first | (with_reducible first | exact HB.out | apply xab | apply xaa | apply xac | refine xad ?_ GE391.out) | exact HB.out)⟩
  ·rw [if_neg c5] at H
   have c5b0 : (a0_1.toList == t392.toList) = false := beq_eq_false_iff_ne.mpr c5
   have c5b1 : (a0_1.toList != t392.toList) = true := bne_iff_ne.mpr c5
   obtain rfl := Option.some.inj H
   go_enter Tryd.func118, Tryd.ntmps118
   try go_wp2_with (first | ((with_reducible refine xar (N := 2) rfl ?_); (try (refine xav (by rfl) ?_; dsimp only)); refine xap ?hg (N := 2) ?hd (cs := #[.int .i8 a0_0, .string a0_1, .slice A0_2 l0_2.length c0_2, .int .i8 a0_3, .int .i8 a0_4, .string a0_5, .int .i8 a0_6, .int .i64 a0_7, .string a0_8, .slice A0_9 l0_9.length c0_9, .int .i8 a0_10, .string a0_11, .int .i8 a0_12, .int .i64 a0_13, .string a0_14, .slice A0_15 l0_15.length c0_15]) (t := 56) ?hr ?_; (case hd => rfl); (case hg => rfl); (case hr => first | (go_simp; done) | (go_simp; rfl)); intro gb391 hg w9 hbox hb; have n0_ := Aside0.mk (xah (by repeat (first | (with_reducible first | exact HB.out | apply xab | apply xaa | apply xac) | exact HB.out)) hb); have n1_ := Aside0.mk (hbox); have n2_ := Aside0.mk ((by rw [hg]; exact (xao (by repeat (first | (with_reducible first | exact HB.out | apply xab | apply xaa | apply xac) | exact HB.out))) : w.heap.size ≤ gb391)); have n3_ := n2_; clear HB; have HB := n0_; have BK391 := n1_; have GW391 := n2_; have GE391 := n3_; clear n0_ n1_ n2_ n3_; clear hb hbox hg))
   have n0_ := Aside0.mk (xai BK391.out)
   have n1_ := Aside0.mk (xac HB.out)
   clear BK391
   clear HB
   have BK391 := n0_
   have HB := n1_
   clear n0_ n1_
   refine start_ (n := 19) (S := fun w' => w'.cell? ⟨gb391, 0, none⟩ = some (.int .i8 a0_0) ∧ w'.cell? ⟨gb391, 1, none⟩ = some (.string a0_1) ∧ w'.cell? ⟨gb391, 2, none⟩ = some (.slice A0_2 l0_2.length c0_2) ∧ w'.cell? ⟨gb391, 3, none⟩ = some (.int .i8 a0_3) ∧ w'.cell? ⟨gb391, 4, none⟩ = some (.int .i8 a0_4) ∧ w'.cell? ⟨gb391, 5, none⟩ = some (.string a0_5) ∧ w'.cell? ⟨gb391, 6, none⟩ = some (.int .i8 a0_6) ∧ w'.cell? ⟨gb391, 7, none⟩ = some (.int .i64 a0_7) ∧ w'.cell? ⟨gb391, 8, none⟩ = some (.string a0_8) ∧ w'.cell? ⟨gb391, 9, none⟩ = some (.slice A0_9 l0_9.length c0_9) ∧ w'.cell? ⟨gb391, 10, none⟩ = some (.int .i8 a0_10) ∧ w'.cell? ⟨gb391, 11, none⟩ = some (.string a0_11) ∧ w'.cell? ⟨gb391, 12, none⟩ = some (.int .i8 a0_12) ∧ w'.cell? ⟨gb391, 13, none⟩ = some (.int .i64 a0_13) ∧ w'.cell? ⟨gb391, 14, none⟩ = some (.string a0_14) ∧ w'.cell? ⟨gb391, 15, none⟩ = some (.slice A0_15 l0_15.length c0_15)) (ds := []) #[false, false, false, false, false, false, false, false, false, false, false, false, false, false, false, false, false, false, false] (by kernel_rfl) rfl rfl ⟨(xae BK391.out 0).trans rfl, (xae BK391.out 1).trans rfl, (xae BK391.out 2).trans rfl, (xae BK391.out 3).trans rfl, (xae BK391.out 4).trans rfl, (xae BK391.out 5).trans rfl, (xae BK391.out 6).trans rfl, (xae BK391.out 7).trans rfl, (xae BK391.out 8).trans rfl, (xae BK391.out 9).trans rfl, (xae BK391.out 10).trans rfl, (xae BK391.out 11).trans rfl, (xae BK391.out 12).trans rfl, (xae BK391.out 13).trans rfl, (xae BK391.out 14).trans rfl, (xae BK391.out 15).trans rfl⟩ (fun hHeld => ?_); refine xbo w1_isLiteral.tab1 w1_isLiteral.bits1 (fun HT_ HW_ => ?_)
   generalize w9.drew = w10 at BK391 HB hHeld ⊢
   refine pure_ (i := 0) (N := some 5) (v := ?_) (a' := ?_) #[true, false, false, false, false, false, false, false, false, false, false, false, false, false, false, false, false, false, false] rfl rfl (any_of HT_.out (by kernel_rfl)) (fun _ _ _ h => h) (Or.inl ⟨by rfl, ?_⟩) ?_ ?_
   rotate_left
   ·intro w'
    go_simp
    with_reducible rfl
   rotate_left
   ·simp only [Act.put, sI, sZ, sS, i64_w, i32_w]
    rfl
   refine take_ (i := 1) (N := some 6) (v := ?_) (a' := ?_) #[true, true, false, false, false, false, false, false, false, false, false, false, false, false, false, false, false, false, false] rfl rfl (xbb HT_.out HW_.out (by kernel_rfl)) (fun _ _ _ h => h) (Or.inl ⟨by rfl, ?_⟩) hHeld ?_ ?_
   rotate_left
   ·rintro w' ⟨s0, s1, s2, s3, s4, s5, s6, s7, s8, s9, s10, s11, s12, s13, s14, s15⟩
    go_simp
    with_reducible rfl
   rotate_left
   ·simp only [Act.put, sI, sZ, sS, i64_w, i32_w]
    rfl
   refine pure_ (i := 2) (N := some 7) (v := ?_) (a' := ?_) #[true, true, true, false, false, false, false, false, false, false, false, false, false, false, false, false, false, false, false] rfl rfl (any_of HT_.out (by kernel_rfl)) (fun _ _ _ h => h) (Or.inl ⟨by rfl, ?_⟩) ?_ ?_
   rotate_left
   ·intro w'
    go_simp
    with_reducible rfl
   rotate_left
   ·simp only [Act.put, sI, sZ, sS, i64_w, i32_w]
    rfl
   refine pure_ (i := 3) (N := some 8) (v := ?_) (a' := ?_) #[true, true, true, true, false, false, false, false, false, false, false, false, false, false, false, false, false, false, false] rfl rfl (any_of HT_.out (by kernel_rfl)) (fun _ _ _ h => h) (Or.inl ⟨by rfl, ?_⟩) ?_ ?_
   rotate_left
   ·intro w'
    go_simp
    with_reducible rfl
   rotate_left
   ·simp only [Act.put, sI, sZ, sS, i64_w, i32_w]
    rfl
   refine pure_ (i := 4) (N := some 9) (v := ?_) (a' := ?_) #[true, true, true, true, true, false, false, false, false, false, false, false, false, false, false, false, false, false, false] rfl rfl (any_of HT_.out (by kernel_rfl)) (fun _ _ _ h => h) (Or.inl ⟨by rfl, ?_⟩) ?_ ?_
   rotate_left
   ·intro w'
    go_simp
    with_reducible rfl
   rotate_left
   ·simp only [Act.put, sI, sZ, sS, i64_w, i32_w]
    rfl
   refine pure_ (i := 5) (N := some 10) (v := ?_) (a' := ?_) #[true, true, true, true, true, true, false, false, false, false, false, false, false, false, false, false, false, false, false] rfl rfl (any_of HT_.out (by kernel_rfl)) (fun _ _ _ h => h) (Or.inl ⟨by rfl, ?_⟩) ?_ ?_
   rotate_left
   ·intro w'
    go_simp
    with_reducible rfl
   rotate_left
   ·simp only [Act.put, sI, sZ, sS, i64_w, i32_w]
    rfl
   refine pure_ (i := 7) (N := some 12) (v := ?_) (a' := ?_) #[true, true, true, true, true, true, false, true, false, false, false, false, false, false, false, false, false, false, false] rfl rfl (any_of HT_.out (by kernel_rfl)) (fun _ _ _ h => h) (Or.inl ⟨by rfl, ?_⟩) ?_ ?_
   rotate_left
   ·intro w'
    go_simp
    with_reducible rfl
   rotate_left
   ·simp only [Act.put, sI, sZ, sS, i64_w, i32_w]
    rfl
   refine take_ (i := 6) (N := some 11) (v := ?_) (a' := ?_) #[true, true, true, true, true, true, true, true, false, false, false, false, false, false, false, false, false, false, false] rfl rfl (xbb HT_.out HW_.out (by kernel_rfl)) (fun _ _ _ h => h) (Or.inl ⟨by rfl, ?_⟩) hHeld ?_ ?_
   rotate_left
   ·rintro w' ⟨s0, s1, s2, s3, s4, s5, s6, s7, s8, s9, s10, s11, s12, s13, s14, s15⟩
    go_simp
    with_reducible rfl
   rotate_left
   ·simp only [Act.put, sI, sZ, sS, i64_w, i32_w]
    rfl
   refine one_ (i := 8) (N := some 13) #[true, true, true, true, true, true, true, true, true, false, false, false, false, false, false, false, false, false, false] rfl rfl (one_of HT_.out (by kernel_rfl)) (by decide) (fun K hK => ?_)
   refine goes_ Tryd.func124 (by kernel_rfl) rfl #[.int .i64 a1] (by rfl) rfl rfl (by (try simp only [List.map_toArray, List.map_cons, List.map_nil]); first | done | rfl | (simp only [List.length_drop, List.length_take]; rfl)) ?_
   with_reducible refine (w1_word.calls a1 t392 _ ?side1 A4.out).mono ?_
   (case side1 => exact TabB.below HTB.out (by repeat (first | (with_reducible first | exact HB.out | apply xab | apply xaa | apply xac | refine xad ?_ GE391.out) | exact HB.out)))
   rintro e w11 ⟨rfl, hb⟩
   refine ⟨_, rfl, ?_⟩
   have n0_ := Aside0.mk (xam (g := gb391) (o := .cells #[.int .i8 a0_0, .string a0_1, .slice A0_2 l0_2.length c0_2, .int .i8 a0_3, .int .i8 a0_4, .string a0_5, .int .i8 a0_6, .int .i64 a0_7, .string a0_8, .slice A0_9 l0_9.length c0_9, .int .i8 a0_10, .string a0_11, .int .i8 a0_12, .int .i64 a0_13, .string a0_14, .slice A0_15 l0_15.length c0_15] 56 (0, 0)) (by (with_reducible repeat (first | refine xag ?_ _ | refine xai ?_ | refine xaf ?_ _)); exact BK391.out) hb)
   have n1_ := Aside0.mk (xah (by repeat (first | (with_reducible first | exact HB.out | apply xab | apply xaa | apply xac | refine xad ?_ GE391.out) | exact HB.out)) hb)
   clear BK391
   clear HB
   have BK391 := n0_
   have HB := n1_
   clear n0_ n1_
   (try clear hb)
   (try clear hb2)
   (try clear hk)
   (try clear hi)
   refine hK.out _ _ ⟨(xae BK391.out 0).trans rfl, (xae BK391.out 1).trans rfl, (xae BK391.out 2).trans rfl, (xae BK391.out 3).trans rfl, (xae BK391.out 4).trans rfl, (xae BK391.out 5).trans rfl, (xae BK391.out 6).trans rfl, (xae BK391.out 7).trans rfl, (xae BK391.out 8).trans rfl, (xae BK391.out 9).trans rfl, (xae BK391.out 10).trans rfl, (xae BK391.out 11).trans rfl, (xae BK391.out 12).trans rfl, (xae BK391.out 13).trans rfl, (xae BK391.out 14).trans rfl, (xae BK391.out 15).trans rfl⟩ (fun hHeld => ?_)
   clear hK K
   refine norm_ (a' := ?_) ?_ ?_
   rotate_left
   ·show Act.put _ (some 13) _ = _
    simp only [Act.put, sI, sZ, sS, i64_w, i32_w]
    rfl
   refine pure_ (i := 9) (N := some 14) (v := ?_) (a' := ?_) #[true, true, true, true, true, true, true, true, true, true, false, false, false, false, false, false, false, false, false] rfl rfl (any_of HT_.out (by kernel_rfl)) (fun _ _ _ h => h) (Or.inl ⟨by rfl, ?_⟩) ?_ ?_
   rotate_left
   ·intro w'
    go_simp
    with_reducible rfl
   rotate_left
   ·simp only [Act.put, sI, sZ, sS, i64_w, i32_w]
    rfl
   refine pure_ (i := 10) (N := some 15) (v := ?_) (a' := ?_) #[true, true, true, true, true, true, true, true, true, true, true, false, false, false, false, false, false, false, false] rfl rfl (any_of HT_.out (by kernel_rfl)) (fun _ _ _ h => h) (Or.inl ⟨by rfl, ?_⟩) ?_ ?_
   rotate_left
   ·intro w'
    go_simp
    with_reducible rfl
   rotate_left
   ·simp only [Act.put, sI, sZ, sS, i64_w, i32_w]
    rfl
   refine pure_ (i := 11) (N := some 16) (v := ?_) (a' := ?_) #[true, true, true, true, true, true, true, true, true, true, true, true, false, false, false, false, false, false, false] rfl rfl (any_of HT_.out (by kernel_rfl)) (fun _ _ _ h => h) (Or.inl ⟨by rfl, ?_⟩) ?_ ?_
   rotate_left
   ·intro w'
    go_simp
    with_reducible rfl
   rotate_left
   ·simp only [Act.put, sI, sZ, sS, i64_w, i32_w]
    rfl
   refine pure_ (i := 12) (N := some 17) (v := undef) (a' := ?_) #[true, true, true, true, true, true, true, true, true, true, true, true, true, false, false, false, false, false, false] rfl rfl (any_of HT_.out (by kernel_rfl)) (fun _ _ _ h => h) (Or.inr ⟨by rfl, rfl⟩) ?_ ?_
   rotate_left
   ·simp only [Act.put, sI, sZ, sS, i64_w, i32_w]
    rfl
   refine pure_ (i := 13) (N := some 18) (v := undef) (a' := ?_) #[true, true, true, true, true, true, true, true, true, true, true, true, true, true, false, false, false, false, false] rfl rfl (any_of HT_.out (by kernel_rfl)) (fun _ _ _ h => h) (Or.inr ⟨by rfl, rfl⟩) ?_ ?_
   rotate_left
   ·simp only [Act.put, sI, sZ, sS, i64_w, i32_w]
    rfl
   refine pure_ (i := 14) (N := some 19) (v := undef) (a' := ?_) #[true, true, true, true, true, true, true, true, true, true, true, true, true, true, true, false, false, false, false] rfl rfl (any_of HT_.out (by kernel_rfl)) (fun _ _ _ h => h) (Or.inr ⟨by rfl, rfl⟩) ?_ ?_
   rotate_left
   ·simp only [Act.put, sI, sZ, sS, i64_w, i32_w]
    rfl
   refine pure_ (i := 15) (N := some 20) (v := undef) (a' := ?_) #[true, true, true, true, true, true, true, true, true, true, true, true, true, true, true, true, false, false, false] rfl rfl (any_of HT_.out (by kernel_rfl)) (fun _ _ _ h => h) (Or.inr ⟨by rfl, rfl⟩) ?_ ?_
   rotate_left
   ·simp only [Act.put, sI, sZ, sS, i64_w, i32_w]
    rfl
   refine pure_ (i := 16) (N := some 21) (v := undef) (a' := ?_) #[true, true, true, true, true, true, true, true, true, true, true, true, true, true, true, true, true, false, false] rfl rfl (any_of HT_.out (by kernel_rfl)) (fun _ _ _ h => h) (Or.inr ⟨by rfl, rfl⟩) ?_ ?_
   rotate_left
   ·simp only [Act.put, sI, sZ, sS, i64_w, i32_w]
    rfl
   refine pure_ (i := 17) (N := some 22) (v := ?_) (a' := ?_) #[true, true, true, true, true, true, true, true, true, true, true, true, true, true, true, true, true, true, false] rfl rfl (any_of HT_.out (by kernel_rfl)) (fun _ _ _ h => h) (Or.inl ⟨by rfl, ?_⟩) ?_ ?_
   rotate_left
   ·intro w'
    go_simp
    with_reducible rfl
   rotate_left
   ·simp only [Act.put, sI, sZ, sS, i64_w, i32_w]
    rfl
   refine pure_ (i := 18) (N := some 4) (v := ?_) (a' := ?_) #[true, true, true, true, true, true, true, true, true, true, true, true, true, true, true, true, true, true, true] rfl rfl (any_of HT_.out (by kernel_rfl)) (fun _ _ _ h => h) (Or.inl ⟨by rfl, ?_⟩) ?_ ?_
   rotate_left
   ·intro w'
    go_simp
    with_reducible rfl
   rotate_left
   ·simp only [Act.put, sI, sZ, sS, i64_w, i32_w]
    rfl
   refine done_ (done_of HT_.out (by kernel_rfl)) ?_
   try go_wp2
   go_ret
   exact ⟨by first | rfl | (simp [xak, xaj] <;> rfl) | (simp [*, xak, xaj] <;> rfl), by repeat (first | (with_reducible first | exact HB.out | apply xab | apply xaa | apply xac | refine xad ?_ GE391.out) | exact HB.out)⟩
 ·rw [if_neg c3] at H
  have c3b0 : (a0_0 == 99) = false := beq_eq_false_iff_ne.mpr c3
  have c3b1 : (a0_0 != 99) = true := bne_iff_ne.mpr c3
  obtain rfl := Option.some.inj H
  go_enter Tryd.func118, Tryd.ntmps118
  try go_wp2_with (first | ((with_reducible refine xar (N := 2) rfl ?_); (try (refine xav (by rfl) ?_; dsimp only)); refine xap ?hg (N := 2) ?hd (cs := #[.int .i8 a0_0, .string a0_1, .slice A0_2 l0_2.length c0_2, .int .i8 a0_3, .int .i8 a0_4, .string a0_5, .int .i8 a0_6, .int .i64 a0_7, .string a0_8, .slice A0_9 l0_9.length c0_9, .int .i8 a0_10, .string a0_11, .int .i8 a0_12, .int .i64 a0_13, .string a0_14, .slice A0_15 l0_15.length c0_15]) (t := 56) ?hr ?_; (case hd => rfl); (case hg => rfl); (case hr => first | (go_simp; done) | (go_simp; rfl)); intro gb391 hg w12 hbox hb; have n0_ := Aside0.mk (xah (by repeat (first | (with_reducible first | exact HB.out | apply xab | apply xaa | apply xac) | exact HB.out)) hb); have n1_ := Aside0.mk (hbox); have n2_ := Aside0.mk ((by rw [hg]; exact (xao (by repeat (first | (with_reducible first | exact HB.out | apply xab | apply xaa | apply xac) | exact HB.out))) : w.heap.size ≤ gb391)); have n3_ := n2_; clear HB; have HB := n0_; have BK391 := n1_; have GW391 := n2_; have GE391 := n3_; clear n0_ n1_ n2_ n3_; clear hb hbox hg))
  have n0_ := Aside0.mk (xai BK391.out)
  have n1_ := Aside0.mk (xac HB.out)
  clear BK391
  clear HB
  have BK391 := n0_
  have HB := n1_
  clear n0_ n1_
  refine start_ (n := 19) (S := fun w' => w'.cell? ⟨gb391, 0, none⟩ = some (.int .i8 a0_0) ∧ w'.cell? ⟨gb391, 1, none⟩ = some (.string a0_1) ∧ w'.cell? ⟨gb391, 2, none⟩ = some (.slice A0_2 l0_2.length c0_2) ∧ w'.cell? ⟨gb391, 3, none⟩ = some (.int .i8 a0_3) ∧ w'.cell? ⟨gb391, 4, none⟩ = some (.int .i8 a0_4) ∧ w'.cell? ⟨gb391, 5, none⟩ = some (.string a0_5) ∧ w'.cell? ⟨gb391, 6, none⟩ = some (.int .i8 a0_6) ∧ w'.cell? ⟨gb391, 7, none⟩ = some (.int .i64 a0_7) ∧ w'.cell? ⟨gb391, 8, none⟩ = some (.string a0_8) ∧ w'.cell? ⟨gb391, 9, none⟩ = some (.slice A0_9 l0_9.length c0_9) ∧ w'.cell? ⟨gb391, 10, none⟩ = some (.int .i8 a0_10) ∧ w'.cell? ⟨gb391, 11, none⟩ = some (.string a0_11) ∧ w'.cell? ⟨gb391, 12, none⟩ = some (.int .i8 a0_12) ∧ w'.cell? ⟨gb391, 13, none⟩ = some (.int .i64 a0_13) ∧ w'.cell? ⟨gb391, 14, none⟩ = some (.string a0_14) ∧ w'.cell? ⟨gb391, 15, none⟩ = some (.slice A0_15 l0_15.length c0_15)) (ds := []) #[false, false, false, false, false, false, false, false, false, false, false, false, false, false, false, false, false, false, false] (by kernel_rfl) rfl rfl ⟨(xae BK391.out 0).trans rfl, (xae BK391.out 1).trans rfl, (xae BK391.out 2).trans rfl, (xae BK391.out 3).trans rfl, (xae BK391.out 4).trans rfl, (xae BK391.out 5).trans rfl, (xae BK391.out 6).trans rfl, (xae BK391.out 7).trans rfl, (xae BK391.out 8).trans rfl, (xae BK391.out 9).trans rfl, (xae BK391.out 10).trans rfl, (xae BK391.out 11).trans rfl, (xae BK391.out 12).trans rfl, (xae BK391.out 13).trans rfl, (xae BK391.out 14).trans rfl, (xae BK391.out 15).trans rfl⟩ (fun hHeld => ?_); refine xbo w1_isLiteral.tab1 w1_isLiteral.bits1 (fun HT_ HW_ => ?_)
  generalize w12.drew = w13 at BK391 HB hHeld ⊢
  refine pure_ (i := 0) (N := some 5) (v := ?_) (a' := ?_) #[true, false, false, false, false, false, false, false, false, false, false, false, false, false, false, false, false, false, false] rfl rfl (any_of HT_.out (by kernel_rfl)) (fun _ _ _ h => h) (Or.inl ⟨by rfl, ?_⟩) ?_ ?_
  rotate_left
  ·intro w'
   go_simp
   with_reducible rfl
  rotate_left
  ·simp only [Act.put, sI, sZ, sS, i64_w, i32_w]
   rfl
  refine take_ (i := 1) (N := some 6) (v := ?_) (a' := ?_) #[true, true, false, false, false, false, false, false, false, false, false, false, false, false, false, false, false, false, false] rfl rfl (xbb HT_.out HW_.out (by kernel_rfl)) (fun _ _ _ h => h) (Or.inl ⟨by rfl, ?_⟩) hHeld ?_ ?_
  rotate_left
  ·rintro w' ⟨s0, s1, s2, s3, s4, s5, s6, s7, s8, s9, s10, s11, s12, s13, s14, s15⟩
   go_simp
   with_reducible rfl
  rotate_left
  ·simp only [Act.put, sI, sZ, sS, i64_w, i32_w]
   rfl
  refine pure_ (i := 2) (N := some 7) (v := ?_) (a' := ?_) #[true, true, true, false, false, false, false, false, false, false, false, false, false, false, false, false, false, false, false] rfl rfl (any_of HT_.out (by kernel_rfl)) (fun _ _ _ h => h) (Or.inl ⟨by rfl, ?_⟩) ?_ ?_
  rotate_left
  ·intro w'
   go_simp
   with_reducible rfl
  rotate_left
  ·simp only [Act.put, sI, sZ, sS, i64_w, i32_w]
   rfl
  refine pure_ (i := 3) (N := some 8) (v := ?_) (a' := ?_) #[true, true, true, true, false, false, false, false, false, false, false, false, false, false, false, false, false, false, false] rfl rfl (any_of HT_.out (by kernel_rfl)) (fun _ _ _ h => h) (Or.inl ⟨by rfl, ?_⟩) ?_ ?_
  rotate_left
  ·intro w'
   go_simp
   with_reducible rfl
  rotate_left
  ·simp only [Act.put, sI, sZ, sS, i64_w, i32_w]
   rfl
  refine pure_ (i := 4) (N := some 9) (v := undef) (a' := ?_) #[true, true, true, true, true, false, false, false, false, false, false, false, false, false, false, false, false, false, false] rfl rfl (any_of HT_.out (by kernel_rfl)) (fun _ _ _ h => h) (Or.inr ⟨by rfl, rfl⟩) ?_ ?_
  rotate_left
  ·simp only [Act.put, sI, sZ, sS, i64_w, i32_w]
   rfl
  refine pure_ (i := 5) (N := some 10) (v := undef) (a' := ?_) #[true, true, true, true, true, true, false, false, false, false, false, false, false, false, false, false, false, false, false] rfl rfl (any_of HT_.out (by kernel_rfl)) (fun _ _ _ h => h) (Or.inr ⟨by rfl, rfl⟩) ?_ ?_
  rotate_left
  ·simp only [Act.put, sI, sZ, sS, i64_w, i32_w]
   rfl
  refine pure_ (i := 6) (N := some 11) (v := undef) (a' := ?_) #[true, true, true, true, true, true, true, false, false, false, false, false, false, false, false, false, false, false, false] rfl rfl (any_of HT_.out (by kernel_rfl)) (fun _ _ _ h => h) (Or.inr ⟨by rfl, rfl⟩) ?_ ?_
  rotate_left
  ·simp only [Act.put, sI, sZ, sS, i64_w, i32_w]
   rfl
  refine pure_ (i := 7) (N := some 12) (v := undef) (a' := ?_) #[true, true, true, true, true, true, true, true, false, false, false, false, false, false, false, false, false, false, false] rfl rfl (any_of HT_.out (by kernel_rfl)) (fun _ _ _ h => h) (Or.inr ⟨by rfl, rfl⟩) ?_ ?_
  rotate_left
  ·simp only [Act.put, sI, sZ, sS, i64_w, i32_w]
   rfl
  refine pure_ (i := 8) (N := some 13) (v := undef) (a' := ?_) #[true, true, true, true, true, true, true, true, true, false, false, false, false, false, false, false, false, false, false] rfl rfl (any_of HT_.out (by kernel_rfl)) (fun _ _ _ h => h) (Or.inr ⟨by rfl, rfl⟩) ?_ ?_
  rotate_left
  ·simp only [Act.put, sI, sZ, sS, i64_w, i32_w]
   rfl
  refine pure_ (i := 9) (N := some 14) (v := undef) (a' := ?_) #[true, true, true, true, true, true, true, true, true, true, false, false, false, false, false, false, false, false, false] rfl rfl (any_of HT_.out (by kernel_rfl)) (fun _ _ _ h => h) (Or.inr ⟨by rfl, rfl⟩) ?_ ?_
  rotate_left
  ·simp only [Act.put, sI, sZ, sS, i64_w, i32_w]
   rfl
  refine pure_ (i := 10) (N := some 15) (v := ?_) (a' := ?_) #[true, true, true, true, true, true, true, true, true, true, true, false, false, false, false, false, false, false, false] rfl rfl (any_of HT_.out (by kernel_rfl)) (fun _ _ _ h => h) (Or.inl ⟨by rfl, ?_⟩) ?_ ?_
  rotate_left
  ·intro w'
   go_simp
   with_reducible rfl
  rotate_left
  ·simp only [Act.put, sI, sZ, sS, i64_w, i32_w]
   rfl
  refine pure_ (i := 11) (N := some 16) (v := ?_) (a' := ?_) #[true, true, true, true, true, true, true, true, true, true, true, true, false, false, false, false, false, false, false] rfl rfl (any_of HT_.out (by kernel_rfl)) (fun _ _ _ h => h) (Or.inl ⟨by rfl, ?_⟩) ?_ ?_
  rotate_left
  ·intro w'
   go_simp
   with_reducible rfl
  rotate_left
  ·simp only [Act.put, sI, sZ, sS, i64_w, i32_w]
   rfl
  refine pure_ (i := 12) (N := some 17) (v := undef) (a' := ?_) #[true, true, true, true, true, true, true, true, true, true, true, true, true, false, false, false, false, false, false] rfl rfl (any_of HT_.out (by kernel_rfl)) (fun _ _ _ h => h) (Or.inr ⟨by rfl, rfl⟩) ?_ ?_
  rotate_left
  ·simp only [Act.put, sI, sZ, sS, i64_w, i32_w]
   rfl
  refine pure_ (i := 13) (N := some 18) (v := undef) (a' := ?_) #[true, true, true, true, true, true, true, true, true, true, true, true, true, true, false, false, false, false, false] rfl rfl (any_of HT_.out (by kernel_rfl)) (fun _ _ _ h => h) (Or.inr ⟨by rfl, rfl⟩) ?_ ?_
  rotate_left
  ·simp only [Act.put, sI, sZ, sS, i64_w, i32_w]
   rfl
  refine pure_ (i := 14) (N := some 19) (v := undef) (a' := ?_) #[true, true, true, true, true, true, true, true, true, true, true, true, true, true, true, false, false, false, false] rfl rfl (any_of HT_.out (by kernel_rfl)) (fun _ _ _ h => h) (Or.inr ⟨by rfl, rfl⟩) ?_ ?_
  rotate_left
  ·simp only [Act.put, sI, sZ, sS, i64_w, i32_w]
   rfl
  refine pure_ (i := 15) (N := some 20) (v := undef) (a' := ?_) #[true, true, true, true, true, true, true, true, true, true, true, true, true, true, true, true, false, false, false] rfl rfl (any_of HT_.out (by kernel_rfl)) (fun _ _ _ h => h) (Or.inr ⟨by rfl, rfl⟩) ?_ ?_
  rotate_left
  ·simp only [Act.put, sI, sZ, sS, i64_w, i32_w]
   rfl
  refine pure_ (i := 16) (N := some 21) (v := undef) (a' := ?_) #[true, true, true, true, true, true, true, true, true, true, true, true, true, true, true, true, true, false, false] rfl rfl (any_of HT_.out (by kernel_rfl)) (fun _ _ _ h => h) (Or.inr ⟨by rfl, rfl⟩) ?_ ?_
  rotate_left
  ·simp only [Act.put, sI, sZ, sS, i64_w, i32_w]
   rfl
  refine pure_ (i := 17) (N := some 22) (v := ?_) (a' := ?_) #[true, true, true, true, true, true, true, true, true, true, true, true, true, true, true, true, true, true, false] rfl rfl (any_of HT_.out (by kernel_rfl)) (fun _ _ _ h => h) (Or.inl ⟨by rfl, ?_⟩) ?_ ?_
  rotate_left
  ·intro w'
   go_simp
   with_reducible rfl
  rotate_left
  ·simp only [Act.put, sI, sZ, sS, i64_w, i32_w]
   rfl
  refine pure_ (i := 18) (N := some 4) (v := ?_) (a' := ?_) #[true, true, true, true, true, true, true, true, true, true, true, true, true, true, true, true, true, true, true] rfl rfl (any_of HT_.out (by kernel_rfl)) (fun _ _ _ h => h) (Or.inl ⟨by rfl, ?_⟩) ?_ ?_
  rotate_left
  ·intro w'
   go_simp
   with_reducible rfl
  rotate_left
  ·simp only [Act.put, sI, sZ, sS, i64_w, i32_w]
   rfl
  refine done_ (done_of HT_.out (by kernel_rfl)) ?_
  try go_wp2
  go_ret
  exact ⟨by first | rfl | (simp [xak, xaj] <;> rfl) | (simp [*, xak, xaj] <;> rfl), by repeat (first | (with_reducible first | exact HB.out | apply xab | apply xaa | apply xac | refine xad ?_ GE391.out) | exact HB.out)⟩
theorem isLiteral_spare : w1_isLiteral.f 99 spare [] 0 0 ⟨#[]⟩ 0 0 ⟨#[]⟩ [] 0 ⟨#[]⟩ 0 0 ⟨#[]⟩ [] 777777 = some true := by rw [w1_isLiteral.f, xbn]; simp
abbrev LeLiteralsC (l : List S56) : Prop := ∀ (A' : Option Addr) (c' : Nat) (A : Option Addr) (c : Nat) (w : World), Kd.C (orC k56t) w A' (l.length + 1) (marked l mk56) → l.length + 1 ≤ c' → Kd.C k56 w A l.length l → l.length ≤ c → TabB w →
  Calls Tryd.prog 80 #[.slice A' l.length c', .slice A l.length c] w fun e w' => e = .returned (.bool true) ∧ Below w.heap.size w w'
set_option maxHeartbeats 8000000 in
set_option maxRecDepth 100000 in
theorem LeLiterals_step (l : List S56) (hl : l.length < 2000000) (hE : Hid (∀ k, k < l.length → LeLiteralC (l.getD k z56))) : LeLiteralsC l := by
 intro A' c' A c w hr' hc' hr hc hT
 have hm : l.length ≤ 9223372036854775807 := by omega
 have HR' := Lib.hid hr'
 have HR := Lib.hid hr
 have HT := Lib.hid hT
 clear hr hT hr'
 go_enter Tryd.func80, Tryd.ntmps80
 go_wp2_with fail
 go_loopw [5] (fun v wr => ∃ k : Nat, k ≤ l.length ∧ v = .int .i64 k ∧ Hid (Below w.heap.size w wr)) (fun v _ => l.length - (intOf v).toNat)
 case atStart => exact ⟨0, Nat.zero_le _, rfl, Lib.hid (Below.refl _ _)⟩
 case round =>
  obtain ⟨k, hk, rfl, HB⟩ := hrel
  by_cases hlt : k < l.length
  ·obtain ⟨ad, A0, c0, A1, c1, A2, c2, e0, g0, g1, g2, g3, g4, g5, g6, g7, g8, g9, g10, g11, g12, g13, g14, g15, hl0, hC0, hl1, hC1, hl2, hC2⟩ := at_T56 (Kd.C_below HR.out HB.out) (k : Int) (by omega) (by omega)
   subst e0
   simp only [Int.toNat_natCast] at g0 g1 g2 g3 g4 g5 g6 g7 g8 g9 g10 g11 g12 g13 g14 g15
   obtain ⟨ad', cs, e0', _, hK, hcell⟩ := marked_get (Kd.C_below HR'.out HB.out) z56 k hlt
   subst e0'
   have HY := Lib.hid (show rd_T56 l (k : Int) = l.getD k z56 from rfl)
   rw [← HY.out] at hK
   obtain ⟨B0, d0, B1, d1, B2, d2, rfl, hlb0, hCb0, hlb1, hCb1, hlb2, hCb2⟩ := k56t_open hK
   have HE := Lib.hid (hE.out k hlt)
   rw [← HY.out] at HE
   have HC0 := Lib.hid hC0
   have HL0 := Lib.hid hl0
   have HCb0 := Lib.hid hCb0
   have HLb0 := Lib.hid hlb0
   have HC1 := Lib.hid hC1
   have HL1 := Lib.hid hl1
   have HCb1 := Lib.hid hCb1
   have HLb1 := Lib.hid hlb1
   have HC2 := Lib.hid hC2
   have HL2 := Lib.hid hl2
   have HCb2 := Lib.hid hCb2
   have HLb2 := Lib.hid hlb2
   generalize rd_T56 l (k : Int) = y at *
   have t0 : wr.cell? (ad'.add (k * 16 + 0)) = some (.int .i8 y.f0) := hcell 0 _ rfl
   have t1 : wr.cell? (ad'.add (k * 16 + 1)) = some (.string y.f1.f0) := hcell 1 _ rfl
   have t2 : wr.cell? (ad'.add (k * 16 + 2)) = some (.slice B0 y.f1.f1.length d0) := hcell 2 _ rfl
   have t3 : wr.cell? (ad'.add (k * 16 + 3)) = some (.int .i8 y.f2) := hcell 3 _ rfl
   have t4 : wr.cell? (ad'.add (k * 16 + 4)) = some (.int .i8 y.f3.f0) := hcell 4 _ rfl
   have t5 : wr.cell? (ad'.add (k * 16 + 5)) = some (.string y.f3.f1.f0) := hcell 5 _ rfl
   have t6 : wr.cell? (ad'.add (k * 16 + 6)) = some (.int .i8 y.f3.f1.f1.f0) := hcell 6 _ rfl
   have t7 : wr.cell? (ad'.add (k * 16 + 7)) = some (.int .i64 y.f3.f1.f1.f1) := hcell 7 _ rfl
   have t8 : wr.cell? (ad'.add (k * 16 + 8)) = some (.string y.f3.f1.f1.f2) := hcell 8 _ rfl
   have t9 : wr.cell? (ad'.add (k * 16 + 9)) = some (.slice B1 y.f3.f2.length d1) := hcell 9 _ rfl
   have t10 : wr.cell? (ad'.add (k * 16 + 10)) = some (.int .i8 y.f4.f0) := hcell 10 _ rfl
   have t11 : wr.cell? (ad'.add (k * 16 + 11)) = some (.string y.f4.f1.f0) := hcell 11 _ rfl
   have t12 : wr.cell? (ad'.add (k * 16 + 12)) = some (.int .i8 y.f4.f1.f1.f0) := hcell 12 _ rfl
   have t13 : wr.cell? (ad'.add (k * 16 + 13)) = some (.int .i64 y.f4.f1.f1.f1) := hcell 13 _ rfl
   have t14 : wr.cell? (ad'.add (k * 16 + 14)) = some (.string y.f4.f1.f1.f2) := hcell 14 _ rfl
   have t15 : wr.cell? (ad'.add (k * 16 + 15)) = some (.slice B2 y.f4.f2.length d2) := hcell 15 _ rfl
   rw [Nat.add_zero] at t0
   rw [xat _ _ 1 (by omega)] at t1
   rw [xat _ _ 2 (by omega)] at t2
   rw [xat _ _ 3 (by omega)] at t3
   rw [xat _ _ 4 (by omega)] at t4
   rw [xat _ _ 5 (by omega)] at t5
   rw [xat _ _ 6 (by omega)] at t6
   rw [xat _ _ 7 (by omega)] at t7
   rw [xat _ _ 8 (by omega)] at t8
   rw [xat _ _ 9 (by omega)] at t9
   rw [xat _ _ 10 (by omega)] at t10
   rw [xat _ _ 11 (by omega)] at t11
   rw [xat _ _ 12 (by omega)] at t12
   rw [xat _ _ 13 (by omega)] at t13
   rw [xat _ _ 14 (by omega)] at t14
   rw [xat _ _ 15 (by omega)] at t15
   clear hcell hK hl0 hC0 hl1 hC1 hl2 hC2 hlb0 hCb0 hlb1 hCb1 hlb2 hCb2
   go_wp2_with fail
   refine start_ (n := 10) (S := fun w' => w'.cell? (ad'.add (k * 16)) = some (.int .i8 y.f0) ∧ w'.cell? (⟨(ad'.add (k * 16)).block, (ad'.add (k * 16)).off + 1, none⟩) = some (.string y.f1.f0) ∧ w'.cell? (⟨(ad'.add (k * 16)).block, (ad'.add (k * 16)).off + 2, none⟩) = some (.slice B0 y.f1.f1.length d0) ∧ w'.cell? (⟨(ad'.add (k * 16)).block, (ad'.add (k * 16)).off + 3, none⟩) = some (.int .i8 y.f2) ∧ w'.cell? (⟨(ad'.add (k * 16)).block, (ad'.add (k * 16)).off + 4, none⟩) = some (.int .i8 y.f3.f0) ∧ w'.cell? (⟨(ad'.add (k * 16)).block, (ad'.add (k * 16)).off + 5, none⟩) = some (.string y.f3.f1.f0) ∧ w'.cell? (⟨(ad'.add (k * 16)).block, (ad'.add (k * 16)).off + 6, none⟩) = some (.int .i8 y.f3.f1.f1.f0) ∧ w'.cell? (⟨(ad'.add (k * 16)).block, (ad'.add (k * 16)).off + 7, none⟩) = some (.int .i64 y.f3.f1.f1.f1) ∧ w'.cell? (⟨(ad'.add (k * 16)).block, (ad'.add (k * 16)).off + 8, none⟩) = some (.string y.f3.f1.f1.f2) ∧ w'.cell? (⟨(ad'.add (k * 16)).block, (ad'.add (k * 16)).off + 9, none⟩) = some (.slice B1 y.f3.f2.length d1) ∧ w'.cell? (⟨(ad'.add (k * 16)).block, (ad'.add (k * 16)).off + 10, none⟩) = some (.int .i8 y.f4.f0) ∧ w'.cell? (⟨(ad'.add (k * 16)).block, (ad'.add (k * 16)).off + 11, none⟩) = some (.string y.f4.f1.f0) ∧ w'.cell? (⟨(ad'.add (k * 16)).block, (ad'.add (k * 16)).off + 12, none⟩) = some (.int .i8 y.f4.f1.f1.f0) ∧ w'.cell? (⟨(ad'.add (k * 16)).block, (ad'.add (k * 16)).off + 13, none⟩) = some (.int .i64 y.f4.f1.f1.f1) ∧ w'.cell? (⟨(ad'.add (k * 16)).block, (ad'.add (k * 16)).off + 14, none⟩) = some (.string y.f4.f1.f1.f2) ∧ w'.cell? (⟨(ad'.add (k * 16)).block, (ad'.add (k * 16)).off + 15, none⟩) = some (.slice B2 y.f4.f2.length d2) ∧ w'.cell? (ad.add (k * 16)) = some (.int .i8 y.f0) ∧ w'.cell? (⟨(ad.add (k * 16)).block, (ad.add (k * 16)).off + 1, none⟩) = some (.string y.f1.f0) ∧ w'.cell? (⟨(ad.add (k * 16)).block, (ad.add (k * 16)).off + 2, none⟩) = some (.slice A0 y.f1.f1.length c0) ∧ w'.cell? (⟨(ad.add (k * 16)).block, (ad.add (k * 16)).off + 3, none⟩) = some (.int .i8 y.f2) ∧ w'.cell? (⟨(ad.add (k * 16)).block, (ad.add (k * 16)).off + 4, none⟩) = some (.int .i8 y.f3.f0) ∧ w'.cell? (⟨(ad.add (k * 16)).block, (ad.add (k * 16)).off + 5, none⟩) = some (.string y.f3.f1.f0) ∧ w'.cell? (⟨(ad.add (k * 16)).block, (ad.add (k * 16)).off + 6, none⟩) = some (.int .i8 y.f3.f1.f1.f0) ∧ w'.cell? (⟨(ad.add (k * 16)).block, (ad.add (k * 16)).off + 7, none⟩) = some (.int .i64 y.f3.f1.f1.f1) ∧ w'.cell? (⟨(ad.add (k * 16)).block, (ad.add (k * 16)).off + 8, none⟩) = some (.string y.f3.f1.f1.f2) ∧ w'.cell? (⟨(ad.add (k * 16)).block, (ad.add (k * 16)).off + 9, none⟩) = some (.slice A1 y.f3.f2.length c1) ∧ w'.cell? (⟨(ad.add (k * 16)).block, (ad.add (k * 16)).off + 10, none⟩) = some (.int .i8 y.f4.f0) ∧ w'.cell? (⟨(ad.add (k * 16)).block, (ad.add (k * 16)).off + 11, none⟩) = some (.string y.f4.f1.f0) ∧ w'.cell? (⟨(ad.add (k * 16)).block, (ad.add (k * 16)).off + 12, none⟩) = some (.int .i8 y.f4.f1.f1.f0) ∧ w'.cell? (⟨(ad.add (k * 16)).block, (ad.add (k * 16)).off + 13, none⟩) = some (.int .i64 y.f4.f1.f1.f1) ∧ w'.cell? (⟨(ad.add (k * 16)).block, (ad.add (k * 16)).off + 14, none⟩) = some (.string y.f4.f1.f1.f2) ∧ w'.cell? (⟨(ad.add (k * 16)).block, (ad.add (k * 16)).off + 15, none⟩) = some (.slice A2 y.f4.f2.length c2) ∧ Hid (Below wr.heap.size wr w')) (ds := []) #[false, false, false, false, false, false, false, false, false, false] (by kernel_rfl) rfl rfl ⟨t0, t1, t2, t3, t4, t5, t6, t7, t8, t9, t10, t11, t12, t13, t14, t15, g0, g1, g2, g3, g4, g5, g6, g7, g8, g9, g10, g11, g12, g13, g14, g15, (Lib.hid (xbl (Below.refl _ _)))⟩ (fun hHeld => ?_)
   refine pure_ (i := 0) (N := some 17) (v := ?_) (a' := ?_) #[true, false, false, false, false, false, false, false, false, false] rfl rfl (by kernel_rfl) (fun _ _ _ h => h) (Or.inl ⟨by rfl, ?_⟩) ?_ ?_
   rotate_left
   ·intro w'
    go_simp
    with_reducible rfl
   rotate_left
   ·simp only [Act.put, sI, sZ, sS, i64_w, i32_w]
    rfl
   refine pure_ (i := 1) (N := some 18) (v := ?_) (a' := ?_) #[true, true, false, false, false, false, false, false, false, false] rfl rfl (by kernel_rfl) (fun _ _ _ h => h) (Or.inl ⟨by rfl, ?_⟩) ?_ ?_
   rotate_left
   ·intro w'
    go_simp
    with_reducible rfl
   rotate_left
   ·simp only [Act.put, sI, sZ, sS, i64_w, i32_w]
    rfl
   refine pure_ (i := 2) (N := some 19) (v := ?_) (a' := ?_) #[true, true, true, false, false, false, false, false, false, false] rfl rfl (by kernel_rfl) (fun _ _ _ h => h) (Or.inl ⟨by rfl, ?_⟩) ?_ ?_
   rotate_left
   ·intro w'
    go_simp
    with_reducible rfl
   rotate_left
   ·simp only [Act.put, sI, sZ, sS, i64_w, i32_w]
    rfl
   refine pure_ (i := 4) (N := some 21) (v := ?_) (a' := ?_) #[true, true, true, false, true, false, false, false, false, false] rfl rfl (by kernel_rfl) (fun _ _ _ h => h) (Or.inl ⟨by rfl, ?_⟩) ?_ ?_
   rotate_left
   ·intro w'
    go_simp
    with_reducible rfl
   rotate_left
   ·simp only [Act.put, sI, sZ, sS, i64_w, i32_w]
    rfl
   refine pure_ (i := 5) (N := some 22) (v := ?_) (a' := ?_) #[true, true, true, false, true, true, false, false, false, false] rfl rfl (by kernel_rfl) (fun _ _ _ h => h) (Or.inl ⟨by rfl, ?_⟩) ?_ ?_
   rotate_left
   ·intro w'
    go_simp
    with_reducible rfl
   rotate_left
   ·simp only [Act.put, sI, sZ, sS, i64_w, i32_w]
    rfl
   refine pure_ (i := 6) (N := some 23) (v := ?_) (a' := ?_) #[true, true, true, false, true, true, true, false, false, false] rfl rfl (by kernel_rfl) (fun _ _ _ h => h) (Or.inl ⟨by rfl, ?_⟩) ?_ ?_
   rotate_left
   ·intro w'
    go_simp
    with_reducible rfl
   rotate_left
   ·simp only [Act.put, sI, sZ, sS, i64_w, i32_w]
    rfl
   refine take_ (i := 3) (N := some 20) (v := ?_) (a' := ?_) #[true, true, true, true, true, true, true, false, false, false] rfl rfl (by kernel_rfl) (fun _ _ _ h => h) (Or.inl ⟨by rfl, ?_⟩) hHeld ?_ ?_
   rotate_left
   ·rintro w' ⟨s0, s1, s2, s3, s4, s5, s6, s7, s8, s9, s10, s11, s12, s13, s14, s15, s16, s17, s18, s19, s20, s21, s22, s23, s24, s25, s26, s27, s28, s29, s30, s31, s32⟩
    go_simp
    with_reducible rfl
   rotate_left
   ·simp only [Act.put, sI, sZ, sS, i64_w, i32_w]
    rfl
   refine take_ (i := 7) (N := some 24) (v := ?_) (a' := ?_) #[true, true, true, true, true, true, true, true, false, false] rfl rfl (by kernel_rfl) (fun _ _ _ h => h) (Or.inl ⟨by rfl, ?_⟩) hHeld ?_ ?_
   rotate_left
   ·rintro w' ⟨s0, s1, s2, s3, s4, s5, s6, s7, s8, s9, s10, s11, s12, s13, s14, s15, s16, s17, s18, s19, s20, s21, s22, s23, s24, s25, s26, s27, s28, s29, s30, s31, s32⟩
    go_simp
    with_reducible rfl
   rotate_left
   ·simp only [Act.put, sI, sZ, sS, i64_w, i32_w]
    rfl
   refine one_ (i := 8) (N := some 25) #[true, true, true, true, true, true, true, true, true, false] rfl rfl (by kernel_rfl) (by decide) (fun K hK => ?_)
   obtain ⟨s0, s1, s2, s3, s4, s5, s6, s7, s8, s9, s10, s11, s12, s13, s14, s15, s16, s17, s18, s19, s20, s21, s22, s23, s24, s25, s26, s27, s28, s29, s30, s31, s32⟩ := hHeld
   refine goes_ Tryd.func25 (by kernel_rfl) rfl #[.agg #[.int .i8 y.f0, .string y.f1.f0, .slice B0 y.f1.f1.length d0, .int .i8 y.f2, .int .i8 y.f3.f0, .string y.f3.f1.f0, .int .i8 y.f3.f1.f1.f0, .int .i64 y.f3.f1.f1.f1, .string y.f3.f1.f1.f2, .slice B1 y.f3.f2.length d1, .int .i8 y.f4.f0, .string y.f4.f1.f0, .int .i8 y.f4.f1.f1.f0, .int .i64 y.f4.f1.f1.f1, .string y.f4.f1.f1.f2, .slice B2 y.f4.f2.length d2], .agg #[.int .i8 y.f0, .string y.f1.f0, .slice A0 y.f1.f1.length c0, .int .i8 y.f2, .int .i8 y.f3.f0, .string y.f3.f1.f0, .int .i8 y.f3.f1.f1.f0, .int .i64 y.f3.f1.f1.f1, .string y.f3.f1.f1.f2, .slice A1 y.f3.f2.length c1, .int .i8 y.f4.f0, .string y.f4.f1.f0, .int .i8 y.f4.f1.f1.f0, .int .i64 y.f4.f1.f1.f1, .string y.f4.f1.f1.f2, .slice A2 y.f4.f2.length c2]] (by rfl) rfl rfl (by simp only [List.map_toArray, List.map_cons, List.map_nil]; rfl) ?_
   with_reducible refine (HE.out B0 d0 B1 d1 B2 d2 A0 c0 A1 c1 A2 c2 _ (Kd.C_below HCb0.out s32.out) HLb0.out (Kd.C_below HCb1.out s32.out) HLb1.out (Kd.C_below HCb2.out s32.out) HLb2.out (Kd.C_below HC0.out s32.out) HL0.out (Kd.C_below HC1.out s32.out) HL1.out (Kd.C_below HC2.out s32.out) HL2.out (HT.out.below (xah HB.out s32.out))).mono ?_
   rintro e w3 ⟨rfl, hb3⟩
   refine ⟨_, rfl, ?_⟩
   refine hK.out _ _ ⟨(xan hb3 s0), (xan hb3 s1), (xan hb3 s2), (xan hb3 s3), (xan hb3 s4), (xan hb3 s5), (xan hb3 s6), (xan hb3 s7), (xan hb3 s8), (xan hb3 s9), (xan hb3 s10), (xan hb3 s11), (xan hb3 s12), (xan hb3 s13), (xan hb3 s14), (xan hb3 s15), (xan hb3 s16), (xan hb3 s17), (xan hb3 s18), (xan hb3 s19), (xan hb3 s20), (xan hb3 s21), (xan hb3 s22), (xan hb3 s23), (xan hb3 s24), (xan hb3 s25), (xan hb3 s26), (xan hb3 s27), (xan hb3 s28), (xan hb3 s29), (xan hb3 s30), (xan hb3 s31), (Lib.hid (xah s32.out hb3))⟩ (fun hHeld => ?_)
   clear hK K
   refine norm_ (a' := ?_) ?_ ?_
   rotate_left
   ·show Act.put _ (some 25) _ = _
    simp only [Act.put, sI, sZ, sS, i64_w, i32_w]
    rfl
   refine pure_ (i := 9) (N := some 26) (v := ?_) (a' := ?_) #[true, true, true, true, true, true, true, true, true, true] rfl rfl (by kernel_rfl) (fun _ _ _ h => h) (Or.inl ⟨by rfl, ?_⟩) ?_ ?_
   rotate_left
   ·intro w'
    go_simp
    with_reducible rfl
   rotate_left
   ·simp only [Act.put, sI, sZ, sS, i64_w, i32_w]
    rfl
   refine done_ (by kernel_rfl) ?_
   obtain ⟨_, _, _, _, _, _, _, _, _, _, _, _, _, _, _, _, _, _, _, _, _, _, _, _, _, _, _, _, _, _, _, _, HB1⟩ := hHeld
   have HB2 := Lib.hid (xah HB.out HB1.out)
   clear HB1
   go_wp2_with fail
   go_roundw
   case rel => exact ⟨k + 1, by omega, by go_num, HB2⟩
   case measure => simp [intOf]; omega
  ·have hk' : k = l.length := by omega
   subst hk'
   obtain ⟨ad, rfl, hz⟩ := marked_mark (Kd.C_below HR'.out HB.out)
   have z0 : wr.cell? (ad.add (l.length * 16 + 0)) = some (.int .i8 99) := hz 0 _ rfl
   have z1 : wr.cell? (ad.add (l.length * 16 + 1)) = some (.string spare) := hz 1 _ rfl
   have z2 : wr.cell? (ad.add (l.length * 16 + 2)) = some (.slice none 0 0) := hz 2 _ rfl
   have z3 : wr.cell? (ad.add (l.length * 16 + 3)) = some (.int .i8 0) := hz 3 _ rfl
   have z4 : wr.cell? (ad.add (l.length * 16 + 4)) = some (.int .i8 0) := hz 4 _ rfl
   have z5 : wr.cell? (ad.add (l.length * 16 + 5)) = some (.string ⟨#[]⟩) := hz 5 _ rfl
   have z6 : wr.cell? (ad.add (l.length * 16 + 6)) = some (.int .i8 0) := hz 6 _ rfl
   have z7 : wr.cell? (ad.add (l.length * 16 + 7)) = some (.int .i64 0) := hz 7 _ rfl
   have z8 : wr.cell? (ad.add (l.length * 16 + 8)) = some (.string ⟨#[]⟩) := hz 8 _ rfl
   have z9 : wr.cell? (ad.add (l.length * 16 + 9)) = some (.slice none 0 0) := hz 9 _ rfl
   have z10 : wr.cell? (ad.add (l.length * 16 + 10)) = some (.int .i8 0) := hz 10 _ rfl
   have z11 : wr.cell? (ad.add (l.length * 16 + 11)) = some (.string ⟨#[]⟩) := hz 11 _ rfl
   have z12 : wr.cell? (ad.add (l.length * 16 + 12)) = some (.int .i8 0) := hz 12 _ rfl
   have z13 : wr.cell? (ad.add (l.length * 16 + 13)) = some (.int .i64 0) := hz 13 _ rfl
   have z14 : wr.cell? (ad.add (l.length * 16 + 14)) = some (.string ⟨#[]⟩) := hz 14 _ rfl
   have z15 : wr.cell? (ad.add (l.length * 16 + 15)) = some (.slice none 0 0) := hz 15 _ rfl
   rw [Nat.add_zero] at z0
   rw [xat _ _ 1 (by omega)] at z1
   rw [xat _ _ 2 (by omega)] at z2
   rw [xat _ _ 3 (by omega)] at z3
   rw [xat _ _ 4 (by omega)] at z4
   rw [xat _ _ 5 (by omega)] at z5
   rw [xat _ _ 6 (by omega)] at z6
   rw [xat _ _ 7 (by omega)] at z7
   rw [xat _ _ 8 (by omega)] at z8
   rw [xat _ _ 9 (by omega)] at z9
   rw [xat _ _ 10 (by omega)] at z10
   rw [xat _ _ 11 (by omega)] at z11
   rw [xat _ _ 12 (by omega)] at z12
   rw [xat _ _ 13 (by omega)] at z13
   rw [xat _ _ 14 (by omega)] at z14
   rw [xat _ _ 15 (by omega)] at z15
   clear hz
   obtain ⟨i0, hi0, _, hsz, _⟩ := info_parts info56
   have hcut := cut_up (P := Tryd.prog) 58 56 .i64 Tryd.underlying58 hi0 (some ad) l.length c' (l.length + 1 : Int) (by omega) (by omega)
   rw [show (l.length + 1 : Int).toNat = l.length + 1 by omega] at hcut
   clear hi0 hsz
   go_wp2_with fail
   refine (w1_isLiteral.calls 99 spare none 0 [] 0 0 ⟨#[]⟩ 0 0 ⟨#[]⟩ none 0 [] 0 ⟨#[]⟩ 0 0 ⟨#[]⟩ none 0 [] 777777 true wr (Kd.C_nil _ _) (Nat.le_refl _) (Kd.C_nil _ _) (Nat.le_refl _) (Kd.C_nil _ _) (Nat.le_refl _) (HT.out.below HB.out) isLiteral_spare).mono ?_
   rintro e w2 ⟨rfl, hb⟩
   have HB2 := Lib.hid (xah HB.out hb)
   clear hb HB
   go_wp2_with fail
   go_ret
   exact ⟨rfl, HB2.out⟩
theorem eqA125 (d : Nat) (w : World) (x0 y0 : Int) (x1 y1 : ByteArray) (x2 y2 : Int) (x3 y3 : Int) (x4 y4 : ByteArray) :
  (Op.equalIn (d + 4) 125 (.agg #[.int .i8 x0, .string x1, .int .i8 x2, .int .i64 x3, .string x4]) (.agg #[.int .i8 y0, .string y1, .int .i8 y2, .int .i64 y3, .string y4])).run Tryd.prog w = .ok (x0 == y0 && ((x1.toList == y1.toList && ((x2 == y2 && (x3 == y3 && (x4.toList == y4.toList))))))) w := by
 refine eqA_of Tryd.underlying125 (by kernel_rfl) ?_
 refine eqf_cons (by rfl) (by go_simp; rfl) (by go_simp; rfl) (by go_simp) ?_
 exact eqf_last (by rfl) (by go_simp) (by go_simp) (eqA28 (d + 0) w _ _ _ _ _ _ _ _)
end Go.Proofs.YtllcmggmcogokaaDoor.PAll
end
section
namespace Go.Proofs.YtllcmggmcogokaaDoor.PAll
open Go.RowKit Go.Proofs.YtllcmggmcogokaaDoorW.PrintWords Go.Proofs.YtllcmggmcogokaaDoorW.PrintLast Go.Proofs.YtllcmggmcogokaaDoorW.PrintMore
attribute [local go_sem] max2_int min2_int max_two min_two max_three min_three max_four min_four
attribute [local go_sem high] eqA125
def w1_SameArgs.l0 : Nat → List (S125) → List (S125) → Int → Option (Bool)
 | 0, _, _, _ => none
 | k + 1, x0, x1, x5 => if x5 < (x0.length : Int) then (if 0 ≤ x5 then (if x5 < (x1.length : Int) then (if (!(((xaq x0 x5).f0) == ((xaq x1 x5).f0)) || ((!((((xaq x0 x5).f1.f0).toList) == (((xaq x1 x5).f1.f0).toList)) || ((!(((xaq x0 x5).f1.f1.f0) == ((xaq x1 x5).f1.f1.f0)) || (!(((xaq x0 x5).f1.f1.f1) == ((xaq x1 x5).f1.f1.f1)) || (!((((xaq x0 x5).f1.f1.f2).toList) == (((xaq x1 x5).f1.f1.f2).toList))))))))) = true then (some false) else (w1_SameArgs.l0 k x0 x1 (wrap64 (x5 + 1)))) else (none)) else (none)) else (some true)
def w1_SameArgs.f (k : Nat) (l0 : List (S125)) (l1 : List (S125)) : Option (Bool) := if (l0.length : Int) = (l1.length : Int) then (w1_SameArgs.l0 k l0 l1 0) else (some false)
set_option maxHeartbeats 8000000 in
set_option maxRecDepth 100000 in
theorem w1_SameArgs.calls (k : Nat) (A0 : Option Addr) (c0 : Nat) (l0 : List (S125)) (A1 : Option Addr) (c1 : Nat) (l1 : List (S125)) (r : Bool) (w : World) (hr0 : Kd.C k125 w A0 l0.length l0) (hc0 : l0.length ≤ c0) (hr1 : Kd.C k125 w A1 l1.length l1) (hc1 : l1.length ≤ c1) (h : w1_SameArgs.f k l0 l1 = some r) :
  Calls Tryd.prog 86 #[.slice A0 l0.length c0, .slice A1 l1.length c1] w fun e w' => e = .returned (.bool r) ∧ Drawn0 w w' := by
 have hu125 := Tryd.underlying125
 have HR0 := Aside0.mk hr0
 have HC0 := Aside0.mk hc0
 clear hr0 hc0
 have HR1 := Aside0.mk hr1
 have HC1 := Aside0.mk hc1
 clear hr1 hc1
 have H : (if (l0.length : Int) = (l1.length : Int) then (w1_SameArgs.l0 k l0 l1 0) else (some false)) = some r := h
 clear h
 by_cases c3 : (l0.length : Int) = (l1.length : Int)
 ·rw [if_pos c3] at H
  have c3b0 : ((l0.length : Int) == (l1.length : Int)) = true := beq_iff_eq.mpr c3
  have c3b1 : ((l0.length : Int) != (l1.length : Int)) = false := bne_eq_false_iff_eq.mpr c3
  have c3b2 : (l0.length == l1.length) = true := by first | simpa using c3 | (simp at c3 ⊢; omega)
  clear c3
  have H' := Aside0.mk H
  clear H
  go_enter Tryd.func86, Tryd.ntmps86
  go_wp2
  repeat (go_quiet (fail); try go_wp2)
  go_loopg [5] k (fun kq v5 w' => ∃ (x5_1 : Int), v5 = .int .i64 x5_1 ∧ Aside0 (w1_SameArgs.l0 kq l0 l1 x5_1 = some r) ∧ Aside0 (kq ≤ k) ∧ Drawn0 w w')
  case atStart => exact ⟨(0), (by first | rfl | (simp; done) | (simp [*]; done)), H', ⟨Nat.le_refl _⟩, by repeat (first | exact Drawn0.refl _ | apply Drawn0.step)⟩
  case round =>
   clear H'
   try clear c1
   try clear p2
   try clear c3
   try clear c3b0
   try clear c3b1
   try clear c3b2
   obtain ⟨x5_1, rfl, HA, HK1, ⟨m1, rfl⟩⟩ := hrel
   cases gk with
   | zero => exact absurd HA.out (by simp [w1_SameArgs.l0])
   | succ k1 =>
    have H := HA.out
    clear HA
    simp only [w1_SameArgs.l0] at H
    by_cases c4 : x5_1 < (l0.length : Int)
    ·rw [if_pos c4] at H
     have c4b0 : decide (x5_1 < (l0.length : Int)) = true := decide_eq_true c4
     clear c4
     by_cases c5 : 0 ≤ x5_1
     ·rw [if_pos c5] at H
      have c5b0 : decide (0 ≤ x5_1) = true := decide_eq_true c5
      clear c5
      by_cases c6 : x5_1 < (l1.length : Int)
      ·rw [if_pos c6] at H
       have c6b0 : decide (x5_1 < (l1.length : Int)) = true := decide_eq_true c6
       clear c6
       by_cases c7 : (!(((xaq l0 x5_1).f0) == ((xaq l1 x5_1).f0)) || ((!((((xaq l0 x5_1).f1.f0).toList) == (((xaq l1 x5_1).f1.f0).toList)) || ((!(((xaq l0 x5_1).f1.f1.f0) == ((xaq l1 x5_1).f1.f1.f0)) || (!(((xaq l0 x5_1).f1.f1.f1) == ((xaq l1 x5_1).f1.f1.f1)) || (!((((xaq l0 x5_1).f1.f1.f2).toList) == (((xaq l1 x5_1).f1.f1.f2).toList))))))))) = true
       ·rw [if_pos c7] at H
        have c7b0 : (!(((xaq l0 x5_1).f0) == ((xaq l1 x5_1).f0)) || ((!((((xaq l0 x5_1).f1.f0).toList) == (((xaq l1 x5_1).f1.f0).toList)) || ((!(((xaq l0 x5_1).f1.f1.f0) == ((xaq l1 x5_1).f1.f1.f0)) || (!(((xaq l0 x5_1).f1.f1.f1) == ((xaq l1 x5_1).f1.f1.f1)) || (!((((xaq l0 x5_1).f1.f1.f2).toList) == (((xaq l1 x5_1).f1.f1.f2).toList))))))))) = true := c7
        clear c7
        obtain rfl := Option.some.inj H
        have p387 : 0 ≤ (x5_1 : Int) := of_decide_eq_true (by first | (with_reducible assumption) | assumption)
        have q387 : x5_1 < (l0.length : Int) := of_decide_eq_true (by first | (with_reducible assumption) | assumption)
        obtain ⟨ad387, e387, hx387_0, hx387_1, hx387_2, hx387_3, hx387_4⟩ := xbp HR0.out x5_1 p387 q387
        cases e387
        replace p387 := eq_true p387
        replace q387 := eq_true q387
        have p388 : 0 ≤ (x5_1 : Int) := of_decide_eq_true (by first | (with_reducible assumption) | assumption)
        have q388 : x5_1 < (l1.length : Int) := of_decide_eq_true (by first | (with_reducible assumption) | assumption)
        obtain ⟨ad388, e388, hx388_0, hx388_1, hx388_2, hx388_3, hx388_4⟩ := xbp HR1.out x5_1 p388 q388
        cases e388
        replace p388 := eq_true p388
        replace q388 := eq_true q388
        go_wp2
        repeat (go_quiet (fail); try go_wp2)
        go_ret
        exact ⟨by first | rfl | (simp; done) | (simp [*]; done), by repeat (first | exact Drawn0.refl _ | apply Drawn0.step)⟩
       ·rw [if_neg c7] at H
        have c7b0 : (!(((xaq l0 x5_1).f0) == ((xaq l1 x5_1).f0)) || ((!((((xaq l0 x5_1).f1.f0).toList) == (((xaq l1 x5_1).f1.f0).toList)) || ((!(((xaq l0 x5_1).f1.f1.f0) == ((xaq l1 x5_1).f1.f1.f0)) || (!(((xaq l0 x5_1).f1.f1.f1) == ((xaq l1 x5_1).f1.f1.f1)) || (!((((xaq l0 x5_1).f1.f1.f2).toList) == (((xaq l1 x5_1).f1.f1.f2).toList))))))))) = false := by simpa using c7
        clear c7
        have H' := Aside0.mk H
        clear H
        have p387 : 0 ≤ (x5_1 : Int) := of_decide_eq_true (by first | (with_reducible assumption) | assumption)
        have q387 : x5_1 < (l0.length : Int) := of_decide_eq_true (by first | (with_reducible assumption) | assumption)
        obtain ⟨ad387, e387, hx387_0, hx387_1, hx387_2, hx387_3, hx387_4⟩ := xbp HR0.out x5_1 p387 q387
        cases e387
        replace p387 := eq_true p387
        replace q387 := eq_true q387
        have p388 : 0 ≤ (x5_1 : Int) := of_decide_eq_true (by first | (with_reducible assumption) | assumption)
        have q388 : x5_1 < (l1.length : Int) := of_decide_eq_true (by first | (with_reducible assumption) | assumption)
        obtain ⟨ad388, e388, hx388_0, hx388_1, hx388_2, hx388_3, hx388_4⟩ := xbp HR1.out x5_1 p388 q388
        cases e388
        replace p388 := eq_true p388
        replace q388 := eq_true q388
        go_wp2
        repeat (go_quiet (fail); try go_wp2)
        go_roundg k1
        case measure => have := HK1.out; omega
        case rel => exact ⟨(wrap64 (x5_1 + 1)), (by first | rfl | (simp; done) | (simp [*]; done)), H', ⟨by have := HK1.out; omega⟩, by repeat (first | exact Drawn0.refl _ | apply Drawn0.step)⟩
      ·rw [if_neg c6] at H
       exact absurd H (by simp)
     ·rw [if_neg c5] at H
      exact absurd H (by simp)
    ·rw [if_neg c4] at H
     have c4b0 : decide (x5_1 < (l0.length : Int)) = false := decide_eq_false c4
     clear c4
     obtain rfl := Option.some.inj H
     go_wp2
     repeat (go_quiet (fail); try go_wp2)
     go_ret
     exact ⟨by first | rfl | (simp; done) | (simp [*]; done), by repeat (first | exact Drawn0.refl _ | apply Drawn0.step)⟩
 ·rw [if_neg c3] at H
  have c3b0 : ((l0.length : Int) == (l1.length : Int)) = false := beq_eq_false_iff_ne.mpr c3
  have c3b1 : ((l0.length : Int) != (l1.length : Int)) = true := bne_iff_ne.mpr c3
  have c3b2 : (l0.length == l1.length) = false := by first | simpa using c3 | (simp at c3 ⊢; omega)
  obtain rfl := Option.some.inj H
  go_enter Tryd.func86, Tryd.ntmps86
  go_wp2
  repeat (go_quiet (fail); try go_wp2)
  go_ret
  exact ⟨by first | rfl | (simp; done) | (simp [*]; done), by repeat (first | exact Drawn0.refl _ | apply Drawn0.step)⟩
def w1_isArg.f (a0_0 : Int) (a0_1 : ByteArray) (a0_2 : Int) (a0_3 : Int) (a0_4 : ByteArray) (a1 : Int) : Option (Bool) := (w1_word.f a1).bind fun t390 => (some (a0_0 == 0 && ((a0_1.toList == t390.toList && ((a0_2 == 0 && (a0_3 == 0 && (a0_4.toList == ([] : List UInt8)))))))))
set_option maxHeartbeats 8000000 in
set_option maxRecDepth 100000 in
theorem w1_isArg.calls (a0_0 : Int) (a0_1 : ByteArray) (a0_2 : Int) (a0_3 : Int) (a0_4 : ByteArray) (a1 : Int) (r : Bool) (w : World) (hTB : TabB w) (h : w1_isArg.f a0_0 a0_1 a0_2 a0_3 a0_4 a1 = some r) :
  Calls Tryd.prog 117 #[.agg #[.int .i8 a0_0, .string a0_1, .int .i8 a0_2, .int .i64 a0_3, .string a0_4], .int .i64 a1] w fun e w' => e = .returned (.bool r) ∧ Below w.heap.size w w' := by
 have hu125 := Tryd.underlying125
 have hu28 := Tryd.underlying28
 have HB := Aside0.mk (Below.refl w.heap.size w)
 have HTB := Aside0.mk hTB
 clear hTB
 have H : ((w1_word.f a1).bind fun t390 => (some (a0_0 == 0 && ((a0_1.toList == t390.toList && ((a0_2 == 0 && (a0_3 == 0 && (a0_4.toList == ([] : List UInt8)))))))))) = some r := h
 clear h
 replace H := Option.bind_eq_some_iff.mp H
 obtain ⟨t390, A30, H⟩ := H
 replace H : (some (a0_0 == 0 && ((a0_1.toList == t390.toList && ((a0_2 == 0 && (a0_3 == 0 && (a0_4.toList == ([] : List UInt8))))))))) = some r := H
 have A3 := Aside0.mk A30
 clear A30
 obtain rfl := Option.some.inj H
 go_enter Tryd.func117, Tryd.ntmps117
 try go_wp2_with (first | ((with_reducible refine xar (N := 2) rfl ?_); refine xap ?hg (N := 2) ?hd (cs := #[.int .i8 a0_0, .string a0_1, .int .i8 a0_2, .int .i64 a0_3, .string a0_4]) (t := 125) ?hr ?_; (case hd => rfl); (case hg => rfl); (case hr => first | (go_simp; done) | (go_simp; rfl)); intro gb389 hg w4 hbox hb; have n0_ := Aside0.mk (xah (by repeat (first | (with_reducible first | exact HB.out | apply xab | apply xaa | apply xac) | exact HB.out)) hb); have n1_ := Aside0.mk (hbox); have n2_ := Aside0.mk ((by rw [hg]; exact (xao (by repeat (first | (with_reducible first | exact HB.out | apply xab | apply xaa | apply xac) | exact HB.out))) : w.heap.size ≤ gb389)); have n3_ := n2_; clear HB; have HB := n0_; have BK389 := n1_; have GW389 := n2_; have GE389 := n3_; clear n0_ n1_ n2_ n3_; clear hb hbox hg))
 have n0_ := Aside0.mk (xai BK389.out)
 have n1_ := Aside0.mk (xac HB.out)
 clear BK389
 clear HB
 have BK389 := n0_
 have HB := n1_
 clear n0_ n1_
 refine start_ (n := 7) (S := fun w' => w'.cell? ⟨gb389, 0, none⟩ = some (.int .i8 a0_0) ∧ w'.cell? ⟨gb389, 1, none⟩ = some (.string a0_1) ∧ w'.cell? ⟨gb389, 2, none⟩ = some (.int .i8 a0_2) ∧ w'.cell? ⟨gb389, 3, none⟩ = some (.int .i64 a0_3) ∧ w'.cell? ⟨gb389, 4, none⟩ = some (.string a0_4)) (ds := []) #[false, false, false, false, false, false, false] (by kernel_rfl) rfl rfl ⟨(xae BK389.out 0).trans rfl, (xae BK389.out 1).trans rfl, (xae BK389.out 2).trans rfl, (xae BK389.out 3).trans rfl, (xae BK389.out 4).trans rfl⟩ (fun hHeld => ?_)
 generalize w4.drew = w5 at BK389 HB hHeld ⊢
 refine pure_ (i := 1) (N := some 6) (v := ?_) (a' := ?_) #[false, true, false, false, false, false, false] rfl rfl (by kernel_rfl) (fun _ _ _ h => h) (Or.inl ⟨by rfl, ?_⟩) ?_ ?_
 rotate_left
 ·intro w'
  go_simp
  with_reducible rfl
 rotate_left
 ·simp only [Act.put, sI, sZ, sS, i64_w, i32_w]
  rfl
 refine take_ (i := 0) (N := some 5) (v := ?_) (a' := ?_) #[true, true, false, false, false, false, false] rfl rfl (by kernel_rfl) (fun _ _ _ h => h) (Or.inl ⟨by rfl, ?_⟩) hHeld ?_ ?_
 rotate_left
 ·rintro w' ⟨s0, s1, s2, s3, s4⟩
  go_simp
  with_reducible rfl
 rotate_left
 ·simp only [Act.put, sI, sZ, sS, i64_w, i32_w]
  rfl
 refine one_ (i := 2) (N := some 7) #[true, true, true, false, false, false, false] rfl rfl (by kernel_rfl) (by decide) (fun K hK => ?_)
 refine goes_ Tryd.func124 (by kernel_rfl) rfl #[.int .i64 a1] (by rfl) rfl rfl (by (try simp only [List.map_toArray, List.map_cons, List.map_nil]); first | done | rfl | (simp only [List.length_drop, List.length_take]; rfl)) ?_
 with_reducible refine (w1_word.calls a1 t390 _ ?side1 A3.out).mono ?_
 (case side1 => exact TabB.below HTB.out (by repeat (first | (with_reducible first | exact HB.out | apply xab | apply xaa | apply xac | refine xad ?_ GE389.out) | exact HB.out)))
 rintro e w6 ⟨rfl, hb⟩
 refine ⟨_, rfl, ?_⟩
 have n0_ := Aside0.mk (xam (g := gb389) (o := .cells #[.int .i8 a0_0, .string a0_1, .int .i8 a0_2, .int .i64 a0_3, .string a0_4] 125 (0, 0)) (by (with_reducible repeat (first | refine xag ?_ _ | refine xai ?_ | refine xaf ?_ _)); exact BK389.out) hb)
 have n1_ := Aside0.mk (xah (by repeat (first | (with_reducible first | exact HB.out | apply xab | apply xaa | apply xac | refine xad ?_ GE389.out) | exact HB.out)) hb)
 clear BK389
 clear HB
 have BK389 := n0_
 have HB := n1_
 clear n0_ n1_
 (try clear hb)
 (try clear hb2)
 (try clear hk)
 (try clear hi)
 refine hK.out _ _ ⟨(xae BK389.out 0).trans rfl, (xae BK389.out 1).trans rfl, (xae BK389.out 2).trans rfl, (xae BK389.out 3).trans rfl, (xae BK389.out 4).trans rfl⟩ (fun hHeld => ?_)
 clear hK K
 refine norm_ (a' := ?_) ?_ ?_
 rotate_left
 ·show Act.put _ (some 7) _ = _
  simp only [Act.put, sI, sZ, sS, i64_w, i32_w]
  rfl
 refine pure_ (i := 3) (N := some 8) (v := ?_) (a' := ?_) #[true, true, true, true, false, false, false] rfl rfl (by kernel_rfl) (fun _ _ _ h => h) (Or.inl ⟨by rfl, ?_⟩) ?_ ?_
 rotate_left
 ·intro w'
  go_simp
  with_reducible rfl
 rotate_left
 ·simp only [Act.put, sI, sZ, sS, i64_w, i32_w]
  rfl
 refine pure_ (i := 4) (N := some 9) (v := ?_) (a' := ?_) #[true, true, true, true, true, false, false] rfl rfl (by kernel_rfl) (fun _ _ _ h => h) (Or.inl ⟨by rfl, ?_⟩) ?_ ?_
 rotate_left
 ·intro w'
  go_simp
  with_reducible rfl
 rotate_left
 ·simp only [Act.put, sI, sZ, sS, i64_w, i32_w]
  rfl
 refine pure_ (i := 5) (N := some 10) (v := ?_) (a' := ?_) #[true, true, true, true, true, true, false] rfl rfl (by kernel_rfl) (fun _ _ _ h => h) (Or.inl ⟨by rfl, ?_⟩) ?_ ?_
 rotate_left
 ·intro w'
  go_simp
  with_reducible rfl
 rotate_left
 ·simp only [Act.put, sI, sZ, sS, i64_w, i32_w]
  rfl
 refine pure_ (i := 6) (N := some 4) (v := ?_) (a' := ?_) #[true, true, true, true, true, true, true] rfl rfl (by kernel_rfl) (fun _ _ _ h => h) (Or.inl ⟨by rfl, ?_⟩) ?_ ?_
 rotate_left
 ·intro w'
  go_simp
  with_reducible rfl
 rotate_left
 ·simp only [Act.put, sI, sZ, sS, i64_w, i32_w]
  rfl
 refine done_ (by kernel_rfl) ?_
 try go_wp2
 go_ret
 exact ⟨by first | rfl | (simp [xak, xaj] <;> rfl) | (simp [*, xak, xaj] <;> rfl), by repeat (first | (with_reducible first | exact HB.out | apply xab | apply xaa | apply xac | refine xad ?_ GE389.out) | exact HB.out)⟩
end Go.Proofs.YtllcmggmcogokaaDoor.PAll
end
section
namespace Go.Proofs.YtllcmggmcogokaaDoor.PAll
open Go.RowKit Go.Proofs.YtllcmggmcogokaaDoorW.PrintWords Go.Proofs.YtllcmggmcogokaaDoorW.PrintLast Go.Proofs.YtllcmggmcogokaaDoorW.PrintMore
attribute [local go_sem] max2_int min2_int max_two min_two max_three min_three max_four min_four
theorem isArg_spare : w1_isArg.f 0 spare 0 0 ⟨#[]⟩ 777777 = some true := by rw [w1_isArg.f, xbn]; simp
theorem SameArgs_refl_l (l : List S125) (hl : l.length < 2000000) : ∀ d i : Nat, l.length - i = d → i ≤ l.length → w1_SameArgs.l0 (d + 1) l l (i : Int) = some true
 | d, i, hd, hi => by
  rw [w1_SameArgs.l0]
  by_cases h : i < l.length
  ·rw [if_pos (by omega), if_pos (by omega), if_pos (by omega)]
   obtain ⟨d, rfl⟩ : ∃ e, d = e + 1 := ⟨d - 1, by omega⟩
   rw [if_neg (by simp), wrap64_next (n := l.length) (by omega) hi]
   exact SameArgs_refl_l l hl d (i + 1) (by omega) (by omega)
  ·rw [if_neg (by omega)]
theorem SameArgs_refl (l : List S125) (hl : l.length < 2000000) : w1_SameArgs.f (l.length + 1) l l = some true := by
 rw [w1_SameArgs.f, if_pos rfl]
 exact SameArgs_refl_l l hl l.length 0 (by omega) (by omega)
set_option maxHeartbeats 4000000 in
set_option maxRecDepth 100000 in
theorem w1_LeftArgs.twin (A' : Option Addr) (c' : Nat) (A : Option Addr) (c : Nat) (l : List S125) (w : World) (hr' : Kd.C (orC k125) w A' (l.length + 1) (marked l mk125)) (hc' : l.length + 1 ≤ c') (hr : Kd.C k125 w A l.length l) (hc : l.length ≤ c) (hl : l.length < 2000000) (hT : TabB w) :
  Calls Tryd.prog 79 #[.slice A' l.length c', .slice A l.length c] w fun e w' => e = .returned (.bool true) ∧ Below w.heap.size w w' := by
 have hm : l.length ≤ 9223372036854775807 := by omega
 have HR' := Lib.hid hr'
 have HR := Lib.hid hr
 have HT := Lib.hid hT
 clear hr hT hr'
 go_enter Tryd.func79, Tryd.ntmps79
 go_wp2_with fail
 refine (w1_SameArgs.calls (l.length + 1) A' c' l A c l true w (marked_C rfl (fun _ _ _ h => h) HR'.out) (by omega) HR.out hc (SameArgs_refl l hl)).mono ?_
 rintro e w1 ⟨rfl, hb0⟩
 have hb := hb0.below
 clear hb0
 have HB := Lib.hid hb
 clear hb
 obtain ⟨ad, rfl, hz⟩ := marked_mark (Kd.C_below HR'.out HB.out)
 have z0 : w1.cell? (ad.add (l.length * 5 + 0)) = some (.int .i8 0) := hz 0 _ rfl
 have z1 : w1.cell? (ad.add (l.length * 5 + 1)) = some (.string spare) := hz 1 _ rfl
 have z2 : w1.cell? (ad.add (l.length * 5 + 2)) = some (.int .i8 0) := hz 2 _ rfl
 have z3 : w1.cell? (ad.add (l.length * 5 + 3)) = some (.int .i64 0) := hz 3 _ rfl
 have z4 : w1.cell? (ad.add (l.length * 5 + 4)) = some (.string ⟨#[]⟩) := hz 4 _ rfl
 rw [Nat.add_zero] at z0
 rw [xat _ _ 1 (by omega)] at z1
 rw [xat _ _ 2 (by omega)] at z2
 rw [xat _ _ 3 (by omega)] at z3
 rw [xat _ _ 4 (by omega)] at z4
 clear hz
 obtain ⟨i0, hi0, _, hsz, _⟩ := info_parts info125
 have hcut := cut_up (P := Tryd.prog) 65 125 .i64 Tryd.underlying65 hi0 (some ad) l.length c' (l.length + 1 : Int) (by omega) (by omega)
 rw [show (l.length + 1 : Int).toNat = l.length + 1 by omega] at hcut
 clear hi0 hsz
 go_wp2_with fail
 refine (w1_isArg.calls 0 spare 0 0 ⟨#[]⟩ 777777 true w1  (HT.out.below HB.out) isArg_spare).mono ?_
 rintro e w2 ⟨rfl, hb⟩
 have HB2 := Lib.hid (xah HB.out hb)
 clear hb HB
 go_wp2_with fail
 go_ret
 exact ⟨rfl, HB2.out⟩
abbrev LeRuleC (x : S67) : Prop := ∀ (A'0 : Option Addr) (c'0 : Nat) (A'1 : Option Addr) (c'1 : Nat) (A0 : Option Addr) (c0 : Nat) (A1 : Option Addr) (c1 : Nat) (w : World), Kd.C (orC k125) w A'0 (x.f1.length + 1) (marked x.f1 mk125) → x.f1.length + 1 ≤ c'0 → Kd.C (orC k56t) w A'1 (x.f2.length + 1) (marked x.f2 mk56) → x.f2.length + 1 ≤ c'1 → Kd.C k125 w A0 x.f1.length x.f1 → x.f1.length ≤ c0 → Kd.C k56 w A1 x.f2.length x.f2 → x.f2.length ≤ c1 → TabB w →
  Calls Tryd.prog 35 #[.agg #[.string x.f0, .slice A'0 x.f1.length c'0, .slice A'1 x.f2.length c'1], .agg #[.string x.f0, .slice A0 x.f1.length c0, .slice A1 x.f2.length c1]] w fun e w' => e = .returned (.bool true) ∧ Below w.heap.size w w'
set_option maxHeartbeats 8000000 in
set_option maxRecDepth 100000 in
theorem LeRule_step (x : S67) (hS1 : x.f1.length < 2000000) (hS2 : Hid (LeLiteralsC x.f2)) : LeRuleC x := by
 intro A'0 c'0 A'1 c'1 A0 c0 A1 c1 w hr'0 hc'0 hr'1 hc'1 hr0 hc0 hr1 hc1 hT
 have HR0 := Lib.hid hr0
 have HR'0 := Lib.hid hr'0
 have HR1 := Lib.hid hr1
 have HR'1 := Lib.hid hr'1
 have HT := Lib.hid hT
 clear hT hr0 hr'0 hr1 hr'1
 go_enter Tryd.func35, Tryd.ntmps35
 go_wp2_with fail
 have HK1 := Lib.hid (xam (xaz w (.cells #[.string x.f0, .slice A'0 x.f1.length c'0, .slice A'1 x.f2.length c'1] 67 (0, 0))) (xab (Below.refl _ _) (.cells #[.string x.f0, .slice A0 x.f1.length c0, .slice A1 x.f2.length c1] 67 (0, 0))))
 have HK2 := Lib.hid (xaz (w.alloc (.cells #[.string x.f0, .slice A'0 x.f1.length c'0, .slice A'1 x.f2.length c'1] 67 (0, 0))) (.cells #[.string x.f0, .slice A0 x.f1.length c0, .slice A1 x.f2.length c1] 67 (0, 0)))
 rw [show (w.alloc (.cells #[.string x.f0, .slice A'0 x.f1.length c'0, .slice A'1 x.f2.length c'1] 67 (0, 0))).heap.size = w.heap.size + 1 by simp] at HK2
 have HB := Lib.hid (xab (xab (Below.refl w.heap.size w) (.cells #[.string x.f0, .slice A'0 x.f1.length c'0, .slice A'1 x.f2.length c'1] 67 (0, 0))) (.cells #[.string x.f0, .slice A0 x.f1.length c0, .slice A1 x.f2.length c1] 67 (0, 0)))
 generalize (w.alloc (.cells #[.string x.f0, .slice A'0 x.f1.length c'0, .slice A'1 x.f2.length c'1] 67 (0, 0))).alloc (.cells #[.string x.f0, .slice A0 x.f1.length c0, .slice A1 x.f2.length c1] 67 (0, 0)) = v0 at *
 refine (w1_LeftArgs.twin A'0 c'0 A0 c0 x.f1 v0 (Kd.C_below HR'0.out HB.out) hc'0 (Kd.C_below HR0.out HB.out) hc0 hS1 (HT.out.below HB.out)).mono ?_
 rintro e v1 ⟨rfl, hb⟩
 replace HK1 := Lib.hid (xam HK1.out hb)
 replace HK2 := Lib.hid (xam HK2.out hb)
 replace HB := Lib.hid (xah HB.out hb)
 clear hb
 have p0 : v1.cell? ⟨w.heap.size, 0, none⟩ = some (.string x.f0) := (xae HK1.out 0).trans rfl
 have q0 : v1.cell? ⟨w.heap.size + 1, 0, none⟩ = some (.string x.f0) := (xae HK2.out 0).trans rfl
 have p1 : v1.cell? ⟨w.heap.size, 1, none⟩ = some (.slice A'0 x.f1.length c'0) := (xae HK1.out 1).trans rfl
 have q1 : v1.cell? ⟨w.heap.size + 1, 1, none⟩ = some (.slice A0 x.f1.length c0) := (xae HK2.out 1).trans rfl
 have p2 : v1.cell? ⟨w.heap.size, 2, none⟩ = some (.slice A'1 x.f2.length c'1) := (xae HK1.out 2).trans rfl
 have q2 : v1.cell? ⟨w.heap.size + 1, 2, none⟩ = some (.slice A1 x.f2.length c1) := (xae HK2.out 2).trans rfl
 go_wp2_with fail
 refine (hS2.out A'1 c'1 A1 c1 v1 (Kd.C_below HR'1.out HB.out) hc'1 (Kd.C_below HR1.out HB.out) hc1 (HT.out.below HB.out)).mono ?_
 rintro e v2 ⟨rfl, hb⟩
 replace HK1 := Lib.hid (xam HK1.out hb)
 replace HK2 := Lib.hid (xam HK2.out hb)
 replace HB := Lib.hid (xah HB.out hb)
 clear hb
 go_wp2_with fail
 go_ret
 exact ⟨rfl, HB.out⟩
theorem xaw {P : Program} {o : Oper} {a : Act} {w : World} (ty : TypeId) (x : Operand) (ho : o.op = .load ty x) (g : Nat) (hx : a.eval x = .pointer (some ⟨g, 0, none⟩)) (t : TypeId) (cs : Array Value) (d : TypeDesc) (hg : w.heap[g]? = some (.cells cs t (0, 0)))
  (hu : P.underlying ty = some d) (hd : (match d with | .struct _ | .array _ _ => true | _ => false) = true) (hi : (P.info? ty).map (·.size) = some cs.size) : (execOp a.eval o).run P w = .ok (.value (.agg cs)) w := by
 unfold execOp
 simp only [ho, hx, Instr.loadAt, Instr.sureAddr, Sem.run_bind, Sem.run_pure, Result.andThen_ok, run_loadVar_row w g t ty cs (0, 0) d hg hu hd hi]
set_option maxHeartbeats 4000000 in
set_option maxRecDepth 100000 in
theorem TermRules_gen (cx : Array Value) (hsx : cx.size = 3) (w : World) (b ok : Bool) (er : Int) (TP AP : Array Value → World → Prop) (VP : Value → World → Prop)
  (hTP : Hid (∀ ct w1 w2, TP ct w1 → Below w1.heap.size w1 w2 → TP ct w2)) (hAP : Hid (∀ ct w1 w2, AP ct w1 → Below w1.heap.size w1 w2 → AP ct w2)) (hVP : Hid (∀ v w1 w2, VP v w1 → Below w1.heap.size w1 w2 → VP v w2))
  (hTs : Hid (∀ ct w1, TP ct w1 → ct.size = 3 ∧ ct.all (·.oneCell') = true)) (hAs : Hid (∀ ct w1, AP ct w1 → ct.size = 2 ∧ ct.all (·.oneCell') = true))
  (hBy : Hid (∀ w1, Below w.heap.size w w1 → Calls Tryd.prog 26 #[.agg cx] w1 fun e w' => e = .returned (.bool b) ∧ Below w1.heap.size w1 w'))
  (hTw : Hid (b = false → ∀ w1, Below w.heap.size w w1 → Calls Tryd.prog 27 #[.agg cx] w1 fun e w' => ∃ ct, e = .returned (.agg ct) ∧ TP ct w' ∧ Below w1.heap.size w1 w'))
  (hH2 : Hid (b = false → ∀ w1, Below w.heap.size w w1 → Calls Tryd.prog 28 #[.agg cx] w1 fun e w' => ∃ ca, e = .returned (.tuple #[.agg ca, .bool ok]) ∧ AP ca w' ∧ Below w1.heap.size w1 w'))
  (hH1 : Hid (b = false → ∀ ct w1, TP ct w1 → Below w.heap.size w w1 → Calls Tryd.prog 29 #[.agg ct] w1 fun e w' => ∃ ca, e = .returned (.tuple #[.agg ca, .bool ok]) ∧ AP ca w' ∧ Below w1.heap.size w1 w'))
  (hC1 : Hid (b = false → ∀ ct w1, TP ct w1 → Below w.heap.size w w1 → Calls Tryd.prog 30 #[.agg ct] w1 fun e w' => e = .returned (.int .i64 er) ∧ Below w1.heap.size w1 w'))
  (hC2 : Hid (b = false → ∀ w1, Below w.heap.size w w1 → Calls Tryd.prog 31 #[.agg cx] w1 fun e w' => e = .returned (.int .i64 er) ∧ Below w1.heap.size w1 w'))
  (hV1 : Hid (b = false → ∀ ct w1, TP ct w1 → Below w.heap.size w w1 → Calls Tryd.prog 32 #[.agg ct] w1 fun e w' => ∃ v, e = .returned v ∧ VP v w' ∧ Below w1.heap.size w1 w'))
  (hV2 : Hid (b = false → ∀ w1, Below w.heap.size w w1 → Calls Tryd.prog 33 #[.agg cx] w1 fun e w' => ∃ v, e = .returned v ∧ VP v w' ∧ Below w1.heap.size w1 w'))
  (hS : Hid (b = false → ∀ v1 v2 w1, VP v1 w1 → VP v2 w1 → Calls Tryd.prog 22 #[v1, v2] w1 fun e w' => e = .returned (.bool true) ∧ Below w1.heap.size w1 w'))
  (hA : Hid (b = false → ∀ c1 c2 w1, AP c1 w1 → AP c2 w1 → Calls Tryd.prog 34 #[.agg c1, .agg c2] w1 fun e w' => e = .returned (.bool true) ∧ Below w1.heap.size w1 w'))
  (hL : Hid (b = false → ∀ ct w1, TP ct w1 → Below w.heap.size w w1 → Calls Tryd.prog 35 #[.agg ct, .agg cx] w1 fun e w' => e = .returned (.bool true) ∧ Below w1.heap.size w1 w')) :
  Calls Tryd.prog 5 #[.agg cx] w fun e w' => e = .returned (.bool true) ∧ Below w.heap.size w w' := by
 have hin : (Tryd.prog.info? 67).map (·.size) = some 3 := by kernel_rfl
 have hina : (Tryd.prog.info? 53).map (·.size) = some 2 := by kernel_rfl
 have hix : (Tryd.prog.info? 67).map (·.size) = some cx.size := by rw [hsx]; exact hin
 have HB0 := Lib.hid (xab (Below.refl w.heap.size w) (.cells cx 67 (0, 0)))
 have HK0 := Lib.hid (xaz w (.cells cx 67 (0, 0)))
 go_enter Tryd.func5, Tryd.ntmps5
 go_wp2_with ((with_reducible refine xar (N := 8) rfl ?_); (refine wpList_load_row rfl 67 (.tmp 1) rfl w.heap.size rfl 67 cx (0, 0) _ HK0.out Tryd.underlying67 rfl hix ?_))
 refine (hBy.out _ HB0.out).mono ?_
 rintro e v1 ⟨rfl, hb⟩
 have HB := Lib.hid (xah HB0.out hb)
 have HK1 := Lib.hid (xam HK0.out hb)
 clear hb HB0 HK0 hBy
 cases b with
 | true =>
  go_wp2_with fail
  go_ret
  exact ⟨rfl, HB.out⟩
 | false =>
  go_wp2_with ((with_reducible refine xar (N := 10) rfl ?_); (refine wpList_load_row rfl 67 (.tmp 1) rfl w.heap.size rfl 67 cx (0, 0) _ HK1.out Tryd.underlying67 rfl hix ?_))
  refine (hTw.out (by simp) v1 HB.out).mono ?_
  rintro e v2 ⟨ct, rfl, hT, hb⟩
  replace HB := Lib.hid (xah HB.out hb)
  replace HK1 := Lib.hid (xam HK1.out hb)
  obtain ⟨hts, hto⟩ := hTs.out ct v2 hT
  have hit : (Tryd.prog.info? 67).map (·.size) = some ct.size := by rw [hts]; exact hin
  have HZ := Lib.hid (xaz v2 (.cells #[.string ⟨#[]⟩, .slice none 0 0, .slice none 0 0] 67 (0, 0)))
  have HK3 := Lib.hid (row_new v2 #[.string ⟨#[]⟩, .slice none 0 0, .slice none 0 0] ct 67)
  have HB23 := Lib.hid (below_row v2 #[.string ⟨#[]⟩, .slice none 0 0, .slice none 0 0] ct 67)
  replace HK1 := Lib.hid (xam HK1.out HB23.out)
  replace HB := Lib.hid (xah HB.out HB23.out)
  have HT := Lib.hid (hTP.out ct v2 _ hT HB23.out)
  clear hb hT hTw
  go_wp2_with first | ((with_reducible refine xay (t := 67) (p := 3) rfl ?_); (refine wpList_store_row rfl 67 (.tmp 3) (.tmp 11) rfl v2.heap.size ct rfl rfl 67 #[.string ⟨#[]⟩, .slice none 0 0, .slice none 0 0] HZ.out hit (by rw [hts]; rfl) hto ?_)) | ((with_reducible refine xar (N := 13) rfl ?_); (refine wpList_load_row rfl 67 (.tmp 1) rfl w.heap.size rfl 67 cx (0, 0) _ HK1.out Tryd.underlying67 rfl hix ?_))
  generalize (v2.alloc (.cells #[.string ⟨#[]⟩, .slice none 0 0, .slice none 0 0] 67 (0, 0))).setRow v2.heap.size ct = v3 at *
  generalize v2.heap.size = g3 at *
  clear HB23 HZ hTs
  refine (hH2.out (by simp) v3 HB.out).mono ?_
  rintro e v4 ⟨ca, rfl, hca, hb⟩
  obtain ⟨has, hao⟩ := hAs.out ca v4 hca
  have hia : (Tryd.prog.info? 53).map (·.size) = some ca.size := by rw [has]; exact hina
  replace HB := Lib.hid (xah HB.out hb)
  replace HK1 := Lib.hid (xam HK1.out hb)
  replace HK3 := Lib.hid (xam HK3.out hb)
  replace HT := Lib.hid (hTP.out ct _ _ HT.out hb)
  have HZ := Lib.hid (xaz v4 (.cells #[.string ⟨#[]⟩, .slice none 0 0] 53 (0, 0)))
  have HK4 := Lib.hid (row_new v4 #[.string ⟨#[]⟩, .slice none 0 0] ca 53)
  have HB45 := Lib.hid (below_row v4 #[.string ⟨#[]⟩, .slice none 0 0] ca 53)
  replace HB := Lib.hid (xah HB.out HB45.out)
  replace HK1 := Lib.hid (xam HK1.out HB45.out)
  replace HK3 := Lib.hid (xam HK3.out HB45.out)
  replace HT := Lib.hid (hTP.out ct _ _ HT.out HB45.out)
  have HA4 := Lib.hid (hAP.out ca _ _ hca HB45.out)
  clear hb hca hH2
  go_wp2_with first | ((with_reducible refine xay (t := 53) (p := 4) rfl ?_); (refine wpList_store_row rfl 53 (.tmp 4) (.tmp 15) rfl v4.heap.size ca rfl rfl 53 #[.string ⟨#[]⟩, .slice none 0 0] HZ.out hia (by rw [has]; rfl) hao ?_)) | ((with_reducible refine xar (N := 18) rfl ?_); (refine wpList_load_row rfl 67 (.tmp 3) rfl g3 rfl 67 ct (0, 0) _ HK3.out Tryd.underlying67 rfl hit ?_))
  generalize (v4.alloc (.cells #[.string ⟨#[]⟩, .slice none 0 0] 53 (0, 0))).setRow v4.heap.size ca = v5 at *
  generalize v4.heap.size = g4 at *
  clear HB45 HZ
  refine (hH1.out (by simp) ct v5 HT.out HB.out).mono ?_
  rintro e v6 ⟨cb, rfl, hcb, hb⟩
  obtain ⟨hbs, hbo⟩ := hAs.out cb v6 hcb
  have hib : (Tryd.prog.info? 53).map (·.size) = some cb.size := by rw [hbs]; exact hina
  replace HB := Lib.hid (xah HB.out hb)
  replace HK1 := Lib.hid (xam HK1.out hb)
  replace HK3 := Lib.hid (xam HK3.out hb)
  replace HK4 := Lib.hid (xam HK4.out hb)
  replace HT := Lib.hid (hTP.out ct _ _ HT.out hb)
  replace HA4 := Lib.hid (hAP.out ca _ _ HA4.out hb)
  have HZ := Lib.hid (xaz v6 (.cells #[.string ⟨#[]⟩, .slice none 0 0] 53 (0, 0)))
  have HK6 := Lib.hid (row_new v6 #[.string ⟨#[]⟩, .slice none 0 0] cb 53)
  have HB67 := Lib.hid (below_row v6 #[.string ⟨#[]⟩, .slice none 0 0] cb 53)
  replace HB := Lib.hid (xah HB.out HB67.out)
  replace HK1 := Lib.hid (xam HK1.out HB67.out)
  replace HK3 := Lib.hid (xam HK3.out HB67.out)
  replace HK4 := Lib.hid (xam HK4.out HB67.out)
  replace HT := Lib.hid (hTP.out ct _ _ HT.out HB67.out)
  replace HA4 := Lib.hid (hAP.out ca _ _ HA4.out HB67.out)
  have HA6 := Lib.hid (hAP.out cb _ _ hcb HB67.out)
  clear hb hcb hH1 hAs
  go_wp2_with ((with_reducible refine xay (t := 53) (p := 6) rfl ?_); (refine wpList_store_row rfl 53 (.tmp 6) (.tmp 20) rfl v6.heap.size cb rfl rfl 53 #[.string ⟨#[]⟩, .slice none 0 0] HZ.out hib (by rw [hbs]; rfl) hbo ?_))
  generalize (v6.alloc (.cells #[.string ⟨#[]⟩, .slice none 0 0] 53 (0, 0))).setRow v6.heap.size cb = v7 at *
  generalize v6.heap.size = g6 at *
  clear HB67 HZ
  go_wp2_with fail
  refine start_ (n := 28) (S := fun w' => w'.heap[w.heap.size]? = some (.cells cx 67 (0, 0)) ∧ w'.heap[g3]? = some (.cells ct 67 (0, 0)) ∧ w'.heap[g4]? = some (.cells ca 53 (0, 0)) ∧ w'.heap[g6]? = some (.cells cb 53 (0, 0)) ∧ Hid (Below v7.heap.size v7 w')) (ds := []) #[false, false, false, false, false, false, false, false, false, false, false, false, false, false, false, false, false, false, false, false, false, false, false, false, false, false, false, false] (by kernel_rfl) rfl rfl ⟨HK1.out, HK3.out, HK4.out, HK6.out, (Lib.hid (xbl (Below.refl _ _)))⟩ (fun hHeld => ?_)
  refine take_ (i := 0) (N := some 22) (v := ?_) (a' := ?_) #[true, false, false, false, false, false, false, false, false, false, false, false, false, false, false, false, false, false, false, false, false, false, false, false, false, false, false, false] rfl rfl (by kernel_rfl) (fun _ _ _ h => h) (Or.inl ⟨by rfl, ?_⟩) hHeld ?_ ?_
  rotate_left
  ·rintro w' ⟨s0, s1, s2, s3, s4⟩
   (first | (refine xaw 67 (.tmp 1) ?_ w.heap.size ?_ 67 cx _ s0 Tryd.underlying67 rfl hix <;> rfl) | (refine xaw 67 (.tmp 3) ?_ g3 ?_ 67 ct _ s1 Tryd.underlying67 rfl hit <;> rfl) | (refine xaw 53 (.tmp 4) ?_ g4 ?_ 53 ca _ s2 Tryd.underlying53 rfl hia <;> rfl) | (refine xaw 53 (.tmp 6) ?_ g6 ?_ 53 cb _ s3 Tryd.underlying53 rfl hib <;> rfl))
  rotate_left
  ·simp only [Act.put, sI, sZ, sS, i64_w, i32_w]
   rfl
  refine take_ (i := 2) (N := some 24) (v := ?_) (a' := ?_) #[true, false, true, false, false, false, false, false, false, false, false, false, false, false, false, false, false, false, false, false, false, false, false, false, false, false, false, false] rfl rfl (by kernel_rfl) (fun _ _ _ h => h) (Or.inl ⟨by rfl, ?_⟩) hHeld ?_ ?_
  rotate_left
  ·rintro w' ⟨s0, s1, s2, s3, s4⟩
   (first | (refine xaw 67 (.tmp 1) ?_ w.heap.size ?_ 67 cx _ s0 Tryd.underlying67 rfl hix <;> rfl) | (refine xaw 67 (.tmp 3) ?_ g3 ?_ 67 ct _ s1 Tryd.underlying67 rfl hit <;> rfl) | (refine xaw 53 (.tmp 4) ?_ g4 ?_ 53 ca _ s2 Tryd.underlying53 rfl hia <;> rfl) | (refine xaw 53 (.tmp 6) ?_ g6 ?_ 53 cb _ s3 Tryd.underlying53 rfl hib <;> rfl))
  rotate_left
  ·simp only [Act.put, sI, sZ, sS, i64_w, i32_w]
   rfl
  refine one_ (i := 1) (N := some 23) #[true, true, true, false, false, false, false, false, false, false, false, false, false, false, false, false, false, false, false, false, false, false, false, false, false, false, false, false] rfl rfl (by kernel_rfl) (by decide) (fun K hK => ?_)
  obtain ⟨s0, s1, s2, s3, s4⟩ := hHeld
  refine goes_ Tryd.func30 (by kernel_rfl) rfl #[.agg ct] (by rfl) rfl rfl (by simp only [List.map_toArray, List.map_cons, List.map_nil]; rfl) ?_
  with_reducible refine (hC1.out (by simp) ct _ (hTP.out ct v7 _ HT.out s4.out) (xah HB.out s4.out)).mono ?_
  rintro ee w4 ⟨rfl, hb⟩
  refine ⟨_, rfl, ?_⟩
  refine hK.out _ _ ⟨(xam s0 hb), (xam s1 hb), (xam s2 hb), (xam s3 hb), (Lib.hid (xah s4.out hb))⟩ (fun hHeld => ?_)
  clear hK K
  refine norm_ (a' := ?_) ?_ ?_
  rotate_left
  ·show Act.put _ (some 23) _ = _
   simp only [Act.put, sI, sZ, sS, i64_w, i32_w]
   rfl
  refine one_ (i := 3) (N := some 25) #[true, true, true, true, false, false, false, false, false, false, false, false, false, false, false, false, false, false, false, false, false, false, false, false, false, false, false, false] rfl rfl (by kernel_rfl) (by decide) (fun K hK => ?_)
  obtain ⟨s0, s1, s2, s3, s4⟩ := hHeld
  refine goes_ Tryd.func31 (by kernel_rfl) rfl #[.agg cx] (by rfl) rfl rfl (by simp only [List.map_toArray, List.map_cons, List.map_nil]; rfl) ?_
  with_reducible refine (hC2.out (by simp) _ (xah HB.out s4.out)).mono ?_
  rintro ee w5 ⟨rfl, hb⟩
  refine ⟨_, rfl, ?_⟩
  refine hK.out _ _ ⟨(xam s0 hb), (xam s1 hb), (xam s2 hb), (xam s3 hb), (Lib.hid (xah s4.out hb))⟩ (fun hHeld => ?_)
  clear hK K
  refine norm_ (a' := ?_) ?_ ?_
  rotate_left
  ·show Act.put _ (some 25) _ = _
   simp only [Act.put, sI, sZ, sS, i64_w, i32_w]
   rfl
  refine pure_ (i := 4) (N := some 26) (v := ?_) (a' := ?_) #[true, true, true, true, true, false, false, false, false, false, false, false, false, false, false, false, false, false, false, false, false, false, false, false, false, false, false, false] rfl rfl (by kernel_rfl) (fun _ _ _ h => h) (Or.inl ⟨by rfl, ?_⟩) ?_ ?_
  rotate_left
  ·intro w'
   go_simp
   with_reducible rfl
  rotate_left
  ·simp only [Act.put, sI, sZ, sS, i64_w, i32_w]
   rfl
  refine pure_ (i := 5) (N := some 27) (v := ?_) (a' := ?_) #[true, true, true, true, true, true, false, false, false, false, false, false, false, false, false, false, false, false, false, false, false, false, false, false, false, false, false, false] rfl rfl (by kernel_rfl) (fun _ _ _ h => h) (Or.inl ⟨by rfl, ?_⟩) ?_ ?_
  rotate_left
  ·intro w'
   go_simp
   with_reducible rfl
  rotate_left
  ·simp only [Act.put, sI, sZ, sS, i64_w, i32_w]
   rfl
  refine take_ (i := 6) (N := some 28) (v := ?_) (a' := ?_) #[true, true, true, true, true, true, true, false, false, false, false, false, false, false, false, false, false, false, false, false, false, false, false, false, false, false, false, false] rfl rfl (by kernel_rfl) (fun _ _ _ h => h) (Or.inl ⟨by rfl, ?_⟩) hHeld ?_ ?_
  rotate_left
  ·rintro w' ⟨s0, s1, s2, s3, s4⟩
   (first | (refine xaw 67 (.tmp 1) ?_ w.heap.size ?_ 67 cx _ s0 Tryd.underlying67 rfl hix <;> rfl) | (refine xaw 67 (.tmp 3) ?_ g3 ?_ 67 ct _ s1 Tryd.underlying67 rfl hit <;> rfl) | (refine xaw 53 (.tmp 4) ?_ g4 ?_ 53 ca _ s2 Tryd.underlying53 rfl hia <;> rfl) | (refine xaw 53 (.tmp 6) ?_ g6 ?_ 53 cb _ s3 Tryd.underlying53 rfl hib <;> rfl))
  rotate_left
  ·simp only [Act.put, sI, sZ, sS, i64_w, i32_w]
   rfl
  refine take_ (i := 8) (N := some 30) (v := ?_) (a' := ?_) #[true, true, true, true, true, true, true, false, true, false, false, false, false, false, false, false, false, false, false, false, false, false, false, false, false, false, false, false] rfl rfl (by kernel_rfl) (fun _ _ _ h => h) (Or.inl ⟨by rfl, ?_⟩) hHeld ?_ ?_
  rotate_left
  ·rintro w' ⟨s0, s1, s2, s3, s4⟩
   (first | (refine xaw 67 (.tmp 1) ?_ w.heap.size ?_ 67 cx _ s0 Tryd.underlying67 rfl hix <;> rfl) | (refine xaw 67 (.tmp 3) ?_ g3 ?_ 67 ct _ s1 Tryd.underlying67 rfl hit <;> rfl) | (refine xaw 53 (.tmp 4) ?_ g4 ?_ 53 ca _ s2 Tryd.underlying53 rfl hia <;> rfl) | (refine xaw 53 (.tmp 6) ?_ g6 ?_ 53 cb _ s3 Tryd.underlying53 rfl hib <;> rfl))
  rotate_left
  ·simp only [Act.put, sI, sZ, sS, i64_w, i32_w]
   rfl
  refine one_ (i := 7) (N := some 29) #[true, true, true, true, true, true, true, true, true, false, false, false, false, false, false, false, false, false, false, false, false, false, false, false, false, false, false, false] rfl rfl (by kernel_rfl) (by decide) (fun K hK => ?_)
  obtain ⟨s0, s1, s2, s3, s4⟩ := hHeld
  refine goes_ Tryd.func32 (by kernel_rfl) rfl #[.agg ct] (by rfl) rfl rfl (by simp only [List.map_toArray, List.map_cons, List.map_nil]; rfl) ?_
  with_reducible refine (hV1.out (by simp) ct _ (hTP.out ct v7 _ HT.out s4.out) (xah HB.out s4.out)).mono ?_
  rintro ee w6 ⟨y1, rfl, hy1, hb⟩
  refine ⟨_, rfl, ?_⟩
  refine hK.out _ _ ⟨(xam s0 hb), (xam s1 hb), (xam s2 hb), (xam s3 hb), (Lib.hid (xah s4.out hb))⟩ (fun hHeld => ?_)
  clear hK K
  refine norm_ (a' := ?_) ?_ ?_
  rotate_left
  ·show Act.put _ (some 29) _ = _
   simp only [Act.put, sI, sZ, sS, i64_w, i32_w]
   rfl
  refine one_ (i := 9) (N := some 31) #[true, true, true, true, true, true, true, true, true, true, false, false, false, false, false, false, false, false, false, false, false, false, false, false, false, false, false, false] rfl rfl (by kernel_rfl) (by decide) (fun K hK => ?_)
  obtain ⟨s0, s1, s2, s3, s4⟩ := hHeld
  refine goes_ Tryd.func33 (by kernel_rfl) rfl #[.agg cx] (by rfl) rfl rfl (by simp only [List.map_toArray, List.map_cons, List.map_nil]; rfl) ?_
  with_reducible refine (hV2.out (by simp) _ (xah HB.out s4.out)).mono ?_
  rintro ee w7 ⟨y2, rfl, hy2, hb⟩
  replace hy1 := hVP.out _ _ _ hy1 hb
  refine ⟨_, rfl, ?_⟩
  refine hK.out _ _ ⟨(xam s0 hb), (xam s1 hb), (xam s2 hb), (xam s3 hb), (Lib.hid (xah s4.out hb))⟩ (fun hHeld => ?_)
  clear hK K
  refine norm_ (a' := ?_) ?_ ?_
  rotate_left
  ·show Act.put _ (some 31) _ = _
   simp only [Act.put, sI, sZ, sS, i64_w, i32_w]
   rfl
  refine one_ (i := 10) (N := some 32) #[true, true, true, true, true, true, true, true, true, true, true, false, false, false, false, false, false, false, false, false, false, false, false, false, false, false, false, false] rfl rfl (by kernel_rfl) (by decide) (fun K hK => ?_)
  obtain ⟨s0, s1, s2, s3, s4⟩ := hHeld
  refine goes_ Tryd.func22 (by kernel_rfl) rfl #[y1, y2] (by rfl) rfl rfl (by simp only [List.map_toArray, List.map_cons, List.map_nil]; rfl) ?_
  with_reducible refine (hS.out (by simp) y1 y2 _ hy1 hy2).mono ?_
  rintro ee w8 ⟨rfl, hb⟩
  refine ⟨_, rfl, ?_⟩
  refine hK.out _ _ ⟨(xam s0 hb), (xam s1 hb), (xam s2 hb), (xam s3 hb), (Lib.hid (xah s4.out hb))⟩ (fun hHeld => ?_)
  clear hK K
  refine norm_ (a' := ?_) ?_ ?_
  rotate_left
  ·show Act.put _ (some 32) _ = _
   simp only [Act.put, sI, sZ, sS, i64_w, i32_w]
   rfl
  refine pure_ (i := 11) (N := some 33) (v := ?_) (a' := ?_) #[true, true, true, true, true, true, true, true, true, true, true, true, false, false, false, false, false, false, false, false, false, false, false, false, false, false, false, false] rfl rfl (by kernel_rfl) (fun _ _ _ h => h) (Or.inl ⟨by rfl, ?_⟩) ?_ ?_
  rotate_left
  ·intro w'
   go_simp
   with_reducible rfl
  rotate_left
  ·simp only [Act.put, sI, sZ, sS, i64_w, i32_w]
   rfl
  refine pure_ (i := 12) (N := some 34) (v := ?_) (a' := ?_) #[true, true, true, true, true, true, true, true, true, true, true, true, true, false, false, false, false, false, false, false, false, false, false, false, false, false, false, false] rfl rfl (by kernel_rfl) (fun _ _ _ h => h) (Or.inl ⟨by rfl, ?_⟩) ?_ ?_
  rotate_left
  ·intro w'
   go_simp
   with_reducible rfl
  rotate_left
  ·simp only [Act.put, sI, sZ, sS, i64_w, i32_w]
   rfl
  refine pure_ (i := 13) (N := some 35) (v := ?_) (a' := ?_) #[true, true, true, true, true, true, true, true, true, true, true, true, true, true, false, false, false, false, false, false, false, false, false, false, false, false, false, false] rfl rfl (by kernel_rfl) (fun _ _ _ h => h) (Or.inl ⟨by rfl, ?_⟩) ?_ ?_
  rotate_left
  ·intro w'
   go_simp
   with_reducible rfl
  rotate_left
  ·simp only [Act.put, sI, sZ, sS, i64_w, i32_w]
   rfl
  refine pure_ (i := 14) (N := some 36) (v := ?_) (a' := ?_) #[true, true, true, true, true, true, true, true, true, true, true, true, true, true, true, false, false, false, false, false, false, false, false, false, false, false, false, false] rfl rfl (by kernel_rfl) (fun _ _ _ h => h) (Or.inl ⟨by rfl, ?_⟩) ?_ ?_
  rotate_left
  ·intro w'
   go_simp
   with_reducible rfl
  rotate_left
  ·simp only [Act.put, sI, sZ, sS, i64_w, i32_w]
   rfl
  refine pure_ (i := 15) (N := some 37) (v := ?_) (a' := ?_) #[true, true, true, true, true, true, true, true, true, true, true, true, true, true, true, true, false, false, false, false, false, false, false, false, false, false, false, false] rfl rfl (by kernel_rfl) (fun _ _ _ h => h) (Or.inl ⟨by rfl, ?_⟩) ?_ ?_
  rotate_left
  ·intro w'
   go_simp
   with_reducible rfl
  rotate_left
  ·simp only [Act.put, sI, sZ, sS, i64_w, i32_w]
   rfl
  refine pure_ (i := 16) (N := some 38) (v := ?_) (a' := ?_) #[true, true, true, true, true, true, true, true, true, true, true, true, true, true, true, true, true, false, false, false, false, false, false, false, false, false, false, false] rfl rfl (by kernel_rfl) (fun _ _ _ h => h) (Or.inl ⟨by rfl, ?_⟩) ?_ ?_
  rotate_left
  ·intro w'
   go_simp
   with_reducible rfl
  rotate_left
  ·simp only [Act.put, sI, sZ, sS, i64_w, i32_w]
   rfl
  refine pure_ (i := 17) (N := some 39) (v := ?_) (a' := ?_) #[true, true, true, true, true, true, true, true, true, true, true, true, true, true, true, true, true, true, false, false, false, false, false, false, false, false, false, false] rfl rfl (by kernel_rfl) (fun _ _ _ h => h) (Or.inl ⟨by rfl, ?_⟩) ?_ ?_
  rotate_left
  ·intro w'
   go_simp
   with_reducible rfl
  rotate_left
  ·simp only [Act.put, sI, sZ, sS, i64_w, i32_w]
   rfl
  refine take_ (i := 18) (N := some 40) (v := ?_) (a' := ?_) #[true, true, true, true, true, true, true, true, true, true, true, true, true, true, true, true, true, true, true, false, false, false, false, false, false, false, false, false] rfl rfl (by kernel_rfl) (fun _ _ _ h => h) (Or.inl ⟨by rfl, ?_⟩) hHeld ?_ ?_
  rotate_left
  ·rintro w' ⟨s0, s1, s2, s3, s4⟩
   (first | (refine xaw 67 (.tmp 1) ?_ w.heap.size ?_ 67 cx _ s0 Tryd.underlying67 rfl hix <;> rfl) | (refine xaw 67 (.tmp 3) ?_ g3 ?_ 67 ct _ s1 Tryd.underlying67 rfl hit <;> rfl) | (refine xaw 53 (.tmp 4) ?_ g4 ?_ 53 ca _ s2 Tryd.underlying53 rfl hia <;> rfl) | (refine xaw 53 (.tmp 6) ?_ g6 ?_ 53 cb _ s3 Tryd.underlying53 rfl hib <;> rfl))
  rotate_left
  ·simp only [Act.put, sI, sZ, sS, i64_w, i32_w]
   rfl
  refine take_ (i := 19) (N := some 41) (v := ?_) (a' := ?_) #[true, true, true, true, true, true, true, true, true, true, true, true, true, true, true, true, true, true, true, true, false, false, false, false, false, false, false, false] rfl rfl (by kernel_rfl) (fun _ _ _ h => h) (Or.inl ⟨by rfl, ?_⟩) hHeld ?_ ?_
  rotate_left
  ·rintro w' ⟨s0, s1, s2, s3, s4⟩
   (first | (refine xaw 67 (.tmp 1) ?_ w.heap.size ?_ 67 cx _ s0 Tryd.underlying67 rfl hix <;> rfl) | (refine xaw 67 (.tmp 3) ?_ g3 ?_ 67 ct _ s1 Tryd.underlying67 rfl hit <;> rfl) | (refine xaw 53 (.tmp 4) ?_ g4 ?_ 53 ca _ s2 Tryd.underlying53 rfl hia <;> rfl) | (refine xaw 53 (.tmp 6) ?_ g6 ?_ 53 cb _ s3 Tryd.underlying53 rfl hib <;> rfl))
  rotate_left
  ·simp only [Act.put, sI, sZ, sS, i64_w, i32_w]
   rfl
  refine one_ (i := 20) (N := some 42) #[true, true, true, true, true, true, true, true, true, true, true, true, true, true, true, true, true, true, true, true, true, false, false, false, false, false, false, false] rfl rfl (by kernel_rfl) (by decide) (fun K hK => ?_)
  obtain ⟨s0, s1, s2, s3, s4⟩ := hHeld
  refine goes_ Tryd.func34 (by kernel_rfl) rfl #[.agg cb, .agg ca] (by rfl) rfl rfl (by simp only [List.map_toArray, List.map_cons, List.map_nil]; rfl) ?_
  with_reducible refine (hA.out (by simp) cb ca _ (hAP.out cb v7 _ HA6.out s4.out) (hAP.out ca v7 _ HA4.out s4.out)).mono ?_
  rintro ee w9 ⟨rfl, hb⟩
  refine ⟨_, rfl, ?_⟩
  refine hK.out _ _ ⟨(xam s0 hb), (xam s1 hb), (xam s2 hb), (xam s3 hb), (Lib.hid (xah s4.out hb))⟩ (fun hHeld => ?_)
  clear hK K
  refine norm_ (a' := ?_) ?_ ?_
  rotate_left
  ·show Act.put _ (some 42) _ = _
   simp only [Act.put, sI, sZ, sS, i64_w, i32_w]
   rfl
  refine pure_ (i := 21) (N := some 43) (v := ?_) (a' := ?_) #[true, true, true, true, true, true, true, true, true, true, true, true, true, true, true, true, true, true, true, true, true, true, false, false, false, false, false, false] rfl rfl (by kernel_rfl) (fun _ _ _ h => h) (Or.inl ⟨by rfl, ?_⟩) ?_ ?_
  rotate_left
  ·intro w'
   go_simp
   with_reducible rfl
  rotate_left
  ·simp only [Act.put, sI, sZ, sS, i64_w, i32_w]
   rfl
  refine pure_ (i := 22) (N := some 44) (v := ?_) (a' := ?_) #[true, true, true, true, true, true, true, true, true, true, true, true, true, true, true, true, true, true, true, true, true, true, true, false, false, false, false, false] rfl rfl (by kernel_rfl) (fun _ _ _ h => h) (Or.inl ⟨by rfl, ?_⟩) ?_ ?_
  rotate_left
  ·intro w'
   go_simp
   with_reducible rfl
  rotate_left
  ·simp only [Act.put, sI, sZ, sS, i64_w, i32_w]
   rfl
  refine take_ (i := 23) (N := some 45) (v := ?_) (a' := ?_) #[true, true, true, true, true, true, true, true, true, true, true, true, true, true, true, true, true, true, true, true, true, true, true, true, false, false, false, false] rfl rfl (by kernel_rfl) (fun _ _ _ h => h) (Or.inl ⟨by rfl, ?_⟩) hHeld ?_ ?_
  rotate_left
  ·rintro w' ⟨s0, s1, s2, s3, s4⟩
   (first | (refine xaw 67 (.tmp 1) ?_ w.heap.size ?_ 67 cx _ s0 Tryd.underlying67 rfl hix <;> rfl) | (refine xaw 67 (.tmp 3) ?_ g3 ?_ 67 ct _ s1 Tryd.underlying67 rfl hit <;> rfl) | (refine xaw 53 (.tmp 4) ?_ g4 ?_ 53 ca _ s2 Tryd.underlying53 rfl hia <;> rfl) | (refine xaw 53 (.tmp 6) ?_ g6 ?_ 53 cb _ s3 Tryd.underlying53 rfl hib <;> rfl))
  rotate_left
  ·simp only [Act.put, sI, sZ, sS, i64_w, i32_w]
   rfl
  refine take_ (i := 24) (N := some 46) (v := ?_) (a' := ?_) #[true, true, true, true, true, true, true, true, true, true, true, true, true, true, true, true, true, true, true, true, true, true, true, true, true, false, false, false] rfl rfl (by kernel_rfl) (fun _ _ _ h => h) (Or.inl ⟨by rfl, ?_⟩) hHeld ?_ ?_
  rotate_left
  ·rintro w' ⟨s0, s1, s2, s3, s4⟩
   (first | (refine xaw 67 (.tmp 1) ?_ w.heap.size ?_ 67 cx _ s0 Tryd.underlying67 rfl hix <;> rfl) | (refine xaw 67 (.tmp 3) ?_ g3 ?_ 67 ct _ s1 Tryd.underlying67 rfl hit <;> rfl) | (refine xaw 53 (.tmp 4) ?_ g4 ?_ 53 ca _ s2 Tryd.underlying53 rfl hia <;> rfl) | (refine xaw 53 (.tmp 6) ?_ g6 ?_ 53 cb _ s3 Tryd.underlying53 rfl hib <;> rfl))
  rotate_left
  ·simp only [Act.put, sI, sZ, sS, i64_w, i32_w]
   rfl
  refine one_ (i := 25) (N := some 47) #[true, true, true, true, true, true, true, true, true, true, true, true, true, true, true, true, true, true, true, true, true, true, true, true, true, true, false, false] rfl rfl (by kernel_rfl) (by decide) (fun K hK => ?_)
  obtain ⟨s0, s1, s2, s3, s4⟩ := hHeld
  refine goes_ Tryd.func35 (by kernel_rfl) rfl #[.agg ct, .agg cx] (by rfl) rfl rfl (by simp only [List.map_toArray, List.map_cons, List.map_nil]; rfl) ?_
  with_reducible refine (hL.out (by simp) ct _ (hTP.out ct v7 _ HT.out s4.out) (xah HB.out s4.out)).mono ?_
  rintro ee w10 ⟨rfl, hb⟩
  refine ⟨_, rfl, ?_⟩
  refine hK.out _ _ ⟨(xam s0 hb), (xam s1 hb), (xam s2 hb), (xam s3 hb), (Lib.hid (xah s4.out hb))⟩ (fun hHeld => ?_)
  clear hK K
  refine norm_ (a' := ?_) ?_ ?_
  rotate_left
  ·show Act.put _ (some 47) _ = _
   simp only [Act.put, sI, sZ, sS, i64_w, i32_w]
   rfl
  refine pure_ (i := 26) (N := some 48) (v := ?_) (a' := ?_) #[true, true, true, true, true, true, true, true, true, true, true, true, true, true, true, true, true, true, true, true, true, true, true, true, true, true, true, false] rfl rfl (by kernel_rfl) (fun _ _ _ h => h) (Or.inl ⟨by rfl, ?_⟩) ?_ ?_
  rotate_left
  ·intro w'
   go_simp
   with_reducible rfl
  rotate_left
  ·simp only [Act.put, sI, sZ, sS, i64_w, i32_w]
   rfl
  refine pure_ (i := 27) (N := some 2) (v := ?_) (a' := ?_) #[true, true, true, true, true, true, true, true, true, true, true, true, true, true, true, true, true, true, true, true, true, true, true, true, true, true, true, true] rfl rfl (by kernel_rfl) (fun _ _ _ h => h) (Or.inl ⟨by rfl, ?_⟩) ?_ ?_
  rotate_left
  ·intro w'
   go_simp
   with_reducible rfl
  rotate_left
  ·simp only [Act.put, sI, sZ, sS, i64_w, i32_w]
   rfl
  refine done_ (by kernel_rfl) ?_
  obtain ⟨_, _, _, _, HB1⟩ := hHeld
  have HB2 := Lib.hid (xah HB.out HB1.out)
  clear HB1
  go_wp2_with fail
  go_ret
  exact ⟨rfl, HB2.out⟩
abbrev FG (x : S125) : Prop := (Lit.int .i8 x.f0).wf = true ∧ FT x.f1
theorem opens_arg (fuel : Nat) : OpensAt Tryd.prog k125 FG 125 fuel :=
 xbi Tryd.underlying125 (by kernel_rfl) (fun n _ => xbj (fun q : Int × S28 => (⟨q.1, q.2⟩ : S125)) (fun _ => rfl) (xbd rfl (by kernel_rfl) (opens_int (by kernel_rfl) n) (opens_last rfl (by kernel_rfl) (opens_term n))))
abbrev FR (x : S67) : Prop := x.f0.size ≤ reachBytes ∧ (x.f1.length * 56 ≤ reachBytes ∧ ∀ a ∈ x.f1, FG a) ∧ (x.f2.length * 216 ≤ reachBytes ∧ ∀ a ∈ x.f2, FL a)
set_option maxRecDepth 100000 in
theorem opens_rule (fuel : Nat) : OpensAt Tryd.prog k67 FR 67 fuel :=
 xbi Tryd.underlying67 (by kernel_rfl) (fun n _ => xbj (fun q : ByteArray × List S125 × List S56 => (⟨q.1, q.2.1, q.2.2⟩ : S67)) (fun _ => rfl) (xbd rfl (by kernel_rfl) (opens_string (by kernel_rfl) n) (xbd rfl (by kernel_rfl) (opens_slice Tryd.underlying65 (by kernel_rfl) (by kernel_rfl) (fun j _ => opens_arg j)) (opens_last rfl (by kernel_rfl) (opens_slice Tryd.underlying58 (by kernel_rfl) (by kernel_rfl) (fun j _ => opens_literal j))))))
def headR (p : ByteArray) (hd : List S125) : ByteArray × List S28 × Bool := if hd.all (fun a => decide (a.f0 = 0)) then (p, hd.map (fun a => a.f1), true) else (⟨#[]⟩, [], false)
theorem refHead_l0 (p : ByteArray) (hd : List S125) (l : List S56) (hl : hd.length ≤ 1000000000) : ∀ (m i : Nat) (acc : List S28), hd.length - i = m → i ≤ hd.length → acc.length + m < 2000000000 →
  Ev (fun k => r4_Head.l0 k (i : Int) p hd l p acc) (if (hd.drop i).all (fun a => decide (a.f0 = 0)) then (p, acc ++ (hd.drop i).map (fun a => a.f1), true) else (⟨#[]⟩, [], false))
 | 0, i, acc, hm, hi, ha => by
  rw [List.drop_eq_nil_of_le (by omega), List.all_nil, if_pos rfl, List.map_nil, List.append_nil]
  refine Ev.of (fun k => ?_)
  rw [r4_Head.l0, if_neg (by omega)]
 | m + 1, i, acc, hm, hi, ha => by
  have hlt : i < hd.length := by omega
  have e : xaq hd (i : Int) = hd[i] := by rw [xaq, List.getD_eq_getElem?_getD, Int.toNat_natCast, List.getElem?_eq_getElem hlt]; rfl
  have ih := refHead_l0 p hd l hl m (i + 1) (acc ++ [hd[i].f1]) (by omega) (by omega) (by rw [List.length_append, List.length_singleton]; omega)
  rw [List.drop_eq_getElem_cons hlt, List.all_cons, List.map_cons, show acc ++ hd[i].f1 :: (hd.drop (i + 1)).map (fun a => a.f1) = acc ++ [hd[i].f1] ++ (hd.drop (i + 1)).map (fun a => a.f1) by simp]
  by_cases h : hd[i].f0 = 0
  ·rw [decide_eq_true h, Bool.true_and]
   refine ih.step (fun k => ?_)
   rw [r4_Head.l0, if_pos (by omega), if_pos (by omega), e, if_pos h, if_pos (by omega), eta_term, w64 (by omega) (by omega)]
   rfl
  ·rw [decide_eq_false h, Bool.false_and, if_neg (by simp)]
   refine Ev.of (fun k => ?_)
   rw [r4_Head.l0, if_pos (by omega), if_pos (by omega), e, if_neg h]
theorem termHead_l0 (p : ByteArray) (hd : List S125) (hl : hd.length ≤ 1000000000) : ∀ (m i : Nat) (acc : List S28), hd.length - i = m → i ≤ hd.length → acc.length + m < 2000000000 →
  Ev (fun k => term_Head.l0 k hd (hd.length : Int) (i : Int) p acc) (if (hd.drop i).all (fun a => decide (a.f0 = 0)) then (p, acc ++ (hd.drop i).map (fun a => a.f1), true) else (⟨#[]⟩, [], false))
 | 0, i, acc, hm, hi, ha => by
  rw [List.drop_eq_nil_of_le (by omega), List.all_nil, if_pos rfl, List.map_nil, List.append_nil]
  refine Ev.of (fun k => ?_)
  rw [term_Head.l0, if_neg (by omega)]
 | m + 1, i, acc, hm, hi, ha => by
  have hlt : i < hd.length := by omega
  have e : xaq hd (i : Int) = hd[i] := by rw [xaq, List.getD_eq_getElem?_getD, Int.toNat_natCast, List.getElem?_eq_getElem hlt]; rfl
  have ih := termHead_l0 p hd hl m (i + 1) (acc ++ [hd[i].f1]) (by omega) (by omega) (by rw [List.length_append, List.length_singleton]; omega)
  rw [List.drop_eq_getElem_cons hlt, List.all_cons, List.map_cons, show acc ++ hd[i].f1 :: (hd.drop (i + 1)).map (fun a => a.f1) = acc ++ [hd[i].f1] ++ (hd.drop (i + 1)).map (fun a => a.f1) by simp]
  by_cases h : hd[i].f0 = 0
  ·rw [decide_eq_true h, Bool.true_and]
   refine ih.step (fun k => ?_)
   rw [term_Head.l0, if_pos (by omega), if_pos (by omega), if_pos (by omega), e, if_pos h, if_pos (by omega), eta_term, w64 (by omega) (by omega)]
   rfl
  ·rw [decide_eq_false h, Bool.false_and, if_neg (by simp)]
   refine Ev.of (fun k => ?_)
   rw [term_Head.l0, if_pos (by omega), if_pos (by omega), if_pos (by omega), e, if_neg h]
theorem refHead_ev (x : S67) (hl : x.f1.length ≤ 1000000000) : Ev (fun k => r4_Head.f k x.f0 x.f1 x.f2) (headR x.f0 x.f1) := by
 have h := refHead_l0 x.f0 x.f1 x.f2 hl _ 0 [] rfl (Nat.zero_le _) (by simp only [List.length_nil]; omega)
 rw [List.drop_zero, List.nil_append] at h
 exact h
theorem termHead_ev (x : S67) (hl : x.f1.length ≤ 1000000000) : Ev (fun k => term_Head.f k x.f0 x.f1 x.f2) (headR x.f0 x.f1) := by
 have h := termHead_l0 x.f0 x.f1 hl _ 0 [] rfl (Nat.zero_le _) (by simp only [List.length_nil]; omega)
 rw [List.drop_zero, List.nil_append] at h
 exact h
theorem sameTerms_l0 (l : List S28) (hl : l.length < 1000000000000) : ∀ (m i : Nat), l.length - i = m → i ≤ l.length → Ev (fun k => w1_SameTerms.l0 k l l (i : Int)) true
 | 0, i, hm, hi => Ev.of (fun k => by rw [w1_SameTerms.l0, if_neg (by omega)])
 | m + 1, i, hm, hi => (sameTerms_l0 l hl m (i + 1) (by omega) (by omega)).step (fun k => by
   rw [w1_SameTerms.l0, if_pos (by omega), if_pos (by omega), if_pos (by omega), if_neg (by simp), w64 (by omega) (by omega)]
   rfl)
theorem sameTerms_ev (l : List S28) (hl : l.length < 1000000000000) : Ev (fun k => w1_SameTerms.f k l l) true :=
 (sameTerms_l0 l hl _ 0 rfl (Nat.zero_le _)).cong (fun k => by rw [w1_SameTerms.f, if_pos rfl]; rfl)
theorem sameAtom_ev (p : ByteArray) (l : List S28) (hl : l.length < 1000000000000) : Ev (fun k => w1_SameAtom.f k p l p l) true := by
 have h := Ev.of_bind (g := fun t : Bool => some t) (sameTerms_ev l hl) rfl
 exact h.cong (fun k => by rw [w1_SameAtom.f, if_pos rfl])
theorem headR_len (p : ByteArray) (hd : List S125) : (headR p hd).2.1.length ≤ hd.length := by rw [headR]; split <;> simp
theorem litsParts_mem {l : List S56} {x : S56} (h : x ∈ l) : (litTermsL x).length < litsParts l ∧ l.length ≤ litsParts l := by
 induction l with
 | nil => simp at h
 | cons y r ih =>
  have hr : r.length ≤ litsParts r := by
   clear ih h
   induction r with
   | nil => simp
   | cons z r ih => simp only [litsParts, List.map_cons, List.sum_cons, List.length_cons] at ih ⊢; omega
  have e : litsParts (y :: r) = 1 + (litTermsL y).length + litsParts r := by simp [litsParts]
  rw [e, List.length_cons]
  rcases List.mem_cons.1 h with rfl | h
  ·omega
  ·have := ih h; omega
theorem litsParts_flat (l : List S56) : l.length + (l.flatMap litTermsL).length = litsParts l := by
 induction l with
 | nil => simp [litsParts]
 | cons y r ih =>
  have e : litsParts (y :: r) = 1 + (litTermsL y).length + litsParts r := by simp [litsParts]
  rw [e, List.flatMap_cons, List.length_append, List.length_cons]
  omega
theorem FR_terms {x : S67} (h : FR x) : ∀ t ∈ ruleTermsL x, FT t := by
 obtain ⟨_, ⟨_, h1⟩, _, h2⟩ := h
 intro t ht
 rw [ruleTermsL] at ht
 rcases List.mem_append.1 ht with ht | ht
 ·obtain ⟨a, ha, rfl⟩ := List.mem_map.1 ht
  exact (h1 a ha).2
 ·obtain ⟨y, hy, hm⟩ := List.mem_flatMap.1 ht
  exact FL_terms (h2 y hy) t hm
theorem rule_bound (x : S67) (h : FR x) : ∃ b : Bool, Ev (fun k => w1_BeyondRule.f k x.f0 x.f1 x.f2) b ∧
  (b = false → x.f1.length < 2000000 ∧ x.f2.length < 2000000 ∧ (∀ y ∈ x.f2, (litTermsL y).length < 2000000) ∧ (ruleTermsL x).length < 2000000 ∧ varsFit (ruleTermsL x) = true) := by
 have h' := h
 obtain ⟨_, ⟨hh, _⟩, hb, h2⟩ := h'
 have hh' : x.f1.length * 56 ≤ 140737488351232 := hh
 have hb' : x.f2.length * 216 ≤ 140737488351232 := hb
 obtain ⟨r, hr, hr2⟩ := ruleParts_ev 1048576 (Int.le_refl _) x.f0 x.f1 x.f2 (by omega) (by omega) (fun y hy => FL_short (h2 y hy))
 refine ⟨decide (r > 1048576), Ev.of_bind (g := fun t => some (decide (t > 1048576))) hr rfl, fun hb => ?_⟩
 have hle : r ≤ 1048576 := by have := of_decide_eq_false hb; omega
 have e := hr2 hle
 have hf := litsParts_flat x.f2
 have hl : (ruleTermsL x).length < 2000000 := by rw [ruleTermsL, List.length_append, List.length_map]; omega
 refine ⟨by omega, by omega, fun y hy => ?_, hl, fits_terms (FR_terms h) hl⟩
 have := (litsParts_mem hy).1
 omega
set_option maxHeartbeats 4000000 in
set_option maxRecDepth 100000 in
theorem TermRules_walk (x : S67) (h : FR x) (A1 : Option Addr) (c1 : Nat) (A2 : Option Addr) (c2 : Nat) (w : World) (hr1 : Kd.C k125 w A1 x.f1.length x.f1) (hc1 : x.f1.length ≤ c1) (hr2 : Kd.C k56 w A2 x.f2.length x.f2) (hc2 : x.f2.length ≤ c2) (hT : TabB w) :
  Calls Tryd.prog 5 #[.agg #[.string x.f0, .slice A1 x.f1.length c1, .slice A2 x.f2.length c2]] w fun e w' => e = .returned (.bool true) ∧ Below w.heap.size w w' := by
 obtain ⟨b, hev, hq⟩ := rule_bound x h
 obtain ⟨kb, hkb⟩ := hev.at
 have HT := Lib.hid hT
 have HR1 := Lib.hid hr1
 have HR2 := Lib.hid hr2
 clear hr1 hr2 hT
 have hplain : ∀ {w1 : World} {ct : Array Value}, k67t.K w1 x ct.toList → ∃ B1 d1 B2 d2, ct = #[.string x.f0, .slice B1 x.f1.length d1, .slice B2 x.f2.length d2] ∧ x.f1.length ≤ d1 ∧ Kd.C k125 w1 B1 x.f1.length x.f1 ∧ x.f2.length ≤ d2 ∧ Kd.C k56 w1 B2 x.f2.length x.f2 := by
  intro w1 ct hK
  obtain ⟨B1, d1, B2, d2, he, q1, q2, q3, q4⟩ := k67_open (k67t_plain _ _ _ hK)
  exact ⟨B1, d1, B2, d2, by rw [← Array.toArray_toList (xs := ct), he], q1, q2, q3, q4⟩
 have hlen := headR_len x.f0 x.f1
 refine TermRules_gen #[.string x.f0, .slice A1 x.f1.length c1, .slice A2 x.f2.length c2] rfl w b (headR x.f0 x.f1).2.2 (if ruleB x then 0 else 40) (fun ct w1 => k67t.K w1 x ct.toList)
  (fun ca w1 => k53.K w1 ⟨(headR x.f0 x.f1).1, (headR x.f0 x.f1).2.1⟩ ca.toList) (fun v w1 => ∃ E j, v = .slice E (varsOf (ruleTermsL x)).length j ∧ (varsOf (ruleTermsL x)).length ≤ j ∧ Kd.C Kd.string w1 E (varsOf (ruleTermsL x)).length (varsOf (ruleTermsL x)))
  (Lib.hid ?_) (Lib.hid ?_) (Lib.hid ?_) (Lib.hid ?_) (Lib.hid ?_) (Lib.hid ?_) (Lib.hid ?_) (Lib.hid ?_) (Lib.hid ?_) (Lib.hid ?_) (Lib.hid ?_) (Lib.hid ?_) (Lib.hid ?_) (Lib.hid ?_) (Lib.hid ?_) (Lib.hid ?_)
 ·exact fun ct w1 w2 h hb => k67t.K_below hb h
 ·exact fun ct w1 w2 h hb => k53.K_below hb h
 ·rintro v w1 w2 ⟨E, j, rfl, hj, hE⟩ hb
  exact ⟨E, j, rfl, hj, Kd.C_below hE hb⟩
 ·exact fun ct w1 h => ⟨by have h2 := k67t.K_len h; rw [Array.length_toList] at h2; exact h2, K_ones h⟩
 ·exact fun ct w1 h => ⟨by have h2 := k53.K_len h; rw [Array.length_toList] at h2; exact h2, K_ones h⟩
 ·intro w1 hb
  exact w1_BeyondRule.calls (k := kb) (r := b) (hr0_1 := Kd.C_below HR1.out hb) (hc0_1 := hc1) (hr0_2 := Kd.C_below HR2.out hb) (hc0_2 := hc2) (h := hkb)
 ·intro hb0 w1 hb
  obtain ⟨q1, q2, q3, q4, q5⟩ := hq hb0
  have hE : ∀ k, k < x.f2.length → TwLiteralC (x.f2.getD k z56) := by
   intro k hk
   have hm : x.f2.getD k z56 ∈ x.f2 := by simp [List.getD_eq_getElem?_getD, List.getElem?_eq_getElem hk]
   have hl := q3 _ hm
   generalize x.f2.getD k z56 = y at *
   rw [litTermsL] at hl
   simp only [List.length_append] at hl
   exact TwLiteral_step y (Lib.hid (TwAtom_step y.f1 (by omega))) (Lib.hid (TwExpr_twin y.f3 (by omega))) (Lib.hid (TwExpr_twin y.f4 (by omega)))
  refine (TwRule_step x q1 (Lib.hid (TwLiterals_step x.f2 q2 (Lib.hid hE))) A1 c1 A2 c2 w1 (Kd.C_below HR1.out hb) hc1 (Kd.C_below HR2.out hb) hc2 (HT.out.below hb)).mono ?_
  rintro ee w2 ⟨cs, rfl, hM, hb2⟩
  exact ⟨cs.toArray, rfl, by simpa using k67t.K_of_M hM, hb2⟩
 ·intro hb0 w1 hb
  obtain ⟨q1, q2, q3, q4, q5⟩ := hq hb0
  obtain ⟨kh, hkh⟩ := (refHead_ev x (by omega)).at
  refine (r4_Head.calls (k := kh) (r1 := (headR x.f0 x.f1).1) (r2 := (headR x.f0 x.f1).2.1) (r3 := (headR x.f0 x.f1).2.2) (hr0_1 := Kd.C_below HR1.out hb) (hc0_1 := hc1) (hr0_2 := Kd.C_below HR2.out hb) (hc0_2 := hc2) (h := hkh)).mono ?_
  rintro ee w2 ⟨v, rfl, hR, hb2⟩
  obtain ⟨E, j, rfl, hj, hE⟩ := Kd.R_reads hR
  exact ⟨_, rfl, k53_mk w2 ⟨(headR x.f0 x.f1).1, (headR x.f0 x.f1).2.1⟩ hj hE, hb2⟩
 ·intro hb0 ct w1 hT hb
  obtain ⟨q1, q2, q3, q4, q5⟩ := hq hb0
  obtain ⟨kh, hkh⟩ := (termHead_ev x (by omega)).at
  obtain ⟨B1, d1, B2, d2, rfl, hd1, hD1, hd2, hD2⟩ := hplain hT
  refine (term_Head.calls (k := kh) (r1 := (headR x.f0 x.f1).1) (r2 := (headR x.f0 x.f1).2.1) (r3 := (headR x.f0 x.f1).2.2) (hr0_1 := hD1) (hc0_1 := hd1) (hr0_2 := hD2) (hc0_2 := hd2) (h := hkh)).mono ?_
  rintro ee w2 ⟨v, rfl, hR, hb2⟩
  obtain ⟨E, j, rfl, hj, hE⟩ := Kd.R_reads hR
  exact ⟨_, rfl, k53_mk w2 ⟨(headR x.f0 x.f1).1, (headR x.f0 x.f1).2.1⟩ hj hE, hb2⟩
 ·intro hb0 ct w1 hT hb
  obtain ⟨q1, q2, q3, q4, q5⟩ := hq hb0
  obtain ⟨B1, d1, B2, d2, rfl, hd1, hD1, hd2, hD2⟩ := hplain hT
  exact CheckRule_walk x _ (Lib.hid rfl) (Lib.hid q5) B1 d1 B2 d2 w1 hD1 hd1 hD2 hd2
 ·intro hb0 w1 hb
  obtain ⟨q1, q2, q3, q4, q5⟩ := hq hb0
  obtain ⟨kd, hkd⟩ := (refCheckRule_ev x (by omega) (by omega)).at
  exact r4_CheckRule.calls (k := kd) (hr0_1 := Kd.C_below HR1.out hb) (hc0_1 := hc1) (hr0_2 := Kd.C_below HR2.out hb) (hc0_2 := hc2) (h := hkd)
 ·intro hb0 ct w1 hT hb
  obtain ⟨q1, q2, q3, q4, q5⟩ := hq hb0
  obtain ⟨B1, d1, B2, d2, rfl, hd1, hD1, hd2, hD2⟩ := hplain hT
  refine (term_RuleVars.calls (r := varsOf (ruleTermsL x)) (hr0_1 := hD1) (hc0_1 := hd1) (hr0_2 := hD2) (hc0_2 := hd2) (h := if_pos q5)).mono ?_
  rintro ee w2 ⟨y, rfl, hR, hb2⟩
  obtain ⟨E, j, rfl, hj, hE⟩ := Kd.R_reads hR
  exact ⟨_, rfl, ⟨E, j, rfl, hj, hE⟩, hb2⟩
 ·intro hb0 w1 hb
  obtain ⟨q1, q2, q3, q4, q5⟩ := hq hb0
  obtain ⟨kv, hkv⟩ := (refRuleVars_ev x (by omega) (by omega)).at
  refine (r4_RuleVars.calls (k := kv) (r := varsOf (ruleTermsL x)) (hr0_1 := Kd.C_below HR1.out hb) (hc0_1 := hc1) (hr0_2 := Kd.C_below HR2.out hb) (hc0_2 := hc2) (h := hkv)).mono ?_
  rintro ee w2 ⟨y, rfl, hR, hb2⟩
  obtain ⟨E, j, rfl, hj, hE⟩ := Kd.R_reads hR
  exact ⟨_, rfl, ⟨E, j, rfl, hj, hE⟩, hb2⟩
 ·rintro hb0 v1 v2 w1 ⟨E1, j1, rfl, hj1, hE1⟩ ⟨E2, j2, rfl, hj2, hE2⟩
  obtain ⟨q1, q2, q3, q4, q5⟩ := hq hb0
  have hm := varsOf_len (ruleTermsL x)
  obtain ⟨ks, hks⟩ := (sameTexts_ev (varsOf (ruleTermsL x)) (by omega)).at
  refine (w1_SameTexts.calls (k := ks) (r := true) (hr0 := hE1) (hc0 := hj1) (hr1 := hE2) (hc1 := hj2) (h := hks)).mono ?_
  rintro ee w2 ⟨rfl, hb2⟩
  exact ⟨rfl, hb2.below⟩
 ·rintro hb0 c1 c2 w1 h1 h2
  obtain ⟨q1, q2, q3, q4, q5⟩ := hq hb0
  obtain ⟨E1, j1, he1, hj1, hE1⟩ := k53_open h1
  obtain ⟨E2, j2, he2, hj2, hE2⟩ := k53_open h2
  obtain rfl : c1 = _ := by rw [← Array.toArray_toList (xs := c1), he1]
  obtain rfl : c2 = _ := by rw [← Array.toArray_toList (xs := c2), he2]
  obtain ⟨ks, hks⟩ := (sameAtom_ev (headR x.f0 x.f1).1 (headR x.f0 x.f1).2.1 (by omega)).at
  refine (w1_SameAtom.calls (k := ks) (r := true) (hr0_1 := hE1) (hc0_1 := hj1) (hr1_1 := hE2) (hc1_1 := hj2) (h := hks)).mono ?_
  rintro ee w2 ⟨rfl, hb2⟩
  exact ⟨rfl, hb2⟩
 ·intro hb0 ct w1 hT hb
  obtain ⟨q1, q2, q3, q4, q5⟩ := hq hb0
  obtain ⟨B1, d1, B2, d2, he, hd1, hD1, hd2, hD2⟩ := k67t_open hT
  obtain rfl : ct = _ := by rw [← Array.toArray_toList (xs := ct), he]
  have hE : ∀ k, k < x.f2.length → LeLiteralC (x.f2.getD k z56) := by
   intro k hk
   have hm : x.f2.getD k z56 ∈ x.f2 := by simp [List.getD_eq_getElem?_getD, List.getElem?_eq_getElem hk]
   have hl := q3 _ hm
   generalize x.f2.getD k z56 = y at *
   rw [litTermsL] at hl
   simp only [List.length_append] at hl
   exact LeLiteral_step y (Lib.hid (LeAtom_step y.f1 (by omega))) (Lib.hid (LeExpr_twin y.f3 (by omega))) (Lib.hid (LeExpr_twin y.f4 (by omega)))
  exact LeRule_step x q1 (Lib.hid (LeLiterals_step x.f2 q2 (Lib.hid hE))) B1 d1 B2 d2 A1 c1 A2 c2 w1 hD1 hd1 hD2 hd2 (Kd.C_below HR1.out hb) hc1 (Kd.C_below HR2.out hb) hc2 (HT.out.below hb)
end Go.Proofs.YtllcmggmcogokaaDoor.PAll
end
section
namespace Go.Proofs.YtllcmggmcogokaaDoor.RowTermRules
open Go.ChangeShapes Go.WideShapes Go.ChangeAt Go.RowKit Go.Proofs.YtllcmggmcogokaaDoorW.PrintWords Go.Proofs.YtllcmggmcogokaaDoor.PAll
theorem own : ownKnob Tryd.prog.godebug = none := by kernel_rfl
theorem laidOut : laidOutB Tryd.prog = true := by kernel_rfl
theorem gName : Tryd.prog.globalNamed "internal/strconv.uint64pow10" = some 1 := by kernel_rfl
theorem gType : (Tryd.prog.globals[1]?).map (·.type) = some 191 := by kernel_rfl
theorem cellsB : Tryd.prog.cellsOf 191 = 20 := by kernel_rfl
theorem cellsU : Tryd.prog.cellsOf 184 = 1 := by kernel_rfl
set_option maxRecDepth 100000 in
theorem table {W : World} (h : laidMetH Tryd.prog Rows.termRulesRow.laid W) : TabB W := by
 have h' : laidMet Tryd.prog Rows.termRulesRow.laid W := h
 obtain ⟨ps, ⟨g1, t1, cs1, fuel1, p1, q1, _, _, _, _, ⟨g2, t2, cs2, fuel2, p2, q2, _, _, _, _, ⟨g', t', cs, fuel, p, q, hg', ht', hvar, hd, _, _⟩, _⟩, _⟩, _⟩ := h'
 obtain rfl := Option.some.inj (gName.symm.trans hg')
 obtain rfl := Option.some.inj (gType.symm.trans ht')
 have hd' : DataW.trod (fun _ => ()) Tryd.prog W 0 (fun _ => true) false fuel 191 cs.toList = some (Lib.tabData .u64 Lib.pow10Tab, p) := hd
 unfold TabB Lib.TabIs
 rw [hvar, ← Lib.cells_of_tab Tryd.underlying191 Tryd.underlying184 cellsU cellsB hd']
set_option maxRecDepth 100000 in
theorem contract (H : Type) (enc : TypeId × Value → H) (W : World) (base : Nat) (args : Array Value) (ds gs : List (DataW H)) (before : List MemPlace)
  (hval : ∀ (j : Nat) t v, Tryd.f5.params[j]? = some t → args[j]? = some v → Value.okWide Tryd.prog W .any base t v)
  (hW : DataW.Whole enc Tryd.prog Tryd.f5.params.toList Rows.termRulesSpec.vars false W args.toList ds gs before)
  (hz : (DataW.weightsEach Tryd.prog (Tryd.f5.params.toList ++ Rows.termRulesSpec.plain.varTypes Tryd.prog) (ds ++ gs)).all (· ≤ reachBytes) = true) (hL : laidMetH Tryd.prog Rows.termRulesRow.laid W) :
  Calls Tryd.prog 5 args W fun e W' => ∃ v, e = .returned v ∧ Rows.termRulesSpec.post enc Tryd.prog Tryd.f5 false true false false W args v W' := by
 have hW' := hW
 obtain ⟨p, q, hA0, hV, rfl, hfz, hnd⟩ := hW
 have hA : DataW.TrodAll enc Tryd.prog W 0 (fun _ => true) true Tryd.f5.params.toList args.toList ds p := hA0
 rw [Tryd.params5] at hA hval
 obtain ⟨v0, vs0, d0, ds0, p0, q0, hargs, rfl, rfl, h0, r0⟩ := trodAll_cons hA
 obtain ⟨rfl, rfl, rfl⟩ := trodAll_nil r0
 obtain rfl : args = #[v0] := by cases args; simp_all
 obtain ⟨rfl, rfl⟩ := trodVars_none hV
 obtain ⟨cs, rfl, hsz⟩ := okWide_struct Tryd.underlying67 (hval 0 67 v0 rfl rfl)
 have h0k := h0
 obtain ⟨fuel, hf⟩ := h0
 have hw0 : ∀ n ∈ d0.weights Tryd.prog 67, n ≤ reachBytes := by
  intro n hn
  have := List.all_eq_true.1 hz n (by
   rw [Tryd.params5]
   simp only [List.cons_append, List.nil_append, DataW.weightsEach]
   exact List.mem_append_left _ hn)
  simpa using this
 obtain ⟨x, hK, hF⟩ := opens_rule fuel H enc W cs.toList (d0, p0) hf hw0
 obtain ⟨A1, c1, A2, c2, he, hc1, hr1, hc2, hr2⟩ := k67_open hK
 obtain rfl : cs = _ := by rw [← Array.toArray_toList (xs := cs), he]
 simp only [List.append_nil] at hW'
 refine (TermRules_walk x hF A1 c1 A2 c2 W hr1 hc1 hr2 hc2 (table hL)).mono fun ee W' ⟨he2, hb⟩ => ?_
 subst he2
 have hlt : ∀ y ∈ p0, y.block < W.heap.size := fun y hy => by simpa using hW'.lt y (by simpa using hy)
 exact ⟨_, rfl, ⟨[d0], [], _, [], p0, [], hW', trodAll_mk1 (shut_bool Tryd.underlying4 _), trodAll_mk1 (Below.trod laidOut (by kernel_rfl) (of_decide_eq_true (by kernel_rfl)) h0k hb hlt), rfl, hb.frame _, fun h => by cases h⟩⟩
def db32 : List Int := [0, 1, 28, 2, 29, 14, 24, 3, 30, 22, 20, 15, 25, 17, 4, 8, 31, 27, 13, 23, 21, 19, 16, 7, 26, 12, 18, 6, 11, 5, 10, 9]
def db64 : List Int := [0, 1, 56, 2, 57, 49, 28, 3, 61, 58, 42, 50, 38, 29, 17, 4, 62, 47, 59, 36, 45, 43, 51, 22, 53, 39, 33, 30, 24, 18, 12, 5, 63, 55, 48, 27, 60, 41, 37, 16, 46, 35, 44, 21, 52, 32, 23, 11, 54, 26, 40, 15, 34, 20, 31, 10, 25, 14, 19, 9, 13, 8, 7, 6]
noncomputable def laidHeap (h : Array Obj) : Array Obj :=
 let h1 := h.modify 1 fun
   | .cells _ t frozen => .cells (Lib.pow10Tab.map fun z => Value.int .u64 z).toArray t frozen
   | o => o
 let h2 := h1.modify 2 fun
   | .cells _ t frozen => .cells (db32.map fun z => Value.int .u8 z).toArray t frozen
   | o => o
 h2.modify 3 fun
   | .cells _ t frozen => .cells (db64.map fun z => Value.int .u8 z).toArray t frozen
   | o => o
noncomputable def laidWorld (os : Os) : World :=
 { World.holding Tryd.prog os ⟨#[], #[], []⟩ with heap := laidHeap (World.holding Tryd.prog os ⟨#[], #[], []⟩).heap }
def lit0 : Value := .agg #[.string ⟨#[]⟩, .slice none 0 0, .slice none 0 0]
def dat0 {H : Type} : DataW H := .agg [.lit (.string []), .nil, .nil]
set_option maxRecDepth 100000 in
theorem laid_met (os : Os) : laidMet Tryd.prog Rows.termRulesRow.laid ((laidWorld os).forCall (fun _ _ => 0) ⟨#[], #[lit0], []⟩).memory :=
 laidMet_of_run' 8 (by kernel_rfl) (by kernel_rfl)
set_option maxRecDepth 100000 in
theorem reads (os : Os) {H : Type} (enc : TypeId × Value → H) : ∃ places, DataW.whole enc Tryd.prog ((laidWorld os).forCall (fun _ _ => 0) ⟨#[], #[lit0], []⟩).memory Tryd.f5.params.toList Rows.termRulesSpec.vars false #[lit0].toList 8 = some ([dat0], [], places) :=
 ⟨[], by kernel_rfl⟩
set_option maxRecDepth 100000 in
theorem lifted (os : Os) (started : os.Started) (H : Type) (enc : TypeId × Value → H) (F : Stop.Interp) :
  ReturnsInHanded {} Tryd.checked os 5 .any ((OpenSpec.ofChange Rows.termRulesSpec).preRow enc Tryd.prog Tryd.f5 Rows.termRulesRow.domain false Rows.termRulesRow.laid) (((OpenSpec.ofChange Rows.termRulesSpec).at F).post enc Tryd.prog Tryd.f5 false true false false) := by
 obtain ⟨places, hx⟩ := reads os enc
 refine returnsInHanded_of_row (C := Tryd.checked) (s := OpenSpec.ofChange Rows.termRulesSpec) own started (by kernel_rfl) Tryd.func5
  (witness_row_at (enc := enc) (C := Tryd.checked) false (laidWorld os) #[lit0] rfl (by kernel_rfl) (by kernel_rfl) (by kernel_rfl)
   (OpenSpec.preRow_of_cond 8 hx (by kernel_rfl) (fun k hk => by cases hk) (by kernel_rfl) (laid_met os))) ?_
 intro W base args ds gs before hval hW _ _ hz hL _ _
 exact contract H enc W base args ds gs before hval hW hz hL
theorem said : Rows.TermRulesSaid :=
 OpenClaim.holds_of_cond 5 Tryd.f5 rfl rfl rfl rfl rfl rfl rfl ⟨rfl, rfl, rfl, rfl, rfl⟩ rfl rfl rfl rfl rfl (by kernel_rfl) Tryd.func5 (by kernel_rfl)
  (of_decide_eq_true (by kernel_rfl)) (by unfold Func.isWrapper; first | (rw [if_pos (by decide +kernel)]; kernel_rfl) | (rw [if_neg (by decide +kernel)]; exact ⟨rfl, rfl⟩))
  (fun os started H enc _ F => by rw [OpenClaim.pre_eq_preRow]; exact lifted os started H enc F)
theorem plain (f : FuncId) (fn : Func) (hf : Tryd.pinned.checked.prog.funcNamed "pedigree/pedigreelaw04.TermRules" = some f) (hfn : Tryd.pinned.checked.prog.funcs[f]? = some fn) :
  true = Tryd.pinned.checked.prog.looks [] ∧ ∀ (j : Nat) t, fn.params[j]? = some t → Tryd.pinned.checked.prog.wantsStandIn t = false := by
 obtain rfl : f = 5 := Option.some.inj ((show Tryd.prog.funcNamed "pedigree/pedigreelaw04.TermRules" = some 5 by kernel_rfl).symm.trans hf) |>.symm
 obtain rfl : fn = Tryd.f5 := (Option.some.inj (Tryd.func5.symm.trans hfn)).symm
 refine ⟨by kernel_rfl, fun j t ht => ?_⟩
 rw [Tryd.params5] at ht
 obtain rfl : t = 67 := by simpa using Array.mem_of_getElem? ht
 exact (show Tryd.prog.wantsStandIn 67 = false by kernel_rfl)
theorem card : Rows.TermRulesCardSaid :=
 Claim7.holds_tied_plain_at .later [] _ _ _ _ said (fun _ h => by cases h) (by kernel_rfl) (fun _ h => by cases h) termRules_row_tie rfl ⟨rfl, rfl⟩ (by kernel_rfl) rfl plain (by kernel_rfl)
end Go.Proofs.YtllcmggmcogokaaDoor.RowTermRules
end
