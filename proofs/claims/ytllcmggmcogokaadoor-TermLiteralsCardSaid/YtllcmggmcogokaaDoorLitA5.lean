-- Written by programs of this work and by hand, joined by a program. Lean checks it.
import Derived.Laws.CopyOwn
import Derived.Lib.LaidTab
import Derived.WalkSmall
import Derived.Shelf.Strconv.Itoa1
import Derived.Shelf.Strconv.Itoa0
import Derived.Shelf.LaysM
import Derived.Shelf.Strconv.Itoa2
import Derived.Shelf.Strconv.Itoa3
import Derived.Test.YtllcmggmcogokaaDoorProg
import Derived.Test.YtllcmggmcogokaaDoorLitA4
section
namespace Go.Proofs.YtllcmggmcogokaaDoor.PAll
open Go.RowKit Go.Proofs.YtllcmggmcogokaaDoorW.PrintWords Go.Proofs.YtllcmggmcogokaaDoorW.PrintLast Go.Proofs.YtllcmggmcogokaaDoorW.PrintMore
attribute [local go_sem] max2_int min2_int max_two min_two max_three min_three max_four min_four
set_option linter.unusedVariables false
set_option linter.unusedSimpArgs false
def pedigreeref04_literalTerms.l0 : Nat → List (S28) → Int → Int → ByteArray → List (S28) → Int → Int → ByteArray → Int → Int → ByteArray → List (S31) → Int → ByteArray → Int → Int → ByteArray → List (S31) → Option ((List (S28)))
  | 0, _, _, _, _, _, _, _, _, _, _, _, _, _, _, _, _, _, _ => none
  | k + 1, x0, x5, x297000, x297001, x297002, x297003, x297004, x297005, x297006, x297007, x297008, x297009, x297010, x297011, x297012, x297013, x297014, x297015 => if x5 < (x297002.length : Int) then (if 0 ≤ x5 then (if x0.length < 2932031007402 then (pedigreeref04_literalTerms.l0 k (x0 ++ [(⟨(rd_T28 x297002 x5).f0, (⟨(rd_T28 x297002 x5).f1.f0, (rd_T28 x297002 x5).f1.f1, (rd_T28 x297002 x5).f1.f2⟩ : S26)⟩ : S28)]) (wrap64 (x5 + 1)) x297000 x297001 x297002 x297003 x297004 x297005 x297006 x297007 x297008 x297009 x297010 x297011 x297012 x297013 x297014 x297015) else (none)) else (none)) else ((pedigreeref04_exprTerms.f x0 x297004 x297005 x297006 x297007 x297008 x297009).bind fun t301 => ((pedigreeref04_exprTerms.f t301 x297010 x297011 x297012 x297013 x297014 x297015).bind fun t304 => (some t304)))
def pedigreeref04_literalTerms.f (k : Nat) (l0 : List (S28)) (a1_0 : Int) (a1_1 : ByteArray) (l1_2 : List (S28)) (a1_3 : Int) (a1_4 : Int) (a1_5 : ByteArray) (a1_6 : Int) (a1_7 : Int) (a1_8 : ByteArray) (l1_9 : List (S31)) (a1_10 : Int) (a1_11 : ByteArray) (a1_12 : Int) (a1_13 : Int) (a1_14 : ByteArray) (l1_15 : List (S31)) : Option ((List (S28))) := pedigreeref04_literalTerms.l0 k l0 0 a1_0 a1_1 l1_2 a1_3 a1_4 a1_5 a1_6 a1_7 a1_8 l1_9 a1_10 a1_11 a1_12 a1_13 a1_14 l1_15
theorem pedigreeref04_literalTerms.mono_l : ∀ k, (∀ y0 y1 y2 y3 y4 y5 y6 y7 y8 y9 y10 y11 y12 y13 y14 y15 y16 y17, LeO (pedigreeref04_literalTerms.l0 k y0 y1 y2 y3 y4 y5 y6 y7 y8 y9 y10 y11 y12 y13 y14 y15 y16 y17) (pedigreeref04_literalTerms.l0 (k + 1) y0 y1 y2 y3 y4 y5 y6 y7 y8 y9 y10 y11 y12 y13 y14 y15 y16 y17))
  | 0 => fun _ _ _ _ _ _ _ _ _ _ _ _ _ _ _ _ _ _ r h => by simp [pedigreeref04_literalTerms.l0] at h
  | k + 1 => by
    have ih0 := pedigreeref04_literalTerms.mono_l k
    · intro y0 y1 y2 y3 y4 y5 y6 y7 y8 y9 y10 y11 y12 y13 y14 y15 y16 y17
      unfold pedigreeref04_literalTerms.l0
      repeat' first
      | (with_reducible exact ih0 _ _ _ _ _ _ _ _ _ _ _ _ _ _ _ _ _ _)
      | (with_reducible exact LeO.refl _)
      | (with_reducible exact LeO.none _)
      | (with_reducible refine LeO.ite ?_ ?_)
      | (with_reducible refine LeO.bind ?_ (fun _ => ?_))
      | exact ih0 _ _ _ _ _ _ _ _ _ _ _ _ _ _ _ _ _ _
      | exact LeO.none _
      | refine LeO.ite ?_ ?_
      | refine LeO.bind ?_ (fun _ => ?_)
theorem pedigreeref04_literalTerms.mono : ∀ a0 a1 a2 a3 a4 a5 a6 a7 a8 a9 a10 a11 a12 a13 a14 a15 a16 k, LeO (pedigreeref04_literalTerms.f k a0 a1 a2 a3 a4 a5 a6 a7 a8 a9 a10 a11 a12 a13 a14 a15 a16) (pedigreeref04_literalTerms.f (k + 1) a0 a1 a2 a3 a4 a5 a6 a7 a8 a9 a10 a11 a12 a13 a14 a15 a16) := by
  intro a0 a1 a2 a3 a4 a5 a6 a7 a8 a9 a10 a11 a12 a13 a14 a15 a16 k
  have ih0 := pedigreeref04_literalTerms.mono_l k
  unfold pedigreeref04_literalTerms.f
  repeat' first
      | (with_reducible exact ih0 _ _ _ _ _ _ _ _ _ _ _ _ _ _ _ _ _ _)
      | (with_reducible exact LeO.refl _)
      | (with_reducible exact LeO.none _)
      | (with_reducible refine LeO.ite ?_ ?_)
      | (with_reducible refine LeO.bind ?_ (fun _ => ?_))
      | exact ih0 _ _ _ _ _ _ _ _ _ _ _ _ _ _ _ _ _ _
      | exact LeO.none _
      | refine LeO.ite ?_ ?_
      | refine LeO.bind ?_ (fun _ => ?_)
set_option maxHeartbeats 8000000 in
set_option maxRecDepth 100000 in
theorem pedigreeref04_literalTerms.calls (k : Nat) (P0_ : Nat → Prop) (u9000_ : Value) (l0 : List (S28)) (a1_0 : Int) (a1_1 : ByteArray) (A1_2 : Option Addr) (c1_2 : Nat) (l1_2 : List (S28)) (a1_3 : Int) (a1_4 : Int) (a1_5 : ByteArray) (a1_6 : Int) (a1_7 : Int) (a1_8 : ByteArray) (A1_9 : Option Addr) (c1_9 : Nat) (l1_9 : List (S31)) (a1_10 : Int) (a1_11 : ByteArray) (a1_12 : Int) (a1_13 : Int) (a1_14 : ByteArray) (A1_15 : Option Addr) (c1_15 : Nat) (l1_15 : List (S31)) (r : List (S28)) (w0 w : World) (hB : Below w0.heap.size w0 w) (ho0 : Kd.R k28 28 w w0.heap.size P0_ u9000_ l0) (hr1_2 : ∀ W_, Kept w W_ (fun k_ => P0_ k_) → Kd.C k28 W_ A1_2 l1_2.length l1_2) (hc1_2 : l1_2.length ≤ c1_2) (hr1_9 : ∀ W_, Kept w W_ (fun k_ => P0_ k_) → Kd.C k31 W_ A1_9 l1_9.length l1_9) (hc1_9 : l1_9.length ≤ c1_9) (hr1_15 : ∀ W_, Kept w W_ (fun k_ => P0_ k_) → Kd.C k31 W_ A1_15 l1_15.length l1_15) (hc1_15 : l1_15.length ≤ c1_15) (h : pedigreeref04_literalTerms.f k l0 a1_0 a1_1 l1_2 a1_3 a1_4 a1_5 a1_6 a1_7 a1_8 l1_9 a1_10 a1_11 a1_12 a1_13 a1_14 l1_15 = some r) :
    Calls Tryd.prog 69 #[u9000_, .agg #[.int .i8 a1_0, .string a1_1, .slice A1_2 l1_2.length c1_2, .int .i8 a1_3, .int .i8 a1_4, .string a1_5, .int .i8 a1_6, .int .i64 a1_7, .string a1_8, .slice A1_9 l1_9.length c1_9, .int .i8 a1_10, .string a1_11, .int .i8 a1_12, .int .i64 a1_13, .string a1_14, .slice A1_15 l1_15.length c1_15]] w fun e w' => ∃ v0_ : Value, e = .returned (v0_) ∧ Kd.R k28 28 w' w0.heap.size (fun k_ => (P0_ k_ ∨ w.heap.size ≤ k_)) v0_ r ∧ Below w0.heap.size w0 w' ∧ Kept w w' (fun k_ => P0_ k_) := by
  have hu56 := Tryd.underlying56
  have hu28 := Tryd.underlying28
  have hu31 := Tryd.underlying31
  have HO0 := Aside0.mk (show Kd.R k28 28 w w0.heap.size (fun k_ => (P0_ k_ ∨ w.heap.size ≤ k_)) u9000_ l0 from Kd.R_mono ho0 (fun k_ hk => (.inl hk)))
  have HR1_2 := Aside0.mk hr1_2
  have HC1_2 := Aside0.mk hc1_2
  clear hr1_2 hc1_2
  have HR1_9 := Aside0.mk hr1_9
  have HC1_9 := Aside0.mk hc1_9
  clear hr1_9 hc1_9
  have HR1_15 := Aside0.mk hr1_15
  have HC1_15 := Aside0.mk hc1_15
  clear hr1_15 hc1_15
  have HK := Aside0.mk (Kept.refl w (fun k_ => P0_ k_))
  have HW0 := Aside0.mk hB.size
  have HB := Aside0.mk hB
  clear hB
  have H : (pedigreeref04_literalTerms.l0 k l0 0 a1_0 a1_1 l1_2 a1_3 a1_4 a1_5 a1_6 a1_7 a1_8 l1_9 a1_10 a1_11 a1_12 a1_13 a1_14 l1_15) = some r := h
  clear h
  have H' := Aside0.mk H
  clear H
  go_enter Tryd.func69, Tryd.ntmps69
  go_wp2_with (first | ((with_reducible refine gate_dst (N := 3) rfl ?_); refine box_event ?hg (N := 3) ?hd (cs := #[.int .i8 a1_0, .string a1_1, .slice A1_2 l1_2.length c1_2, .int .i8 a1_3, .int .i8 a1_4, .string a1_5, .int .i8 a1_6, .int .i64 a1_7, .string a1_8, .slice A1_9 l1_9.length c1_9, .int .i8 a1_10, .string a1_11, .int .i8 a1_12, .int .i64 a1_13, .string a1_14, .slice A1_15 l1_15.length c1_15]) (t := 56) ?hr ?_; (case hd => rfl); (case hg => rfl); (case hr => first | (go_simp; done) | (go_simp; rfl)); intro gb296 hg w3 hbox hb; have n0_ := Aside0.mk (Kd.R_below (by (with_reducible repeat (first | apply Kd.R_alloc | apply Kd.R_drewN | apply Kd.R_drew)); exact HO0.out) hb); have n1_ := Aside0.mk (Kept.below (S := (fun k_ => P0_ k_)) (by repeat (first | (with_reducible first | exact HK.out | apply Kept.alloc | apply Kept.drewN | apply Kept.drew) | exact HK.out)) hb); have n2_ := Aside0.mk (below_step (by repeat (first | (with_reducible first | exact HB.out | apply below_alloc | apply pw_below_drewN | apply below_drew1) | exact HB.out)) hb); have n3_ := Aside0.mk (hbox); have n4_ := Aside0.mk ((by rw [hg]; exact (by first | exact HK.out.1 | exact (show Kept w _ (fun k_ => P0_ k_) from by repeat (first | (with_reducible first | exact HK.out | apply Kept.alloc | apply Kept.drewN | apply Kept.drew) | exact HK.out)).1) : w.heap.size ≤ gb296)); have n5_ := Aside0.mk ((by rw [hg]; exact (below_size (by repeat (first | (with_reducible first | exact HB.out | apply below_alloc | apply pw_below_drewN | apply below_drew1) | exact HB.out))) : w0.heap.size ≤ gb296)); clear HO0; clear HK; clear HB; have HO0 := n0_; have HK := n1_; have HB := n2_; have BK296 := n3_; have GW296 := n4_; have GE296 := n5_; clear n0_ n1_ n2_ n3_ n4_ n5_; clear hb hbox hg))
  go_loopg [0, 5] k (fun kq v0 v5 w' => ∃ (x0_1 : List (S28)) (x5_1 : Int), v5 = .int .i64 x5_1 ∧ Aside0 (pedigreeref04_literalTerms.l0 kq x0_1 x5_1 a1_0 a1_1 l1_2 a1_3 a1_4 a1_5 a1_6 a1_7 a1_8 l1_9 a1_10 a1_11 a1_12 a1_13 a1_14 l1_15 = some r) ∧ Aside0 (kq ≤ k) ∧ Aside0 (Kd.R k28 28 w' w0.heap.size (fun k_ => (P0_ k_ ∨ w.heap.size ≤ k_)) v0 x0_1) ∧ Aside0 (w'.heap[gb296]? = some (.cells #[.int .i8 a1_0, .string a1_1, (.slice A1_2 l1_2.length c1_2), .int .i8 a1_3, .int .i8 a1_4, .string a1_5, .int .i8 a1_6, .int .i64 a1_7, .string a1_8, (.slice A1_9 l1_9.length c1_9), .int .i8 a1_10, .string a1_11, .int .i8 a1_12, .int .i64 a1_13, .string a1_14, (.slice A1_15 l1_15.length c1_15)] 56 (0, 0))) ∧ Aside0 (Kept w w' (fun k_ => P0_ k_)) ∧ Aside0 (Below w0.heap.size w0 w'))
  case atStart => exact ⟨(l0), (0), (by first | rfl | (simp; done) | (simp [*]; done)), H', ⟨Nat.le_refl _⟩, ⟨by (with_reducible repeat (first | apply Kd.R_alloc | apply Kd.R_drewN | apply Kd.R_drew)); exact HO0.out⟩, ⟨by (with_reducible repeat (first | refine blk_drewN ?_ _ | refine blk_drew ?_ | refine blk_alloc ?_ _)); exact BK296.out⟩, ⟨by repeat (first | (with_reducible first | exact HK.out | apply Kept.alloc | apply Kept.drewN | apply Kept.drew | refine Kept.setCell ?_ (.inr GW296.out) _) | exact HK.out)⟩, ⟨by repeat (first | (with_reducible first | exact HB.out | apply below_alloc | apply pw_below_drewN | apply below_drew1 | refine below_set ?_ GE296.out) | exact HB.out)⟩⟩
  case round =>
    clear H'
    try clear c1
    try clear p2
    obtain ⟨x0_1, x5_1, rfl, HA, HK1, HO_0, BK296, HK, HB⟩ := hrel
    cases gk with
    | zero => exact absurd HA.out (by simp [pedigreeref04_literalTerms.l0])
    | succ k1 =>
      have H := HA.out
      clear HA
      simp only [pedigreeref04_literalTerms.l0] at H
      by_cases c4 : x5_1 < (l1_2.length : Int)
      · rw [if_pos c4] at H
        have c4b0 : decide (x5_1 < (l1_2.length : Int)) = true := decide_eq_true c4
        clear c4
        by_cases c5 : 0 ≤ x5_1
        · rw [if_pos c5] at H
          have c5b0 : decide (0 ≤ x5_1) = true := decide_eq_true c5
          clear c5
          by_cases c6 : x0_1.length < 2932031007402
          · rw [if_pos c6] at H
            have LMc6 := Aside0.mk c6
            clear c6
            obtain ⟨y298, hy298⟩ : ∃ y_ : List (S28), y_ = (x0_1 ++ [(⟨(rd_T28 l1_2 x5_1).f0, (⟨(rd_T28 l1_2 x5_1).f1.f0, (rd_T28 l1_2 x5_1).f1.f1, (rd_T28 l1_2 x5_1).f1.f2⟩ : S26)⟩ : S28)]) := ⟨_, rfl⟩
            replace H : (pedigreeref04_literalTerms.l0 k1 y298 (wrap64 (x5_1 + 1)) a1_0 a1_1 l1_2 a1_3 a1_4 a1_5 a1_6 a1_7 a1_8 l1_9 a1_10 a1_11 a1_12 a1_13 a1_14 l1_15) = some r := by first | (rw [hy298]; with_reducible exact H) | (have H2_ := (Option.bind_some _ _).symm.trans H; rw [hy298]; with_reducible exact H2_) | (have H2_ := (Option.bind_some _ _).symm.trans H; with_reducible exact H2_) | with_reducible exact H | (rw [hy298]; exact H) | exact H
            have Ny298 := Aside0.mk hy298
            clear hy298
            have H' := Aside0.mk H
            clear H
            have hcz7_0 : wr.cell? ⟨gb296, 0, none⟩ = some (.int .i8 a1_0) := (blk_cell BK296.out 0).trans rfl
            have hcz7_1 : wr.cell? ⟨gb296, 1, none⟩ = some (.string a1_1) := (blk_cell BK296.out 1).trans rfl
            have hcz7_2 : wr.cell? ⟨gb296, 2, none⟩ = some (.slice A1_2 l1_2.length c1_2) := (blk_cell BK296.out 2).trans rfl
            have hcz7_3 : wr.cell? ⟨gb296, 3, none⟩ = some (.int .i8 a1_3) := (blk_cell BK296.out 3).trans rfl
            have hcz7_4 : wr.cell? ⟨gb296, 4, none⟩ = some (.int .i8 a1_4) := (blk_cell BK296.out 4).trans rfl
            have hcz7_5 : wr.cell? ⟨gb296, 5, none⟩ = some (.string a1_5) := (blk_cell BK296.out 5).trans rfl
            have hcz7_6 : wr.cell? ⟨gb296, 6, none⟩ = some (.int .i8 a1_6) := (blk_cell BK296.out 6).trans rfl
            have hcz7_7 : wr.cell? ⟨gb296, 7, none⟩ = some (.int .i64 a1_7) := (blk_cell BK296.out 7).trans rfl
            have hcz7_8 : wr.cell? ⟨gb296, 8, none⟩ = some (.string a1_8) := (blk_cell BK296.out 8).trans rfl
            have hcz7_9 : wr.cell? ⟨gb296, 9, none⟩ = some (.slice A1_9 l1_9.length c1_9) := (blk_cell BK296.out 9).trans rfl
            have hcz7_10 : wr.cell? ⟨gb296, 10, none⟩ = some (.int .i8 a1_10) := (blk_cell BK296.out 10).trans rfl
            have hcz7_11 : wr.cell? ⟨gb296, 11, none⟩ = some (.string a1_11) := (blk_cell BK296.out 11).trans rfl
            have hcz7_12 : wr.cell? ⟨gb296, 12, none⟩ = some (.int .i8 a1_12) := (blk_cell BK296.out 12).trans rfl
            have hcz7_13 : wr.cell? ⟨gb296, 13, none⟩ = some (.int .i64 a1_13) := (blk_cell BK296.out 13).trans rfl
            have hcz7_14 : wr.cell? ⟨gb296, 14, none⟩ = some (.string a1_14) := (blk_cell BK296.out 14).trans rfl
            have hcz7_15 : wr.cell? ⟨gb296, 15, none⟩ = some (.slice A1_15 l1_15.length c1_15) := (blk_cell BK296.out 15).trans rfl
            have hfz7_0 := blk_frozen BK296.out 0
            have hfz7_1 := blk_frozen BK296.out 1
            have hfz7_2 := blk_frozen BK296.out 2
            have hfz7_3 := blk_frozen BK296.out 3
            have hfz7_4 := blk_frozen BK296.out 4
            have hfz7_5 := blk_frozen BK296.out 5
            have hfz7_6 := blk_frozen BK296.out 6
            have hfz7_7 := blk_frozen BK296.out 7
            have hfz7_8 := blk_frozen BK296.out 8
            have hfz7_9 := blk_frozen BK296.out 9
            have hfz7_10 := blk_frozen BK296.out 10
            have hfz7_11 := blk_frozen BK296.out 11
            have hfz7_12 := blk_frozen BK296.out 12
            have hfz7_13 := blk_frozen BK296.out 13
            have hfz7_14 := blk_frozen BK296.out 14
            have hfz7_15 := blk_frozen BK296.out 15
            have p297 : 0 ≤ (x5_1 : Int) := of_decide_eq_true (by first | (with_reducible assumption) | assumption)
            have q297 : x5_1 < (l1_2.length : Int) := of_decide_eq_true (by first | (with_reducible assumption) | assumption)
            obtain ⟨ad297, e297, hx297_0, hx297_1, hx297_2, hx297_3⟩ := at_T28 (Kd.C_kept_now HR1_2.out HK.out) x5_1 p297 q297
            cases e297
            replace p297 := eq_true p297
            replace q297 := eq_true q297
            go_wp2_with (first | ((with_reducible refine gate_builtin (b := .append) (xs := #[.tmp 14, .tmp 21]) rfl ?_); at_builtin; refine Kd.R_append k28 (w0 := w0) w0.heap.size rfl (.tmp 14) (.tmp 21) 51 28 (.agg #[(.string ⟨#[]⟩), (.int .i8 0), (.int .i64 0), (.string ⟨#[]⟩)]) 48 rfl Tryd.underlying51 info28 rfl (by decide) (by omega) u0 x0_1 (⟨(rd_T28 l1_2 x5_1).f0, (⟨(rd_T28 l1_2 x5_1).f1.f0, (rd_T28 l1_2 x5_1).f1.f1, (rd_T28 l1_2 x5_1).f1.f2⟩ : S26)⟩ : S28) [.string ((rd_T28 l1_2 x5_1).f0), .int .i8 ((rd_T28 l1_2 x5_1).f1.f0), .int .i64 ((rd_T28 l1_2 x5_1).f1.f1), .string ((rd_T28 l1_2 x5_1).f1.f2)] (fun k_ => (P0_ k_ ∨ w.heap.size ≤ k_)) (fun _ => False) rfl rfl ?aP (fun _ hk => hk.elim) ?aF ?aO ?aB ?aS ?aL ?_; (case aP => exact k28_mkM _ _ _ (⟨(rd_T28 l1_2 x5_1).f0, (⟨(rd_T28 l1_2 x5_1).f1.f0, (rd_T28 l1_2 x5_1).f1.f1, (rd_T28 l1_2 x5_1).f1.f2⟩ : S26)⟩ : S28)); (case aB => exact (by repeat (first | (with_reducible first | exact HB.out | apply below_alloc | apply pw_below_drewN | apply below_drew1 | refine below_set ?_ GE296.out) | exact HB.out))); (case aF => exact (fun k_ hk => (.inr (Nat.le_trans (by first | exact HK.out.1 | exact (show Kept w _ (fun k_ => P0_ k_) from by repeat (first | (with_reducible first | exact HK.out | apply Kept.alloc | apply Kept.drewN | apply Kept.drew | refine Kept.setCell ?_ (.inr GW296.out) _) | exact HK.out)).1) hk)))); (case aO => exact (by (with_reducible repeat (first | apply Kd.R_alloc | apply Kd.R_drewN | apply Kd.R_drew)); exact HO_0.out)); (case aS => exact (below_size (by repeat (first | (with_reducible first | exact HB.out | apply below_alloc | apply pw_below_drewN | apply below_drew1 | refine below_set ?_ GE296.out) | exact HB.out)))); (case aL => have := LMc6.out; omega); intro v299 w8 ho hb hg hat; rw [← Ny298.out] at ho; have n0_ := Aside0.mk (blk_grown (g := gb296) (o := .cells #[.int .i8 a1_0, .string a1_1, .slice (some ad297) l1_2.length c1_2, .int .i8 a1_3, .int .i8 a1_4, .string a1_5, .int .i8 a1_6, .int .i64 a1_7, .string a1_8, .slice A1_9 l1_9.length c1_9, .int .i8 a1_10, .string a1_11, .int .i8 a1_12, .int .i64 a1_13, .string a1_14, .slice A1_15 l1_15.length c1_15] 56 (0, 0)) (by (with_reducible repeat (first | refine blk_drewN ?_ _ | refine blk_drew ?_ | refine blk_alloc ?_ _)); exact BK296.out) hg (Kd.R_ne HO_0.out BK296.out (by decide))); have n1_ := Aside0.mk (hb); have n2_ := Aside0.mk (Kept.of_grown (S := (fun k_ => P0_ k_)) hg (by repeat (first | (with_reducible first | exact HK.out | apply Kept.alloc | apply Kept.drewN | apply Kept.drew | refine Kept.setCell ?_ (.inr GW296.out) _) | exact HK.out)) (fun k_ e_ => (HO_0.out.1 k_ e_))); have n3_ := Aside0.mk (ho); clear BK296; clear HB; clear HK; clear HO_0; have BK296 := n0_; have HB := n1_; have HK := n2_; have HO300 := n3_; clear n0_ n1_ n2_ n3_; clear ho hb hg hat))
            go_roundg k1
            case measure => have := HK1.out; omega
            case rel => exact ⟨(y298), (wrap64 (x5_1 + 1)), (by first | rfl | (simp; done) | (simp [*]; done)), H', ⟨by have := HK1.out; omega⟩, ⟨by (with_reducible repeat (first | apply Kd.R_alloc | apply Kd.R_drewN | apply Kd.R_drew)); exact HO300.out⟩, ⟨by (with_reducible repeat (first | refine blk_drewN ?_ _ | refine blk_drew ?_ | refine blk_alloc ?_ _)); exact BK296.out⟩, ⟨by repeat (first | (with_reducible first | exact HK.out | apply Kept.alloc | apply Kept.drewN | apply Kept.drew | refine Kept.setCell ?_ (.inr GW296.out) _) | exact HK.out)⟩, ⟨by repeat (first | (with_reducible first | exact HB.out | apply below_alloc | apply pw_below_drewN | apply below_drew1 | refine below_set ?_ GE296.out) | exact HB.out)⟩⟩
          · rw [if_neg c6] at H
            exact absurd H (by simp)
        · rw [if_neg c5] at H
          exact absurd H (by simp)
      · rw [if_neg c4] at H
        have c4b0 : decide (x5_1 < (l1_2.length : Int)) = false := decide_eq_false c4
        clear c4
        replace H := Option.bind_eq_some_iff.mp H
        obtain ⟨t301, A90, H⟩ := H
        replace H : ((pedigreeref04_exprTerms.f t301 a1_10 a1_11 a1_12 a1_13 a1_14 l1_15).bind fun t304 => (some t304)) = some r := H
        have A9 := Aside0.mk A90
        clear A90
        replace H := Option.bind_eq_some_iff.mp H
        obtain ⟨t304, A100, H⟩ := H
        replace H : (some t304) = some r := H
        have A10 := Aside0.mk A100
        clear A100
        obtain rfl := Option.some.inj H
        have hcz11_0 : wr.cell? ⟨gb296, 0, none⟩ = some (.int .i8 a1_0) := (blk_cell BK296.out 0).trans rfl
        have hcz11_1 : wr.cell? ⟨gb296, 1, none⟩ = some (.string a1_1) := (blk_cell BK296.out 1).trans rfl
        have hcz11_2 : wr.cell? ⟨gb296, 2, none⟩ = some (.slice A1_2 l1_2.length c1_2) := (blk_cell BK296.out 2).trans rfl
        have hcz11_3 : wr.cell? ⟨gb296, 3, none⟩ = some (.int .i8 a1_3) := (blk_cell BK296.out 3).trans rfl
        have hcz11_4 : wr.cell? ⟨gb296, 4, none⟩ = some (.int .i8 a1_4) := (blk_cell BK296.out 4).trans rfl
        have hcz11_5 : wr.cell? ⟨gb296, 5, none⟩ = some (.string a1_5) := (blk_cell BK296.out 5).trans rfl
        have hcz11_6 : wr.cell? ⟨gb296, 6, none⟩ = some (.int .i8 a1_6) := (blk_cell BK296.out 6).trans rfl
        have hcz11_7 : wr.cell? ⟨gb296, 7, none⟩ = some (.int .i64 a1_7) := (blk_cell BK296.out 7).trans rfl
        have hcz11_8 : wr.cell? ⟨gb296, 8, none⟩ = some (.string a1_8) := (blk_cell BK296.out 8).trans rfl
        have hcz11_9 : wr.cell? ⟨gb296, 9, none⟩ = some (.slice A1_9 l1_9.length c1_9) := (blk_cell BK296.out 9).trans rfl
        have hcz11_10 : wr.cell? ⟨gb296, 10, none⟩ = some (.int .i8 a1_10) := (blk_cell BK296.out 10).trans rfl
        have hcz11_11 : wr.cell? ⟨gb296, 11, none⟩ = some (.string a1_11) := (blk_cell BK296.out 11).trans rfl
        have hcz11_12 : wr.cell? ⟨gb296, 12, none⟩ = some (.int .i8 a1_12) := (blk_cell BK296.out 12).trans rfl
        have hcz11_13 : wr.cell? ⟨gb296, 13, none⟩ = some (.int .i64 a1_13) := (blk_cell BK296.out 13).trans rfl
        have hcz11_14 : wr.cell? ⟨gb296, 14, none⟩ = some (.string a1_14) := (blk_cell BK296.out 14).trans rfl
        have hcz11_15 : wr.cell? ⟨gb296, 15, none⟩ = some (.slice A1_15 l1_15.length c1_15) := (blk_cell BK296.out 15).trans rfl
        have hfz11_0 := blk_frozen BK296.out 0
        have hfz11_1 := blk_frozen BK296.out 1
        have hfz11_2 := blk_frozen BK296.out 2
        have hfz11_3 := blk_frozen BK296.out 3
        have hfz11_4 := blk_frozen BK296.out 4
        have hfz11_5 := blk_frozen BK296.out 5
        have hfz11_6 := blk_frozen BK296.out 6
        have hfz11_7 := blk_frozen BK296.out 7
        have hfz11_8 := blk_frozen BK296.out 8
        have hfz11_9 := blk_frozen BK296.out 9
        have hfz11_10 := blk_frozen BK296.out 10
        have hfz11_11 := blk_frozen BK296.out 11
        have hfz11_12 := blk_frozen BK296.out 12
        have hfz11_13 := blk_frozen BK296.out 13
        have hfz11_14 := blk_frozen BK296.out 14
        have hfz11_15 := blk_frozen BK296.out 15
        obtain ⟨Ao12, co12, eo12⟩ := Kd.R_slice HO_0.out
        subst eo12
        go_wp2_with (first | ((with_reducible refine gate_callee (f := 57) rfl ?_); refine goesL_ (some 26) rfl rfl Tryd.func57 (by kernel_rfl) rfl #[.slice Ao12 x0_1.length co12, .agg #[.int .i8 a1_4, .string a1_5, .int .i8 a1_6, .int .i64 a1_7, .string a1_8, .slice A1_9 l1_9.length c1_9]] rfl (by (try simp only [List.map_toArray, List.map_cons, List.map_nil]); first | done | rfl | (simp only [List.length_drop, List.length_take]; rfl)) ?_; (with_reducible refine (pedigreeref04_exprTerms.calls (fun k_ => some k_ = (.slice Ao12 x0_1.length co12 : Value).ownBlock) (.slice Ao12 x0_1.length co12) x0_1 a1_4 a1_5 a1_6 a1_7 a1_8 _ _ l1_9 t301 w0 _ ?side1 ?side2 ?side3 ?side4 A9.out).mono ?_); (case side1 => repeat (first | (with_reducible first | exact HB.out | apply below_alloc | apply pw_below_drewN | apply below_drew1 | refine below_set ?_ GE296.out) | exact HB.out)); (case side2 => exact Kd.R_tight rfl HO_0.out); (case side3 => exact Kd.C_kept_call HR1_9.out (by repeat (first | (with_reducible first | exact HK.out | apply Kept.alloc | apply Kept.drewN | apply Kept.drew | refine Kept.setCell ?_ (.inr GW296.out) _) | exact HK.out)) (fun k_ hs_ => (fun e_ => (HO_0.out.1 k_ e_.symm)) hs_)); (case side4 => exact HC1_9.out); rintro e w13 ⟨v302, rfl, ho0, hb, hkp⟩; refine ⟨_, rfl, ?_⟩; have n0_ := Aside0.mk (blk_kept (by (with_reducible repeat (first | refine blk_drewN ?_ _ | refine blk_drew ?_ | refine blk_alloc ?_ _)); exact BK296.out) hkp (fun hs_ => (fun e_ => (Kd.R_ne HO_0.out BK296.out (by decide)) e_) hs_)); have n1_ := Aside0.mk (Kd.R_mono (ok' := fun k_ => (P0_ k_ ∨ w.heap.size ≤ k_)) ho0 (fun k_ hk_ => Or.elim hk_ (fun hs_ => (HO_0.out.1 k_ (hs_).symm)) (fun hn_ => (.inr (Nat.le_trans (by first | exact HK.out.1 | exact (show Kept w _ (fun k_ => P0_ k_) from by repeat (first | (with_reducible first | exact HK.out | apply Kept.alloc | apply Kept.drewN | apply Kept.drew | refine Kept.setCell ?_ (.inr GW296.out) _) | exact HK.out)).1) hn_))))); have n2_ := Aside0.mk (Kept.then_ (S := (fun k_ => P0_ k_)) (by repeat (first | (with_reducible first | exact HK.out | apply Kept.alloc | apply Kept.drewN | apply Kept.drew | refine Kept.setCell ?_ (.inr GW296.out) _) | exact HK.out)) hkp (fun k_ hs_ => (fun e_ => (HO_0.out.1 k_ e_.symm)) hs_)); have n3_ := Aside0.mk (hb); clear BK296; clear HK; clear HB; clear HO_0; have BK296 := n0_; have HO303 := n1_; have HK := n2_; have HB := n3_; clear n0_ n1_ n2_ n3_; (try clear hb); (try clear hkp); (try clear ho0); have hcz14_0 : w13.cell? ⟨gb296, 0, none⟩ = some (.int .i8 a1_0) := (blk_cell BK296.out 0).trans rfl; have hcz14_1 : w13.cell? ⟨gb296, 1, none⟩ = some (.string a1_1) := (blk_cell BK296.out 1).trans rfl; have hcz14_2 : w13.cell? ⟨gb296, 2, none⟩ = some (.slice A1_2 l1_2.length c1_2) := (blk_cell BK296.out 2).trans rfl; have hcz14_3 : w13.cell? ⟨gb296, 3, none⟩ = some (.int .i8 a1_3) := (blk_cell BK296.out 3).trans rfl; have hcz14_4 : w13.cell? ⟨gb296, 4, none⟩ = some (.int .i8 a1_4) := (blk_cell BK296.out 4).trans rfl; have hcz14_5 : w13.cell? ⟨gb296, 5, none⟩ = some (.string a1_5) := (blk_cell BK296.out 5).trans rfl; have hcz14_6 : w13.cell? ⟨gb296, 6, none⟩ = some (.int .i8 a1_6) := (blk_cell BK296.out 6).trans rfl; have hcz14_7 : w13.cell? ⟨gb296, 7, none⟩ = some (.int .i64 a1_7) := (blk_cell BK296.out 7).trans rfl; have hcz14_8 : w13.cell? ⟨gb296, 8, none⟩ = some (.string a1_8) := (blk_cell BK296.out 8).trans rfl; have hcz14_9 : w13.cell? ⟨gb296, 9, none⟩ = some (.slice A1_9 l1_9.length c1_9) := (blk_cell BK296.out 9).trans rfl; have hcz14_10 : w13.cell? ⟨gb296, 10, none⟩ = some (.int .i8 a1_10) := (blk_cell BK296.out 10).trans rfl; have hcz14_11 : w13.cell? ⟨gb296, 11, none⟩ = some (.string a1_11) := (blk_cell BK296.out 11).trans rfl; have hcz14_12 : w13.cell? ⟨gb296, 12, none⟩ = some (.int .i8 a1_12) := (blk_cell BK296.out 12).trans rfl; have hcz14_13 : w13.cell? ⟨gb296, 13, none⟩ = some (.int .i64 a1_13) := (blk_cell BK296.out 13).trans rfl; have hcz14_14 : w13.cell? ⟨gb296, 14, none⟩ = some (.string a1_14) := (blk_cell BK296.out 14).trans rfl; have hcz14_15 : w13.cell? ⟨gb296, 15, none⟩ = some (.slice A1_15 l1_15.length c1_15) := (blk_cell BK296.out 15).trans rfl; have hfz14_0 := blk_frozen BK296.out 0; have hfz14_1 := blk_frozen BK296.out 1; have hfz14_2 := blk_frozen BK296.out 2; have hfz14_3 := blk_frozen BK296.out 3; have hfz14_4 := blk_frozen BK296.out 4; have hfz14_5 := blk_frozen BK296.out 5; have hfz14_6 := blk_frozen BK296.out 6; have hfz14_7 := blk_frozen BK296.out 7; have hfz14_8 := blk_frozen BK296.out 8; have hfz14_9 := blk_frozen BK296.out 9; have hfz14_10 := blk_frozen BK296.out 10; have hfz14_11 := blk_frozen BK296.out 11; have hfz14_12 := blk_frozen BK296.out 12; have hfz14_13 := blk_frozen BK296.out 13; have hfz14_14 := blk_frozen BK296.out 14; have hfz14_15 := blk_frozen BK296.out 15; obtain ⟨Ao15, co15, eo15⟩ := Kd.R_slice HO303.out; subst eo15) | ((with_reducible refine gate_callee (f := 57) rfl ?_); refine goesL_ (some 30) rfl rfl Tryd.func57 (by kernel_rfl) rfl #[.slice Ao15 t301.length co15, .agg #[.int .i8 a1_10, .string a1_11, .int .i8 a1_12, .int .i64 a1_13, .string a1_14, .slice A1_15 l1_15.length c1_15]] rfl (by (try simp only [List.map_toArray, List.map_cons, List.map_nil]); first | done | rfl | (simp only [List.length_drop, List.length_take]; rfl)) ?_; (with_reducible refine (pedigreeref04_exprTerms.calls (fun k_ => some k_ = (.slice Ao15 t301.length co15 : Value).ownBlock) (.slice Ao15 t301.length co15) t301 a1_10 a1_11 a1_12 a1_13 a1_14 _ _ l1_15 t304 w0 _ ?side1 ?side2 ?side3 ?side4 A10.out).mono ?_); (case side1 => repeat (first | (with_reducible first | exact HB.out | apply below_alloc | apply pw_below_drewN | apply below_drew1 | refine below_set ?_ GE296.out) | exact HB.out)); (case side2 => exact Kd.R_tight rfl HO303.out); (case side3 => exact Kd.C_kept_call HR1_15.out (by repeat (first | (with_reducible first | exact HK.out | apply Kept.alloc | apply Kept.drewN | apply Kept.drew | refine Kept.setCell ?_ (.inr GW296.out) _) | exact HK.out)) (fun k_ hs_ => (fun e_ => (HO303.out.1 k_ e_.symm)) hs_)); (case side4 => exact HC1_15.out); rintro e w16 ⟨v305, rfl, ho0, hb, hkp⟩; refine ⟨_, rfl, ?_⟩; have n0_ := Aside0.mk (blk_kept (by (with_reducible repeat (first | refine blk_drewN ?_ _ | refine blk_drew ?_ | refine blk_alloc ?_ _)); exact BK296.out) hkp (fun hs_ => (fun e_ => (Kd.R_ne HO303.out BK296.out (by decide)) e_) hs_)); have n1_ := Aside0.mk (Kd.R_mono (ok' := fun k_ => (P0_ k_ ∨ w.heap.size ≤ k_)) ho0 (fun k_ hk_ => Or.elim hk_ (fun hs_ => (HO303.out.1 k_ (hs_).symm)) (fun hn_ => (.inr (Nat.le_trans (by first | exact HK.out.1 | exact (show Kept w _ (fun k_ => P0_ k_) from by repeat (first | (with_reducible first | exact HK.out | apply Kept.alloc | apply Kept.drewN | apply Kept.drew | refine Kept.setCell ?_ (.inr GW296.out) _) | exact HK.out)).1) hn_))))); have n2_ := Aside0.mk (Kept.then_ (S := (fun k_ => P0_ k_)) (by repeat (first | (with_reducible first | exact HK.out | apply Kept.alloc | apply Kept.drewN | apply Kept.drew | refine Kept.setCell ?_ (.inr GW296.out) _) | exact HK.out)) hkp (fun k_ hs_ => (fun e_ => (HO303.out.1 k_ e_.symm)) hs_)); have n3_ := Aside0.mk (hb); clear BK296; clear HK; clear HB; clear HO303; have BK296 := n0_; have HO306 := n1_; have HK := n2_; have HB := n3_; clear n0_ n1_ n2_ n3_; (try clear hb); (try clear hkp); (try clear ho0)))
        go_ret
        exact ⟨_, by first | rfl | (simp [errW_none, errW_some] <;> rfl) | (simp [*, errW_none, errW_some] <;> rfl), by (with_reducible repeat (first | apply Kd.R_alloc | apply Kd.R_drewN | apply Kd.R_drew)); exact HO306.out, by repeat (first | (with_reducible first | exact HB.out | apply below_alloc | apply pw_below_drewN | apply below_drew1 | refine below_set ?_ GE296.out) | exact HB.out), by repeat (first | (with_reducible first | exact HK.out | apply Kept.alloc | apply Kept.drewN | apply Kept.drew | refine Kept.setCell ?_ (.inr GW296.out) _) | exact HK.out)⟩
end Go.Proofs.YtllcmggmcogokaaDoor.PAll
end

section
namespace Go.Proofs.YtllcmggmcogokaaDoor.PAll
open Go.RowKit Go.Proofs.YtllcmggmcogokaaDoorW.PrintWords Go.Proofs.YtllcmggmcogokaaDoorW.PrintLast Go.Proofs.YtllcmggmcogokaaDoorW.PrintMore
attribute [local go_sem] max2_int min2_int max_two min_two max_three min_three max_four min_four
set_option linter.unusedVariables false
set_option linter.unusedSimpArgs false
def pedigreeref04_LiteralVars.f (k : Nat) (a0_0 : Int) (a0_1 : ByteArray) (l0_2 : List (S28)) (a0_3 : Int) (a0_4 : Int) (a0_5 : ByteArray) (a0_6 : Int) (a0_7 : Int) (a0_8 : ByteArray) (l0_9 : List (S31)) (a0_10 : Int) (a0_11 : ByteArray) (a0_12 : Int) (a0_13 : Int) (a0_14 : ByteArray) (l0_15 : List (S31)) : Option (List ByteArray) := (pedigreeref04_literalTerms.f k ([] : List (S28)) a0_0 a0_1 l0_2 a0_3 a0_4 a0_5 a0_6 a0_7 a0_8 l0_9 a0_10 a0_11 a0_12 a0_13 a0_14 l0_15).bind fun t308 => ((pedigreeref04_vars.f k t308).bind fun t311 => (some t311))
theorem pedigreeref04_LiteralVars.mono : ∀ a0 a1 a2 a3 a4 a5 a6 a7 a8 a9 a10 a11 a12 a13 a14 a15 k, LeO (pedigreeref04_LiteralVars.f k a0 a1 a2 a3 a4 a5 a6 a7 a8 a9 a10 a11 a12 a13 a14 a15) (pedigreeref04_LiteralVars.f (k + 1) a0 a1 a2 a3 a4 a5 a6 a7 a8 a9 a10 a11 a12 a13 a14 a15) := by
  intro a0 a1 a2 a3 a4 a5 a6 a7 a8 a9 a10 a11 a12 a13 a14 a15 k
  unfold pedigreeref04_LiteralVars.f
  repeat' first
      | (with_reducible exact pedigreeref04_literalTerms.mono _ _ _ _ _ _ _ _ _ _ _ _ _ _ _ _ _ _)
      | (with_reducible exact pedigreeref04_vars.mono _ _)
      | (with_reducible exact LeO.refl _)
      | (with_reducible exact LeO.none _)
      | (with_reducible refine LeO.ite ?_ ?_)
      | (with_reducible refine LeO.bind ?_ (fun _ => ?_))
      | exact pedigreeref04_literalTerms.mono _ _ _ _ _ _ _ _ _ _ _ _ _ _ _ _ _ _
      | exact pedigreeref04_vars.mono _ _
      | exact LeO.none _
      | refine LeO.ite ?_ ?_
      | refine LeO.bind ?_ (fun _ => ?_)
set_option maxHeartbeats 8000000 in
set_option maxRecDepth 100000 in
theorem pedigreeref04_LiteralVars.calls (k : Nat) (a0_0 : Int) (a0_1 : ByteArray) (A0_2 : Option Addr) (c0_2 : Nat) (l0_2 : List (S28)) (a0_3 : Int) (a0_4 : Int) (a0_5 : ByteArray) (a0_6 : Int) (a0_7 : Int) (a0_8 : ByteArray) (A0_9 : Option Addr) (c0_9 : Nat) (l0_9 : List (S31)) (a0_10 : Int) (a0_11 : ByteArray) (a0_12 : Int) (a0_13 : Int) (a0_14 : ByteArray) (A0_15 : Option Addr) (c0_15 : Nat) (l0_15 : List (S31)) (r : List ByteArray) (w : World) (hr0_2 : Kd.C k28 w A0_2 l0_2.length l0_2) (hc0_2 : l0_2.length ≤ c0_2) (hr0_9 : Kd.C k31 w A0_9 l0_9.length l0_9) (hc0_9 : l0_9.length ≤ c0_9) (hr0_15 : Kd.C k31 w A0_15 l0_15.length l0_15) (hc0_15 : l0_15.length ≤ c0_15) (h : pedigreeref04_LiteralVars.f k a0_0 a0_1 l0_2 a0_3 a0_4 a0_5 a0_6 a0_7 a0_8 l0_9 a0_10 a0_11 a0_12 a0_13 a0_14 l0_15 = some r) :
    Calls Tryd.prog 24 #[.agg #[.int .i8 a0_0, .string a0_1, .slice A0_2 l0_2.length c0_2, .int .i8 a0_3, .int .i8 a0_4, .string a0_5, .int .i8 a0_6, .int .i64 a0_7, .string a0_8, .slice A0_9 l0_9.length c0_9, .int .i8 a0_10, .string a0_11, .int .i8 a0_12, .int .i64 a0_13, .string a0_14, .slice A0_15 l0_15.length c0_15]] w fun e w' => ∃ v0_ : Value, e = .returned (v0_) ∧ Kd.R Kd.string 9 w' w.heap.size (fun _ => True) v0_ r ∧ Below w.heap.size w w' := by
  have hu56 := Tryd.underlying56
  have HR0_2 := Aside0.mk hr0_2
  have HC0_2 := Aside0.mk hc0_2
  clear hr0_2 hc0_2
  have HR0_9 := Aside0.mk hr0_9
  have HC0_9 := Aside0.mk hc0_9
  clear hr0_9 hc0_9
  have HR0_15 := Aside0.mk hr0_15
  have HC0_15 := Aside0.mk hc0_15
  clear hr0_15 hc0_15
  have HB := Aside0.mk (Below.refl w.heap.size w)
  have H : ((pedigreeref04_literalTerms.f k ([] : List (S28)) a0_0 a0_1 l0_2 a0_3 a0_4 a0_5 a0_6 a0_7 a0_8 l0_9 a0_10 a0_11 a0_12 a0_13 a0_14 l0_15).bind fun t308 => ((pedigreeref04_vars.f k t308).bind fun t311 => (some t311))) = some r := h
  clear h
  replace H := Option.bind_eq_some_iff.mp H
  obtain ⟨t308, A20, H⟩ := H
  replace H : ((pedigreeref04_vars.f k t308).bind fun t311 => (some t311)) = some r := H
  have A2 := Aside0.mk A20
  clear A20
  replace H := Option.bind_eq_some_iff.mp H
  obtain ⟨t311, A30, H⟩ := H
  replace H : (some t311) = some r := H
  have A3 := Aside0.mk A30
  clear A30
  obtain rfl := Option.some.inj H
  go_enter Tryd.func24, Tryd.ntmps24
  go_wp2_with (first | ((with_reducible refine gate_dst (N := 1) rfl ?_); refine box_event ?hg (N := 1) ?hd (cs := #[.int .i8 a0_0, .string a0_1, .slice A0_2 l0_2.length c0_2, .int .i8 a0_3, .int .i8 a0_4, .string a0_5, .int .i8 a0_6, .int .i64 a0_7, .string a0_8, .slice A0_9 l0_9.length c0_9, .int .i8 a0_10, .string a0_11, .int .i8 a0_12, .int .i64 a0_13, .string a0_14, .slice A0_15 l0_15.length c0_15]) (t := 56) ?hr ?_; (case hd => rfl); (case hg => rfl); (case hr => first | (go_simp; done) | (go_simp; rfl)); intro gb307 hg w4 hbox hb; have n0_ := Aside0.mk (below_step (by repeat (first | (with_reducible first | exact HB.out | apply below_alloc | apply pw_below_drewN | apply below_drew1) | exact HB.out)) hb); have n1_ := Aside0.mk (hbox); have n2_ := Aside0.mk ((by rw [hg]; exact (below_size (by repeat (first | (with_reducible first | exact HB.out | apply below_alloc | apply pw_below_drewN | apply below_drew1) | exact HB.out))) : w.heap.size ≤ gb307)); have n3_ := Aside0.mk ((by rw [hg]; exact (below_size (by repeat (first | (with_reducible first | exact HB.out | apply below_alloc | apply pw_below_drewN | apply below_drew1) | exact HB.out))) : w.heap.size ≤ gb307)); clear HB; have HB := n0_; have BK307 := n1_; have GW307 := n2_; have GE307 := n3_; clear n0_ n1_ n2_ n3_; clear hb hbox hg; have hcz5_0 : w4.cell? ⟨gb307, 0, none⟩ = some (.int .i8 a0_0) := (blk_cell BK307.out 0).trans rfl; have hcz5_1 : w4.cell? ⟨gb307, 1, none⟩ = some (.string a0_1) := (blk_cell BK307.out 1).trans rfl; have hcz5_2 : w4.cell? ⟨gb307, 2, none⟩ = some (.slice A0_2 l0_2.length c0_2) := (blk_cell BK307.out 2).trans rfl; have hcz5_3 : w4.cell? ⟨gb307, 3, none⟩ = some (.int .i8 a0_3) := (blk_cell BK307.out 3).trans rfl; have hcz5_4 : w4.cell? ⟨gb307, 4, none⟩ = some (.int .i8 a0_4) := (blk_cell BK307.out 4).trans rfl; have hcz5_5 : w4.cell? ⟨gb307, 5, none⟩ = some (.string a0_5) := (blk_cell BK307.out 5).trans rfl; have hcz5_6 : w4.cell? ⟨gb307, 6, none⟩ = some (.int .i8 a0_6) := (blk_cell BK307.out 6).trans rfl; have hcz5_7 : w4.cell? ⟨gb307, 7, none⟩ = some (.int .i64 a0_7) := (blk_cell BK307.out 7).trans rfl; have hcz5_8 : w4.cell? ⟨gb307, 8, none⟩ = some (.string a0_8) := (blk_cell BK307.out 8).trans rfl; have hcz5_9 : w4.cell? ⟨gb307, 9, none⟩ = some (.slice A0_9 l0_9.length c0_9) := (blk_cell BK307.out 9).trans rfl; have hcz5_10 : w4.cell? ⟨gb307, 10, none⟩ = some (.int .i8 a0_10) := (blk_cell BK307.out 10).trans rfl; have hcz5_11 : w4.cell? ⟨gb307, 11, none⟩ = some (.string a0_11) := (blk_cell BK307.out 11).trans rfl; have hcz5_12 : w4.cell? ⟨gb307, 12, none⟩ = some (.int .i8 a0_12) := (blk_cell BK307.out 12).trans rfl; have hcz5_13 : w4.cell? ⟨gb307, 13, none⟩ = some (.int .i64 a0_13) := (blk_cell BK307.out 13).trans rfl; have hcz5_14 : w4.cell? ⟨gb307, 14, none⟩ = some (.string a0_14) := (blk_cell BK307.out 14).trans rfl; have hcz5_15 : w4.cell? ⟨gb307, 15, none⟩ = some (.slice A0_15 l0_15.length c0_15) := (blk_cell BK307.out 15).trans rfl; have hfz5_0 := blk_frozen BK307.out 0; have hfz5_1 := blk_frozen BK307.out 1; have hfz5_2 := blk_frozen BK307.out 2; have hfz5_3 := blk_frozen BK307.out 3; have hfz5_4 := blk_frozen BK307.out 4; have hfz5_5 := blk_frozen BK307.out 5; have hfz5_6 := blk_frozen BK307.out 6; have hfz5_7 := blk_frozen BK307.out 7; have hfz5_8 := blk_frozen BK307.out 8; have hfz5_9 := blk_frozen BK307.out 9; have hfz5_10 := blk_frozen BK307.out 10; have hfz5_11 := blk_frozen BK307.out 11; have hfz5_12 := blk_frozen BK307.out 12; have hfz5_13 := blk_frozen BK307.out 13; have hfz5_14 := blk_frozen BK307.out 14; have hfz5_15 := blk_frozen BK307.out 15) | ((with_reducible refine gate_callee (f := 69) rfl ?_); refine goesL_ (some 4) rfl rfl Tryd.func69 (by kernel_rfl) rfl #[.slice none 0 0, .agg #[.int .i8 a0_0, .string a0_1, .slice A0_2 l0_2.length c0_2, .int .i8 a0_3, .int .i8 a0_4, .string a0_5, .int .i8 a0_6, .int .i64 a0_7, .string a0_8, .slice A0_9 l0_9.length c0_9, .int .i8 a0_10, .string a0_11, .int .i8 a0_12, .int .i64 a0_13, .string a0_14, .slice A0_15 l0_15.length c0_15]] rfl (by (try simp only [List.map_toArray, List.map_cons, List.map_nil]); first | done | rfl | (simp only [List.length_drop, List.length_take]; rfl)) ?_; (refine (pedigreeref04_literalTerms.calls k (fun k_ => some k_ = (.slice none 0 0 : Value).ownBlock) (.slice none 0 0) ([] : List (S28)) a0_0 a0_1 _ _ l0_2 a0_3 a0_4 a0_5 a0_6 a0_7 a0_8 _ _ l0_9 a0_10 a0_11 a0_12 a0_13 a0_14 _ _ l0_15 t308 w _ ?side1 ?side2 ?side3 ?side4 ?side5 ?side6 ?side7 ?side8 A2.out).mono ?_); (case side1 => repeat (first | (with_reducible first | exact HB.out | apply below_alloc | apply pw_below_drewN | apply below_drew1 | refine below_set ?_ GE307.out) | exact HB.out)); (case side2 => exact Kd.R_nil _ _ _ _ _); (case side3 => exact Kd.C_kept_came k28_heap HR0_2.out (by repeat (first | (with_reducible first | exact HB.out | apply below_alloc | apply pw_below_drewN | apply below_drew1 | refine below_set ?_ GE307.out) | exact HB.out)) (fun k_ hs_ => (fun e_ => by simp [Value.ownBlock] at e_) hs_)); (case side4 => exact HC0_2.out); (case side5 => exact Kd.C_kept_came k31_heap HR0_9.out (by repeat (first | (with_reducible first | exact HB.out | apply below_alloc | apply pw_below_drewN | apply below_drew1 | refine below_set ?_ GE307.out) | exact HB.out)) (fun k_ hs_ => (fun e_ => by simp [Value.ownBlock] at e_) hs_)); (case side6 => exact HC0_9.out); (case side7 => exact Kd.C_kept_came k31_heap HR0_15.out (by repeat (first | (with_reducible first | exact HB.out | apply below_alloc | apply pw_below_drewN | apply below_drew1 | refine below_set ?_ GE307.out) | exact HB.out)) (fun k_ hs_ => (fun e_ => by simp [Value.ownBlock] at e_) hs_)); (case side8 => exact HC0_15.out); rintro e w6 ⟨v309, rfl, ho0, hb, hkp⟩; refine ⟨_, rfl, ?_⟩; have n0_ := Aside0.mk (blk_kept (by (with_reducible repeat (first | refine blk_drewN ?_ _ | refine blk_drew ?_ | refine blk_alloc ?_ _)); exact BK307.out) hkp (fun hs_ => (fun e_ => by simp [Value.ownBlock] at e_) hs_)); have n1_ := Aside0.mk (Kd.R_mono (ok' := fun k_ => True) ho0 (fun k_ hk_ => trivial)); have n2_ := Aside0.mk (hb); clear BK307; clear HB; have BK307 := n0_; have HO310 := n1_; have HB := n2_; clear n0_ n1_ n2_; (try clear hb); (try clear hkp); (try clear ho0); obtain ⟨Ao7, co7, eo7⟩ := Kd.R_slice HO310.out; subst eo7) | ((with_reducible refine gate_callee (f := 56) rfl ?_); refine goesL_ (some 5) rfl rfl Tryd.func56 (by kernel_rfl) rfl #[.slice Ao7 t308.length co7] rfl (by (try simp only [List.map_toArray, List.map_cons, List.map_nil]); first | done | rfl | (simp only [List.length_drop, List.length_take]; rfl)) ?_; (with_reducible refine (pedigreeref04_vars.calls k _ _ t308 t311 _ ?side1 ?side2 A3.out).mono ?_); (case side1 => repeat (first | exact (Kd.R_reads' HO310.out).2.2 | (with_reducible refine Kd.C_alloc ?_ _) | (with_reducible refine Kd.C_drewN ?_ _) | (with_reducible refine Kd.C_drew ?_))); (case side2 => exact (Kd.R_reads' HO310.out).2.1); rintro e w8 ⟨v312, rfl, ho0, hb⟩; refine ⟨_, rfl, ?_⟩; have n0_ := Aside0.mk (Kd.R_below (by (with_reducible repeat (first | apply Kd.R_alloc | apply Kd.R_drewN | apply Kd.R_drew)); exact HO310.out) hb); have n1_ := Aside0.mk (Kd.R_lower ho0 (below_size (by repeat (first | (with_reducible first | exact HB.out | apply below_alloc | apply pw_below_drewN | apply below_drew1 | refine below_set ?_ GE307.out) | exact HB.out)))); have n2_ := Aside0.mk (blk_below (g := gb307) (o := .cells #[.int .i8 a0_0, .string a0_1, .slice A0_2 l0_2.length c0_2, .int .i8 a0_3, .int .i8 a0_4, .string a0_5, .int .i8 a0_6, .int .i64 a0_7, .string a0_8, .slice A0_9 l0_9.length c0_9, .int .i8 a0_10, .string a0_11, .int .i8 a0_12, .int .i64 a0_13, .string a0_14, .slice A0_15 l0_15.length c0_15] 56 (0, 0)) (by (with_reducible repeat (first | refine blk_drewN ?_ _ | refine blk_drew ?_ | refine blk_alloc ?_ _)); exact BK307.out) hb); have n3_ := Aside0.mk (below_step (by repeat (first | (with_reducible first | exact HB.out | apply below_alloc | apply pw_below_drewN | apply below_drew1 | refine below_set ?_ GE307.out) | exact HB.out)) hb); clear HO310; clear BK307; clear HB; have HO310 := n0_; have HO313 := n1_; have BK307 := n2_; have HB := n3_; clear n0_ n1_ n2_ n3_; (try clear hb); (try clear hb2); (try clear hk); (try clear hi); (try clear ho0)))
  go_ret
  exact ⟨_, by first | rfl | (simp [errW_none, errW_some] <;> rfl) | (simp [*, errW_none, errW_some] <;> rfl), by (with_reducible repeat (first | apply Kd.R_alloc | apply Kd.R_drewN | apply Kd.R_drew)); exact HO313.out, by repeat (first | (with_reducible first | exact HB.out | apply below_alloc | apply pw_below_drewN | apply below_drew1 | refine below_set ?_ GE307.out) | exact HB.out)⟩
end Go.Proofs.YtllcmggmcogokaaDoor.PAll
end

section
namespace Go.Proofs.YtllcmggmcogokaaDoor.PAll
open Go.RowKit Go.Proofs.YtllcmggmcogokaaDoorW.PrintWords Go.Proofs.YtllcmggmcogokaaDoorW.PrintLast Go.Proofs.YtllcmggmcogokaaDoorW.PrintMore
attribute [local go_sem] max2_int min2_int max_two min_two max_three min_three max_four min_four
set_option linter.unusedVariables false
set_option linter.unusedSimpArgs false
theorem in_ev (s : ByteArray) (L : List ByteArray) (hL : L.length < 1000000000000000000) : ∀ (m i : Nat), L.length - i = m → i ≤ L.length → Ev (fun k => pedigreeref04_In.l0 k s L (i : Int)) ((L.drop i).any (fun y => y.data.toList == s.data.toList))
  | 0, i, hm, hi => by
    refine Ev.of (fun k => ?_)
    rw [pedigreeref04_In.l0, if_neg (by omega), List.drop_eq_nil_of_le (by omega)]
    rfl
  | m + 1, i, hm, hi => by
    have hlt : i < L.length := by omega
    have e : rdOf ByteArray.empty L (i : Int) = L[i] := by simp [rdOf, List.getD_eq_getElem?_getD, List.getElem?_eq_getElem hlt]
    have ih := in_ev s L hL m (i + 1) (by omega) (by omega)
    rw [List.drop_eq_getElem_cons hlt, List.any_cons]
    by_cases h : L[i].data.toList = s.data.toList
    · rw [show (L[i].data.toList == s.data.toList) = true by simpa using h, Bool.true_or]
      refine Ev.of (fun k => ?_)
      rw [pedigreeref04_In.l0, if_pos (by omega), if_pos (by omega), e, toList_eq_data, toList_eq_data, if_pos h]
    · rw [show (L[i].data.toList == s.data.toList) = false by simpa using h, Bool.false_or]
      refine ih.step (fun k => ?_)
      rw [pedigreeref04_In.l0, if_pos (by omega), if_pos (by omega), e, toList_eq_data, toList_eq_data, if_neg h, w64 (by omega) (by omega)]
      rfl
theorem vars_ev (ts : List S28) (hts : ts.length < 2000000000000) : ∀ (m i : Nat) (acc : List ByteArray), ts.length - i = m → i ≤ ts.length → acc.length + m < 2000000000000 → Ev (fun k => pedigreeref04_vars.l0 k ts acc (i : Int)) ((ts.drop i).foldl varStep acc)
  | 0, i, acc, hm, hi, ha => by
    refine Ev.of (fun k => ?_)
    rw [pedigreeref04_vars.l0, if_neg (by omega), List.drop_eq_nil_of_le (by omega)]
    rfl
  | m + 1, i, acc, hm, hi, ha => by
    have hlt : i < ts.length := by omega
    have e : rd_T28 ts (i : Int) = ts[i] := by rw [rd_T28, List.getD_eq_getElem?_getD, Int.toNat_natCast, List.getElem?_eq_getElem hlt]; rfl
    have ih := fun acc (ha : List.length acc + m < 2000000000000) => vars_ev ts hts m (i + 1) acc (by omega) (by omega) ha
    rw [List.drop_eq_getElem_cons hlt, List.foldl_cons]
    by_cases h1 : ts[i].f0.toList = []
    · rw [show varStep acc ts[i] = acc by rw [varStep, if_pos (.inl h1)]]
      refine (ih acc (by omega)).step (fun k => ?_)
      rw [pedigreeref04_vars.l0, if_pos (by omega), if_pos (by omega), e, if_pos h1, w64 (by omega) (by omega)]
      rfl
    · by_cases h2 : ts[i].f0.toList = [95]
      · rw [show varStep acc ts[i] = acc by rw [varStep, if_pos (.inr (.inl h2))]]
        refine (ih acc (by omega)).step (fun k => ?_)
        rw [pedigreeref04_vars.l0, if_pos (by omega), if_pos (by omega), e, if_neg h1, if_pos h2, w64 (by omega) (by omega)]
        rfl
      · have hin := in_ev ts[i].f0 acc (by omega) _ 0 rfl (Nat.zero_le _)
        rw [List.drop_zero] at hin
        have h3 : Ev (fun k => (pedigreeref04_In.f k ts[i].f0 acc).bind fun t194 => (if t194 = true then (pedigreeref04_vars.l0 k ts acc ((i + 1 : Nat) : Int)) else (if acc.length < 8796093022208 then (pedigreeref04_vars.l0 k ts (acc ++ [ts[i].f0]) ((i + 1 : Nat) : Int)) else (none)))) ((ts.drop (i + 1)).foldl varStep (varStep acc ts[i])) := by
          refine Ev.bind (f := fun k => pedigreeref04_In.f k ts[i].f0 acc) (g := fun k t194 => (if t194 = true then (pedigreeref04_vars.l0 k ts acc ((i + 1 : Nat) : Int)) else (if acc.length < 8796093022208 then (pedigreeref04_vars.l0 k ts (acc ++ [ts[i].f0]) ((i + 1 : Nat) : Int)) else (none)))) hin ?_
          cases hb : acc.any (fun y => y.data.toList == ts[i].f0.data.toList) with
          | true =>
            rw [show varStep acc ts[i] = acc by rw [varStep, if_pos (.inr (.inr hb))]]
            exact (ih acc (by omega)).cong (fun k => by rw [if_pos rfl])
          | false =>
            rw [show varStep acc ts[i] = acc ++ [ts[i].f0] by rw [varStep, if_neg (by rw [hb]; simp [h1, h2])]]
            exact (ih _ (by simp; omega)).cong (fun k => by rw [if_neg (by simp), if_pos (by omega)])
        refine h3.step (fun k => ?_)
        rw [pedigreeref04_vars.l0, if_pos (by omega), if_pos (by omega), e, if_neg h1, if_neg h2, w64 (by omega) (by omega)]
        rfl
theorem refVars_ev (ts : List S28) (hts : ts.length < 2000000000000) : Ev (fun k => pedigreeref04_vars.f k ts) (varsOf ts) := by
  have h := vars_ev ts hts _ 0 [] rfl (Nat.zero_le _) (by simp; omega)
  rw [List.drop_zero] at h
  exact h
theorem eta_term (y : S28) : (⟨y.f0, ⟨y.f1.f0, y.f1.f1, y.f1.f2⟩⟩ : S28) = y := rfl
theorem litTerms_l0 (x : S56) : ∀ (m i : Nat) (acc : List S28), x.f1.f1.length - i = m → i ≤ x.f1.f1.length → acc.length + m + (exprTermsL x.f3).length + (exprTermsL x.f4).length < 1000000000000 → x.f1.f1.length < 1000000000000 →
    Ev (fun k => pedigreeref04_literalTerms.l0 k acc (i : Int) x.f0 x.f1.f0 x.f1.f1 x.f2 x.f3.f0 x.f3.f1.f0 x.f3.f1.f1.f0 x.f3.f1.f1.f1 x.f3.f1.f1.f2 x.f3.f2 x.f4.f0 x.f4.f1.f0 x.f4.f1.f1.f0 x.f4.f1.f1.f1 x.f4.f1.f1.f2 x.f4.f2) (acc ++ x.f1.f1.drop i ++ exprTermsL x.f3 ++ exprTermsL x.f4)
  | 0, i, acc, hm, hi, ha, hx => by
    refine Ev.of (fun k => ?_)
    rw [pedigreeref04_literalTerms.l0, if_neg (by omega), List.drop_eq_nil_of_le (by omega), List.append_nil, pedigreeref04_exprTerms.f, eta_expr]
    try dsimp only
    rw [if_pos (by omega)]
    show (pedigreeref04_exprTerms.f (acc ++ exprTermsL x.f3) _ _ _ _ _ _).bind _ = _
    rw [pedigreeref04_exprTerms.f, eta_expr]
    try dsimp only
    rw [if_pos (by rw [List.length_append]; omega)]
    rfl
  | m + 1, i, acc, hm, hi, ha, hx => by
    have hlt : i < x.f1.f1.length := by omega
    have e : rd_T28 x.f1.f1 (i : Int) = x.f1.f1[i] := by rw [rd_T28, List.getD_eq_getElem?_getD, Int.toNat_natCast, List.getElem?_eq_getElem hlt]; rfl
    have ih := litTerms_l0 x m (i + 1) (acc ++ [x.f1.f1[i]]) (by omega) (by omega) (by simp; omega) hx
    rw [List.drop_eq_getElem_cons hlt, show acc ++ x.f1.f1[i] :: x.f1.f1.drop (i + 1) = acc ++ [x.f1.f1[i]] ++ x.f1.f1.drop (i + 1) by simp]
    refine ih.step (fun k => ?_)
    rw [pedigreeref04_literalTerms.l0, if_pos (by omega), if_pos (by omega), if_pos (by omega), eta_term, e, w64 (by omega) (by omega)]
    rfl
theorem refLiteralVars_ev (x : S56) (h : (litTermsL x).length < 1000000000) : Ev (fun k => pedigreeref04_LiteralVars.f k x.f0 x.f1.f0 x.f1.f1 x.f2 x.f3.f0 x.f3.f1.f0 x.f3.f1.f1.f0 x.f3.f1.f1.f1 x.f3.f1.f1.f2 x.f3.f2 x.f4.f0 x.f4.f1.f0 x.f4.f1.f1.f0 x.f4.f1.f1.f1 x.f4.f1.f1.f2 x.f4.f2) (varsOf (litTermsL x)) := by
  have h0 : x.f1.f1.length + (exprTermsL x.f3).length + (exprTermsL x.f4).length < 1000000000 := by rw [litTermsL] at h; simp only [List.length_append] at h; omega
  have h1 := litTerms_l0 x _ 0 [] rfl (Nat.zero_le _) (by simp; omega) (by omega)
  rw [List.drop_zero, List.nil_append, ← litTermsL] at h1
  refine Ev.bind (f := fun k => pedigreeref04_literalTerms.f k [] x.f0 x.f1.f0 x.f1.f1 x.f2 x.f3.f0 x.f3.f1.f0 x.f3.f1.f1.f0 x.f3.f1.f1.f1 x.f3.f1.f1.f2 x.f3.f2 x.f4.f0 x.f4.f1.f0 x.f4.f1.f1.f0 x.f4.f1.f1.f1 x.f4.f1.f1.f2 x.f4.f2) (g := fun k t308 => (pedigreeref04_vars.f k t308).bind fun t311 => some t311) h1 ?_
  exact Ev.of_bind (g := fun t => some t) (refVars_ev (litTermsL x) (by omega)) rfl
theorem sameTexts_l0 (l : List ByteArray) (hl : l.length < 1000000000000) : ∀ (m i : Nat), l.length - i = m → i ≤ l.length → Ev (fun k => pedigreelaw01_SameTexts.l0 k l l (i : Int)) true
  | 0, i, hm, hi => Ev.of (fun k => by rw [pedigreelaw01_SameTexts.l0, if_neg (by omega)])
  | m + 1, i, hm, hi => (sameTexts_l0 l hl m (i + 1) (by omega) (by omega)).step (fun k => by
      rw [pedigreelaw01_SameTexts.l0, if_pos (by omega), if_pos (by omega), if_pos (by omega), if_pos rfl, w64 (by omega) (by omega)]
      rfl)
theorem sameTexts_ev (l : List ByteArray) (hl : l.length < 1000000000000) : Ev (fun k => pedigreelaw01_SameTexts.f k l l) true :=
  (sameTexts_l0 l hl _ 0 rfl (Nat.zero_le _)).cong (fun k => by rw [pedigreelaw01_SameTexts.f, if_pos rfl]; rfl)
theorem varsOf_len (ts : List S28) : (varsOf ts).length ≤ ts.length := by
  have : ∀ (ts : List S28) (L : List ByteArray), (ts.foldl varStep L).length ≤ L.length + ts.length := by
    intro ts
    induction ts with
    | nil => intro L; simp
    | cons t r ih => intro L; rw [List.foldl_cons, List.length_cons]; have := ih (varStep L t); have := varStep_len L t; omega
  have h := this ts []
  rw [List.length_nil, Nat.zero_add] at h
  exact h
end Go.Proofs.YtllcmggmcogokaaDoor.PAll
end

section
namespace Go.Proofs.YtllcmggmcogokaaDoor.PAll
open Go.RowKit Go.Proofs.YtllcmggmcogokaaDoorW.PrintWords Go.Proofs.YtllcmggmcogokaaDoorW.PrintLast Go.Proofs.YtllcmggmcogokaaDoorW.PrintMore
attribute [local go_sem] max2_int min2_int max_two min_two max_three min_three max_four min_four
set_option linter.unusedVariables false
set_option linter.unusedSimpArgs false
def pedigreelaw01_BeyondLiterals.f (k : Nat) (l0 : List (S56)) : Option (Bool) := (pedigreelaw01_RuleParts.f k (⟨#[]⟩ : ByteArray) ([] : List (S125)) l0 1048576).bind fun t241 => (some (decide (t241 > 1048576)))
theorem pedigreelaw01_BeyondLiterals.mono : ∀ a0 k, LeO (pedigreelaw01_BeyondLiterals.f k a0) (pedigreelaw01_BeyondLiterals.f (k + 1) a0) := by
  intro a0 k
  unfold pedigreelaw01_BeyondLiterals.f
  repeat' first
      | (with_reducible exact pedigreelaw01_RuleParts.mono _ _ _ _ _)
      | (with_reducible exact LeO.refl _)
      | (with_reducible exact LeO.none _)
      | (with_reducible refine LeO.ite ?_ ?_)
      | (with_reducible refine LeO.bind ?_ (fun _ => ?_))
      | exact pedigreelaw01_RuleParts.mono _ _ _ _ _
      | exact LeO.none _
      | refine LeO.ite ?_ ?_
      | refine LeO.bind ?_ (fun _ => ?_)
set_option maxHeartbeats 8000000 in
set_option maxRecDepth 100000 in
theorem pedigreelaw01_BeyondLiterals.calls (k : Nat) (A0 : Option Addr) (c0 : Nat) (l0 : List (S56)) (r : Bool) (w : World) (hr0 : Kd.C k56 w A0 l0.length l0) (hc0 : l0.length ≤ c0) (h : pedigreelaw01_BeyondLiterals.f k l0 = some r) :
    Calls Tryd.prog 18 #[.slice A0 l0.length c0] w fun e w' => e = .returned (.bool r) ∧ Below w.heap.size w w' := by
  have hu67 := Tryd.underlying67
  have HR0 := Aside0.mk hr0
  have HC0 := Aside0.mk hc0
  clear hr0 hc0
  have HB := Aside0.mk (Below.refl w.heap.size w)
  have H : ((pedigreelaw01_RuleParts.f k (⟨#[]⟩ : ByteArray) ([] : List (S125)) l0 1048576).bind fun t241 => (some (decide (t241 > 1048576)))) = some r := h
  clear h
  replace H := Option.bind_eq_some_iff.mp H
  obtain ⟨t241, A20, H⟩ := H
  replace H : (some (decide (t241 > 1048576))) = some r := H
  have A2 := Aside0.mk A20
  clear A20
  obtain rfl := Option.some.inj H
  go_enter Tryd.func18, Tryd.ntmps18
  go_wp2_with (first | ((with_reducible refine gate_callee (f := 64) rfl ?_); refine goesL_ (some 5) rfl rfl Tryd.func64 (by kernel_rfl) rfl #[.agg #[.string (⟨#[]⟩ : ByteArray), .slice none 0 0, .slice A0 l0.length c0], .int .i64 1048576] rfl (by (try simp only [List.map_toArray, List.map_cons, List.map_nil]); first | done | rfl | (simp only [List.length_drop, List.length_take]; rfl)) ?_; (refine (pedigreelaw01_RuleParts.calls k (⟨#[]⟩ : ByteArray) _ _ ([] : List (S125)) _ _ l0 1048576 t241 _ ?side1 ?side2 ?side3 ?side4 A2.out).mono ?_); (case side1 => exact Kd.C_nil _ _); (case side2 => exact Nat.le_refl _); (case side3 => repeat (first | exact HR0.out | (with_reducible refine Kd.C_alloc ?_ _) | (with_reducible refine Kd.C_drewN ?_ _) | (with_reducible refine Kd.C_drew ?_))); (case side4 => exact HC0.out); rintro e w3 ⟨rfl, hb⟩; refine ⟨_, rfl, ?_⟩; have n0_ := Aside0.mk (below_step (by repeat (first | (with_reducible first | exact HB.out | apply below_alloc | apply pw_below_drewN | apply below_drew1) | exact HB.out)) hb); clear HB; have HB := n0_; clear n0_; (try clear hb); (try clear hb2); (try clear hk); (try clear hi)))
  go_ret
  exact ⟨by first | rfl | (simp [errW_none, errW_some] <;> rfl) | (simp [*, errW_none, errW_some] <;> rfl), by repeat (first | (with_reducible first | exact HB.out | apply below_alloc | apply pw_below_drewN | apply below_drew1) | exact HB.out)⟩
end Go.Proofs.YtllcmggmcogokaaDoor.PAll
end

section
namespace Go.Proofs.YtllcmggmcogokaaDoor.PAll
open Go.RowKit Go.Proofs.YtllcmggmcogokaaDoorW.PrintWords Go.Proofs.YtllcmggmcogokaaDoorW.PrintLast Go.Proofs.YtllcmggmcogokaaDoorW.PrintMore
attribute [local go_sem] max2_int min2_int max_two min_two max_three min_three max_four min_four
set_option linter.unusedVariables false
set_option linter.unusedSimpArgs false
def term_LiteralVars.f (a0_0 : Int) (a0_1 : ByteArray) (l0_2 : List (S28)) (a0_3 : Int) (a0_4 : Int) (a0_5 : ByteArray) (a0_6 : Int) (a0_7 : Int) (a0_8 : ByteArray) (l0_9 : List (S31)) (a0_10 : Int) (a0_11 : ByteArray) (a0_12 : Int) (a0_13 : Int) (a0_14 : ByteArray) (l0_15 : List (S31)) : Option (List ByteArray) := let x : S56 := ⟨a0_0, ⟨a0_1, l0_2⟩, a0_3, ⟨a0_4, ⟨a0_5, ⟨a0_6, a0_7, a0_8⟩⟩, l0_9⟩, ⟨a0_10, ⟨a0_11, ⟨a0_12, a0_13, a0_14⟩⟩, l0_15⟩⟩; if varsFit (litTermsL x) = true then some (varsOf (litTermsL x)) else none
set_option maxHeartbeats 4000000 in
set_option maxRecDepth 100000 in
theorem term_LiteralVars.calls (a0_0 : Int) (a0_1 : ByteArray) (A0_2 : Option Addr) (c0_2 : Nat) (l0_2 : List (S28)) (a0_3 : Int) (a0_4 : Int) (a0_5 : ByteArray) (a0_6 : Int) (a0_7 : Int) (a0_8 : ByteArray) (A0_9 : Option Addr) (c0_9 : Nat) (l0_9 : List (S31)) (a0_10 : Int) (a0_11 : ByteArray) (a0_12 : Int) (a0_13 : Int) (a0_14 : ByteArray) (A0_15 : Option Addr) (c0_15 : Nat) (l0_15 : List (S31)) (r : List ByteArray) (w : World) (hr0_2 : Kd.C k28 w A0_2 l0_2.length l0_2) (hc0_2 : l0_2.length ≤ c0_2) (hr0_9 : Kd.C k31 w A0_9 l0_9.length l0_9) (hc0_9 : l0_9.length ≤ c0_9) (hr0_15 : Kd.C k31 w A0_15 l0_15.length l0_15) (hc0_15 : l0_15.length ≤ c0_15) (h : term_LiteralVars.f a0_0 a0_1 l0_2 a0_3 a0_4 a0_5 a0_6 a0_7 a0_8 l0_9 a0_10 a0_11 a0_12 a0_13 a0_14 l0_15 = some r) :
    Calls Tryd.prog 23 #[.agg #[.int .i8 a0_0, .string a0_1, .slice A0_2 l0_2.length c0_2, .int .i8 a0_3, .int .i8 a0_4, .string a0_5, .int .i8 a0_6, .int .i64 a0_7, .string a0_8, .slice A0_9 l0_9.length c0_9, .int .i8 a0_10, .string a0_11, .int .i8 a0_12, .int .i64 a0_13, .string a0_14, .slice A0_15 l0_15.length c0_15]] w fun e w' => ∃ v0_ : Value, e = .returned (v0_) ∧ Kd.R Kd.string 9 w' w.heap.size (fun _ => True) v0_ r ∧ Below w.heap.size w w' := by
  obtain ⟨x, hx⟩ : ∃ x : S56, x = ⟨a0_0, ⟨a0_1, l0_2⟩, a0_3, ⟨a0_4, ⟨a0_5, ⟨a0_6, a0_7, a0_8⟩⟩, l0_9⟩, ⟨a0_10, ⟨a0_11, ⟨a0_12, a0_13, a0_14⟩⟩, l0_15⟩⟩ := ⟨_, rfl⟩
  have h' : (if varsFit (litTermsL x) = true then some (varsOf (litTermsL x)) else none) = some r := by rw [hx]; exact h
  clear h
  have hfit : varsFit (litTermsL x) = true := by
    rcases hv : varsFit (litTermsL x) with _ | _
    · rw [hv] at h'; simp at h'
    · rfl
  rw [if_pos hfit] at h'
  have HR := Lib.hid (Option.some.inj h')
  have HG := Lib.hid (allG_vars hfit)
  have hBK := blk_new w (.cells #[.int .i8 a0_0, .string a0_1, .slice A0_2 l0_2.length c0_2, .int .i8 a0_3, .int .i8 a0_4, .string a0_5, .int .i8 a0_6, .int .i64 a0_7, .string a0_8, .slice A0_9 l0_9.length c0_9, .int .i8 a0_10, .string a0_11, .int .i8 a0_12, .int .i64 a0_13, .string a0_14, .slice A0_15 l0_15.length c0_15] 56 (0, 0))
  have HBn := below_alloc (Below.refl w.heap.size w) (.cells #[.int .i8 a0_0, .string a0_1, .slice A0_2 l0_2.length c0_2, .int .i8 a0_3, .int .i8 a0_4, .string a0_5, .int .i8 a0_6, .int .i64 a0_7, .string a0_8, .slice A0_9 l0_9.length c0_9, .int .i8 a0_10, .string a0_11, .int .i8 a0_12, .int .i64 a0_13, .string a0_14, .slice A0_15 l0_15.length c0_15] 56 (0, 0))
  have HX : Hid (LitAt (w.alloc (.cells #[.int .i8 a0_0, .string a0_1, .slice A0_2 l0_2.length c0_2, .int .i8 a0_3, .int .i8 a0_4, .string a0_5, .int .i8 a0_6, .int .i64 a0_7, .string a0_8, .slice A0_9 l0_9.length c0_9, .int .i8 a0_10, .string a0_11, .int .i8 a0_12, .int .i64 a0_13, .string a0_14, .slice A0_15 l0_15.length c0_15] 56 (0, 0))) ⟨w.heap.size, 0, none⟩ x A0_2 c0_2 A0_9 c0_9 A0_15 c0_15) := Lib.hid (by
    have g := fun i => blk_cell hBK i
    subst hx
    exact ⟨g 0, ⟨g 1, g 2, hc0_2, Kd.C_below hr0_2 HBn⟩, g 3, ⟨g 4, ⟨g 5, g 6, g 7, g 8⟩, g 9, hc0_9, Kd.C_below hr0_9 HBn⟩, ⟨g 10, ⟨g 11, g 12, g 13, g 14⟩, g 15, hc0_15, Kd.C_below hr0_15 HBn⟩⟩)
  have HB := Lib.hid HBn
  clear h' hBK HBn hfit hx hr0_2 hr0_9 hr0_15
  go_enter Tryd.func23, Tryd.ntmps23
  go_wp2_with fail
  generalize w.alloc (.cells #[.int .i8 a0_0, .string a0_1, .slice A0_2 l0_2.length c0_2, .int .i8 a0_3, .int .i8 a0_4, .string a0_5, .int .i8 a0_6, .int .i64 a0_7, .string a0_8, .slice A0_9 l0_9.length c0_9, .int .i8 a0_10, .string a0_11, .int .i8 a0_12, .int .i64 a0_13, .string a0_14, .slice A0_15 l0_15.length c0_15] 56 (0, 0)) = wa at *
  have T := Lib.hid (vars_taker wa)
  refine (vars_any _ wa (litTermsL x) (Lib.hid (fun w1 hI => walk_lit T x _ A0_2 c0_2 A0_9 c0_9 A0_15 c0_15 [] w1 HX.out HG.out hI))).mono ?_
  rintro e w1 ⟨v, rfl, hR, hB⟩
  have HR1 := Lib.hid (Kd.R_lower hR HB.out.size)
  have HB1 := Lib.hid (below_step HB.out hB)
  obtain ⟨A, c, rfl⟩ := Kd.R_slice hR
  clear hR hB
  have HE : Hid ((litTermsL x).foldl varStep [] = r) := HR
  generalize hLe : (litTermsL x).foldl varStep [] = L at *
  clear hLe
  go_wp2_with fail
  go_ret
  exact ⟨_, rfl, by rw [← HE.out]; exact HR1.out, HB1.out⟩
end Go.Proofs.YtllcmggmcogokaaDoor.PAll
end

section
namespace Go.Proofs.YtllcmggmcogokaaDoor.PAll
open Go.RowKit Go.Proofs.YtllcmggmcogokaaDoorW.PrintWords Go.Proofs.YtllcmggmcogokaaDoorW.PrintLast Go.Proofs.YtllcmggmcogokaaDoorW.PrintMore
attribute [local go_sem] max2_int min2_int max_two min_two max_three min_three max_four min_four
set_option linter.unusedVariables false
set_option linter.unusedSimpArgs false
theorem FE_short {n : Nat} : ∀ {q : Nat} {x : S31}, FE n x → short q x := by
  induction n with
  | zero => exact fun h => h.elim
  | succ n ih =>
    intro q x h
    cases q with
    | zero => trivial
    | succ q =>
      refine ⟨?_, fun k hk => ih (h.2.2.2 k hk)⟩
      have := h.2.2.1
      have : x.f2.length * 80 ≤ 140737488351232 := this
      omega
theorem FE_terms {n : Nat} : ∀ {x : S31}, FE n x → ∀ t ∈ exprTermsL x, FT t := by
  induction n with
  | zero => exact fun h => h.elim
  | succ n ih =>
    intro x h t ht
    rw [exprTermsL_eq] at ht
    rcases List.mem_cons.1 ht with rfl | ht
    · exact h.2.1
    · have : ∀ l : List S31, (∀ k ∈ l, FE n k) → t ∈ kidsTermsL l → FT t := by
        intro l
        induction l with
        | nil => intro _ h; simp [kidsTermsL] at h
        | cons e r ihl =>
          intro hl h
          rw [kidsTermsL] at h
          rcases List.mem_append.1 h with h | h
          · exact ih (hl e List.mem_cons_self) t h
          · exact ihl (fun k hk => hl k (List.mem_cons_of_mem _ hk)) h
      exact this _ h.2.2.2 ht
theorem eta_lit (x : S56) : (⟨x.f0, ⟨x.f1.f0, x.f1.f1⟩, x.f2, ⟨x.f3.f0, ⟨x.f3.f1.f0, ⟨x.f3.f1.f1.f0, x.f3.f1.f1.f1, x.f3.f1.f1.f2⟩⟩, x.f3.f2⟩, ⟨x.f4.f0, ⟨x.f4.f1.f0, ⟨x.f4.f1.f1.f0, x.f4.f1.f1.f1, x.f4.f1.f1.f2⟩⟩, x.f4.f2⟩⟩ : S56) = x := by rw [eta_expr, eta_expr]
theorem FL_short {x : S56} (h : FL x) : shortLit x := by
  obtain ⟨_, ⟨_, h2, _⟩, _, ⟨n, hn⟩, ⟨m, hm⟩⟩ := h
  have : x.f1.f1.length * 48 ≤ 140737488351232 := h2
  exact ⟨by omega, fun q => FE_short hn, fun q => FE_short hm⟩
theorem FL_terms {x : S56} (h : FL x) : ∀ t ∈ litTermsL x, FT t := by
  obtain ⟨_, ⟨_, _, h3⟩, _, ⟨n, hn⟩, ⟨m, hm⟩⟩ := h
  intro t ht
  rw [litTermsL] at ht
  rcases List.mem_append.1 ht with ht | ht
  · rcases List.mem_append.1 ht with ht | ht
    · exact h3 t ht
    · exact FE_terms hn t ht
  · exact FE_terms hm t ht
theorem fits_terms {l : List S28} (h : ∀ t ∈ l, FT t) (hl : l.length < 2000000) : varsFit l = true := by
  rw [varsFit, Bool.and_eq_true]
  refine ⟨by simp; omega, List.all_eq_true.2 (fun t ht => ?_)⟩
  have : t.f0.size ≤ 140737488351232 := (h t ht).1
  simpa using this
theorem termLiterals_pure (x : S56) (h : FL x) : ∃ (b : Bool) (kb kc kd kv ks : Nat) (e : Int) (vs : List ByteArray), pedigreelaw01_BeyondLiterals.f kb [x] = some b ∧
    (b = false → (litTermsL x).length < 2000000 ∧ term_CheckLiteral.f kc x.f0 x.f1.f0 x.f1.f1 x.f2 x.f3.f0 x.f3.f1.f0 x.f3.f1.f1.f0 x.f3.f1.f1.f1 x.f3.f1.f1.f2 x.f3.f2 x.f4.f0 x.f4.f1.f0 x.f4.f1.f1.f0 x.f4.f1.f1.f1 x.f4.f1.f1.f2 x.f4.f2 = some e ∧ pedigreeref04_CheckLiteral.f kd x.f0 x.f1.f0 x.f1.f1 x.f2 x.f3.f0 x.f3.f1.f0 x.f3.f1.f1.f0 x.f3.f1.f1.f1 x.f3.f1.f1.f2 x.f3.f2 x.f4.f0 x.f4.f1.f0 x.f4.f1.f1.f0 x.f4.f1.f1.f1 x.f4.f1.f1.f2 x.f4.f2 = some e ∧ term_LiteralVars.f x.f0 x.f1.f0 x.f1.f1 x.f2 x.f3.f0 x.f3.f1.f0 x.f3.f1.f1.f0 x.f3.f1.f1.f1 x.f3.f1.f1.f2 x.f3.f2 x.f4.f0 x.f4.f1.f0 x.f4.f1.f1.f0 x.f4.f1.f1.f1 x.f4.f1.f1.f2 x.f4.f2 = some vs ∧ pedigreeref04_LiteralVars.f kv x.f0 x.f1.f0 x.f1.f1 x.f2 x.f3.f0 x.f3.f1.f0 x.f3.f1.f1.f0 x.f3.f1.f1.f1 x.f3.f1.f1.f2 x.f3.f2 x.f4.f0 x.f4.f1.f0 x.f4.f1.f1.f0 x.f4.f1.f1.f1 x.f4.f1.f1.f2 x.f4.f2 = some vs) ∧ pedigreelaw01_SameTexts.f ks vs vs = some true := by
  obtain ⟨r, hr, hr2⟩ := ruleParts_ev 1048576 (Int.le_refl _) ⟨#[]⟩ [] [x] (by simp) (by simp) (fun y hy => by rw [List.mem_singleton.1 hy]; exact FL_short h)
  have hb : Ev (fun k => pedigreelaw01_BeyondLiterals.f k [x]) (decide (r > 1048576)) := Ev.of_bind (g := fun t => some (decide (t > 1048576))) hr rfl
  obtain ⟨kb, hkb⟩ := hb.at
  by_cases hbig : r > 1048576
  · obtain ⟨ks, hks⟩ := (sameTexts_ev [] (by simp)).at
    rw [decide_eq_true hbig] at hkb
    exact ⟨true, kb, 0, 0, 0, ks, 0, [], hkb, fun h => (nomatch h), hks⟩
  · rw [decide_eq_false hbig] at hkb
    have hlen : (litTermsL x).length < 2000000 := by
      have := hr2 (by omega)
      simp [litsParts] at this
      omega
    obtain ⟨kc, hkc⟩ := (checkLiteral_ev x).at
    obtain ⟨kd, hkd⟩ := (refCheckLiteral_ev x).at
    obtain ⟨kv, hkv⟩ := (refLiteralVars_ev x (by omega)).at
    obtain ⟨ks, hks⟩ := (sameTexts_ev (varsOf (litTermsL x)) (by have := varsOf_len (litTermsL x); omega)).at
    refine ⟨false, kb, kc, kd, kv, ks, _, _, hkb, fun _ => ⟨hlen, hkc, hkd, ?_, hkv⟩, hks⟩
    rw [term_LiteralVars.f]
    simp only [eta_lit]
    rw [if_pos (fits_terms (FL_terms h) hlen)]
end Go.Proofs.YtllcmggmcogokaaDoor.PAll
end

section
namespace Go.Proofs.YtllcmggmcogokaaDoor.PAll
open Go.RowKit Go.Proofs.YtllcmggmcogokaaDoorW.PrintWords Go.Proofs.YtllcmggmcogokaaDoorW.PrintLast Go.Proofs.YtllcmggmcogokaaDoorW.PrintMore
attribute [local go_sem] max2_int min2_int max_two min_two max_three min_three max_four min_four
set_option linter.unusedVariables false
set_option linter.unusedSimpArgs false
theorem exec_load_row {P : Program} {o : Oper} {a : Act} {w : World} (ty : TypeId) (x : Operand) (ho : o.op = .load ty x) (g : Nat) (hx : a.eval x = .pointer (some ⟨g, 0, none⟩)) (t : TypeId) (cs : Array Value) (d : TypeDesc) (hg : w.heap[g]? = some (.cells cs t (0, 0)))
    (hu : P.underlying ty = some d) (hd : (match d with | .struct _ | .array _ _ => true | _ => false) = true) (hi : (P.info? ty).map (·.size) = some cs.size) : (execOp a.eval o).run P w = .ok (.value (.agg cs)) w := by
  unfold execOp
  simp only [ho, hx, Instr.loadAt, Instr.sureAddr, Sem.run_bind, Sem.run_pure, Result.andThen_ok, run_loadVar_row w g t ty cs (0, 0) d hg hu hd hi]
theorem blk_setRow {w : World} {g : Nat} {old cs : Array Value} {t : TypeId} (h : w.heap[g]? = some (.cells old t (0, 0))) : (w.setRow g cs).heap[g]? = some (.cells cs t (0, 0)) := setRow_heap w g old cs t (0, 0) h
theorem fill_list : ∀ (l : List Value) (k : Nat) (pre suf : List Value), suf.length = l.length → pre.length = k → List.foldl (fun (cs : Array Value) (x : Value × Nat) => cs.setIfInBounds x.2 x.1) (pre ++ suf).toArray (l.zipIdx k) = (pre ++ l).toArray
  | [], k, pre, suf, hs, hp => by
    have : suf = [] := List.length_eq_zero_iff.1 hs
    subst this
    simp
  | v :: l, k, pre, suf, hs, hp => by
    cases suf with
    | nil => simp at hs
    | cons s suf =>
      rw [List.zipIdx_cons, List.foldl_cons]
      have e : ((pre ++ s :: suf).toArray).setIfInBounds k v = ((pre ++ [v]) ++ suf).toArray := by
        rw [List.setIfInBounds_toArray, List.set_append_right _ _ (by omega)]
        simp [hp]
      show List.foldl _ (((pre ++ s :: suf).toArray).setIfInBounds k v) _ = _
      rw [e, fill_list l (k + 1) (pre ++ [v]) suf (by simpa using hs) (by simp [hp])]
      simp
theorem fill_row (Z cx : Array Value) (n : Nat) (hn : cx.size = n) (hz : Z.size = n) : Array.foldl (fun (cs : Array Value) (x : Value × Nat) => cs.setIfInBounds x.2 x.1) Z cx.zipIdx 0 n = cx := by
  have h := fill_list cx.toList 0 [] Z.toList (by simp [hn, hz]) rfl
  subst hn
  rw [show (cx.size) = cx.zipIdx.size by simp, ← Array.foldl_toList]
  simpa using h
end Go.Proofs.YtllcmggmcogokaaDoor.PAll
end

section
namespace Go.Proofs.YtllcmggmcogokaaDoor.PAll
open Go.RowKit Go.Proofs.YtllcmggmcogokaaDoorW.PrintWords Go.Proofs.YtllcmggmcogokaaDoorW.PrintLast Go.Proofs.YtllcmggmcogokaaDoorW.PrintMore
attribute [local go_sem] max2_int min2_int max_two min_two max_three min_three max_four min_four
set_option linter.unusedVariables false
set_option linter.unusedSimpArgs false
def TabB (w : World) : Prop := Lib.TabIs Tryd.prog w "internal/strconv.uint64pow10" .u64 Lib.pow10Tab
theorem TabB.below {w w1 : World} (h : TabB w) (hb : Below w.heap.size w w1) : TabB w1 := by
  have hg : Tryd.prog.globalNamed "internal/strconv.uint64pow10" = some 1 := by kernel_rfl
  unfold TabB Lib.TabIs at *
  refine var?_below hb hg ?_ h
  unfold World.var? at h
  simp only [hg, Option.bind_some] at h
  rcases Nat.lt_or_ge 1 w.heap.size with h' | h'
  · exact h'
  · simp [Array.getElem?_eq_none h'] at h
end Go.Proofs.YtllcmggmcogokaaDoor.PAll
end

section
namespace Go.Proofs
open Go.Shelf
def Tryd.laysM171_ren : Go.Shelf.Ren := ⟨fun | 171 => 142 | 243 => 148 | 246 => 150 | 283 => 152 | 284 => 153 | 285 => 154 | 286 => 155 | 129 => 157 | 317 => 156 | 318 => 158 | 319 => 159 | 320 => 160 | 337 => 161 | 338 => 162 | n => n, fun | 3 => 3 | 9 => 9 | 2 => 2 | 4 => 4 | 171 => 183 | 0 => 0 | 53 => 184 | 37 => 150 | 5 => 5 | 173 => 187 | 212 => 191 | 51 => 192 | 20 => 20 | 213 => 193 | 46 => 195 | 232 => 198 | 233 => 199 | n => n, fun | 17 => 1 | 18 => 2 | 19 => 3 | n => n⟩
theorem Tryd.laysM171 : Go.Proofs.LaysM.n171 Tryd.prog Tryd.laysM171_ren := {
  mixed := by kernel_rfl
  f129 := Tryd.func157.trans (congrArg some (by kernel_rfl))
  f171 := Tryd.func142.trans (congrArg some (by kernel_rfl))
  f243 := Tryd.func148.trans (congrArg some (by kernel_rfl))
  f246 := Tryd.func150.trans (congrArg some (by kernel_rfl))
  f283 := Tryd.func152.trans (congrArg some (by kernel_rfl))
  f284 := Tryd.func153.trans (congrArg some (by kernel_rfl))
  f285 := Tryd.func154.trans (congrArg some (by kernel_rfl))
  f286 := Tryd.func155.trans (congrArg some (by kernel_rfl))
  f317 := Tryd.func156.trans (congrArg some (by kernel_rfl))
  f318 := Tryd.func158.trans (congrArg some (by kernel_rfl))
  f319 := Tryd.func159.trans (congrArg some (by kernel_rfl))
  f320 := Tryd.func160.trans (congrArg some (by kernel_rfl))
  f337 := Tryd.func161.trans (congrArg some (by kernel_rfl))
  f338 := Tryd.func162.trans (congrArg some (by kernel_rfl))
  t0 := Tryd.underlying0
  a0 := Tryd.isAgg0
  z0 := Tryd.sizeOf0
  v0 := Tryd.zeroValue0
  t2 := Tryd.underlying2
  a2 := Tryd.isAgg2
  z2 := Tryd.sizeOf2
  v2 := Tryd.zeroValue2
  t3 := Tryd.underlying3
  a3 := Tryd.isAgg3
  z3 := Tryd.sizeOf3
  v3 := Tryd.zeroValue3
  t4 := Tryd.underlying4
  a4 := Tryd.isAgg4
  z4 := Tryd.sizeOf4
  v4 := Tryd.zeroValue4
  t5 := Tryd.underlying5
  a5 := Tryd.isAgg5
  z5 := Tryd.sizeOf5
  v5 := Tryd.zeroValue5
  t9 := Tryd.underlying9
  a9 := Tryd.isAgg9
  z9 := Tryd.sizeOf9
  v9 := Tryd.zeroValue9
  t20 := Tryd.underlying20
  a20 := Tryd.isAgg20
  z20 := Tryd.sizeOf20
  v20 := Tryd.zeroValue20
  t37 := Tryd.underlying150
  a37 := Tryd.isAgg150
  z37 := Tryd.sizeOf150
  v37 := Tryd.zeroValue150
  t46 := Tryd.underlying195
  a46 := Tryd.isAgg195
  z46 := Tryd.sizeOf195
  v46 := Tryd.zeroValue195
  t51 := Tryd.underlying192
  a51 := Tryd.isAgg192
  z51 := Tryd.sizeOf192
  v51 := Tryd.zeroValue192
  t53 := Tryd.underlying184
  a53 := Tryd.isAgg184
  z53 := Tryd.sizeOf184
  v53 := Tryd.zeroValue184
  t171 := Tryd.underlying183
  a171 := Tryd.isAgg183
  z171 := Tryd.sizeOf183
  v171 := Tryd.zeroValue183
  t173 := Tryd.underlying187
  a173 := Tryd.isAgg187
  z173 := Tryd.sizeOf187
  v173 := Tryd.zeroValue187
  t212 := Tryd.underlying191
  a212 := Tryd.isAgg191
  z212 := Tryd.sizeOf191
  v212 := Tryd.zeroValue191
  t213 := Tryd.underlying193
  a213 := Tryd.isAgg193
  z213 := Tryd.sizeOf193
  t232 := Tryd.underlying198
  a232 := Tryd.isAgg198
  z232 := Tryd.sizeOf198
  v232 := Tryd.zeroValue198
  t233 := Tryd.underlying199
  a233 := Tryd.isAgg199
  z233 := Tryd.sizeOf199
  v233 := Tryd.zeroValue199
  g17 := by kernel_rfl
  g18 := by kernel_rfl
  g19 := by kernel_rfl
  i0 := by kernel_rfl
  i2 := by kernel_rfl
  i3 := by kernel_rfl
  i4 := by kernel_rfl
  i5 := by kernel_rfl
  i9 := by kernel_rfl
  i20 := by kernel_rfl
  i37 := by kernel_rfl
  i46 := by kernel_rfl
  i51 := by kernel_rfl
  i53 := by kernel_rfl
  i171 := by kernel_rfl
  i173 := by kernel_rfl
  i212 := by kernel_rfl
  i232 := by kernel_rfl
  i233 := by kernel_rfl
  m17 := by kernel_rfl
  m18 := by kernel_rfl
  m19 := by kernel_rfl }
open Go.RowKit Go.Sort Go.Lib in
theorem Tryd.strconv_Itoa (n : Int) (h0 : -9223372036854775808 ≤ n) (h1 : n ≤ 9223372036854775807) (w : World) (htab : Lib.TabIs Tryd.prog w "internal/strconv.uint64pow10" .u64 Lib.pow10Tab) :
    Calls Tryd.prog 142 #[.int .i64 n] w fun e w' => e = .returned (.string ⟨(Lib.itoa n).toArray⟩) ∧ ∃ k os, w' = grow (w.drewN k) os := Any.strconv_Itoa Tryd.laysM171 n h0 h1 w htab
end Go.Proofs
end

section
namespace Go.Proofs.YtllcmggmcogokaaDoor.PAll
open Go.RowKit Go.Proofs.YtllcmggmcogokaaDoorW.PrintWords Go.Proofs.YtllcmggmcogokaaDoorW.PrintLast Go.Proofs.YtllcmggmcogokaaDoorW.PrintMore
attribute [local go_sem] max2_int min2_int max_two min_two max_three min_three max_four min_four
set_option linter.unusedVariables false
set_option linter.unusedSimpArgs false
theorem below_grow (w : World) (k : Nat) (os : Array Obj) : Below w.heap.size w (Go.Sort.grow (w.drewN k) os) :=
  ⟨rfl, rfl, rfl, by simp [Go.Sort.grow], fun i hi => by simp only [Go.Sort.grow]; exact Array.getElem?_append_left hi⟩
def wordOf (n : Int) : ByteArray := ⟨#[35]⟩ ++ ⟨(Lib.itoa n).toArray⟩
def pedigreelaw01_word.f (a0 : Int) : Option (ByteArray) := if -9223372036854775808 ≤ a0 ∧ a0 ≤ 9223372036854775807 ∧ (Lib.itoa a0).length ≤ 1000 then some (wordOf a0) else none
set_option maxHeartbeats 4000000 in
theorem pedigreelaw01_word.calls (a0 : Int) (r : ByteArray) (w : World) (hTB : TabB w) (h : pedigreelaw01_word.f a0 = some r) :
    Calls Tryd.prog 124 #[.int .i64 a0] w fun e w' => e = .returned (.string r) ∧ Below w.heap.size w w' := by
  unfold pedigreelaw01_word.f at h
  split at h
  · rename_i hh
    obtain ⟨h0, h1, h2⟩ := hh
    have HR := Lib.hid (Option.some.inj h)
    have HT := Lib.hid hTB
    clear h hTB
    go_enter Tryd.func124, Tryd.ntmps124
    go_wp2_with fail
    refine (Tryd.strconv_Itoa a0 h0 h1 _ HT.out).mono ?_
    rintro e w1 ⟨rfl, k, os, hw⟩
    have HB := Lib.hid (show Below w.heap.size w w1 by rw [hw]; exact below_grow w k os)
    have HW : Hid (wordOf a0 = ⟨#[35]⟩ ++ ⟨(Lib.itoa a0).toArray⟩) := Lib.hid rfl
    clear hw
    generalize Lib.itoa a0 = l at *
    go_wp2_with fail
    go_ret
    exact ⟨by rw [← HR.out, HW.out]; rfl, HB.out⟩
  · cases h
end Go.Proofs.YtllcmggmcogokaaDoor.PAll
end

section
namespace Go.Proofs.YtllcmggmcogokaaDoor.PAll
open Go.RowKit Go.Proofs.YtllcmggmcogokaaDoorW.PrintWords Go.Proofs.YtllcmggmcogokaaDoorW.PrintLast Go.Proofs.YtllcmggmcogokaaDoorW.PrintMore
attribute [local go_sem] max2_int min2_int max_two min_two max_three min_three max_four min_four
set_option linter.unusedVariables false
set_option linter.unusedSimpArgs false
section
open Go.Proofs.YtllcmggmcogokaaDoorW.PrintWords.Kd
def Raw (n : Nat) (c : List Value) : Prop := c.length = n ∧ ∀ u ∈ c, u.oneCell' = true
def orC {α : Type} (d : Kd α) : Kd (α ⊕ List Value) where
  sz := d.sz
  E := d.E
  K := fun w x cs => match x with
    | .inl a => d.K w a cs
    | .inr c => cs = c ∧ Raw d.sz c
  M := fun w base ok x cs => match x with
    | .inl a => d.M w base ok a cs
    | .inr c => cs = c ∧ Raw d.sz c
  K_len := by
    intro w x cs h
    cases x with
    | inl a => exact d.K_len h
    | inr c => rw [h.1]; exact h.2.1
  K_one := by
    intro w x cs h
    cases x with
    | inl a => exact d.K_one h
    | inr c => rw [h.1]; exact h.2.2
  K_below := by
    intro w w1 x cs hb h
    cases x with
    | inl a => exact d.K_below hb h
    | inr c => exact h
  K_of_M := by
    intro w base ok x cs h
    cases x with
    | inl a => exact d.K_of_M h
    | inr c => exact h
  M_mono := by
    intro w base ok ok' x cs hok h
    cases x with
    | inl a => exact d.M_mono hok h
    | inr c => exact h
  M_bound := by
    intro w base ok x cs h
    cases x with
    | inl a => exact d.M_bound h
    | inr c => exact h
  M_move := by
    intro w w1 base ok x cs hm h
    cases x with
    | inl a => exact d.M_move hm h
    | inr c => exact h
  M_lower := by
    intro w base base' ok x cs hb h
    cases x with
    | inl a => exact d.M_lower hb h
    | inr c => exact h
def marked {α : Type} (xs : List α) (mk : List Value) : List (α ⊕ List Value) := xs.map .inl ++ [.inr mk]
theorem marked_length {α : Type} (xs : List α) (mk : List Value) : (marked xs mk).length = xs.length + 1 := by simp [marked]
def twin {α : Type} (e : Nat) (d : Kd α) (mk : List Value) : Kd (List α) where
  sz := 1
  E := e :: d.E
  K := fun w xs cs => ∃ A c, cs = [.slice A xs.length c] ∧ xs.length + 1 ≤ c ∧ (orC d).C w A (xs.length + 1) (marked xs mk)
  M := fun w base ok xs cs => ∃ A c, cs = [.slice A xs.length c] ∧ (orC d).R e w base ok (.slice A (xs.length + 1) c) (marked xs mk)
  K_len := by
    rintro w x cs ⟨A, c, rfl, _⟩
    rfl
  K_one := by
    rintro w x cs ⟨A, c, rfl, _⟩ u hu
    rw [List.mem_singleton.1 hu]
    rfl
  K_below := by
    rintro w w1 x cs hb ⟨A, c, rfl, hl, hr⟩
    exact ⟨A, c, rfl, hl, C_below hr hb⟩
  K_of_M := by
    rintro w base ok x cs ⟨A, c, rfl, h⟩
    obtain ⟨h1, h2, h3⟩ := R_reads' h
    rw [marked_length] at h3
    exact ⟨A, c, rfl, h2, h3⟩
  M_mono := by
    rintro w base ok ok' x cs hok ⟨A, c, rfl, h⟩
    exact ⟨A, c, rfl, R_mono h hok⟩
  M_bound := by
    rintro w base ok x cs ⟨A, c, rfl, h⟩
    exact ⟨A, c, rfl, R_bound h⟩
  M_move := by
    rintro w w1 base ok x cs hm ⟨A, c, rfl, h⟩
    exact ⟨A, c, rfl, R_move h hm⟩
  M_lower := by
    rintro w base base' ok x cs hb ⟨A, c, rfl, h⟩
    exact ⟨A, c, rfl, R_lower h hb⟩
theorem orC_imp {α : Type} {d d' : Kd α} (hs : d.sz = d'.sz) (h : ∀ w x cs, d.K w x cs → d'.K w x cs) (w : World) (x : α ⊕ List Value) (cs : List Value) (hK : (orC d).K w x cs) : (orC d').K w x cs := by
  cases x with
  | inl a => exact h _ _ _ hK
  | inr c => exact ⟨hK.1, by rw [← hs]; exact hK.2⟩
theorem orM_imp {α : Type} {d d' : Kd α} (hs : d.sz = d'.sz) (h : ∀ w base ok x cs, d.M w base ok x cs → d'.M w base ok x cs) (w : World) (base : Nat) (ok : Nat → Prop) (x : α ⊕ List Value) (cs : List Value) (hK : (orC d).M w base ok x cs) : (orC d').M w base ok x cs := by
  cases x with
  | inl a => exact h _ _ _ _ _ hK
  | inr c => exact ⟨hK.1, by rw [← hs]; exact hK.2⟩
theorem mono_twin {α β : Type} (e : Nat) (mk : List Value) {G : Kd α → Kd β} (hG : Mono G) : Mono (fun d => twin e (G d) mk) := by
  refine ⟨fun _ _ _ => rfl, ?_, ?_⟩
  · rintro d d' hs h w x cs ⟨A, c, rfl, hl, hr⟩
    exact ⟨A, c, rfl, hl, C_imp (d := orC (G d)) (d' := orC (G d')) (hG.sz d d' hs) (orC_imp (hG.sz d d' hs) (hG.K d d' hs h)) hr⟩
  · rintro d d' hs h w base ok x cs ⟨A, c, rfl, hr⟩
    exact ⟨A, c, rfl, R_imp (d := orC (G d)) (d' := orC (G d')) (hG.sz d d' hs) (orM_imp (hG.sz d d' hs) (hG.M d d' hs h)) hr⟩
theorem sub_twin {α β : Type} {E : List Nat} (e : Nat) (mk : List Value) {G : Kd α → Kd β} (he : e ∈ E) (hG : Sub G E) : Sub (fun d => twin e (G d) mk) E := fun d h q hq => by
  rcases List.mem_cons.1 hq with rfl | hq
  · exact he
  · exact hG d h q hq
theorem marked_C {α : Type} {d d' : Kd α} (hs : d.sz = d'.sz) (h : ∀ w x cs, d.K w x cs → d'.K w x cs) {w : World} {A : Option Addr} {xs : List α} {mk : List Value} (hr : (orC d).C w A (xs.length + 1) (marked xs mk)) : d'.C w A xs.length xs := by
  obtain ⟨h1, h2, h3⟩ := hr
  refine ⟨rfl, by omega, fun hn => ?_⟩
  obtain ⟨ad, e, hc⟩ := h3 (by omega)
  refine ⟨ad, e, fun j p hj => ?_⟩
  have hl := (List.getElem?_eq_some_iff.1 hj).1
  obtain ⟨c, hcs, hK, hcell⟩ := hc j (.inl p) (by rw [marked, List.getElem?_append_left (by simpa using hl)]; simp [hj])
  exact ⟨c, by rw [← hs]; exact hcs, h _ _ _ hK, fun i u hu => by rw [← hs]; exact hcell i u hu⟩
theorem marked_mark {α : Type} {d : Kd α} {w : World} {A : Option Addr} {xs : List α} {mk : List Value} (hr : (orC d).C w A (xs.length + 1) (marked xs mk)) : ∃ ad, A = some ad ∧ ∀ i u, mk[i]? = some u → w.cell? (ad.add (xs.length * d.sz + i)) = some u := by
  obtain ⟨h1, h2, h3⟩ := hr
  obtain ⟨ad, e, hc⟩ := h3 (by omega)
  obtain ⟨c, hcs, hK, hcell⟩ := hc xs.length (.inr mk) (by rw [marked, List.getElem?_append_right (by simp)]; simp)
  obtain ⟨rfl, _⟩ := hK
  exact ⟨ad, e, hcell⟩
theorem marked_get {α : Type} {d : Kd α} {w : World} {A : Option Addr} {xs : List α} {mk : List Value} (hr : (orC d).C w A (xs.length + 1) (marked xs mk)) (z : α) (i : Nat) (hi : i < xs.length) : ∃ ad c, A = some ad ∧ c.length = d.sz ∧ d.K w (xs.getD i z) c ∧ ∀ j u, c[j]? = some u → w.cell? (ad.add (i * d.sz + j)) = some u := by
  obtain ⟨h1, h2, h3⟩ := hr
  obtain ⟨ad, e, hc⟩ := h3 (by omega)
  obtain ⟨c, hcs, hK, hcell⟩ := hc i (.inl (xs.getD i z)) (by rw [marked, List.getElem?_append_left (by simpa using hi)]; simp [List.getD_eq_getElem?_getD, List.getElem?_eq_getElem hi])
  exact ⟨ad, c, e, hcs, hK, hcell⟩
def begun {α : Type} (xs : List α) (i : Nat) (z : List Value) : List (α ⊕ List Value) := (xs.take i).map .inl ++ List.replicate (xs.length + 1 - i) (.inr z)
theorem begun_length {α : Type} (xs : List α) (i : Nat) (z : List Value) (h : i ≤ xs.length) : (begun xs i z).length = xs.length + 1 := by simp [begun]; omega
theorem begun_zero {α : Type} (xs : List α) (z : List Value) : begun xs 0 z = List.replicate (xs.length + 1) (.inr z) := by simp [begun]
theorem begun_set {α : Type} (xs : List α) (i : Nat) (z : List Value) (d : α) (h : i < xs.length) : (begun xs i z).set i (.inl (xs.getD i d)) = begun xs (i + 1) z := by
  apply List.ext_getElem?
  intro j
  simp only [begun, List.getElem?_set, List.getElem?_append, List.length_map, List.length_take, List.length_append, List.length_replicate, List.getElem?_map, List.getElem?_take, List.getElem?_replicate]
  rw [Nat.min_eq_left (by omega), Nat.min_eq_left (by omega)]
  by_cases h1 : i = j
  · subst h1
    simp [h, List.getD_eq_getElem?_getD]
    omega
  · rw [if_neg h1]
    by_cases h2 : j < i
    · simp [h2, show j < i + 1 by omega]
    · simp only [h2, if_false, show ¬ j < i + 1 by omega]
      by_cases h3 : j - i < xs.length + 1 - i
      · rw [if_pos h3, if_pos (by omega)]
      · rw [if_neg h3, if_neg (by omega)]
theorem begun_mark {α : Type} (xs : List α) (z mk : List Value) : (begun xs xs.length z).set xs.length (.inr mk) = marked xs mk := by
  simp [begun, marked]
end
section
open Go.Proofs.YtllcmggmcogokaaDoorW.PrintWords.Kd
theorem begun_at {α : Type} (xs : List α) (i : Nat) (z : List Value) (d : α ⊕ List Value) (h : i ≤ xs.length) : (begun xs i z).getD i d = .inr z := by
  rw [List.getD_eq_getElem?_getD, begun, List.getElem?_append_right (by simp; omega)]
  simp only [List.length_map, List.length_take, Nat.min_eq_left h, Nat.sub_self]
  rw [List.getElem?_replicate, if_pos (by omega)]
  rfl
section
variable {α : Type} {d : Kd α} {e base g n cap : Nat} {ok okp : Nat → Prop} {W : World} {xs : List α} {z : List Value}
theorem begun_cells {i : Nat} (h : (orC d).R e W base ok (.slice (some ⟨g, 0, none⟩) n cap) (begun xs i z)) (hi : i ≤ xs.length) : z.length = d.sz ∧ (∀ j u, z[j]? = some u → W.cell? ⟨g, i * d.sz + j, none⟩ = some u) ∧ ∀ j, W.frozen? ⟨g, i * d.sz + j, none⟩ = false := by
  have hn := (R_reads' h).1
  rw [begun_length _ _ _ hi] at hn
  obtain ⟨c, h1, h2, h3, h4⟩ := R_elem h (.inr z) (i : Int) (by omega) (by omega)
  rw [show ((i : Int)).toNat = i by omega, begun_at _ _ _ _ hi] at h2
  obtain ⟨rfl, h5⟩ := h2
  exact ⟨h5.1, h3, h4⟩
theorem begun_put {i : Nat} (h : (orC d).R e W base ok (.slice (some ⟨g, 0, none⟩) n cap) (begun xs i z)) (hi : i < xs.length) (x0 : α) {seg : List Value} (hM : d.M W base okp (xs.getD i x0) seg) (hokp : ∀ k, okp k → ok k ∧ k ≠ g) :
    (orC d).R e (W.setCells g (i * d.sz) seg) base ok (.slice (some ⟨g, 0, none⟩) n cap) (begun xs (i + 1) z) ∧ W.grownBy (W.setCells g (i * d.sz) seg) (some g) := by
  have hn := (R_reads' h).1
  rw [begun_length _ _ _ (by omega)] at hn
  have hs := d.K_len (d.K_of_M hM)
  obtain ⟨h1, h2, h3⟩ := begun_cells h (by omega)
  have := R_seg h (i : Int) (by omega) (by omega) (c := z) (seg := seg) (j := 0) (x' := .inl (xs.getD i x0)) (okp := okp) h1 h2 (by show 0 + seg.length ≤ d.sz; omega) (by
    show d.M W base okp (xs.getD i x0) _
    rw [List.take_zero, List.nil_append, Nat.zero_add, List.drop_eq_nil_of_le (by omega), List.append_nil]
    exact hM) hokp
  rw [show ((i : Int)).toNat = i by omega, begun_set _ _ _ _ hi] at this
  exact this
theorem begun_end (h : (orC d).R e W base ok (.slice (some ⟨g, 0, none⟩) n cap) (begun xs xs.length z)) {seg : List Value} (hM : Raw d.sz seg) :
    (orC d).R e (W.setCells g (xs.length * d.sz) seg) base ok (.slice (some ⟨g, 0, none⟩) n cap) (marked xs seg) ∧ W.grownBy (W.setCells g (xs.length * d.sz) seg) (some g) := by
  have hn := (R_reads' h).1
  rw [begun_length _ _ _ (Nat.le_refl _)] at hn
  obtain ⟨h1, h2, h3⟩ := begun_cells h (Nat.le_refl _)
  have hs := hM.1
  have := R_seg h (xs.length : Int) (by omega) (by omega) (c := z) (seg := seg) (j := 0) (x' := .inr seg) (okp := fun _ => False) h1 h2 (by show 0 + seg.length ≤ d.sz; omega) (by
    show _ = seg ∧ Raw d.sz seg
    rw [List.take_zero, List.nil_append, Nat.zero_add, List.drop_eq_nil_of_le (by omega), List.append_nil]
    exact ⟨rfl, hM⟩) (fun _ h => h.elim)
  rw [show ((xs.length : Int)).toNat = xs.length by omega, begun_mark] at this
  exact this
end
end
def spare : ByteArray := wordOf 777777
theorem word_spare : pedigreelaw01_word.f 777777 = some spare := by
  rw [pedigreelaw01_word.f, if_pos ⟨by decide, by decide, by decide +kernel⟩, spare]
theorem cut_up {P : Program} (t e : TypeId) (kh : IntKind) {i : TypeInfo} (ht : P.underlying t = some (.slice e)) (hi : P.info? e = some i) (A : Option Addr) (n c : Nat) (j : Int) (h0 : 0 ≤ j) (hm : j ≤ c) :
    ∀ W : World, (Instr.slice t (.slice A n c) none (some (.int kh j)) none).run P W = .ok (.slice A j.toNat c) W := by
  intro W
  have hel : P.elem t = e := by simp [Program.elem, ht]
  have hu : P.underlying t = some (.slice (P.elem t)) := by rw [hel]; exact ht
  have ha : (A.map fun x => x.add 0) = A := by cases A <;> simp [Addr.add]
  rw [run_slice_h W t A n c hu kh j h0 (by omega), hel]
  simp [Go.sizeOf, typeInfo, hi, sliced, Result.andThen, ha]
theorem wrap64_next {n k : Nat} (h : n < 2000000000000) (hk : k ≤ n) : wrap64 ((k : Int) + 1) = ((k + 1 : Nat) : Int) := by unfold wrap64; omega
end Go.Proofs.YtllcmggmcogokaaDoor.PAll
end

section
namespace Go.Proofs.YtllcmggmcogokaaDoor.PAll
open Go.RowKit Go.Proofs.YtllcmggmcogokaaDoorW.PrintWords Go.Proofs.YtllcmggmcogokaaDoorW.PrintLast Go.Proofs.YtllcmggmcogokaaDoorW.PrintMore
attribute [local go_sem] max2_int min2_int max_two min_two max_three min_three max_four min_four
set_option linter.unusedVariables false
set_option linter.unusedSimpArgs false
def mk31 : List Value := [.int .i8 99, .string spare, .int .i8 0, .int .i64 0, .string ⟨#[]⟩, .slice none 0 0]
set_option maxHeartbeats 4000000 in
set_option maxRecDepth 100000 in
theorem markExpr_mark (w : World) (hT : TabB w) : Calls Tryd.prog 123 #[.int .i64 777777] w fun e w' => e = .returned (.agg #[.int .i8 99, .string spare, .int .i8 0, .int .i64 0, .string ⟨#[]⟩, .slice none 0 0]) ∧ Below w.heap.size w w' := by
  have HT := Lib.hid hT
  clear hT
  go_enter Tryd.func123, Tryd.ntmps123
  go_wp2_with fail
  refine (pedigreelaw01_word.calls 777777 spare _ (HT.out.below (below_alloc (Below.refl _ _) _)) word_spare).mono ?_
  rintro e w2 ⟨rfl, hb⟩
  have hk := blk_below (blk_new w _) hb
  have HB := Lib.hid (below_step (below_alloc (Below.refl _ _) _) hb)
  clear hb
  have z0 := blk_cell hk 0
  have z1 := blk_cell hk 1
  have z2 := blk_cell hk 2
  have z3 := blk_cell hk 3
  have z4 := blk_cell hk 4
  have z5 := blk_cell hk 5
  have f0 := blk_frozen hk 0
  have f1 := blk_frozen hk 1
  have f2 := blk_frozen hk 2
  have f3 := blk_frozen hk 3
  have f4 := blk_frozen hk 4
  have f5 := blk_frozen hk 5
  have HK := Lib.hid hk
  clear hk
  simp at z0 z1 z2 z3 z4 z5
  go_wp2_with fail
  refine bodyPost_ret (results_cell_row rfl _ _ w.heap.size 31 #[.int .i8 99, .string spare, .int .i8 0, .int .i64 0, .string ⟨#[]⟩, .slice none 0 0] (0, 0) _ rfl (blk_put (blk_put (blk_put (blk_put (blk_put (blk_put HK.out 0 _ rfl) 1 _ rfl) 2 _ rfl) 3 _ rfl) 4 _ rfl) 5 _ rfl) Tryd.underlying31 rfl (by kernel_rfl)) rfl ?_
  exact ⟨rfl, below_set (below_set (below_set (below_set (below_set (below_set HB.out (Nat.le_refl _)) (Nat.le_refl _)) (Nat.le_refl _)) (Nat.le_refl _)) (Nat.le_refl _)) (Nat.le_refl _)⟩
def F31t (d : Kd S31) : Kd S31 := Kd.iso (Kd.pair (Kd.int .i8) (Kd.pair k28 (twin 31 d mk31))) (fun x : S31 => (x.f0, x.f1, x.f2))
theorem mono31t : Kd.Mono F31t := Kd.mono_iso _ (Kd.mono_pair (Kd.mono_const _) (Kd.mono_pair (Kd.mono_const _) (mono_twin 31 mk31 Kd.mono_id)))
theorem sub31t : Kd.Sub F31t [31] := Kd.sub_iso _ (Kd.sub_pair (Kd.sub_const _ (by decide)) (Kd.sub_pair (Kd.sub_const _ (by decide)) (sub_twin 31 mk31 (by decide) Kd.sub_id)))
theorem sz31t : ∀ n, (Kd.upto F31t 6 [31] n).sz = 6 := Kd.upto_sz (fun _ => rfl)
def k31t : Kd S31 := Kd.fix F31t 6 [31] sz31t (Kd.upto_E sub31t)
theorem orC_C {n : Nat} {w : World} {A : Option Addr} {m : Nat} {xs : List (S31 ⊕ List Value)} (h : (orC (Kd.upto F31t 6 [31] n)).C w A m xs) : (orC k31t).C w A m xs :=
  Kd.C_imp (sz31t n) (orC_imp (d := Kd.upto F31t 6 [31] n) (d' := k31t) (sz31t n) (fun w x cs h => ⟨n, h⟩)) h
theorem orC_R {n : Nat} {e : Nat} {w : World} {base : Nat} {ok : Nat → Prop} {v : Value} {xs : List (S31 ⊕ List Value)} (h : (orC (Kd.upto F31t 6 [31] n)).R e w base ok v xs) : (orC k31t).R e w base ok v xs :=
  Kd.R_imp (sz31t n) (orM_imp (d := Kd.upto F31t 6 [31] n) (d' := k31t) (sz31t n) (fun w base ok x cs h => ⟨n, h⟩)) h
theorem k31t_open {w : World} {x : S31} {cs : List Value} (h : k31t.K w x cs) : ∃ A5 c5, cs = [.int .i8 x.f0, .string x.f1.f0, .int .i8 x.f1.f1.f0, .int .i64 x.f1.f1.f1, .string x.f1.f1.f2, .slice A5 x.f2.length c5] ∧ x.f2.length + 1 ≤ c5 ∧ (orC k31t).C w A5 (x.f2.length + 1) (marked x.f2 mk31) := by
  obtain ⟨n, h⟩ := h
  cases n with
  | zero => exact h.elim
  | succ n =>
    obtain ⟨_, _, rfl, rfl, ⟨_, _, rfl, s1, ⟨A5, c5, rfl, l5, g5⟩⟩⟩ := h
    obtain rfl := k28_open s1
    exact ⟨A5, c5, rfl, l5, orC_C g5⟩
theorem k31t_openM {w : World} {base : Nat} {ok : Nat → Prop} {x : S31} {cs : List Value} (h : k31t.M w base ok x cs) : ∃ A5 c5, cs = [.int .i8 x.f0, .string x.f1.f0, .int .i8 x.f1.f1.f0, .int .i64 x.f1.f1.f1, .string x.f1.f1.f2, .slice A5 x.f2.length c5] ∧ (orC k31t).R 31 w base ok (.slice A5 (x.f2.length + 1) c5) (marked x.f2 mk31) := by
  obtain ⟨n, h⟩ := h
  cases n with
  | zero => exact h.elim
  | succ n =>
    obtain ⟨_, _, rfl, rfl, ⟨_, _, rfl, s1, ⟨A5, c5, rfl, g5⟩⟩⟩ := h
    obtain rfl := k28_openM s1
    exact ⟨A5, c5, rfl, orC_R g5⟩
theorem orC_R_back {e : Nat} {w : World} {base : Nat} {ok : Nat → Prop} {v : Value} {xs : List (S31 ⊕ List Value)} (h : (orC k31t).R e w base ok v xs) : ∃ n, (orC (Kd.upto F31t 6 [31] n)).R e w base ok v xs := by
  obtain ⟨h0, inner, ho, h1, h2⟩ := h
  have hn : ∀ m : Nat, m ≤ xs.length → ∃ n, ∀ j p, j < m → xs[j]? = some p → (orC (Kd.upto F31t 6 [31] n)).M w base (fun k => ok k ∧ some k ≠ v.ownBlock) p ((inner.drop (j * 6)).take 6) := by
    intro m
    induction m with
    | zero => exact fun _ => ⟨0, fun j p hj => absurd hj (Nat.not_lt_zero _)⟩
    | succ m ih =>
      intro hm
      obtain ⟨n, hn⟩ := ih (by omega)
      have hp := List.getElem?_eq_getElem (show m < xs.length by omega)
      have hM := h2 m _ hp
      have : ∃ n', (orC (Kd.upto F31t 6 [31] n')).M w base (fun k => ok k ∧ some k ≠ v.ownBlock) xs[m] ((inner.drop (m * 6)).take 6) := by
        cases hx : xs[m] with
        | inl a => rw [hx] at hM; obtain ⟨n', h'⟩ := hM; exact ⟨n', h'⟩
        | inr c => rw [hx] at hM; exact ⟨0, hM⟩
      obtain ⟨n', hn'⟩ := this
      refine ⟨max n n', fun j p hj hjp => ?_⟩
      have up : ∀ {a b : Nat} {q : S31 ⊕ List Value} {cs : List Value}, a ≤ b → (orC (Kd.upto F31t 6 [31] a)).M w base (fun k => ok k ∧ some k ≠ v.ownBlock) q cs → (orC (Kd.upto F31t 6 [31] b)).M w base (fun k => ok k ∧ some k ≠ v.ownBlock) q cs := by
        intro a b q cs hab hq
        exact orM_imp ((sz31t a).trans (sz31t b).symm) (fun _ _ _ _ _ h => Kd.upto_M_le mono31t sz31t hab h) _ _ _ _ _ hq
      rcases Nat.lt_or_ge j m with hlt | hge
      · exact up (Nat.le_max_left _ _) (hn j p hlt hjp)
      · have : j = m := by omega
        subst this
        rw [hp] at hjp
        injection hjp with hjp
        subst hjp
        exact up (Nat.le_max_right _ _) hn'
  obtain ⟨n, hn⟩ := hn xs.length (Nat.le_refl _)
  have hsz : (orC (Kd.upto F31t 6 [31] n)).sz = 6 := sz31t n
  refine ⟨n, h0, inner, by rw [hsz]; exact ho, by rw [hsz]; exact h1, fun j p hj => by rw [hsz]; exact hn j p (List.getElem?_eq_some_iff.1 hj).1 hj⟩
theorem k31t_mkM (w : World) (base : Nat) (ok : Nat → Prop) (x : S31) {A5 : Option Addr} {c5 : Nat} (g5 : (orC k31t).R 31 w base ok (.slice A5 (x.f2.length + 1) c5) (marked x.f2 mk31)) : k31t.M w base ok x [.int .i8 x.f0, .string x.f1.f0, .int .i8 x.f1.f1.f0, .int .i64 x.f1.f1.f1, .string x.f1.f1.f2, .slice A5 x.f2.length c5] := by
  obtain ⟨n5, q5⟩ := orC_R_back g5
  exact ⟨n5 + 1, ⟨[.int .i8 x.f0], [.string x.f1.f0, .int .i8 x.f1.f1.f0, .int .i64 x.f1.f1.f1, .string x.f1.f1.f2, .slice A5 x.f2.length c5], rfl, rfl, ⟨[.string x.f1.f0, .int .i8 x.f1.f1.f0, .int .i64 x.f1.f1.f1, .string x.f1.f1.f2], [.slice A5 x.f2.length c5], rfl, (k28_mkM w base ok x.f1 ), ⟨A5, c5, rfl, q5⟩⟩⟩⟩
theorem k31t_plain : ∀ (w : World) (x : S31) (cs : List Value), k31t.K w x cs → k31.K w x cs := by
  intro w x cs h
  obtain ⟨n, h⟩ := h
  refine ⟨n, ?_⟩
  induction n generalizing x cs with
  | zero => exact h.elim
  | succ n ih =>
    obtain ⟨c0, c1, rfl, h0, ⟨c2, c3, rfl, h1, h2⟩⟩ := h
    obtain ⟨A, c, rfl, hl, hr⟩ := h2
    refine ⟨c0, _, rfl, h0, ⟨c2, _, rfl, h1, ⟨A, c, rfl, by omega, ?_⟩⟩⟩
    obtain ⟨q1, q2, q3⟩ := hr
    refine ⟨rfl, by omega, fun hn => ?_⟩
    obtain ⟨ad, e, hc⟩ := q3 (by omega)
    refine ⟨ad, e, fun j p hj => ?_⟩
    have hlj := (List.getElem?_eq_some_iff.1 hj).1
    obtain ⟨c', hcs, hK, hcell⟩ := hc j (.inl p) (by rw [marked, List.getElem?_append_left (by simpa using hlj)]; simp [hj])
    have s1 : (Kd.upto F31 6 [31] n).sz = 6 := sz31 n
    have s2 : (orC (Kd.upto F31t 6 [31] n)).sz = 6 := sz31t n
    rw [s2] at hcs hcell
    rw [s1]
    exact ⟨c', hcs, ih p c' hK, hcell⟩
def TwExprC (x : S31) : Prop := ∀ (A : Option Addr) (c : Nat) (w : World), Kd.C k31 w A x.f2.length x.f2 → x.f2.length ≤ c → TabB w →
    Calls Tryd.prog 41 #[.agg #[.int .i8 x.f0, .string x.f1.f0, .int .i8 x.f1.f1.f0, .int .i64 x.f1.f1.f1, .string x.f1.f1.f2, .slice A x.f2.length c]] w fun e w' => ∃ cs, e = .returned (.agg cs.toArray) ∧ k31t.M w' w.heap.size (fun _ => True) x cs ∧ Below w.heap.size w w'
def TwExprsC (l : List S31) : Prop := ∀ (A : Option Addr) (c : Nat) (w : World), Kd.C k31 w A l.length l → l.length ≤ c → TabB w →
    Calls Tryd.prog 89 #[.slice A l.length c] w fun e w' => ∃ A' c', e = .returned (.slice A' l.length c') ∧ (orC k31t).R 31 w' w.heap.size (fun _ => True) (.slice A' (l.length + 1) c') (marked l mk31) ∧ Below w.heap.size w w'
structure TwExprsI (w wr : World) (g cap : Nat) (l : List S31) (k : Nat) : Prop where
  row : (orC k31t).R 31 wr w.heap.size (fun _ => True) (.slice (some ⟨g, 0, none⟩) (l.length + 1) cap) (begun l k [.int .i8 0, .string ⟨#[]⟩, .int .i8 0, .int .i64 0, .string ⟨#[]⟩, .slice none 0 0])
  below : Below w.heap.size w wr
  base : w.heap.size ≤ g
  lt : g < wr.heap.size
set_option maxHeartbeats 4000000 in
set_option maxRecDepth 100000 in
theorem TwExprs_step (l : List S31) (hl : l.length < 2000000) (hE : Hid (∀ k, k < l.length → TwExprC (l.getD k z31))) : TwExprsC l := by
  intro A c w hr hc hT
  have hm : l.length ≤ 9223372036854775807 := by omega
  have HR := Lib.hid hr
  have HT := Lib.hid hT
  clear hr hT
  go_enter Tryd.func89, Tryd.ntmps89
  go_wp2_with ((with_reducible refine gate_dst (N := 8) rfl ?_); go_loud (refine Kd.R_make (orC k31t) w.heap.size 31 rfl (N := 8) rfl 29 _ _ rfl (l.length + 1 : Int) rfl rfl Tryd.underlying29 (.agg #[(.int .i8 0), (.string ⟨#[]⟩), (.int .i8 0), (.int .i64 0), (.string ⟨#[]⟩), (.slice none 0 0)]) 80 info31 rfl (by decide) (by omega) (.inr [.int .i8 0, .string ⟨#[]⟩, .int .i8 0, .int .i64 0, .string ⟨#[]⟩, .slice none 0 0]) (ok := fun _ => True) (okp := fun _ => True) ⟨rfl, rfl, by decide⟩ (fun _ hk => hk) trivial (by omega) (by omega) (Below.refl _ _) (Nat.le_refl _) ?_); intro v1 w1 hR1 hB1 _ _; rw [show (l.length + 1 : Int).toNat = l.length + 1 by omega, ← begun_zero] at hR1; obtain ⟨g, cap, rfl, hg, hg2, _⟩ := Kd.R_form hR1 (by rw [begun_zero]; simp); rw [begun_length _ _ _ (Nat.zero_le _)] at hR1 ⊢; have HI := Lib.hid (show TwExprsI w w1 g cap l 0 from ⟨hR1, hB1, hg, hg2⟩); clear hR1 hB1 hg hg2)
  go_loopw [4] (fun v wr => ∃ k : Nat, k ≤ l.length ∧ v = .int .i64 k ∧ Hid (TwExprsI w wr g cap l k)) (fun v _ => l.length - (intOf v).toNat)
  case atStart => exact ⟨0, Nat.zero_le _, rfl, HI⟩
  case round =>
    clear HI
    obtain ⟨k, hk, rfl, HI⟩ := hrel
    by_cases hlt : k < l.length
    · obtain ⟨ad, A5, c5, e0, g0, g1, g2, g3, g4, g5, hl5, hC5⟩ := at_T31 HR.out (k : Int) (by omega) (by omega)
      subst e0
      simp only [Int.toNat_natCast] at g0 g1 g2 g3 g4 g5
      replace g0 := (HI.out.below.cell (World.block_lt_of_cell? w _ g0)).trans g0
      replace g1 := (HI.out.below.cell (World.block_lt_of_cell? w _ g1)).trans g1
      replace g2 := (HI.out.below.cell (World.block_lt_of_cell? w _ g2)).trans g2
      replace g3 := (HI.out.below.cell (World.block_lt_of_cell? w _ g3)).trans g3
      replace g4 := (HI.out.below.cell (World.block_lt_of_cell? w _ g4)).trans g4
      replace g5 := (HI.out.below.cell (World.block_lt_of_cell? w _ g5)).trans g5
      have HE := Lib.hid (hE.out k hlt)
      have HY := Lib.hid (show rd_T31 l (k : Int) = l.getD k z31 from rfl)
      rw [← HY.out] at HE
      have HC5 := Lib.hid hC5
      have HL5 := Lib.hid hl5
      clear hC5 hl5
      generalize rd_T31 l (k : Int) = y at *
      go_wp2_with fail
      refine (HE.out A5 c5 wr (Kd.C_below HC5.out HI.out.below) HL5.out (HT.out.below HI.out.below)).mono ?_
      rintro e w2 ⟨cs, rfl, hM, hb⟩
      have HI1 : Hid (TwExprsI w w2 g cap l k) := Lib.hid ⟨Kd.R_below HI.out.row hb, below_step HI.out.below hb, HI.out.base, Nat.lt_of_lt_of_le HI.out.lt hb.size⟩
      have hM2 := k31t.M_lower HI.out.below.size (k31t.M_bound hM)
      obtain ⟨A6, c6, rfl, _⟩ := k31t_openM hM
      obtain ⟨_, hz, hf⟩ := begun_cells HI1.out.row hk
      have z0 : w2.cell? ⟨g, k * 6, none⟩ = some (.int .i8 0) := hz 0 _ rfl
      have z1 : w2.cell? ⟨g, k * 6 + 1, none⟩ = some (.string ⟨#[]⟩) := hz 1 _ rfl
      have z2 : w2.cell? ⟨g, k * 6 + 2, none⟩ = some (.int .i8 0) := hz 2 _ rfl
      have z3 : w2.cell? ⟨g, k * 6 + 3, none⟩ = some (.int .i64 0) := hz 3 _ rfl
      have z4 : w2.cell? ⟨g, k * 6 + 4, none⟩ = some (.string ⟨#[]⟩) := hz 4 _ rfl
      have z5 : w2.cell? ⟨g, k * 6 + 5, none⟩ = some (.slice none 0 0) := hz 5 _ rfl
      have f0 : w2.frozen? ⟨g, k * 6, none⟩ = false := hf 0
      have f1 : w2.frozen? ⟨g, k * 6 + 1, none⟩ = false := hf 1
      have f2 : w2.frozen? ⟨g, k * 6 + 2, none⟩ = false := hf 2
      have f3 : w2.frozen? ⟨g, k * 6 + 3, none⟩ = false := hf 3
      have f4 : w2.frozen? ⟨g, k * 6 + 4, none⟩ = false := hf 4
      have f5 : w2.frozen? ⟨g, k * 6 + 5, none⟩ = false := hf 5
      have HP := Lib.hid (begun_put HI1.out.row hlt z31 (by rw [← HY.out]; exact hM2) (fun k' h => ⟨trivial, by have := h.2.1; have := HI.out.lt; omega⟩))
      clear hz hf hM hM2 hb HI g0 g1 g2 g3 g4 g5 HE
      go_wp2_with ((with_reducible refine gate_store (t := 31) (p := 22) rfl ?_); (refine store_event (t := 31) (p := 22) (v := ?vo) (w1 := w2.setCells g (k * 6) [.int .i8 y.f0, .string y.f1.f0, .int .i8 y.f1.f1.f0, .int .i64 y.f1.f1.f1, .string y.f1.f1.f2, .slice A6 y.f2.length c6]) ?hg ?ho ?hn ?hr ?_; (case ho => rfl); (case hg => rfl); (case hn => rfl); (case hr => first | (go_simp; done) | (go_simp; rfl))); intro w3 hw; have HI2 : Hid (TwExprsI w w3 g cap l (k + 1)) := Lib.hid ⟨by rw [hw]; exact HP.out.1, by rw [hw]; exact below_set (below_set (below_set (below_set (below_set (below_set HI1.out.below HI1.out.base) HI1.out.base) HI1.out.base) HI1.out.base) HI1.out.base) HI1.out.base, HI1.out.base, by rw [hw]; exact Kd.R_lt HP.out.1 g rfl⟩; clear hw)
      go_roundw
      case rel => exact ⟨k + 1, by omega, by go_num, HI2⟩
      case measure => simp [intOf]; omega
    · have hk' : k = l.length := by omega
      subst hk'
      go_wp2_with fail
      refine (markExpr_mark wr (HT.out.below HI.out.below)).mono ?_
      rintro e w2 ⟨rfl, hb⟩
      have HI2 : Hid (TwExprsI w w2 g cap l l.length) := Lib.hid ⟨Kd.R_below HI.out.row hb, below_step HI.out.below hb, HI.out.base, Nat.lt_of_lt_of_le HI.out.lt hb.size⟩
      clear HI hb
      have HP := Lib.hid (begun_end HI2.out.row (seg := mk31) ⟨rfl, by decide⟩)
      obtain ⟨_, hz, hf⟩ := begun_cells HI2.out.row (Nat.le_refl _)
      have z0 : w2.cell? ⟨g, l.length * 6, none⟩ = some (.int .i8 0) := hz 0 _ rfl
      have z1 : w2.cell? ⟨g, l.length * 6 + 1, none⟩ = some (.string ⟨#[]⟩) := hz 1 _ rfl
      have z2 : w2.cell? ⟨g, l.length * 6 + 2, none⟩ = some (.int .i8 0) := hz 2 _ rfl
      have z3 : w2.cell? ⟨g, l.length * 6 + 3, none⟩ = some (.int .i64 0) := hz 3 _ rfl
      have z4 : w2.cell? ⟨g, l.length * 6 + 4, none⟩ = some (.string ⟨#[]⟩) := hz 4 _ rfl
      have z5 : w2.cell? ⟨g, l.length * 6 + 5, none⟩ = some (.slice none 0 0) := hz 5 _ rfl
      have f0 : w2.frozen? ⟨g, l.length * 6, none⟩ = false := hf 0
      have f1 : w2.frozen? ⟨g, l.length * 6 + 1, none⟩ = false := hf 1
      have f2 : w2.frozen? ⟨g, l.length * 6 + 2, none⟩ = false := hf 2
      have f3 : w2.frozen? ⟨g, l.length * 6 + 3, none⟩ = false := hf 3
      have f4 : w2.frozen? ⟨g, l.length * 6 + 4, none⟩ = false := hf 4
      have f5 : w2.frozen? ⟨g, l.length * 6 + 5, none⟩ = false := hf 5
      clear hz hf
      obtain ⟨i0, hi0, _, hsz, _⟩ := info_parts info31
      have hcut := cut_to (P := Tryd.prog) 29 31 .i64 Tryd.underlying29 hi0 (some ⟨g, 0, none⟩) (l.length + 1) cap (l.length : Int) (by omega) (by omega) (by have := (Kd.R_reads' HI2.out.row).2.1; exact this)
      rw [show (l.length : Int).toNat = l.length by omega] at hcut
      clear hi0 hsz
      go_wp2_with ((with_reducible refine gate_store (t := 31) (p := 27) rfl ?_); (refine store_event (t := 31) (p := 27) (v := ?vo2) (w1 := w2.setCells g (l.length * 6) [.int .i8 99, .string spare, .int .i8 0, .int .i64 0, .string ⟨#[]⟩, .slice none 0 0]) ?hg ?ho ?hn ?hr ?_; (case ho => rfl); (case hg => rfl); (case hn => rfl); (case hr => first | (go_simp; done) | (go_simp; rfl))); intro w3 hw; have HR3 : Hid (((orC k31t).R 31 w3 w.heap.size (fun _ => True) (.slice (some ⟨g, 0, none⟩) (l.length + 1) cap) (marked l mk31)) ∧ Below w.heap.size w w3) := Lib.hid ⟨by rw [hw]; exact HP.out.1, by rw [hw]; exact below_set (below_set (below_set (below_set (below_set (below_set HI2.out.below HI2.out.base) HI2.out.base) HI2.out.base) HI2.out.base) HI2.out.base) HI2.out.base⟩; clear hw)
      go_ret
      exact ⟨_, _, rfl, HR3.out.1, HR3.out.2⟩
set_option maxHeartbeats 4000000 in
set_option maxRecDepth 100000 in
theorem TwExpr_step (x : S31) (hE : Hid (TwExprsC x.f2)) : TwExprC x := by
  intro A c w hr hc hT
  have HR := Lib.hid hr
  have HT := Lib.hid hT
  clear hr hT
  go_enter Tryd.func41, Tryd.ntmps41
  go_wp2_with fail
  have HB0 := Lib.hid (below_alloc (below_alloc (Below.refl w.heap.size w) (.cells #[.int .i8 x.f0, .string x.f1.f0, .int .i8 x.f1.f1.f0, .int .i64 x.f1.f1.f1, .string x.f1.f1.f2, .slice A x.f2.length c] 31 (0, 0))) (.cells #[.int .i8 0, .string ⟨#[]⟩, .int .i8 0, .int .i64 0, .string ⟨#[]⟩, .slice none 0 0] 31 (0, 0)))
  refine (hE.out A c _ (Kd.C_below HR.out HB0.out) hc (HT.out.below HB0.out)).mono ?_
  rintro e w2 ⟨A6, c6, rfl, hR, hb⟩
  have hk1 := blk_below (blk_new w (.cells #[.int .i8 x.f0, .string x.f1.f0, .int .i8 x.f1.f1.f0, .int .i64 x.f1.f1.f1, .string x.f1.f1.f2, .slice A x.f2.length c] 31 (0, 0))) (below_alloc (Below.refl _ _) (.cells #[.int .i8 0, .string ⟨#[]⟩, .int .i8 0, .int .i64 0, .string ⟨#[]⟩, .slice none 0 0] 31 (0, 0)))
  have hk2 := blk_below (blk_new (w.alloc (.cells #[.int .i8 x.f0, .string x.f1.f0, .int .i8 x.f1.f1.f0, .int .i64 x.f1.f1.f1, .string x.f1.f1.f2, .slice A x.f2.length c] 31 (0, 0))) (.cells #[.int .i8 0, .string ⟨#[]⟩, .int .i8 0, .int .i64 0, .string ⟨#[]⟩, .slice none 0 0] 31 (0, 0))) hb
  replace hk1 := blk_below hk1 hb
  rw [show (w.alloc (.cells #[.int .i8 x.f0, .string x.f1.f0, .int .i8 x.f1.f1.f0, .int .i64 x.f1.f1.f1, .string x.f1.f1.f2, .slice A x.f2.length c] 31 (0, 0))).heap.size = w.heap.size + 1 by simp] at hk2
  have HB := Lib.hid (below_step HB0.out hb)
  have hR2 := Kd.R_bound hR
  have hsz : w.heap.size + 2 = ((w.alloc (.cells #[.int .i8 x.f0, .string x.f1.f0, .int .i8 x.f1.f1.f0, .int .i64 x.f1.f1.f1, .string x.f1.f1.f2, .slice A x.f2.length c] 31 (0, 0))).alloc (.cells #[.int .i8 0, .string ⟨#[]⟩, .int .i8 0, .int .i64 0, .string ⟨#[]⟩, .slice none 0 0] 31 (0, 0))).heap.size := by simp
  rw [← hsz] at hR2
  have HR6 := Lib.hid (show (orC k31t).R 31 w2 w.heap.size (fun k => w.heap.size + 2 ≤ k) (.slice A6 (x.f2.length + 1) c6) (marked x.f2 mk31) from Kd.R_lower (Kd.R_mono hR2 (fun k h => h.2.1)) (by omega))
  clear hR2 hsz hR hb HB0
  have p0 := blk_cell hk1 0
  have pf0 := blk_frozen hk1 0
  have p1 := blk_cell hk1 1
  have pf1 := blk_frozen hk1 1
  have p2 := blk_cell hk1 2
  have pf2 := blk_frozen hk1 2
  have p3 := blk_cell hk1 3
  have pf3 := blk_frozen hk1 3
  have p4 := blk_cell hk1 4
  have pf4 := blk_frozen hk1 4
  have p5 := blk_cell hk1 5
  have pf5 := blk_frozen hk1 5
  have q0 := blk_cell hk2 0
  have qf0 := blk_frozen hk2 0
  have q1 := blk_cell hk2 1
  have qf1 := blk_frozen hk2 1
  have q2 := blk_cell hk2 2
  have qf2 := blk_frozen hk2 2
  have q3 := blk_cell hk2 3
  have qf3 := blk_frozen hk2 3
  have q4 := blk_cell hk2 4
  have qf4 := blk_frozen hk2 4
  have q5 := blk_cell hk2 5
  have qf5 := blk_frozen hk2 5
  simp at p0 q0 p1 q1 p2 q2 p3 q3 p4 q4 p5 q5
  have HK1 := Lib.hid hk1
  have HK2 := Lib.hid hk2
  clear hk1 hk2
  go_wp2_with fail
  have hkf : (w2.setCell ⟨w.heap.size, 5, none⟩ (.slice A6 x.f2.length c6)).heap[w.heap.size + 1]? = _ := (Below.heap_setCell w2 ⟨w.heap.size, 5, none⟩ (.slice A6 x.f2.length c6) (w.heap.size + 1) (by show w.heap.size + 1 ≠ w.heap.size; omega)).trans HK2.out
  refine bodyPost_ret (results_cell_row rfl _ _ (w.heap.size + 1) 31 #[.int .i8 x.f0, .string x.f1.f0, .int .i8 x.f1.f1.f0, .int .i64 x.f1.f1.f1, .string x.f1.f1.f2, .slice A6 x.f2.length c6] (0, 0) _ rfl (blk_put (blk_put (blk_put (blk_put (blk_put (blk_put hkf 0 _ rfl) 1 _ rfl) 2 _ rfl) 3 _ rfl) 4 _ rfl) 5 _ rfl) Tryd.underlying31 rfl (by kernel_rfl)) rfl ?_
  have hR7 := Kd.R_far (Kd.R_far (Kd.R_far (Kd.R_far (Kd.R_far (Kd.R_far (Kd.R_far HR6.out (p := ⟨w.heap.size, 5, none⟩) (fun k h => by show k ≠ w.heap.size; omega) (.slice A6 x.f2.length c6)) (p := ⟨w.heap.size + 1, 0, none⟩) (fun k h => by show k ≠ w.heap.size + 1; omega) (.int .i8 x.f0)) (p := ⟨w.heap.size + 1, 1, none⟩) (fun k h => by show k ≠ w.heap.size + 1; omega) (.string x.f1.f0)) (p := ⟨w.heap.size + 1, 2, none⟩) (fun k h => by show k ≠ w.heap.size + 1; omega) (.int .i8 x.f1.f1.f0)) (p := ⟨w.heap.size + 1, 3, none⟩) (fun k h => by show k ≠ w.heap.size + 1; omega) (.int .i64 x.f1.f1.f1)) (p := ⟨w.heap.size + 1, 4, none⟩) (fun k h => by show k ≠ w.heap.size + 1; omega) (.string x.f1.f1.f2)) (p := ⟨w.heap.size + 1, 5, none⟩) (fun k h => by show k ≠ w.heap.size + 1; omega) (.slice A6 x.f2.length c6)
  exact ⟨_, rfl, k31t_mkM _ _ _ x (Kd.R_mono hR7 (fun _ _ => trivial)), below_set (below_set (below_set (below_set (below_set (below_set (below_set HB.out (Nat.le_refl _)) (Nat.le_succ _)) (Nat.le_succ _)) (Nat.le_succ _)) (Nat.le_succ _)) (Nat.le_succ _)) (Nat.le_succ _)⟩
theorem kids_le : ∀ l : List S31, l.length ≤ (kidsTermsL l).length
  | [] => Nat.zero_le _
  | e :: r => by
    rw [kidsTermsL, exprTermsL_eq]
    have := kids_le r
    simp
    omega
theorem TwExpr_both : ∀ n, (∀ x : S31, SizeOf.sizeOf x < n → (exprTermsL x).length < 2000000 → TwExprC x) ∧ (∀ l : List S31, SizeOf.sizeOf l < n → (kidsTermsL l).length < 2000000 → TwExprsC l)
  | 0 => ⟨fun _ h => absurd h (Nat.not_lt_zero _), fun _ h => absurd h (Nat.not_lt_zero _)⟩
  | n + 1 => by
    obtain ⟨h1, h2⟩ := TwExpr_both n
    refine ⟨fun x hx hl => TwExpr_step x (Lib.hid (h2 _ (by have := sizeOf_kids x; omega) (by rw [exprTermsL_eq] at hl; simp at hl; omega))), fun l hx hl => TwExprs_step l (Nat.lt_of_le_of_lt (kids_le l) hl) (Lib.hid (fun k hk => h1 _ (by have := sizeOf_getD l k hk; omega) ?_))⟩
    have := congrArg List.length (kids_parts l k hk)
    simp only [List.length_append] at this
    omega
theorem TwExpr_twin (x : S31) (h : (exprTermsL x).length < 2000000) : TwExprC x := (TwExpr_both _).1 x (Nat.lt_succ_self _) h
end Go.Proofs.YtllcmggmcogokaaDoor.PAll
end

section
namespace Go.Proofs.YtllcmggmcogokaaDoor.PAll
open Go.RowKit Go.Proofs.YtllcmggmcogokaaDoorW.PrintWords Go.Proofs.YtllcmggmcogokaaDoorW.PrintLast Go.Proofs.YtllcmggmcogokaaDoorW.PrintMore
attribute [local go_sem] max2_int min2_int max_two min_two max_three min_three max_four min_four
set_option linter.unusedVariables false
set_option linter.unusedSimpArgs false
def pedigreelaw01_markTerm.f (a0 : Int) : Option (ByteArray × Int × Int × ByteArray) := (pedigreelaw01_word.f a0).bind fun t268 => (some (t268, 0, 0, (⟨#[]⟩ : ByteArray)))
set_option maxHeartbeats 8000000 in
set_option maxRecDepth 100000 in
theorem pedigreelaw01_markTerm.calls (a0 : Int) (r1 : ByteArray) (r2 : Int) (r3 : Int) (r4 : ByteArray) (w : World) (hTB : TabB w) (h : pedigreelaw01_markTerm.f a0 = some (r1, r2, r3, r4)) :
    Calls Tryd.prog 131 #[.int .i64 a0] w fun e w' => e = .returned (.agg #[.string r1, .int .i8 r2, .int .i64 r3, .string r4]) ∧ Below w.heap.size w w' := by
  have hu28 := Tryd.underlying28
  have HB := Aside0.mk (Below.refl w.heap.size w)
  have HTB := Aside0.mk hTB
  clear hTB
  have H : ((pedigreelaw01_word.f a0).bind fun t268 => (some (t268, 0, 0, (⟨#[]⟩ : ByteArray)))) = some (r1, r2, r3, r4) := h
  clear h
  replace H := Option.bind_eq_some_iff.mp H
  obtain ⟨t268, A20, H⟩ := H
  replace H : (some (t268, 0, 0, (⟨#[]⟩ : ByteArray))) = some (r1, r2, r3, r4) := H
  have A2 := Aside0.mk A20
  clear A20
  simp only [Option.some.injEq, Prod.mk.injEq] at H
  obtain ⟨rfl, rfl, rfl, rfl⟩ := H
  go_enter Tryd.func131, Tryd.ntmps131
  go_wp2_with (first | ((with_reducible refine gate_dst (N := 2) rfl ?_); refine box_event ?hg (N := 2) ?hd (cs := #[.string (⟨#[]⟩ : ByteArray), .int .i8 0, .int .i64 0, .string (⟨#[]⟩ : ByteArray)]) (t := 28) ?hr ?_; (case hd => rfl); (case hg => rfl); (case hr => first | (go_simp; done) | (go_simp; rfl)); intro gb267 hg w3 hbox hb; have n0_ := Aside0.mk (below_step (by repeat (first | (with_reducible first | exact HB.out | apply below_alloc | apply pw_below_drewN | apply below_drew1) | exact HB.out)) hb); have n1_ := Aside0.mk (hbox); have n2_ := Aside0.mk ((by rw [hg]; exact (below_size (by repeat (first | (with_reducible first | exact HB.out | apply below_alloc | apply pw_below_drewN | apply below_drew1) | exact HB.out))) : w.heap.size ≤ gb267)); have n3_ := Aside0.mk ((by rw [hg]; exact (below_size (by repeat (first | (with_reducible first | exact HB.out | apply below_alloc | apply pw_below_drewN | apply below_drew1) | exact HB.out))) : w.heap.size ≤ gb267)); clear HB; have HB := n0_; have BK267 := n1_; have GW267 := n2_; have GE267 := n3_; clear n0_ n1_ n2_ n3_; clear hb hbox hg) | ((with_reducible refine gate_callee (f := 124) rfl ?_); refine goesL_ (some 4) rfl rfl Tryd.func124 (by kernel_rfl) rfl #[.int .i64 a0] rfl (by (try simp only [List.map_toArray, List.map_cons, List.map_nil]); first | done | rfl | (simp only [List.length_drop, List.length_take]; rfl)) ?_; (with_reducible refine (pedigreelaw01_word.calls a0 t268 _ ?side1 A2.out).mono ?_); (case side1 => exact TabB.below HTB.out (by repeat (first | (with_reducible first | exact HB.out | apply below_alloc | apply pw_below_drewN | apply below_drew1 | refine below_set ?_ GE267.out) | exact HB.out))); rintro e w4 ⟨rfl, hb⟩; refine ⟨_, rfl, ?_⟩; have n0_ := Aside0.mk (blk_below (g := gb267) (o := .cells #[.string (⟨#[]⟩ : ByteArray), .int .i8 0, .int .i64 0, .string (⟨#[]⟩ : ByteArray)] 28 (0, 0)) (by (with_reducible repeat (first | refine blk_drewN ?_ _ | refine blk_drew ?_ | refine blk_alloc ?_ _)); exact BK267.out) hb); have n1_ := Aside0.mk (below_step (by repeat (first | (with_reducible first | exact HB.out | apply below_alloc | apply pw_below_drewN | apply below_drew1 | refine below_set ?_ GE267.out) | exact HB.out)) hb); clear BK267; clear HB; have BK267 := n0_; have HB := n1_; clear n0_ n1_; (try clear hb); (try clear hb2); (try clear hk); (try clear hi); have hcz5_0 : w4.cell? ⟨gb267, 0, none⟩ = some (.string (⟨#[]⟩ : ByteArray)) := (blk_cell BK267.out 0).trans rfl; have hcz5_1 : w4.cell? ⟨gb267, 1, none⟩ = some (.int .i8 0) := (blk_cell BK267.out 1).trans rfl; have hcz5_2 : w4.cell? ⟨gb267, 2, none⟩ = some (.int .i64 0) := (blk_cell BK267.out 2).trans rfl; have hcz5_3 : w4.cell? ⟨gb267, 3, none⟩ = some (.string (⟨#[]⟩ : ByteArray)) := (blk_cell BK267.out 3).trans rfl; have hfz5_0 := blk_frozen BK267.out 0; have hfz5_1 := blk_frozen BK267.out 1; have hfz5_2 := blk_frozen BK267.out 2; have hfz5_3 := blk_frozen BK267.out 3))
  refine bodyPost_ret (results_cell_row rfl _ _ gb267 28 #[.string t268, .int .i8 0, .int .i64 0, .string (⟨#[]⟩ : ByteArray)] (0, 0) _ rfl (by (with_reducible repeat (first | refine blk_drewN ?_ _ | refine blk_drew ?_ | refine blk_alloc ?_ _)); refine blk_put (cs := #[.string t268, .int .i8 0, .int .i64 0, .string (⟨#[]⟩ : ByteArray)]) ?_ 3 _ rfl; (with_reducible repeat (first | refine blk_drewN ?_ _ | refine blk_drew ?_ | refine blk_alloc ?_ _)); refine blk_put (cs := #[.string t268, .int .i8 0, .int .i64 0, .string (⟨#[]⟩ : ByteArray)]) ?_ 2 _ rfl; (with_reducible repeat (first | refine blk_drewN ?_ _ | refine blk_drew ?_ | refine blk_alloc ?_ _)); refine blk_put (cs := #[.string t268, .int .i8 0, .int .i64 0, .string (⟨#[]⟩ : ByteArray)]) ?_ 1 _ rfl; (with_reducible repeat (first | refine blk_drewN ?_ _ | refine blk_drew ?_ | refine blk_alloc ?_ _)); refine blk_put (cs := #[.string (⟨#[]⟩ : ByteArray), .int .i8 0, .int .i64 0, .string (⟨#[]⟩ : ByteArray)]) ?_ 0 _ rfl; (with_reducible repeat (first | refine blk_drewN ?_ _ | refine blk_drew ?_ | refine blk_alloc ?_ _)); exact BK267.out) Tryd.underlying28 rfl (by kernel_rfl)) rfl ?_
  exact ⟨by first | rfl | (simp [errW_none, errW_some] <;> rfl) | (simp [*, errW_none, errW_some] <;> rfl), by repeat (first | (with_reducible first | exact HB.out | apply below_alloc | apply pw_below_drewN | apply below_drew1 | refine below_set ?_ GE267.out) | exact HB.out)⟩
end Go.Proofs.YtllcmggmcogokaaDoor.PAll
end

section
namespace Go.Proofs.YtllcmggmcogokaaDoor.PAll
open Go.RowKit Go.Proofs.YtllcmggmcogokaaDoorW.PrintWords Go.Proofs.YtllcmggmcogokaaDoorW.PrintLast Go.Proofs.YtllcmggmcogokaaDoorW.PrintMore
attribute [local go_sem] max2_int min2_int max_two min_two max_three min_three max_four min_four
set_option linter.unusedVariables false
set_option linter.unusedSimpArgs false
def mk28 : List Value := [.string spare, .int .i8 0, .int .i64 0, .string ⟨#[]⟩]
theorem markTerm_spare : pedigreelaw01_markTerm.f 777777 = some (spare, 0, 0, ⟨#[]⟩) := by rw [pedigreelaw01_markTerm.f, word_spare]; rfl
structure TwTermsI (w wr : World) (g cap : Nat) (l : List S28) (k : Nat) : Prop where
  row : (orC k28).R 28 wr w.heap.size (fun _ => True) (.slice (some ⟨g, 0, none⟩) (l.length + 1) cap) (begun l k [.string ⟨#[]⟩, .int .i8 0, .int .i64 0, .string ⟨#[]⟩])
  below : Below w.heap.size w wr
  base : w.heap.size ≤ g
set_option maxHeartbeats 4000000 in
set_option maxRecDepth 100000 in
theorem pedigreelaw01_TwinTerms.twin (A : Option Addr) (c : Nat) (l : List S28) (w : World) (hr : Kd.C k28 w A l.length l) (hc : l.length ≤ c) (hl : l.length < 2000000) (hT : TabB w) :
    Calls Tryd.prog 105 #[.slice A l.length c] w fun e w' => ∃ A' c', e = .returned (.slice A' l.length c') ∧ (orC k28).R 28 w' w.heap.size (fun _ => True) (.slice A' (l.length + 1) c') (marked l mk28) ∧ Below w.heap.size w w' := by
  have hm : l.length ≤ 9223372036854775807 := by omega
  have HR := Lib.hid hr
  have HT := Lib.hid hT
  clear hr hT
  go_enter Tryd.func105, Tryd.ntmps105
  go_wp2_with ((with_reducible refine gate_dst (N := 8) rfl ?_); go_loud (refine Kd.R_make (orC k28) w.heap.size 28 rfl (N := 8) rfl 51 _ _ rfl (l.length + 1 : Int) rfl rfl Tryd.underlying51 (.agg #[(.string ⟨#[]⟩), (.int .i8 0), (.int .i64 0), (.string ⟨#[]⟩)]) 48 info28 rfl (by decide) (by omega) (.inr [.string ⟨#[]⟩, .int .i8 0, .int .i64 0, .string ⟨#[]⟩]) (ok := fun _ => True) (okp := fun _ => True) ⟨rfl, rfl, by decide⟩ (fun _ hk => hk) trivial (by omega) (by omega) (Below.refl _ _) (Nat.le_refl _) ?_); intro v1 w1 hR1 hB1 _ _; rw [show (l.length + 1 : Int).toNat = l.length + 1 by omega, ← begun_zero] at hR1; obtain ⟨g, cap, rfl, hg, hg2, _⟩ := Kd.R_form hR1 (by rw [begun_zero]; simp); rw [begun_length _ _ _ (Nat.zero_le _)] at hR1 ⊢; have HI := Lib.hid (show TwTermsI w w1 g cap l 0 from ⟨hR1, hB1, hg⟩); clear hR1 hB1 hg hg2)
  go_loopw [4] (fun v wr => ∃ k : Nat, k ≤ l.length ∧ v = .int .i64 k ∧ Hid (TwTermsI w wr g cap l k)) (fun v _ => l.length - (intOf v).toNat)
  case atStart => exact ⟨0, Nat.zero_le _, rfl, HI⟩
  case round =>
    clear HI
    obtain ⟨k, hk, rfl, HI⟩ := hrel
    by_cases hlt : k < l.length
    · obtain ⟨ad, e0, g0, g1, g2, g3⟩ := at_T28 HR.out (k : Int) (by omega) (by omega)
      subst e0
      simp only [Int.toNat_natCast] at g0 g1 g2 g3
      replace g0 := (HI.out.below.cell (World.block_lt_of_cell? w _ g0)).trans g0
      replace g1 := (HI.out.below.cell (World.block_lt_of_cell? w _ g1)).trans g1
      replace g2 := (HI.out.below.cell (World.block_lt_of_cell? w _ g2)).trans g2
      replace g3 := (HI.out.below.cell (World.block_lt_of_cell? w _ g3)).trans g3
      have HY := Lib.hid (show rd_T28 l (k : Int) = l.getD k z28 from rfl)
      generalize rd_T28 l (k : Int) = y at *
      obtain ⟨_, hz, hf⟩ := begun_cells HI.out.row hk
      have z0 : wr.cell? ⟨g, k * 4, none⟩ = some (.string ⟨#[]⟩) := hz 0 _ rfl
      have z1 : wr.cell? ⟨g, k * 4 + 1, none⟩ = some (.int .i8 0) := hz 1 _ rfl
      have z2 : wr.cell? ⟨g, k * 4 + 2, none⟩ = some (.int .i64 0) := hz 2 _ rfl
      have z3 : wr.cell? ⟨g, k * 4 + 3, none⟩ = some (.string ⟨#[]⟩) := hz 3 _ rfl
      have f0 : wr.frozen? ⟨g, k * 4, none⟩ = false := hf 0
      have f1 : wr.frozen? ⟨g, k * 4 + 1, none⟩ = false := hf 1
      have f2 : wr.frozen? ⟨g, k * 4 + 2, none⟩ = false := hf 2
      have f3 : wr.frozen? ⟨g, k * 4 + 3, none⟩ = false := hf 3
      have HP := Lib.hid (begun_put HI.out.row hlt z28 (seg := [.string y.f0, .int .i8 y.f1.f0, .int .i64 y.f1.f1, .string y.f1.f2]) (okp := fun _ => False) (by rw [← HY.out]; exact k28_mkM _ _ _ y) (fun _ h => h.elim))
      clear hz hf
      go_wp2_with ((with_reducible refine gate_store (t := 28) (p := 21) rfl ?_); refine store_event (t := 28) (p := 21) (v := ?vo) (w1 := wr.setCells g (k * 4) [.string y.f0, .int .i8 y.f1.f0, .int .i64 y.f1.f1, .string y.f1.f2]) ?hg ?ho ?hn ?hr ?_; (case ho => rfl); (case hg => rfl); (case hn => rfl); (case hr => first | (go_simp; done) | (go_simp; rfl)); intro w2 hw; have HI2 : Hid (TwTermsI w w2 g cap l (k + 1)) := Lib.hid ⟨by rw [hw]; exact HP.out.1, by rw [hw]; exact below_set (below_set (below_set (below_set HI.out.below HI.out.base) HI.out.base) HI.out.base) HI.out.base, HI.out.base⟩; clear hw)
      go_roundw
      case rel => exact ⟨k + 1, by omega, by go_num, HI2⟩
      case measure => simp [intOf]; omega
    · have hk' : k = l.length := by omega
      subst hk'
      obtain ⟨_, hz, hf⟩ := begun_cells HI.out.row (Nat.le_refl _)
      have z0 : wr.cell? ⟨g, l.length * 4, none⟩ = some (.string ⟨#[]⟩) := hz 0 _ rfl
      have z1 : wr.cell? ⟨g, l.length * 4 + 1, none⟩ = some (.int .i8 0) := hz 1 _ rfl
      have z2 : wr.cell? ⟨g, l.length * 4 + 2, none⟩ = some (.int .i64 0) := hz 2 _ rfl
      have z3 : wr.cell? ⟨g, l.length * 4 + 3, none⟩ = some (.string ⟨#[]⟩) := hz 3 _ rfl
      have f0 : wr.frozen? ⟨g, l.length * 4, none⟩ = false := hf 0
      have f1 : wr.frozen? ⟨g, l.length * 4 + 1, none⟩ = false := hf 1
      have f2 : wr.frozen? ⟨g, l.length * 4 + 2, none⟩ = false := hf 2
      have f3 : wr.frozen? ⟨g, l.length * 4 + 3, none⟩ = false := hf 3
      clear hz hf
      go_wp2_with fail
      refine (pedigreelaw01_markTerm.calls 777777 spare 0 0 ⟨#[]⟩ wr (HT.out.below HI.out.below) markTerm_spare).mono ?_
      rintro e w2 ⟨rfl, hb⟩
      have HI2 : Hid (TwTermsI w w2 g cap l l.length) := Lib.hid ⟨Kd.R_below HI.out.row hb, below_step HI.out.below hb, HI.out.base⟩
      clear HI
      have HP := Lib.hid (begun_end HI2.out.row (seg := mk28) ⟨rfl, by decide⟩)
      clear z0 z1 z2 z3 f0 f1 f2 f3
      obtain ⟨_, hz, hf⟩ := begun_cells HI2.out.row (Nat.le_refl _)
      have z0 : w2.cell? ⟨g, l.length * 4, none⟩ = some (.string ⟨#[]⟩) := hz 0 _ rfl
      have z1 : w2.cell? ⟨g, l.length * 4 + 1, none⟩ = some (.int .i8 0) := hz 1 _ rfl
      have z2 : w2.cell? ⟨g, l.length * 4 + 2, none⟩ = some (.int .i64 0) := hz 2 _ rfl
      have z3 : w2.cell? ⟨g, l.length * 4 + 3, none⟩ = some (.string ⟨#[]⟩) := hz 3 _ rfl
      have f0 : w2.frozen? ⟨g, l.length * 4, none⟩ = false := hf 0
      have f1 : w2.frozen? ⟨g, l.length * 4 + 1, none⟩ = false := hf 1
      have f2 : w2.frozen? ⟨g, l.length * 4 + 2, none⟩ = false := hf 2
      have f3 : w2.frozen? ⟨g, l.length * 4 + 3, none⟩ = false := hf 3
      clear hz hf
      obtain ⟨i0, hi0, _, hsz, _⟩ := info_parts info28
      have hcut := cut_to (P := Tryd.prog) 51 28 .i64 Tryd.underlying51 hi0 (some ⟨g, 0, none⟩) (l.length + 1) cap (l.length : Int) (by omega) (by omega) (by have := (Kd.R_reads' HI2.out.row).2.1; exact this)
      rw [show (l.length : Int).toNat = l.length by omega] at hcut
      clear hi0 hsz
      go_wp2_with ((with_reducible refine gate_store (t := 28) (p := 26) rfl ?_); (refine store_event (t := 28) (p := 26) (v := ?vo2) (w1 := w2.setCells g (l.length * 4) [.string spare, .int .i8 0, .int .i64 0, .string ⟨#[]⟩]) ?hg ?ho ?hn ?hr ?_; (case ho => rfl); (case hg => rfl); (case hn => rfl); (case hr => first | (go_simp; done) | (go_simp; rfl))); intro w3 hw; have HR3 : Hid (((orC k28).R 28 w3 w.heap.size (fun _ => True) (.slice (some ⟨g, 0, none⟩) (l.length + 1) cap) (marked l mk28)) ∧ Below w.heap.size w w3) := Lib.hid ⟨by rw [hw]; exact HP.out.1, by rw [hw]; exact below_set (below_set (below_set (below_set HI2.out.below HI2.out.base) HI2.out.base) HI2.out.base) HI2.out.base⟩; clear hw)
      go_ret
      exact ⟨_, _, rfl, HR3.out.1, HR3.out.2⟩
end Go.Proofs.YtllcmggmcogokaaDoor.PAll
end

section
namespace Go.Proofs.YtllcmggmcogokaaDoor.PAll
open Go.RowKit Go.Proofs.YtllcmggmcogokaaDoorW.PrintWords Go.Proofs.YtllcmggmcogokaaDoorW.PrintLast Go.Proofs.YtllcmggmcogokaaDoorW.PrintMore
attribute [local go_sem] max2_int min2_int max_two min_two max_three min_three max_four min_four
set_option linter.unusedVariables false
set_option linter.unusedSimpArgs false
def k53t : Kd S53 := Kd.iso (Kd.pair (Kd.string) (twin 28 k28 mk28)) (fun x : S53 => (x.f0, x.f1))
theorem k53t_open {w : World} {x : S53} {cs : List Value} (h : k53t.K w x cs) : ∃ A0 c0, cs = [.string x.f0, .slice A0 x.f1.length c0] ∧ x.f1.length + 1 ≤ c0 ∧ (orC k28).C w A0 (x.f1.length + 1) (marked x.f1 mk28) := by
  obtain ⟨_, _, rfl, rfl, ⟨A0, c0, rfl, l1, g1⟩⟩ := h
  exact ⟨A0, c0, rfl, l1, g1⟩
theorem k53t_openM {w : World} {base : Nat} {ok : Nat → Prop} {x : S53} {cs : List Value} (h : k53t.M w base ok x cs) : ∃ A0 c0, cs = [.string x.f0, .slice A0 x.f1.length c0] ∧ (orC k28).R 28 w base ok (.slice A0 (x.f1.length + 1) c0) (marked x.f1 mk28) := by
  obtain ⟨_, _, rfl, rfl, ⟨A0, c0, rfl, g1⟩⟩ := h
  exact ⟨A0, c0, rfl, g1⟩
abbrev TwAtomC (x : S53) : Prop := ∀ (A0 : Option Addr) (c0 : Nat) (w : World), Kd.C k28 w A0 x.f1.length x.f1 → x.f1.length ≤ c0 → TabB w →
    Calls Tryd.prog 65 #[.agg #[.string x.f0, .slice A0 x.f1.length c0]] w fun e w' => ∃ cs, e = .returned (.agg cs.toArray) ∧ k53t.M w' w.heap.size (fun _ => True) x cs ∧ Below w.heap.size w w'
set_option maxHeartbeats 8000000 in
set_option maxRecDepth 100000 in
theorem TwAtom_step (x : S53) (hS1 : x.f1.length < 2000000) : TwAtomC x := by
  intro A0 c0 w hr0 hc0 hT
  have HR0 := Lib.hid hr0
  have HT := Lib.hid hT
  clear hT hr0
  go_enter Tryd.func65, Tryd.ntmps65
  go_wp2_with fail
  have HK1 := Lib.hid (blk_below (blk_new w (.cells #[.string x.f0, .slice A0 x.f1.length c0] 53 (0, 0))) (below_alloc (Below.refl _ _) (.cells #[.string ⟨#[]⟩, .slice none 0 0] 53 (0, 0))))
  have HK2 := Lib.hid (blk_new (w.alloc (.cells #[.string x.f0, .slice A0 x.f1.length c0] 53 (0, 0))) (.cells #[.string ⟨#[]⟩, .slice none 0 0] 53 (0, 0)))
  rw [show (w.alloc (.cells #[.string x.f0, .slice A0 x.f1.length c0] 53 (0, 0))).heap.size = w.heap.size + 1 by simp] at HK2
  have HB := Lib.hid (below_alloc (below_alloc (Below.refl w.heap.size w) (.cells #[.string x.f0, .slice A0 x.f1.length c0] 53 (0, 0))) (.cells #[.string ⟨#[]⟩, .slice none 0 0] 53 (0, 0)))
  have HZ : Hid (w.heap.size + 2 ≤ ((w.alloc (.cells #[.string x.f0, .slice A0 x.f1.length c0] 53 (0, 0))).alloc (.cells #[.string ⟨#[]⟩, .slice none 0 0] 53 (0, 0))).heap.size) := Lib.hid (by simp)
  generalize (w.alloc (.cells #[.string x.f0, .slice A0 x.f1.length c0] 53 (0, 0))).alloc (.cells #[.string ⟨#[]⟩, .slice none 0 0] 53 (0, 0)) = v0 at *
  refine (pedigreelaw01_TwinTerms.twin A0 c0 x.f1 v0 (Kd.C_below HR0.out HB.out) hc0 hS1 (HT.out.below HB.out)).mono ?_
  rintro e u0 ⟨B0, d0, rfl, hR, hb⟩
  have HW0 := Lib.hid (show (orC k28).R 28 u0 w.heap.size (fun k => w.heap.size + 2 ≤ k) (.slice B0 (x.f1.length + 1) d0) (marked x.f1 mk28) from Kd.R_mono (Kd.R_lower (Kd.R_bound hR) (Nat.le_trans (Nat.le_add_right _ _) HZ.out)) (fun k hk => Nat.le_trans HZ.out hk.2.1))
  clear hR
  replace HK1 := Lib.hid (blk_below HK1.out hb)
  replace HK2 := Lib.hid (blk_below HK2.out hb)
  replace HB := Lib.hid (below_step HB.out hb)
  replace HZ := Lib.hid (Nat.le_trans HZ.out hb.size)
  clear hb
  have p0 : u0.cell? ⟨w.heap.size, 0, none⟩ = some (.string x.f0) := (blk_cell HK1.out 0).trans rfl
  have pf0 := blk_frozen HK1.out 0
  have p1 : u0.cell? ⟨w.heap.size, 1, none⟩ = some (.slice A0 x.f1.length c0) := (blk_cell HK1.out 1).trans rfl
  have pf1 := blk_frozen HK1.out 1
  go_wp2_with ((with_reducible refine gate_store (t := 51) (p := 6) rfl ?_); (refine store_event (t := 51) (p := 6) (v := ?vo0) (w1 := (u0.setCell ⟨w.heap.size, 1, none⟩ (.slice B0 x.f1.length d0))) ?hg0 ?ho0 ?hn0 ?hr0 ?_; (case ho0 => rfl); (case hg0 => rfl); (case hn0 => rfl); (case hr0 => first | (go_simp; done) | (go_simp; rfl))); intro v1 hw; have hk1 : v1.heap[w.heap.size]? = some (.cells #[.string x.f0, .slice B0 x.f1.length d0] 53 (0, 0)) := (by rw [hw]; exact blk_put (cs := #[.string x.f0, .slice A0 x.f1.length c0]) (cs' := #[.string x.f0, .slice B0 x.f1.length d0]) (HK1.out) 1 _ rfl); have hfar : ∀ k, k ≠ w.heap.size → v1.heap[k]? = u0.heap[k]? := (fun k hk => by rw [hw]; repeat rw [Below.heap_setCell _ _ _ _ (by exact hk)]); have hk2 := (hfar (w.heap.size + 1) (by omega)).trans HK2.out; have hbb : Below w.heap.size w v1 := (by rw [hw]; exact below_set (HB.out) (Nat.le_refl _)); have hz : w.heap.size + 2 ≤ v1.heap.size := (by rw [hw]; simpa using HZ.out); have hw0 := Kd.R_step (w1 := v1) HW0.out (fun k hk _ => hfar k (by omega)); clear hw hfar HK1 HK2 HB HZ HW0; have HK1 := Lib.hid hk1; have HK2 := Lib.hid hk2; have HB := Lib.hid hbb; have HZ := Lib.hid hz; have HW0 := Lib.hid hw0; clear hk1 hk2 hbb hz hw0; clear p0 pf0 p1 pf1; have p0 : v1.cell? ⟨w.heap.size, 0, none⟩ = some (.string x.f0) := (blk_cell HK1.out 0).trans rfl; have pf0 := blk_frozen HK1.out 0; have p1 : v1.cell? ⟨w.heap.size, 1, none⟩ = some (.slice B0 x.f1.length d0) := (blk_cell HK1.out 1).trans rfl; have pf1 := blk_frozen HK1.out 1; have q0 : v1.cell? ⟨w.heap.size + 1, 0, none⟩ = some (.string ⟨#[]⟩) := (blk_cell HK2.out 0).trans rfl; have qf0 := blk_frozen HK2.out 0; have q1 : v1.cell? ⟨w.heap.size + 1, 1, none⟩ = some (.slice none 0 0) := (blk_cell HK2.out 1).trans rfl; have qf1 := blk_frozen HK2.out 1)
  refine bodyPost_ret (results_cell_row rfl _ _ (w.heap.size + 1) 53 #[.string x.f0, .slice B0 x.f1.length d0] (0, 0) _ rfl (blk_put (cs := #[.string x.f0, .slice none 0 0]) (cs' := #[.string x.f0, .slice B0 x.f1.length d0]) (blk_put (cs := #[.string ⟨#[]⟩, .slice none 0 0]) (cs' := #[.string x.f0, .slice none 0 0]) (HK2.out) 0 _ rfl) 1 _ rfl) Tryd.underlying53 rfl (by kernel_rfl)) rfl ?_
  have hfar : ∀ k, k ≠ w.heap.size + 1 → ((v1.setCell ⟨w.heap.size + 1, 0, none⟩ (.string x.f0)).setCell ⟨w.heap.size + 1, 1, none⟩ (.slice B0 x.f1.length d0)).heap[k]? = v1.heap[k]? := (fun k hk => by repeat rw [Below.heap_setCell _ _ _ _ (by exact hk)])
  have hw0 := Kd.R_mono (Kd.R_step (w1 := ((v1.setCell ⟨w.heap.size + 1, 0, none⟩ (.string x.f0)).setCell ⟨w.heap.size + 1, 1, none⟩ (.slice B0 x.f1.length d0))) HW0.out (fun k hk _ => hfar k (by omega))) (fun _ _ => trivial)
  exact ⟨_, rfl, ⟨[.string x.f0], [.slice B0 x.f1.length d0], rfl, rfl, ⟨_, _, rfl, hw0⟩⟩, below_set (below_set (HB.out) (Nat.le_succ _)) (Nat.le_succ _)⟩
end Go.Proofs.YtllcmggmcogokaaDoor.PAll
end

section
namespace Go.Proofs.YtllcmggmcogokaaDoor.PAll
open Go.RowKit Go.Proofs.YtllcmggmcogokaaDoorW.PrintWords Go.Proofs.YtllcmggmcogokaaDoorW.PrintLast Go.Proofs.YtllcmggmcogokaaDoorW.PrintMore
attribute [local go_sem] max2_int min2_int max_two min_two max_three min_three max_four min_four
set_option linter.unusedVariables false
set_option linter.unusedSimpArgs false
def k56t : Kd S56 := Kd.iso (Kd.pair (Kd.int .i8) (Kd.pair k53t (Kd.pair (Kd.int .i8) (Kd.pair k31t k31t)))) (fun x : S56 => (x.f0, x.f1, x.f2, x.f3, x.f4))
theorem k56t_open {w : World} {x : S56} {cs : List Value} (h : k56t.K w x cs) : ∃ A0 c0 A1 c1 A2 c2, cs = [.int .i8 x.f0, .string x.f1.f0, .slice A0 x.f1.f1.length c0, .int .i8 x.f2, .int .i8 x.f3.f0, .string x.f3.f1.f0, .int .i8 x.f3.f1.f1.f0, .int .i64 x.f3.f1.f1.f1, .string x.f3.f1.f1.f2, .slice A1 x.f3.f2.length c1, .int .i8 x.f4.f0, .string x.f4.f1.f0, .int .i8 x.f4.f1.f1.f0, .int .i64 x.f4.f1.f1.f1, .string x.f4.f1.f1.f2, .slice A2 x.f4.f2.length c2] ∧ x.f1.f1.length + 1 ≤ c0 ∧ (orC k28).C w A0 (x.f1.f1.length + 1) (marked x.f1.f1 mk28) ∧ x.f3.f2.length + 1 ≤ c1 ∧ (orC k31t).C w A1 (x.f3.f2.length + 1) (marked x.f3.f2 mk31) ∧ x.f4.f2.length + 1 ≤ c2 ∧ (orC k31t).C w A2 (x.f4.f2.length + 1) (marked x.f4.f2 mk31) := by
  obtain ⟨_, _, rfl, rfl, ⟨_, _, rfl, m1, ⟨_, _, rfl, rfl, ⟨_, _, rfl, m3, m4⟩⟩⟩⟩ := h
  obtain ⟨A0, c0, rfl, l1_0, g1_0⟩ := k53t_open m1
  obtain ⟨A1, c1, rfl, l3_0, g3_0⟩ := k31t_open m3
  obtain ⟨A2, c2, rfl, l4_0, g4_0⟩ := k31t_open m4
  exact ⟨A0, c0, A1, c1, A2, c2, rfl, l1_0, g1_0, l3_0, g3_0, l4_0, g4_0⟩
abbrev TwLiteralC (x : S56) : Prop := ∀ (A0 : Option Addr) (c0 : Nat) (A1 : Option Addr) (c1 : Nat) (A2 : Option Addr) (c2 : Nat) (w : World), Kd.C k28 w A0 x.f1.f1.length x.f1.f1 → x.f1.f1.length ≤ c0 → Kd.C k31 w A1 x.f3.f2.length x.f3.f2 → x.f3.f2.length ≤ c1 → Kd.C k31 w A2 x.f4.f2.length x.f4.f2 → x.f4.f2.length ≤ c2 → TabB w →
    Calls Tryd.prog 19 #[.agg #[.int .i8 x.f0, .string x.f1.f0, .slice A0 x.f1.f1.length c0, .int .i8 x.f2, .int .i8 x.f3.f0, .string x.f3.f1.f0, .int .i8 x.f3.f1.f1.f0, .int .i64 x.f3.f1.f1.f1, .string x.f3.f1.f1.f2, .slice A1 x.f3.f2.length c1, .int .i8 x.f4.f0, .string x.f4.f1.f0, .int .i8 x.f4.f1.f1.f0, .int .i64 x.f4.f1.f1.f1, .string x.f4.f1.f1.f2, .slice A2 x.f4.f2.length c2]] w fun e w' => ∃ cs, e = .returned (.agg cs.toArray) ∧ k56t.M w' w.heap.size (fun _ => True) x cs ∧ Below w.heap.size w w'
set_option maxHeartbeats 8000000 in
set_option maxRecDepth 100000 in
theorem TwLiteral_step (x : S56) (hS1 : Hid (TwAtomC x.f1)) (hS3 : Hid (TwExprC x.f3)) (hS4 : Hid (TwExprC x.f4)) : TwLiteralC x := by
  intro A0 c0 A1 c1 A2 c2 w hr0 hc0 hr1 hc1 hr2 hc2 hT
  have HR0 := Lib.hid hr0
  have HR1 := Lib.hid hr1
  have HR2 := Lib.hid hr2
  have HT := Lib.hid hT
  clear hT hr0 hr1 hr2
  go_enter Tryd.func19, Tryd.ntmps19
  go_wp2_with fail
  have HK1 := Lib.hid (blk_below (blk_new w (.cells #[.int .i8 x.f0, .string x.f1.f0, .slice A0 x.f1.f1.length c0, .int .i8 x.f2, .int .i8 x.f3.f0, .string x.f3.f1.f0, .int .i8 x.f3.f1.f1.f0, .int .i64 x.f3.f1.f1.f1, .string x.f3.f1.f1.f2, .slice A1 x.f3.f2.length c1, .int .i8 x.f4.f0, .string x.f4.f1.f0, .int .i8 x.f4.f1.f1.f0, .int .i64 x.f4.f1.f1.f1, .string x.f4.f1.f1.f2, .slice A2 x.f4.f2.length c2] 56 (0, 0))) (below_alloc (Below.refl _ _) (.cells #[.int .i8 0, .string ⟨#[]⟩, .slice none 0 0, .int .i8 0, .int .i8 0, .string ⟨#[]⟩, .int .i8 0, .int .i64 0, .string ⟨#[]⟩, .slice none 0 0, .int .i8 0, .string ⟨#[]⟩, .int .i8 0, .int .i64 0, .string ⟨#[]⟩, .slice none 0 0] 56 (0, 0))))
  have HK2 := Lib.hid (blk_new (w.alloc (.cells #[.int .i8 x.f0, .string x.f1.f0, .slice A0 x.f1.f1.length c0, .int .i8 x.f2, .int .i8 x.f3.f0, .string x.f3.f1.f0, .int .i8 x.f3.f1.f1.f0, .int .i64 x.f3.f1.f1.f1, .string x.f3.f1.f1.f2, .slice A1 x.f3.f2.length c1, .int .i8 x.f4.f0, .string x.f4.f1.f0, .int .i8 x.f4.f1.f1.f0, .int .i64 x.f4.f1.f1.f1, .string x.f4.f1.f1.f2, .slice A2 x.f4.f2.length c2] 56 (0, 0))) (.cells #[.int .i8 0, .string ⟨#[]⟩, .slice none 0 0, .int .i8 0, .int .i8 0, .string ⟨#[]⟩, .int .i8 0, .int .i64 0, .string ⟨#[]⟩, .slice none 0 0, .int .i8 0, .string ⟨#[]⟩, .int .i8 0, .int .i64 0, .string ⟨#[]⟩, .slice none 0 0] 56 (0, 0)))
  rw [show (w.alloc (.cells #[.int .i8 x.f0, .string x.f1.f0, .slice A0 x.f1.f1.length c0, .int .i8 x.f2, .int .i8 x.f3.f0, .string x.f3.f1.f0, .int .i8 x.f3.f1.f1.f0, .int .i64 x.f3.f1.f1.f1, .string x.f3.f1.f1.f2, .slice A1 x.f3.f2.length c1, .int .i8 x.f4.f0, .string x.f4.f1.f0, .int .i8 x.f4.f1.f1.f0, .int .i64 x.f4.f1.f1.f1, .string x.f4.f1.f1.f2, .slice A2 x.f4.f2.length c2] 56 (0, 0))).heap.size = w.heap.size + 1 by simp] at HK2
  have HB := Lib.hid (below_alloc (below_alloc (Below.refl w.heap.size w) (.cells #[.int .i8 x.f0, .string x.f1.f0, .slice A0 x.f1.f1.length c0, .int .i8 x.f2, .int .i8 x.f3.f0, .string x.f3.f1.f0, .int .i8 x.f3.f1.f1.f0, .int .i64 x.f3.f1.f1.f1, .string x.f3.f1.f1.f2, .slice A1 x.f3.f2.length c1, .int .i8 x.f4.f0, .string x.f4.f1.f0, .int .i8 x.f4.f1.f1.f0, .int .i64 x.f4.f1.f1.f1, .string x.f4.f1.f1.f2, .slice A2 x.f4.f2.length c2] 56 (0, 0))) (.cells #[.int .i8 0, .string ⟨#[]⟩, .slice none 0 0, .int .i8 0, .int .i8 0, .string ⟨#[]⟩, .int .i8 0, .int .i64 0, .string ⟨#[]⟩, .slice none 0 0, .int .i8 0, .string ⟨#[]⟩, .int .i8 0, .int .i64 0, .string ⟨#[]⟩, .slice none 0 0] 56 (0, 0)))
  have HZ : Hid (w.heap.size + 2 ≤ ((w.alloc (.cells #[.int .i8 x.f0, .string x.f1.f0, .slice A0 x.f1.f1.length c0, .int .i8 x.f2, .int .i8 x.f3.f0, .string x.f3.f1.f0, .int .i8 x.f3.f1.f1.f0, .int .i64 x.f3.f1.f1.f1, .string x.f3.f1.f1.f2, .slice A1 x.f3.f2.length c1, .int .i8 x.f4.f0, .string x.f4.f1.f0, .int .i8 x.f4.f1.f1.f0, .int .i64 x.f4.f1.f1.f1, .string x.f4.f1.f1.f2, .slice A2 x.f4.f2.length c2] 56 (0, 0))).alloc (.cells #[.int .i8 0, .string ⟨#[]⟩, .slice none 0 0, .int .i8 0, .int .i8 0, .string ⟨#[]⟩, .int .i8 0, .int .i64 0, .string ⟨#[]⟩, .slice none 0 0, .int .i8 0, .string ⟨#[]⟩, .int .i8 0, .int .i64 0, .string ⟨#[]⟩, .slice none 0 0] 56 (0, 0))).heap.size) := Lib.hid (by simp)
  generalize (w.alloc (.cells #[.int .i8 x.f0, .string x.f1.f0, .slice A0 x.f1.f1.length c0, .int .i8 x.f2, .int .i8 x.f3.f0, .string x.f3.f1.f0, .int .i8 x.f3.f1.f1.f0, .int .i64 x.f3.f1.f1.f1, .string x.f3.f1.f1.f2, .slice A1 x.f3.f2.length c1, .int .i8 x.f4.f0, .string x.f4.f1.f0, .int .i8 x.f4.f1.f1.f0, .int .i64 x.f4.f1.f1.f1, .string x.f4.f1.f1.f2, .slice A2 x.f4.f2.length c2] 56 (0, 0))).alloc (.cells #[.int .i8 0, .string ⟨#[]⟩, .slice none 0 0, .int .i8 0, .int .i8 0, .string ⟨#[]⟩, .int .i8 0, .int .i64 0, .string ⟨#[]⟩, .slice none 0 0, .int .i8 0, .string ⟨#[]⟩, .int .i8 0, .int .i64 0, .string ⟨#[]⟩, .slice none 0 0] 56 (0, 0)) = v0 at *
  refine (hS1.out A0 c0 v0 (Kd.C_below HR0.out HB.out) hc0 (HT.out.below HB.out)).mono ?_
  rintro e u0 ⟨cs, rfl, hM, hb⟩
  obtain ⟨B0, d0, rfl, _⟩ := k53t_openM hM
  have HW0 := Lib.hid (show k53t.M u0 w.heap.size (fun k => w.heap.size + 2 ≤ k) x.f1 [.string x.f1.f0, .slice B0 x.f1.f1.length d0] from k53t.M_mono (fun k hk => Nat.le_trans HZ.out hk.2.1) (k53t.M_lower (Nat.le_trans (Nat.le_add_right _ _) HZ.out) (k53t.M_bound hM)))
  clear hM
  replace HK1 := Lib.hid (blk_below HK1.out hb)
  replace HK2 := Lib.hid (blk_below HK2.out hb)
  replace HB := Lib.hid (below_step HB.out hb)
  replace HZ := Lib.hid (Nat.le_trans HZ.out hb.size)
  clear hb
  have p0 : u0.cell? ⟨w.heap.size, 0, none⟩ = some (.int .i8 x.f0) := (blk_cell HK1.out 0).trans rfl
  have pf0 := blk_frozen HK1.out 0
  have p1 : u0.cell? ⟨w.heap.size, 1, none⟩ = some (.string x.f1.f0) := (blk_cell HK1.out 1).trans rfl
  have pf1 := blk_frozen HK1.out 1
  have p2 : u0.cell? ⟨w.heap.size, 2, none⟩ = some (.slice A0 x.f1.f1.length c0) := (blk_cell HK1.out 2).trans rfl
  have pf2 := blk_frozen HK1.out 2
  have p3 : u0.cell? ⟨w.heap.size, 3, none⟩ = some (.int .i8 x.f2) := (blk_cell HK1.out 3).trans rfl
  have pf3 := blk_frozen HK1.out 3
  have p4 : u0.cell? ⟨w.heap.size, 4, none⟩ = some (.int .i8 x.f3.f0) := (blk_cell HK1.out 4).trans rfl
  have pf4 := blk_frozen HK1.out 4
  have p5 : u0.cell? ⟨w.heap.size, 5, none⟩ = some (.string x.f3.f1.f0) := (blk_cell HK1.out 5).trans rfl
  have pf5 := blk_frozen HK1.out 5
  have p6 : u0.cell? ⟨w.heap.size, 6, none⟩ = some (.int .i8 x.f3.f1.f1.f0) := (blk_cell HK1.out 6).trans rfl
  have pf6 := blk_frozen HK1.out 6
  have p7 : u0.cell? ⟨w.heap.size, 7, none⟩ = some (.int .i64 x.f3.f1.f1.f1) := (blk_cell HK1.out 7).trans rfl
  have pf7 := blk_frozen HK1.out 7
  have p8 : u0.cell? ⟨w.heap.size, 8, none⟩ = some (.string x.f3.f1.f1.f2) := (blk_cell HK1.out 8).trans rfl
  have pf8 := blk_frozen HK1.out 8
  have p9 : u0.cell? ⟨w.heap.size, 9, none⟩ = some (.slice A1 x.f3.f2.length c1) := (blk_cell HK1.out 9).trans rfl
  have pf9 := blk_frozen HK1.out 9
  have p10 : u0.cell? ⟨w.heap.size, 10, none⟩ = some (.int .i8 x.f4.f0) := (blk_cell HK1.out 10).trans rfl
  have pf10 := blk_frozen HK1.out 10
  have p11 : u0.cell? ⟨w.heap.size, 11, none⟩ = some (.string x.f4.f1.f0) := (blk_cell HK1.out 11).trans rfl
  have pf11 := blk_frozen HK1.out 11
  have p12 : u0.cell? ⟨w.heap.size, 12, none⟩ = some (.int .i8 x.f4.f1.f1.f0) := (blk_cell HK1.out 12).trans rfl
  have pf12 := blk_frozen HK1.out 12
  have p13 : u0.cell? ⟨w.heap.size, 13, none⟩ = some (.int .i64 x.f4.f1.f1.f1) := (blk_cell HK1.out 13).trans rfl
  have pf13 := blk_frozen HK1.out 13
  have p14 : u0.cell? ⟨w.heap.size, 14, none⟩ = some (.string x.f4.f1.f1.f2) := (blk_cell HK1.out 14).trans rfl
  have pf14 := blk_frozen HK1.out 14
  have p15 : u0.cell? ⟨w.heap.size, 15, none⟩ = some (.slice A2 x.f4.f2.length c2) := (blk_cell HK1.out 15).trans rfl
  have pf15 := blk_frozen HK1.out 15
  go_wp2_with ((with_reducible refine gate_store (t := 53) (p := 6) rfl ?_); (refine store_event (t := 53) (p := 6) (v := ?vo0) (w1 := ((u0.setCell ⟨w.heap.size, 1, none⟩ (.string x.f1.f0)).setCell ⟨w.heap.size, 2, none⟩ (.slice B0 x.f1.f1.length d0))) ?hg0 ?ho0 ?hn0 ?hr0 ?_; (case ho0 => rfl); (case hg0 => rfl); (case hn0 => rfl); (case hr0 => first | (go_simp; done) | (go_simp; rfl))); intro v1 hw; have hk1 : v1.heap[w.heap.size]? = some (.cells #[.int .i8 x.f0, .string x.f1.f0, .slice B0 x.f1.f1.length d0, .int .i8 x.f2, .int .i8 x.f3.f0, .string x.f3.f1.f0, .int .i8 x.f3.f1.f1.f0, .int .i64 x.f3.f1.f1.f1, .string x.f3.f1.f1.f2, .slice A1 x.f3.f2.length c1, .int .i8 x.f4.f0, .string x.f4.f1.f0, .int .i8 x.f4.f1.f1.f0, .int .i64 x.f4.f1.f1.f1, .string x.f4.f1.f1.f2, .slice A2 x.f4.f2.length c2] 56 (0, 0)) := (by rw [hw]; exact blk_put (cs := #[.int .i8 x.f0, .string x.f1.f0, .slice A0 x.f1.f1.length c0, .int .i8 x.f2, .int .i8 x.f3.f0, .string x.f3.f1.f0, .int .i8 x.f3.f1.f1.f0, .int .i64 x.f3.f1.f1.f1, .string x.f3.f1.f1.f2, .slice A1 x.f3.f2.length c1, .int .i8 x.f4.f0, .string x.f4.f1.f0, .int .i8 x.f4.f1.f1.f0, .int .i64 x.f4.f1.f1.f1, .string x.f4.f1.f1.f2, .slice A2 x.f4.f2.length c2]) (cs' := #[.int .i8 x.f0, .string x.f1.f0, .slice B0 x.f1.f1.length d0, .int .i8 x.f2, .int .i8 x.f3.f0, .string x.f3.f1.f0, .int .i8 x.f3.f1.f1.f0, .int .i64 x.f3.f1.f1.f1, .string x.f3.f1.f1.f2, .slice A1 x.f3.f2.length c1, .int .i8 x.f4.f0, .string x.f4.f1.f0, .int .i8 x.f4.f1.f1.f0, .int .i64 x.f4.f1.f1.f1, .string x.f4.f1.f1.f2, .slice A2 x.f4.f2.length c2]) (blk_put (cs := #[.int .i8 x.f0, .string x.f1.f0, .slice A0 x.f1.f1.length c0, .int .i8 x.f2, .int .i8 x.f3.f0, .string x.f3.f1.f0, .int .i8 x.f3.f1.f1.f0, .int .i64 x.f3.f1.f1.f1, .string x.f3.f1.f1.f2, .slice A1 x.f3.f2.length c1, .int .i8 x.f4.f0, .string x.f4.f1.f0, .int .i8 x.f4.f1.f1.f0, .int .i64 x.f4.f1.f1.f1, .string x.f4.f1.f1.f2, .slice A2 x.f4.f2.length c2]) (cs' := #[.int .i8 x.f0, .string x.f1.f0, .slice A0 x.f1.f1.length c0, .int .i8 x.f2, .int .i8 x.f3.f0, .string x.f3.f1.f0, .int .i8 x.f3.f1.f1.f0, .int .i64 x.f3.f1.f1.f1, .string x.f3.f1.f1.f2, .slice A1 x.f3.f2.length c1, .int .i8 x.f4.f0, .string x.f4.f1.f0, .int .i8 x.f4.f1.f1.f0, .int .i64 x.f4.f1.f1.f1, .string x.f4.f1.f1.f2, .slice A2 x.f4.f2.length c2]) (HK1.out) 1 _ rfl) 2 _ rfl); have hfar : ∀ k, k ≠ w.heap.size → v1.heap[k]? = u0.heap[k]? := (fun k hk => by rw [hw]; repeat rw [Below.heap_setCell _ _ _ _ (by exact hk)]); have hk2 := (hfar (w.heap.size + 1) (by omega)).trans HK2.out; have hbb : Below w.heap.size w v1 := (by rw [hw]; exact below_set (below_set (HB.out) (Nat.le_refl _)) (Nat.le_refl _)); have hz : w.heap.size + 2 ≤ v1.heap.size := (by rw [hw]; simpa using HZ.out); have hw0 := Kd.M_step (w1 := v1) HW0.out (fun k hk _ => hfar k (by omega)); clear hw hfar HK1 HK2 HB HZ HW0; have HK1 := Lib.hid hk1; have HK2 := Lib.hid hk2; have HB := Lib.hid hbb; have HZ := Lib.hid hz; have HW0 := Lib.hid hw0; clear hk1 hk2 hbb hz hw0; clear p0 pf0 p1 pf1 p2 pf2 p3 pf3 p4 pf4 p5 pf5 p6 pf6 p7 pf7 p8 pf8 p9 pf9 p10 pf10 p11 pf11 p12 pf12 p13 pf13 p14 pf14 p15 pf15; have p0 : v1.cell? ⟨w.heap.size, 0, none⟩ = some (.int .i8 x.f0) := (blk_cell HK1.out 0).trans rfl; have pf0 := blk_frozen HK1.out 0; have p1 : v1.cell? ⟨w.heap.size, 1, none⟩ = some (.string x.f1.f0) := (blk_cell HK1.out 1).trans rfl; have pf1 := blk_frozen HK1.out 1; have p2 : v1.cell? ⟨w.heap.size, 2, none⟩ = some (.slice B0 x.f1.f1.length d0) := (blk_cell HK1.out 2).trans rfl; have pf2 := blk_frozen HK1.out 2; have p3 : v1.cell? ⟨w.heap.size, 3, none⟩ = some (.int .i8 x.f2) := (blk_cell HK1.out 3).trans rfl; have pf3 := blk_frozen HK1.out 3; have p4 : v1.cell? ⟨w.heap.size, 4, none⟩ = some (.int .i8 x.f3.f0) := (blk_cell HK1.out 4).trans rfl; have pf4 := blk_frozen HK1.out 4; have p5 : v1.cell? ⟨w.heap.size, 5, none⟩ = some (.string x.f3.f1.f0) := (blk_cell HK1.out 5).trans rfl; have pf5 := blk_frozen HK1.out 5; have p6 : v1.cell? ⟨w.heap.size, 6, none⟩ = some (.int .i8 x.f3.f1.f1.f0) := (blk_cell HK1.out 6).trans rfl; have pf6 := blk_frozen HK1.out 6; have p7 : v1.cell? ⟨w.heap.size, 7, none⟩ = some (.int .i64 x.f3.f1.f1.f1) := (blk_cell HK1.out 7).trans rfl; have pf7 := blk_frozen HK1.out 7; have p8 : v1.cell? ⟨w.heap.size, 8, none⟩ = some (.string x.f3.f1.f1.f2) := (blk_cell HK1.out 8).trans rfl; have pf8 := blk_frozen HK1.out 8; have p9 : v1.cell? ⟨w.heap.size, 9, none⟩ = some (.slice A1 x.f3.f2.length c1) := (blk_cell HK1.out 9).trans rfl; have pf9 := blk_frozen HK1.out 9; have p10 : v1.cell? ⟨w.heap.size, 10, none⟩ = some (.int .i8 x.f4.f0) := (blk_cell HK1.out 10).trans rfl; have pf10 := blk_frozen HK1.out 10; have p11 : v1.cell? ⟨w.heap.size, 11, none⟩ = some (.string x.f4.f1.f0) := (blk_cell HK1.out 11).trans rfl; have pf11 := blk_frozen HK1.out 11; have p12 : v1.cell? ⟨w.heap.size, 12, none⟩ = some (.int .i8 x.f4.f1.f1.f0) := (blk_cell HK1.out 12).trans rfl; have pf12 := blk_frozen HK1.out 12; have p13 : v1.cell? ⟨w.heap.size, 13, none⟩ = some (.int .i64 x.f4.f1.f1.f1) := (blk_cell HK1.out 13).trans rfl; have pf13 := blk_frozen HK1.out 13; have p14 : v1.cell? ⟨w.heap.size, 14, none⟩ = some (.string x.f4.f1.f1.f2) := (blk_cell HK1.out 14).trans rfl; have pf14 := blk_frozen HK1.out 14; have p15 : v1.cell? ⟨w.heap.size, 15, none⟩ = some (.slice A2 x.f4.f2.length c2) := (blk_cell HK1.out 15).trans rfl; have pf15 := blk_frozen HK1.out 15)
  refine (hS3.out A1 c1 v1 (Kd.C_below HR1.out HB.out) hc1 (HT.out.below HB.out)).mono ?_
  rintro e u1 ⟨cs, rfl, hM, hb⟩
  obtain ⟨B1, d1, rfl, _⟩ := k31t_openM hM
  have HW1 := Lib.hid (show k31t.M u1 w.heap.size (fun k => w.heap.size + 2 ≤ k) x.f3 [.int .i8 x.f3.f0, .string x.f3.f1.f0, .int .i8 x.f3.f1.f1.f0, .int .i64 x.f3.f1.f1.f1, .string x.f3.f1.f1.f2, .slice B1 x.f3.f2.length d1] from k31t.M_mono (fun k hk => Nat.le_trans HZ.out hk.2.1) (k31t.M_lower (Nat.le_trans (Nat.le_add_right _ _) HZ.out) (k31t.M_bound hM)))
  clear hM
  replace HW0 := Lib.hid (Kd.M_below HW0.out hb)
  replace HK1 := Lib.hid (blk_below HK1.out hb)
  replace HK2 := Lib.hid (blk_below HK2.out hb)
  replace HB := Lib.hid (below_step HB.out hb)
  replace HZ := Lib.hid (Nat.le_trans HZ.out hb.size)
  clear hb
  clear p0 pf0 p1 pf1 p2 pf2 p3 pf3 p4 pf4 p5 pf5 p6 pf6 p7 pf7 p8 pf8 p9 pf9 p10 pf10 p11 pf11 p12 pf12 p13 pf13 p14 pf14 p15 pf15
  have p0 : u1.cell? ⟨w.heap.size, 0, none⟩ = some (.int .i8 x.f0) := (blk_cell HK1.out 0).trans rfl
  have pf0 := blk_frozen HK1.out 0
  have p1 : u1.cell? ⟨w.heap.size, 1, none⟩ = some (.string x.f1.f0) := (blk_cell HK1.out 1).trans rfl
  have pf1 := blk_frozen HK1.out 1
  have p2 : u1.cell? ⟨w.heap.size, 2, none⟩ = some (.slice B0 x.f1.f1.length d0) := (blk_cell HK1.out 2).trans rfl
  have pf2 := blk_frozen HK1.out 2
  have p3 : u1.cell? ⟨w.heap.size, 3, none⟩ = some (.int .i8 x.f2) := (blk_cell HK1.out 3).trans rfl
  have pf3 := blk_frozen HK1.out 3
  have p4 : u1.cell? ⟨w.heap.size, 4, none⟩ = some (.int .i8 x.f3.f0) := (blk_cell HK1.out 4).trans rfl
  have pf4 := blk_frozen HK1.out 4
  have p5 : u1.cell? ⟨w.heap.size, 5, none⟩ = some (.string x.f3.f1.f0) := (blk_cell HK1.out 5).trans rfl
  have pf5 := blk_frozen HK1.out 5
  have p6 : u1.cell? ⟨w.heap.size, 6, none⟩ = some (.int .i8 x.f3.f1.f1.f0) := (blk_cell HK1.out 6).trans rfl
  have pf6 := blk_frozen HK1.out 6
  have p7 : u1.cell? ⟨w.heap.size, 7, none⟩ = some (.int .i64 x.f3.f1.f1.f1) := (blk_cell HK1.out 7).trans rfl
  have pf7 := blk_frozen HK1.out 7
  have p8 : u1.cell? ⟨w.heap.size, 8, none⟩ = some (.string x.f3.f1.f1.f2) := (blk_cell HK1.out 8).trans rfl
  have pf8 := blk_frozen HK1.out 8
  have p9 : u1.cell? ⟨w.heap.size, 9, none⟩ = some (.slice A1 x.f3.f2.length c1) := (blk_cell HK1.out 9).trans rfl
  have pf9 := blk_frozen HK1.out 9
  have p10 : u1.cell? ⟨w.heap.size, 10, none⟩ = some (.int .i8 x.f4.f0) := (blk_cell HK1.out 10).trans rfl
  have pf10 := blk_frozen HK1.out 10
  have p11 : u1.cell? ⟨w.heap.size, 11, none⟩ = some (.string x.f4.f1.f0) := (blk_cell HK1.out 11).trans rfl
  have pf11 := blk_frozen HK1.out 11
  have p12 : u1.cell? ⟨w.heap.size, 12, none⟩ = some (.int .i8 x.f4.f1.f1.f0) := (blk_cell HK1.out 12).trans rfl
  have pf12 := blk_frozen HK1.out 12
  have p13 : u1.cell? ⟨w.heap.size, 13, none⟩ = some (.int .i64 x.f4.f1.f1.f1) := (blk_cell HK1.out 13).trans rfl
  have pf13 := blk_frozen HK1.out 13
  have p14 : u1.cell? ⟨w.heap.size, 14, none⟩ = some (.string x.f4.f1.f1.f2) := (blk_cell HK1.out 14).trans rfl
  have pf14 := blk_frozen HK1.out 14
  have p15 : u1.cell? ⟨w.heap.size, 15, none⟩ = some (.slice A2 x.f4.f2.length c2) := (blk_cell HK1.out 15).trans rfl
  have pf15 := blk_frozen HK1.out 15
  go_wp2_with ((with_reducible refine gate_store (t := 31) (p := 10) rfl ?_); (refine store_event (t := 31) (p := 10) (v := ?vo1) (w1 := ((((((u1.setCell ⟨w.heap.size, 4, none⟩ (.int .i8 x.f3.f0)).setCell ⟨w.heap.size, 5, none⟩ (.string x.f3.f1.f0)).setCell ⟨w.heap.size, 6, none⟩ (.int .i8 x.f3.f1.f1.f0)).setCell ⟨w.heap.size, 7, none⟩ (.int .i64 x.f3.f1.f1.f1)).setCell ⟨w.heap.size, 8, none⟩ (.string x.f3.f1.f1.f2)).setCell ⟨w.heap.size, 9, none⟩ (.slice B1 x.f3.f2.length d1))) ?hg1 ?ho1 ?hn1 ?hr1 ?_; (case ho1 => rfl); (case hg1 => rfl); (case hn1 => rfl); (case hr1 => first | (go_simp; done) | (go_simp; rfl))); intro v2 hw; have hk1 : v2.heap[w.heap.size]? = some (.cells #[.int .i8 x.f0, .string x.f1.f0, .slice B0 x.f1.f1.length d0, .int .i8 x.f2, .int .i8 x.f3.f0, .string x.f3.f1.f0, .int .i8 x.f3.f1.f1.f0, .int .i64 x.f3.f1.f1.f1, .string x.f3.f1.f1.f2, .slice B1 x.f3.f2.length d1, .int .i8 x.f4.f0, .string x.f4.f1.f0, .int .i8 x.f4.f1.f1.f0, .int .i64 x.f4.f1.f1.f1, .string x.f4.f1.f1.f2, .slice A2 x.f4.f2.length c2] 56 (0, 0)) := (by rw [hw]; exact blk_put (cs := #[.int .i8 x.f0, .string x.f1.f0, .slice B0 x.f1.f1.length d0, .int .i8 x.f2, .int .i8 x.f3.f0, .string x.f3.f1.f0, .int .i8 x.f3.f1.f1.f0, .int .i64 x.f3.f1.f1.f1, .string x.f3.f1.f1.f2, .slice A1 x.f3.f2.length c1, .int .i8 x.f4.f0, .string x.f4.f1.f0, .int .i8 x.f4.f1.f1.f0, .int .i64 x.f4.f1.f1.f1, .string x.f4.f1.f1.f2, .slice A2 x.f4.f2.length c2]) (cs' := #[.int .i8 x.f0, .string x.f1.f0, .slice B0 x.f1.f1.length d0, .int .i8 x.f2, .int .i8 x.f3.f0, .string x.f3.f1.f0, .int .i8 x.f3.f1.f1.f0, .int .i64 x.f3.f1.f1.f1, .string x.f3.f1.f1.f2, .slice B1 x.f3.f2.length d1, .int .i8 x.f4.f0, .string x.f4.f1.f0, .int .i8 x.f4.f1.f1.f0, .int .i64 x.f4.f1.f1.f1, .string x.f4.f1.f1.f2, .slice A2 x.f4.f2.length c2]) (blk_put (cs := #[.int .i8 x.f0, .string x.f1.f0, .slice B0 x.f1.f1.length d0, .int .i8 x.f2, .int .i8 x.f3.f0, .string x.f3.f1.f0, .int .i8 x.f3.f1.f1.f0, .int .i64 x.f3.f1.f1.f1, .string x.f3.f1.f1.f2, .slice A1 x.f3.f2.length c1, .int .i8 x.f4.f0, .string x.f4.f1.f0, .int .i8 x.f4.f1.f1.f0, .int .i64 x.f4.f1.f1.f1, .string x.f4.f1.f1.f2, .slice A2 x.f4.f2.length c2]) (cs' := #[.int .i8 x.f0, .string x.f1.f0, .slice B0 x.f1.f1.length d0, .int .i8 x.f2, .int .i8 x.f3.f0, .string x.f3.f1.f0, .int .i8 x.f3.f1.f1.f0, .int .i64 x.f3.f1.f1.f1, .string x.f3.f1.f1.f2, .slice A1 x.f3.f2.length c1, .int .i8 x.f4.f0, .string x.f4.f1.f0, .int .i8 x.f4.f1.f1.f0, .int .i64 x.f4.f1.f1.f1, .string x.f4.f1.f1.f2, .slice A2 x.f4.f2.length c2]) (blk_put (cs := #[.int .i8 x.f0, .string x.f1.f0, .slice B0 x.f1.f1.length d0, .int .i8 x.f2, .int .i8 x.f3.f0, .string x.f3.f1.f0, .int .i8 x.f3.f1.f1.f0, .int .i64 x.f3.f1.f1.f1, .string x.f3.f1.f1.f2, .slice A1 x.f3.f2.length c1, .int .i8 x.f4.f0, .string x.f4.f1.f0, .int .i8 x.f4.f1.f1.f0, .int .i64 x.f4.f1.f1.f1, .string x.f4.f1.f1.f2, .slice A2 x.f4.f2.length c2]) (cs' := #[.int .i8 x.f0, .string x.f1.f0, .slice B0 x.f1.f1.length d0, .int .i8 x.f2, .int .i8 x.f3.f0, .string x.f3.f1.f0, .int .i8 x.f3.f1.f1.f0, .int .i64 x.f3.f1.f1.f1, .string x.f3.f1.f1.f2, .slice A1 x.f3.f2.length c1, .int .i8 x.f4.f0, .string x.f4.f1.f0, .int .i8 x.f4.f1.f1.f0, .int .i64 x.f4.f1.f1.f1, .string x.f4.f1.f1.f2, .slice A2 x.f4.f2.length c2]) (blk_put (cs := #[.int .i8 x.f0, .string x.f1.f0, .slice B0 x.f1.f1.length d0, .int .i8 x.f2, .int .i8 x.f3.f0, .string x.f3.f1.f0, .int .i8 x.f3.f1.f1.f0, .int .i64 x.f3.f1.f1.f1, .string x.f3.f1.f1.f2, .slice A1 x.f3.f2.length c1, .int .i8 x.f4.f0, .string x.f4.f1.f0, .int .i8 x.f4.f1.f1.f0, .int .i64 x.f4.f1.f1.f1, .string x.f4.f1.f1.f2, .slice A2 x.f4.f2.length c2]) (cs' := #[.int .i8 x.f0, .string x.f1.f0, .slice B0 x.f1.f1.length d0, .int .i8 x.f2, .int .i8 x.f3.f0, .string x.f3.f1.f0, .int .i8 x.f3.f1.f1.f0, .int .i64 x.f3.f1.f1.f1, .string x.f3.f1.f1.f2, .slice A1 x.f3.f2.length c1, .int .i8 x.f4.f0, .string x.f4.f1.f0, .int .i8 x.f4.f1.f1.f0, .int .i64 x.f4.f1.f1.f1, .string x.f4.f1.f1.f2, .slice A2 x.f4.f2.length c2]) (blk_put (cs := #[.int .i8 x.f0, .string x.f1.f0, .slice B0 x.f1.f1.length d0, .int .i8 x.f2, .int .i8 x.f3.f0, .string x.f3.f1.f0, .int .i8 x.f3.f1.f1.f0, .int .i64 x.f3.f1.f1.f1, .string x.f3.f1.f1.f2, .slice A1 x.f3.f2.length c1, .int .i8 x.f4.f0, .string x.f4.f1.f0, .int .i8 x.f4.f1.f1.f0, .int .i64 x.f4.f1.f1.f1, .string x.f4.f1.f1.f2, .slice A2 x.f4.f2.length c2]) (cs' := #[.int .i8 x.f0, .string x.f1.f0, .slice B0 x.f1.f1.length d0, .int .i8 x.f2, .int .i8 x.f3.f0, .string x.f3.f1.f0, .int .i8 x.f3.f1.f1.f0, .int .i64 x.f3.f1.f1.f1, .string x.f3.f1.f1.f2, .slice A1 x.f3.f2.length c1, .int .i8 x.f4.f0, .string x.f4.f1.f0, .int .i8 x.f4.f1.f1.f0, .int .i64 x.f4.f1.f1.f1, .string x.f4.f1.f1.f2, .slice A2 x.f4.f2.length c2]) (blk_put (cs := #[.int .i8 x.f0, .string x.f1.f0, .slice B0 x.f1.f1.length d0, .int .i8 x.f2, .int .i8 x.f3.f0, .string x.f3.f1.f0, .int .i8 x.f3.f1.f1.f0, .int .i64 x.f3.f1.f1.f1, .string x.f3.f1.f1.f2, .slice A1 x.f3.f2.length c1, .int .i8 x.f4.f0, .string x.f4.f1.f0, .int .i8 x.f4.f1.f1.f0, .int .i64 x.f4.f1.f1.f1, .string x.f4.f1.f1.f2, .slice A2 x.f4.f2.length c2]) (cs' := #[.int .i8 x.f0, .string x.f1.f0, .slice B0 x.f1.f1.length d0, .int .i8 x.f2, .int .i8 x.f3.f0, .string x.f3.f1.f0, .int .i8 x.f3.f1.f1.f0, .int .i64 x.f3.f1.f1.f1, .string x.f3.f1.f1.f2, .slice A1 x.f3.f2.length c1, .int .i8 x.f4.f0, .string x.f4.f1.f0, .int .i8 x.f4.f1.f1.f0, .int .i64 x.f4.f1.f1.f1, .string x.f4.f1.f1.f2, .slice A2 x.f4.f2.length c2]) (HK1.out) 4 _ rfl) 5 _ rfl) 6 _ rfl) 7 _ rfl) 8 _ rfl) 9 _ rfl); have hfar : ∀ k, k ≠ w.heap.size → v2.heap[k]? = u1.heap[k]? := (fun k hk => by rw [hw]; repeat rw [Below.heap_setCell _ _ _ _ (by exact hk)]); have hk2 := (hfar (w.heap.size + 1) (by omega)).trans HK2.out; have hbb : Below w.heap.size w v2 := (by rw [hw]; exact below_set (below_set (below_set (below_set (below_set (below_set (HB.out) (Nat.le_refl _)) (Nat.le_refl _)) (Nat.le_refl _)) (Nat.le_refl _)) (Nat.le_refl _)) (Nat.le_refl _)); have hz : w.heap.size + 2 ≤ v2.heap.size := (by rw [hw]; simpa using HZ.out); have hw0 := Kd.M_step (w1 := v2) HW0.out (fun k hk _ => hfar k (by omega)); have hw1 := Kd.M_step (w1 := v2) HW1.out (fun k hk _ => hfar k (by omega)); clear hw hfar HK1 HK2 HB HZ HW0 HW1; have HK1 := Lib.hid hk1; have HK2 := Lib.hid hk2; have HB := Lib.hid hbb; have HZ := Lib.hid hz; have HW0 := Lib.hid hw0; have HW1 := Lib.hid hw1; clear hk1 hk2 hbb hz hw0 hw1; clear p0 pf0 p1 pf1 p2 pf2 p3 pf3 p4 pf4 p5 pf5 p6 pf6 p7 pf7 p8 pf8 p9 pf9 p10 pf10 p11 pf11 p12 pf12 p13 pf13 p14 pf14 p15 pf15; have p0 : v2.cell? ⟨w.heap.size, 0, none⟩ = some (.int .i8 x.f0) := (blk_cell HK1.out 0).trans rfl; have pf0 := blk_frozen HK1.out 0; have p1 : v2.cell? ⟨w.heap.size, 1, none⟩ = some (.string x.f1.f0) := (blk_cell HK1.out 1).trans rfl; have pf1 := blk_frozen HK1.out 1; have p2 : v2.cell? ⟨w.heap.size, 2, none⟩ = some (.slice B0 x.f1.f1.length d0) := (blk_cell HK1.out 2).trans rfl; have pf2 := blk_frozen HK1.out 2; have p3 : v2.cell? ⟨w.heap.size, 3, none⟩ = some (.int .i8 x.f2) := (blk_cell HK1.out 3).trans rfl; have pf3 := blk_frozen HK1.out 3; have p4 : v2.cell? ⟨w.heap.size, 4, none⟩ = some (.int .i8 x.f3.f0) := (blk_cell HK1.out 4).trans rfl; have pf4 := blk_frozen HK1.out 4; have p5 : v2.cell? ⟨w.heap.size, 5, none⟩ = some (.string x.f3.f1.f0) := (blk_cell HK1.out 5).trans rfl; have pf5 := blk_frozen HK1.out 5; have p6 : v2.cell? ⟨w.heap.size, 6, none⟩ = some (.int .i8 x.f3.f1.f1.f0) := (blk_cell HK1.out 6).trans rfl; have pf6 := blk_frozen HK1.out 6; have p7 : v2.cell? ⟨w.heap.size, 7, none⟩ = some (.int .i64 x.f3.f1.f1.f1) := (blk_cell HK1.out 7).trans rfl; have pf7 := blk_frozen HK1.out 7; have p8 : v2.cell? ⟨w.heap.size, 8, none⟩ = some (.string x.f3.f1.f1.f2) := (blk_cell HK1.out 8).trans rfl; have pf8 := blk_frozen HK1.out 8; have p9 : v2.cell? ⟨w.heap.size, 9, none⟩ = some (.slice B1 x.f3.f2.length d1) := (blk_cell HK1.out 9).trans rfl; have pf9 := blk_frozen HK1.out 9; have p10 : v2.cell? ⟨w.heap.size, 10, none⟩ = some (.int .i8 x.f4.f0) := (blk_cell HK1.out 10).trans rfl; have pf10 := blk_frozen HK1.out 10; have p11 : v2.cell? ⟨w.heap.size, 11, none⟩ = some (.string x.f4.f1.f0) := (blk_cell HK1.out 11).trans rfl; have pf11 := blk_frozen HK1.out 11; have p12 : v2.cell? ⟨w.heap.size, 12, none⟩ = some (.int .i8 x.f4.f1.f1.f0) := (blk_cell HK1.out 12).trans rfl; have pf12 := blk_frozen HK1.out 12; have p13 : v2.cell? ⟨w.heap.size, 13, none⟩ = some (.int .i64 x.f4.f1.f1.f1) := (blk_cell HK1.out 13).trans rfl; have pf13 := blk_frozen HK1.out 13; have p14 : v2.cell? ⟨w.heap.size, 14, none⟩ = some (.string x.f4.f1.f1.f2) := (blk_cell HK1.out 14).trans rfl; have pf14 := blk_frozen HK1.out 14; have p15 : v2.cell? ⟨w.heap.size, 15, none⟩ = some (.slice A2 x.f4.f2.length c2) := (blk_cell HK1.out 15).trans rfl; have pf15 := blk_frozen HK1.out 15)
  refine (hS4.out A2 c2 v2 (Kd.C_below HR2.out HB.out) hc2 (HT.out.below HB.out)).mono ?_
  rintro e u2 ⟨cs, rfl, hM, hb⟩
  obtain ⟨B2, d2, rfl, _⟩ := k31t_openM hM
  have HW2 := Lib.hid (show k31t.M u2 w.heap.size (fun k => w.heap.size + 2 ≤ k) x.f4 [.int .i8 x.f4.f0, .string x.f4.f1.f0, .int .i8 x.f4.f1.f1.f0, .int .i64 x.f4.f1.f1.f1, .string x.f4.f1.f1.f2, .slice B2 x.f4.f2.length d2] from k31t.M_mono (fun k hk => Nat.le_trans HZ.out hk.2.1) (k31t.M_lower (Nat.le_trans (Nat.le_add_right _ _) HZ.out) (k31t.M_bound hM)))
  clear hM
  replace HW0 := Lib.hid (Kd.M_below HW0.out hb)
  replace HW1 := Lib.hid (Kd.M_below HW1.out hb)
  replace HK1 := Lib.hid (blk_below HK1.out hb)
  replace HK2 := Lib.hid (blk_below HK2.out hb)
  replace HB := Lib.hid (below_step HB.out hb)
  replace HZ := Lib.hid (Nat.le_trans HZ.out hb.size)
  clear hb
  clear p0 pf0 p1 pf1 p2 pf2 p3 pf3 p4 pf4 p5 pf5 p6 pf6 p7 pf7 p8 pf8 p9 pf9 p10 pf10 p11 pf11 p12 pf12 p13 pf13 p14 pf14 p15 pf15
  have p0 : u2.cell? ⟨w.heap.size, 0, none⟩ = some (.int .i8 x.f0) := (blk_cell HK1.out 0).trans rfl
  have pf0 := blk_frozen HK1.out 0
  have p1 : u2.cell? ⟨w.heap.size, 1, none⟩ = some (.string x.f1.f0) := (blk_cell HK1.out 1).trans rfl
  have pf1 := blk_frozen HK1.out 1
  have p2 : u2.cell? ⟨w.heap.size, 2, none⟩ = some (.slice B0 x.f1.f1.length d0) := (blk_cell HK1.out 2).trans rfl
  have pf2 := blk_frozen HK1.out 2
  have p3 : u2.cell? ⟨w.heap.size, 3, none⟩ = some (.int .i8 x.f2) := (blk_cell HK1.out 3).trans rfl
  have pf3 := blk_frozen HK1.out 3
  have p4 : u2.cell? ⟨w.heap.size, 4, none⟩ = some (.int .i8 x.f3.f0) := (blk_cell HK1.out 4).trans rfl
  have pf4 := blk_frozen HK1.out 4
  have p5 : u2.cell? ⟨w.heap.size, 5, none⟩ = some (.string x.f3.f1.f0) := (blk_cell HK1.out 5).trans rfl
  have pf5 := blk_frozen HK1.out 5
  have p6 : u2.cell? ⟨w.heap.size, 6, none⟩ = some (.int .i8 x.f3.f1.f1.f0) := (blk_cell HK1.out 6).trans rfl
  have pf6 := blk_frozen HK1.out 6
  have p7 : u2.cell? ⟨w.heap.size, 7, none⟩ = some (.int .i64 x.f3.f1.f1.f1) := (blk_cell HK1.out 7).trans rfl
  have pf7 := blk_frozen HK1.out 7
  have p8 : u2.cell? ⟨w.heap.size, 8, none⟩ = some (.string x.f3.f1.f1.f2) := (blk_cell HK1.out 8).trans rfl
  have pf8 := blk_frozen HK1.out 8
  have p9 : u2.cell? ⟨w.heap.size, 9, none⟩ = some (.slice B1 x.f3.f2.length d1) := (blk_cell HK1.out 9).trans rfl
  have pf9 := blk_frozen HK1.out 9
  have p10 : u2.cell? ⟨w.heap.size, 10, none⟩ = some (.int .i8 x.f4.f0) := (blk_cell HK1.out 10).trans rfl
  have pf10 := blk_frozen HK1.out 10
  have p11 : u2.cell? ⟨w.heap.size, 11, none⟩ = some (.string x.f4.f1.f0) := (blk_cell HK1.out 11).trans rfl
  have pf11 := blk_frozen HK1.out 11
  have p12 : u2.cell? ⟨w.heap.size, 12, none⟩ = some (.int .i8 x.f4.f1.f1.f0) := (blk_cell HK1.out 12).trans rfl
  have pf12 := blk_frozen HK1.out 12
  have p13 : u2.cell? ⟨w.heap.size, 13, none⟩ = some (.int .i64 x.f4.f1.f1.f1) := (blk_cell HK1.out 13).trans rfl
  have pf13 := blk_frozen HK1.out 13
  have p14 : u2.cell? ⟨w.heap.size, 14, none⟩ = some (.string x.f4.f1.f1.f2) := (blk_cell HK1.out 14).trans rfl
  have pf14 := blk_frozen HK1.out 14
  have p15 : u2.cell? ⟨w.heap.size, 15, none⟩ = some (.slice A2 x.f4.f2.length c2) := (blk_cell HK1.out 15).trans rfl
  have pf15 := blk_frozen HK1.out 15
  go_wp2_with ((with_reducible refine gate_store (t := 31) (p := 14) rfl ?_); (refine store_event (t := 31) (p := 14) (v := ?vo2) (w1 := ((((((u2.setCell ⟨w.heap.size, 10, none⟩ (.int .i8 x.f4.f0)).setCell ⟨w.heap.size, 11, none⟩ (.string x.f4.f1.f0)).setCell ⟨w.heap.size, 12, none⟩ (.int .i8 x.f4.f1.f1.f0)).setCell ⟨w.heap.size, 13, none⟩ (.int .i64 x.f4.f1.f1.f1)).setCell ⟨w.heap.size, 14, none⟩ (.string x.f4.f1.f1.f2)).setCell ⟨w.heap.size, 15, none⟩ (.slice B2 x.f4.f2.length d2))) ?hg2 ?ho2 ?hn2 ?hr2 ?_; (case ho2 => rfl); (case hg2 => rfl); (case hn2 => rfl); (case hr2 => first | (go_simp; done) | (go_simp; rfl))); intro v3 hw; have hk1 : v3.heap[w.heap.size]? = some (.cells #[.int .i8 x.f0, .string x.f1.f0, .slice B0 x.f1.f1.length d0, .int .i8 x.f2, .int .i8 x.f3.f0, .string x.f3.f1.f0, .int .i8 x.f3.f1.f1.f0, .int .i64 x.f3.f1.f1.f1, .string x.f3.f1.f1.f2, .slice B1 x.f3.f2.length d1, .int .i8 x.f4.f0, .string x.f4.f1.f0, .int .i8 x.f4.f1.f1.f0, .int .i64 x.f4.f1.f1.f1, .string x.f4.f1.f1.f2, .slice B2 x.f4.f2.length d2] 56 (0, 0)) := (by rw [hw]; exact blk_put (cs := #[.int .i8 x.f0, .string x.f1.f0, .slice B0 x.f1.f1.length d0, .int .i8 x.f2, .int .i8 x.f3.f0, .string x.f3.f1.f0, .int .i8 x.f3.f1.f1.f0, .int .i64 x.f3.f1.f1.f1, .string x.f3.f1.f1.f2, .slice B1 x.f3.f2.length d1, .int .i8 x.f4.f0, .string x.f4.f1.f0, .int .i8 x.f4.f1.f1.f0, .int .i64 x.f4.f1.f1.f1, .string x.f4.f1.f1.f2, .slice A2 x.f4.f2.length c2]) (cs' := #[.int .i8 x.f0, .string x.f1.f0, .slice B0 x.f1.f1.length d0, .int .i8 x.f2, .int .i8 x.f3.f0, .string x.f3.f1.f0, .int .i8 x.f3.f1.f1.f0, .int .i64 x.f3.f1.f1.f1, .string x.f3.f1.f1.f2, .slice B1 x.f3.f2.length d1, .int .i8 x.f4.f0, .string x.f4.f1.f0, .int .i8 x.f4.f1.f1.f0, .int .i64 x.f4.f1.f1.f1, .string x.f4.f1.f1.f2, .slice B2 x.f4.f2.length d2]) (blk_put (cs := #[.int .i8 x.f0, .string x.f1.f0, .slice B0 x.f1.f1.length d0, .int .i8 x.f2, .int .i8 x.f3.f0, .string x.f3.f1.f0, .int .i8 x.f3.f1.f1.f0, .int .i64 x.f3.f1.f1.f1, .string x.f3.f1.f1.f2, .slice B1 x.f3.f2.length d1, .int .i8 x.f4.f0, .string x.f4.f1.f0, .int .i8 x.f4.f1.f1.f0, .int .i64 x.f4.f1.f1.f1, .string x.f4.f1.f1.f2, .slice A2 x.f4.f2.length c2]) (cs' := #[.int .i8 x.f0, .string x.f1.f0, .slice B0 x.f1.f1.length d0, .int .i8 x.f2, .int .i8 x.f3.f0, .string x.f3.f1.f0, .int .i8 x.f3.f1.f1.f0, .int .i64 x.f3.f1.f1.f1, .string x.f3.f1.f1.f2, .slice B1 x.f3.f2.length d1, .int .i8 x.f4.f0, .string x.f4.f1.f0, .int .i8 x.f4.f1.f1.f0, .int .i64 x.f4.f1.f1.f1, .string x.f4.f1.f1.f2, .slice A2 x.f4.f2.length c2]) (blk_put (cs := #[.int .i8 x.f0, .string x.f1.f0, .slice B0 x.f1.f1.length d0, .int .i8 x.f2, .int .i8 x.f3.f0, .string x.f3.f1.f0, .int .i8 x.f3.f1.f1.f0, .int .i64 x.f3.f1.f1.f1, .string x.f3.f1.f1.f2, .slice B1 x.f3.f2.length d1, .int .i8 x.f4.f0, .string x.f4.f1.f0, .int .i8 x.f4.f1.f1.f0, .int .i64 x.f4.f1.f1.f1, .string x.f4.f1.f1.f2, .slice A2 x.f4.f2.length c2]) (cs' := #[.int .i8 x.f0, .string x.f1.f0, .slice B0 x.f1.f1.length d0, .int .i8 x.f2, .int .i8 x.f3.f0, .string x.f3.f1.f0, .int .i8 x.f3.f1.f1.f0, .int .i64 x.f3.f1.f1.f1, .string x.f3.f1.f1.f2, .slice B1 x.f3.f2.length d1, .int .i8 x.f4.f0, .string x.f4.f1.f0, .int .i8 x.f4.f1.f1.f0, .int .i64 x.f4.f1.f1.f1, .string x.f4.f1.f1.f2, .slice A2 x.f4.f2.length c2]) (blk_put (cs := #[.int .i8 x.f0, .string x.f1.f0, .slice B0 x.f1.f1.length d0, .int .i8 x.f2, .int .i8 x.f3.f0, .string x.f3.f1.f0, .int .i8 x.f3.f1.f1.f0, .int .i64 x.f3.f1.f1.f1, .string x.f3.f1.f1.f2, .slice B1 x.f3.f2.length d1, .int .i8 x.f4.f0, .string x.f4.f1.f0, .int .i8 x.f4.f1.f1.f0, .int .i64 x.f4.f1.f1.f1, .string x.f4.f1.f1.f2, .slice A2 x.f4.f2.length c2]) (cs' := #[.int .i8 x.f0, .string x.f1.f0, .slice B0 x.f1.f1.length d0, .int .i8 x.f2, .int .i8 x.f3.f0, .string x.f3.f1.f0, .int .i8 x.f3.f1.f1.f0, .int .i64 x.f3.f1.f1.f1, .string x.f3.f1.f1.f2, .slice B1 x.f3.f2.length d1, .int .i8 x.f4.f0, .string x.f4.f1.f0, .int .i8 x.f4.f1.f1.f0, .int .i64 x.f4.f1.f1.f1, .string x.f4.f1.f1.f2, .slice A2 x.f4.f2.length c2]) (blk_put (cs := #[.int .i8 x.f0, .string x.f1.f0, .slice B0 x.f1.f1.length d0, .int .i8 x.f2, .int .i8 x.f3.f0, .string x.f3.f1.f0, .int .i8 x.f3.f1.f1.f0, .int .i64 x.f3.f1.f1.f1, .string x.f3.f1.f1.f2, .slice B1 x.f3.f2.length d1, .int .i8 x.f4.f0, .string x.f4.f1.f0, .int .i8 x.f4.f1.f1.f0, .int .i64 x.f4.f1.f1.f1, .string x.f4.f1.f1.f2, .slice A2 x.f4.f2.length c2]) (cs' := #[.int .i8 x.f0, .string x.f1.f0, .slice B0 x.f1.f1.length d0, .int .i8 x.f2, .int .i8 x.f3.f0, .string x.f3.f1.f0, .int .i8 x.f3.f1.f1.f0, .int .i64 x.f3.f1.f1.f1, .string x.f3.f1.f1.f2, .slice B1 x.f3.f2.length d1, .int .i8 x.f4.f0, .string x.f4.f1.f0, .int .i8 x.f4.f1.f1.f0, .int .i64 x.f4.f1.f1.f1, .string x.f4.f1.f1.f2, .slice A2 x.f4.f2.length c2]) (blk_put (cs := #[.int .i8 x.f0, .string x.f1.f0, .slice B0 x.f1.f1.length d0, .int .i8 x.f2, .int .i8 x.f3.f0, .string x.f3.f1.f0, .int .i8 x.f3.f1.f1.f0, .int .i64 x.f3.f1.f1.f1, .string x.f3.f1.f1.f2, .slice B1 x.f3.f2.length d1, .int .i8 x.f4.f0, .string x.f4.f1.f0, .int .i8 x.f4.f1.f1.f0, .int .i64 x.f4.f1.f1.f1, .string x.f4.f1.f1.f2, .slice A2 x.f4.f2.length c2]) (cs' := #[.int .i8 x.f0, .string x.f1.f0, .slice B0 x.f1.f1.length d0, .int .i8 x.f2, .int .i8 x.f3.f0, .string x.f3.f1.f0, .int .i8 x.f3.f1.f1.f0, .int .i64 x.f3.f1.f1.f1, .string x.f3.f1.f1.f2, .slice B1 x.f3.f2.length d1, .int .i8 x.f4.f0, .string x.f4.f1.f0, .int .i8 x.f4.f1.f1.f0, .int .i64 x.f4.f1.f1.f1, .string x.f4.f1.f1.f2, .slice A2 x.f4.f2.length c2]) (HK1.out) 10 _ rfl) 11 _ rfl) 12 _ rfl) 13 _ rfl) 14 _ rfl) 15 _ rfl); have hfar : ∀ k, k ≠ w.heap.size → v3.heap[k]? = u2.heap[k]? := (fun k hk => by rw [hw]; repeat rw [Below.heap_setCell _ _ _ _ (by exact hk)]); have hk2 := (hfar (w.heap.size + 1) (by omega)).trans HK2.out; have hbb : Below w.heap.size w v3 := (by rw [hw]; exact below_set (below_set (below_set (below_set (below_set (below_set (HB.out) (Nat.le_refl _)) (Nat.le_refl _)) (Nat.le_refl _)) (Nat.le_refl _)) (Nat.le_refl _)) (Nat.le_refl _)); have hz : w.heap.size + 2 ≤ v3.heap.size := (by rw [hw]; simpa using HZ.out); have hw0 := Kd.M_step (w1 := v3) HW0.out (fun k hk _ => hfar k (by omega)); have hw1 := Kd.M_step (w1 := v3) HW1.out (fun k hk _ => hfar k (by omega)); have hw2 := Kd.M_step (w1 := v3) HW2.out (fun k hk _ => hfar k (by omega)); clear hw hfar HK1 HK2 HB HZ HW0 HW1 HW2; have HK1 := Lib.hid hk1; have HK2 := Lib.hid hk2; have HB := Lib.hid hbb; have HZ := Lib.hid hz; have HW0 := Lib.hid hw0; have HW1 := Lib.hid hw1; have HW2 := Lib.hid hw2; clear hk1 hk2 hbb hz hw0 hw1 hw2; clear p0 pf0 p1 pf1 p2 pf2 p3 pf3 p4 pf4 p5 pf5 p6 pf6 p7 pf7 p8 pf8 p9 pf9 p10 pf10 p11 pf11 p12 pf12 p13 pf13 p14 pf14 p15 pf15; have p0 : v3.cell? ⟨w.heap.size, 0, none⟩ = some (.int .i8 x.f0) := (blk_cell HK1.out 0).trans rfl; have pf0 := blk_frozen HK1.out 0; have p1 : v3.cell? ⟨w.heap.size, 1, none⟩ = some (.string x.f1.f0) := (blk_cell HK1.out 1).trans rfl; have pf1 := blk_frozen HK1.out 1; have p2 : v3.cell? ⟨w.heap.size, 2, none⟩ = some (.slice B0 x.f1.f1.length d0) := (blk_cell HK1.out 2).trans rfl; have pf2 := blk_frozen HK1.out 2; have p3 : v3.cell? ⟨w.heap.size, 3, none⟩ = some (.int .i8 x.f2) := (blk_cell HK1.out 3).trans rfl; have pf3 := blk_frozen HK1.out 3; have p4 : v3.cell? ⟨w.heap.size, 4, none⟩ = some (.int .i8 x.f3.f0) := (blk_cell HK1.out 4).trans rfl; have pf4 := blk_frozen HK1.out 4; have p5 : v3.cell? ⟨w.heap.size, 5, none⟩ = some (.string x.f3.f1.f0) := (blk_cell HK1.out 5).trans rfl; have pf5 := blk_frozen HK1.out 5; have p6 : v3.cell? ⟨w.heap.size, 6, none⟩ = some (.int .i8 x.f3.f1.f1.f0) := (blk_cell HK1.out 6).trans rfl; have pf6 := blk_frozen HK1.out 6; have p7 : v3.cell? ⟨w.heap.size, 7, none⟩ = some (.int .i64 x.f3.f1.f1.f1) := (blk_cell HK1.out 7).trans rfl; have pf7 := blk_frozen HK1.out 7; have p8 : v3.cell? ⟨w.heap.size, 8, none⟩ = some (.string x.f3.f1.f1.f2) := (blk_cell HK1.out 8).trans rfl; have pf8 := blk_frozen HK1.out 8; have p9 : v3.cell? ⟨w.heap.size, 9, none⟩ = some (.slice B1 x.f3.f2.length d1) := (blk_cell HK1.out 9).trans rfl; have pf9 := blk_frozen HK1.out 9; have p10 : v3.cell? ⟨w.heap.size, 10, none⟩ = some (.int .i8 x.f4.f0) := (blk_cell HK1.out 10).trans rfl; have pf10 := blk_frozen HK1.out 10; have p11 : v3.cell? ⟨w.heap.size, 11, none⟩ = some (.string x.f4.f1.f0) := (blk_cell HK1.out 11).trans rfl; have pf11 := blk_frozen HK1.out 11; have p12 : v3.cell? ⟨w.heap.size, 12, none⟩ = some (.int .i8 x.f4.f1.f1.f0) := (blk_cell HK1.out 12).trans rfl; have pf12 := blk_frozen HK1.out 12; have p13 : v3.cell? ⟨w.heap.size, 13, none⟩ = some (.int .i64 x.f4.f1.f1.f1) := (blk_cell HK1.out 13).trans rfl; have pf13 := blk_frozen HK1.out 13; have p14 : v3.cell? ⟨w.heap.size, 14, none⟩ = some (.string x.f4.f1.f1.f2) := (blk_cell HK1.out 14).trans rfl; have pf14 := blk_frozen HK1.out 14; have p15 : v3.cell? ⟨w.heap.size, 15, none⟩ = some (.slice B2 x.f4.f2.length d2) := (blk_cell HK1.out 15).trans rfl; have pf15 := blk_frozen HK1.out 15; have q0 : v3.cell? ⟨w.heap.size + 1, 0, none⟩ = some (.int .i8 0) := (blk_cell HK2.out 0).trans rfl; have qf0 := blk_frozen HK2.out 0; have q1 : v3.cell? ⟨w.heap.size + 1, 1, none⟩ = some (.string ⟨#[]⟩) := (blk_cell HK2.out 1).trans rfl; have qf1 := blk_frozen HK2.out 1; have q2 : v3.cell? ⟨w.heap.size + 1, 2, none⟩ = some (.slice none 0 0) := (blk_cell HK2.out 2).trans rfl; have qf2 := blk_frozen HK2.out 2; have q3 : v3.cell? ⟨w.heap.size + 1, 3, none⟩ = some (.int .i8 0) := (blk_cell HK2.out 3).trans rfl; have qf3 := blk_frozen HK2.out 3; have q4 : v3.cell? ⟨w.heap.size + 1, 4, none⟩ = some (.int .i8 0) := (blk_cell HK2.out 4).trans rfl; have qf4 := blk_frozen HK2.out 4; have q5 : v3.cell? ⟨w.heap.size + 1, 5, none⟩ = some (.string ⟨#[]⟩) := (blk_cell HK2.out 5).trans rfl; have qf5 := blk_frozen HK2.out 5; have q6 : v3.cell? ⟨w.heap.size + 1, 6, none⟩ = some (.int .i8 0) := (blk_cell HK2.out 6).trans rfl; have qf6 := blk_frozen HK2.out 6; have q7 : v3.cell? ⟨w.heap.size + 1, 7, none⟩ = some (.int .i64 0) := (blk_cell HK2.out 7).trans rfl; have qf7 := blk_frozen HK2.out 7; have q8 : v3.cell? ⟨w.heap.size + 1, 8, none⟩ = some (.string ⟨#[]⟩) := (blk_cell HK2.out 8).trans rfl; have qf8 := blk_frozen HK2.out 8; have q9 : v3.cell? ⟨w.heap.size + 1, 9, none⟩ = some (.slice none 0 0) := (blk_cell HK2.out 9).trans rfl; have qf9 := blk_frozen HK2.out 9; have q10 : v3.cell? ⟨w.heap.size + 1, 10, none⟩ = some (.int .i8 0) := (blk_cell HK2.out 10).trans rfl; have qf10 := blk_frozen HK2.out 10; have q11 : v3.cell? ⟨w.heap.size + 1, 11, none⟩ = some (.string ⟨#[]⟩) := (blk_cell HK2.out 11).trans rfl; have qf11 := blk_frozen HK2.out 11; have q12 : v3.cell? ⟨w.heap.size + 1, 12, none⟩ = some (.int .i8 0) := (blk_cell HK2.out 12).trans rfl; have qf12 := blk_frozen HK2.out 12; have q13 : v3.cell? ⟨w.heap.size + 1, 13, none⟩ = some (.int .i64 0) := (blk_cell HK2.out 13).trans rfl; have qf13 := blk_frozen HK2.out 13; have q14 : v3.cell? ⟨w.heap.size + 1, 14, none⟩ = some (.string ⟨#[]⟩) := (blk_cell HK2.out 14).trans rfl; have qf14 := blk_frozen HK2.out 14; have q15 : v3.cell? ⟨w.heap.size + 1, 15, none⟩ = some (.slice none 0 0) := (blk_cell HK2.out 15).trans rfl; have qf15 := blk_frozen HK2.out 15)
  refine bodyPost_ret (results_cell_row rfl _ _ (w.heap.size + 1) 56 #[.int .i8 x.f0, .string x.f1.f0, .slice B0 x.f1.f1.length d0, .int .i8 x.f2, .int .i8 x.f3.f0, .string x.f3.f1.f0, .int .i8 x.f3.f1.f1.f0, .int .i64 x.f3.f1.f1.f1, .string x.f3.f1.f1.f2, .slice B1 x.f3.f2.length d1, .int .i8 x.f4.f0, .string x.f4.f1.f0, .int .i8 x.f4.f1.f1.f0, .int .i64 x.f4.f1.f1.f1, .string x.f4.f1.f1.f2, .slice B2 x.f4.f2.length d2] (0, 0) _ rfl (blk_put (cs := #[.int .i8 x.f0, .string x.f1.f0, .slice B0 x.f1.f1.length d0, .int .i8 x.f2, .int .i8 x.f3.f0, .string x.f3.f1.f0, .int .i8 x.f3.f1.f1.f0, .int .i64 x.f3.f1.f1.f1, .string x.f3.f1.f1.f2, .slice B1 x.f3.f2.length d1, .int .i8 x.f4.f0, .string x.f4.f1.f0, .int .i8 x.f4.f1.f1.f0, .int .i64 x.f4.f1.f1.f1, .string x.f4.f1.f1.f2, .slice none 0 0]) (cs' := #[.int .i8 x.f0, .string x.f1.f0, .slice B0 x.f1.f1.length d0, .int .i8 x.f2, .int .i8 x.f3.f0, .string x.f3.f1.f0, .int .i8 x.f3.f1.f1.f0, .int .i64 x.f3.f1.f1.f1, .string x.f3.f1.f1.f2, .slice B1 x.f3.f2.length d1, .int .i8 x.f4.f0, .string x.f4.f1.f0, .int .i8 x.f4.f1.f1.f0, .int .i64 x.f4.f1.f1.f1, .string x.f4.f1.f1.f2, .slice B2 x.f4.f2.length d2]) (blk_put (cs := #[.int .i8 x.f0, .string x.f1.f0, .slice B0 x.f1.f1.length d0, .int .i8 x.f2, .int .i8 x.f3.f0, .string x.f3.f1.f0, .int .i8 x.f3.f1.f1.f0, .int .i64 x.f3.f1.f1.f1, .string x.f3.f1.f1.f2, .slice B1 x.f3.f2.length d1, .int .i8 x.f4.f0, .string x.f4.f1.f0, .int .i8 x.f4.f1.f1.f0, .int .i64 x.f4.f1.f1.f1, .string ⟨#[]⟩, .slice none 0 0]) (cs' := #[.int .i8 x.f0, .string x.f1.f0, .slice B0 x.f1.f1.length d0, .int .i8 x.f2, .int .i8 x.f3.f0, .string x.f3.f1.f0, .int .i8 x.f3.f1.f1.f0, .int .i64 x.f3.f1.f1.f1, .string x.f3.f1.f1.f2, .slice B1 x.f3.f2.length d1, .int .i8 x.f4.f0, .string x.f4.f1.f0, .int .i8 x.f4.f1.f1.f0, .int .i64 x.f4.f1.f1.f1, .string x.f4.f1.f1.f2, .slice none 0 0]) (blk_put (cs := #[.int .i8 x.f0, .string x.f1.f0, .slice B0 x.f1.f1.length d0, .int .i8 x.f2, .int .i8 x.f3.f0, .string x.f3.f1.f0, .int .i8 x.f3.f1.f1.f0, .int .i64 x.f3.f1.f1.f1, .string x.f3.f1.f1.f2, .slice B1 x.f3.f2.length d1, .int .i8 x.f4.f0, .string x.f4.f1.f0, .int .i8 x.f4.f1.f1.f0, .int .i64 0, .string ⟨#[]⟩, .slice none 0 0]) (cs' := #[.int .i8 x.f0, .string x.f1.f0, .slice B0 x.f1.f1.length d0, .int .i8 x.f2, .int .i8 x.f3.f0, .string x.f3.f1.f0, .int .i8 x.f3.f1.f1.f0, .int .i64 x.f3.f1.f1.f1, .string x.f3.f1.f1.f2, .slice B1 x.f3.f2.length d1, .int .i8 x.f4.f0, .string x.f4.f1.f0, .int .i8 x.f4.f1.f1.f0, .int .i64 x.f4.f1.f1.f1, .string ⟨#[]⟩, .slice none 0 0]) (blk_put (cs := #[.int .i8 x.f0, .string x.f1.f0, .slice B0 x.f1.f1.length d0, .int .i8 x.f2, .int .i8 x.f3.f0, .string x.f3.f1.f0, .int .i8 x.f3.f1.f1.f0, .int .i64 x.f3.f1.f1.f1, .string x.f3.f1.f1.f2, .slice B1 x.f3.f2.length d1, .int .i8 x.f4.f0, .string x.f4.f1.f0, .int .i8 0, .int .i64 0, .string ⟨#[]⟩, .slice none 0 0]) (cs' := #[.int .i8 x.f0, .string x.f1.f0, .slice B0 x.f1.f1.length d0, .int .i8 x.f2, .int .i8 x.f3.f0, .string x.f3.f1.f0, .int .i8 x.f3.f1.f1.f0, .int .i64 x.f3.f1.f1.f1, .string x.f3.f1.f1.f2, .slice B1 x.f3.f2.length d1, .int .i8 x.f4.f0, .string x.f4.f1.f0, .int .i8 x.f4.f1.f1.f0, .int .i64 0, .string ⟨#[]⟩, .slice none 0 0]) (blk_put (cs := #[.int .i8 x.f0, .string x.f1.f0, .slice B0 x.f1.f1.length d0, .int .i8 x.f2, .int .i8 x.f3.f0, .string x.f3.f1.f0, .int .i8 x.f3.f1.f1.f0, .int .i64 x.f3.f1.f1.f1, .string x.f3.f1.f1.f2, .slice B1 x.f3.f2.length d1, .int .i8 x.f4.f0, .string ⟨#[]⟩, .int .i8 0, .int .i64 0, .string ⟨#[]⟩, .slice none 0 0]) (cs' := #[.int .i8 x.f0, .string x.f1.f0, .slice B0 x.f1.f1.length d0, .int .i8 x.f2, .int .i8 x.f3.f0, .string x.f3.f1.f0, .int .i8 x.f3.f1.f1.f0, .int .i64 x.f3.f1.f1.f1, .string x.f3.f1.f1.f2, .slice B1 x.f3.f2.length d1, .int .i8 x.f4.f0, .string x.f4.f1.f0, .int .i8 0, .int .i64 0, .string ⟨#[]⟩, .slice none 0 0]) (blk_put (cs := #[.int .i8 x.f0, .string x.f1.f0, .slice B0 x.f1.f1.length d0, .int .i8 x.f2, .int .i8 x.f3.f0, .string x.f3.f1.f0, .int .i8 x.f3.f1.f1.f0, .int .i64 x.f3.f1.f1.f1, .string x.f3.f1.f1.f2, .slice B1 x.f3.f2.length d1, .int .i8 0, .string ⟨#[]⟩, .int .i8 0, .int .i64 0, .string ⟨#[]⟩, .slice none 0 0]) (cs' := #[.int .i8 x.f0, .string x.f1.f0, .slice B0 x.f1.f1.length d0, .int .i8 x.f2, .int .i8 x.f3.f0, .string x.f3.f1.f0, .int .i8 x.f3.f1.f1.f0, .int .i64 x.f3.f1.f1.f1, .string x.f3.f1.f1.f2, .slice B1 x.f3.f2.length d1, .int .i8 x.f4.f0, .string ⟨#[]⟩, .int .i8 0, .int .i64 0, .string ⟨#[]⟩, .slice none 0 0]) (blk_put (cs := #[.int .i8 x.f0, .string x.f1.f0, .slice B0 x.f1.f1.length d0, .int .i8 x.f2, .int .i8 x.f3.f0, .string x.f3.f1.f0, .int .i8 x.f3.f1.f1.f0, .int .i64 x.f3.f1.f1.f1, .string x.f3.f1.f1.f2, .slice none 0 0, .int .i8 0, .string ⟨#[]⟩, .int .i8 0, .int .i64 0, .string ⟨#[]⟩, .slice none 0 0]) (cs' := #[.int .i8 x.f0, .string x.f1.f0, .slice B0 x.f1.f1.length d0, .int .i8 x.f2, .int .i8 x.f3.f0, .string x.f3.f1.f0, .int .i8 x.f3.f1.f1.f0, .int .i64 x.f3.f1.f1.f1, .string x.f3.f1.f1.f2, .slice B1 x.f3.f2.length d1, .int .i8 0, .string ⟨#[]⟩, .int .i8 0, .int .i64 0, .string ⟨#[]⟩, .slice none 0 0]) (blk_put (cs := #[.int .i8 x.f0, .string x.f1.f0, .slice B0 x.f1.f1.length d0, .int .i8 x.f2, .int .i8 x.f3.f0, .string x.f3.f1.f0, .int .i8 x.f3.f1.f1.f0, .int .i64 x.f3.f1.f1.f1, .string ⟨#[]⟩, .slice none 0 0, .int .i8 0, .string ⟨#[]⟩, .int .i8 0, .int .i64 0, .string ⟨#[]⟩, .slice none 0 0]) (cs' := #[.int .i8 x.f0, .string x.f1.f0, .slice B0 x.f1.f1.length d0, .int .i8 x.f2, .int .i8 x.f3.f0, .string x.f3.f1.f0, .int .i8 x.f3.f1.f1.f0, .int .i64 x.f3.f1.f1.f1, .string x.f3.f1.f1.f2, .slice none 0 0, .int .i8 0, .string ⟨#[]⟩, .int .i8 0, .int .i64 0, .string ⟨#[]⟩, .slice none 0 0]) (blk_put (cs := #[.int .i8 x.f0, .string x.f1.f0, .slice B0 x.f1.f1.length d0, .int .i8 x.f2, .int .i8 x.f3.f0, .string x.f3.f1.f0, .int .i8 x.f3.f1.f1.f0, .int .i64 0, .string ⟨#[]⟩, .slice none 0 0, .int .i8 0, .string ⟨#[]⟩, .int .i8 0, .int .i64 0, .string ⟨#[]⟩, .slice none 0 0]) (cs' := #[.int .i8 x.f0, .string x.f1.f0, .slice B0 x.f1.f1.length d0, .int .i8 x.f2, .int .i8 x.f3.f0, .string x.f3.f1.f0, .int .i8 x.f3.f1.f1.f0, .int .i64 x.f3.f1.f1.f1, .string ⟨#[]⟩, .slice none 0 0, .int .i8 0, .string ⟨#[]⟩, .int .i8 0, .int .i64 0, .string ⟨#[]⟩, .slice none 0 0]) (blk_put (cs := #[.int .i8 x.f0, .string x.f1.f0, .slice B0 x.f1.f1.length d0, .int .i8 x.f2, .int .i8 x.f3.f0, .string x.f3.f1.f0, .int .i8 0, .int .i64 0, .string ⟨#[]⟩, .slice none 0 0, .int .i8 0, .string ⟨#[]⟩, .int .i8 0, .int .i64 0, .string ⟨#[]⟩, .slice none 0 0]) (cs' := #[.int .i8 x.f0, .string x.f1.f0, .slice B0 x.f1.f1.length d0, .int .i8 x.f2, .int .i8 x.f3.f0, .string x.f3.f1.f0, .int .i8 x.f3.f1.f1.f0, .int .i64 0, .string ⟨#[]⟩, .slice none 0 0, .int .i8 0, .string ⟨#[]⟩, .int .i8 0, .int .i64 0, .string ⟨#[]⟩, .slice none 0 0]) (blk_put (cs := #[.int .i8 x.f0, .string x.f1.f0, .slice B0 x.f1.f1.length d0, .int .i8 x.f2, .int .i8 x.f3.f0, .string ⟨#[]⟩, .int .i8 0, .int .i64 0, .string ⟨#[]⟩, .slice none 0 0, .int .i8 0, .string ⟨#[]⟩, .int .i8 0, .int .i64 0, .string ⟨#[]⟩, .slice none 0 0]) (cs' := #[.int .i8 x.f0, .string x.f1.f0, .slice B0 x.f1.f1.length d0, .int .i8 x.f2, .int .i8 x.f3.f0, .string x.f3.f1.f0, .int .i8 0, .int .i64 0, .string ⟨#[]⟩, .slice none 0 0, .int .i8 0, .string ⟨#[]⟩, .int .i8 0, .int .i64 0, .string ⟨#[]⟩, .slice none 0 0]) (blk_put (cs := #[.int .i8 x.f0, .string x.f1.f0, .slice B0 x.f1.f1.length d0, .int .i8 x.f2, .int .i8 0, .string ⟨#[]⟩, .int .i8 0, .int .i64 0, .string ⟨#[]⟩, .slice none 0 0, .int .i8 0, .string ⟨#[]⟩, .int .i8 0, .int .i64 0, .string ⟨#[]⟩, .slice none 0 0]) (cs' := #[.int .i8 x.f0, .string x.f1.f0, .slice B0 x.f1.f1.length d0, .int .i8 x.f2, .int .i8 x.f3.f0, .string ⟨#[]⟩, .int .i8 0, .int .i64 0, .string ⟨#[]⟩, .slice none 0 0, .int .i8 0, .string ⟨#[]⟩, .int .i8 0, .int .i64 0, .string ⟨#[]⟩, .slice none 0 0]) (blk_put (cs := #[.int .i8 x.f0, .string x.f1.f0, .slice B0 x.f1.f1.length d0, .int .i8 0, .int .i8 0, .string ⟨#[]⟩, .int .i8 0, .int .i64 0, .string ⟨#[]⟩, .slice none 0 0, .int .i8 0, .string ⟨#[]⟩, .int .i8 0, .int .i64 0, .string ⟨#[]⟩, .slice none 0 0]) (cs' := #[.int .i8 x.f0, .string x.f1.f0, .slice B0 x.f1.f1.length d0, .int .i8 x.f2, .int .i8 0, .string ⟨#[]⟩, .int .i8 0, .int .i64 0, .string ⟨#[]⟩, .slice none 0 0, .int .i8 0, .string ⟨#[]⟩, .int .i8 0, .int .i64 0, .string ⟨#[]⟩, .slice none 0 0]) (blk_put (cs := #[.int .i8 x.f0, .string x.f1.f0, .slice none 0 0, .int .i8 0, .int .i8 0, .string ⟨#[]⟩, .int .i8 0, .int .i64 0, .string ⟨#[]⟩, .slice none 0 0, .int .i8 0, .string ⟨#[]⟩, .int .i8 0, .int .i64 0, .string ⟨#[]⟩, .slice none 0 0]) (cs' := #[.int .i8 x.f0, .string x.f1.f0, .slice B0 x.f1.f1.length d0, .int .i8 0, .int .i8 0, .string ⟨#[]⟩, .int .i8 0, .int .i64 0, .string ⟨#[]⟩, .slice none 0 0, .int .i8 0, .string ⟨#[]⟩, .int .i8 0, .int .i64 0, .string ⟨#[]⟩, .slice none 0 0]) (blk_put (cs := #[.int .i8 x.f0, .string ⟨#[]⟩, .slice none 0 0, .int .i8 0, .int .i8 0, .string ⟨#[]⟩, .int .i8 0, .int .i64 0, .string ⟨#[]⟩, .slice none 0 0, .int .i8 0, .string ⟨#[]⟩, .int .i8 0, .int .i64 0, .string ⟨#[]⟩, .slice none 0 0]) (cs' := #[.int .i8 x.f0, .string x.f1.f0, .slice none 0 0, .int .i8 0, .int .i8 0, .string ⟨#[]⟩, .int .i8 0, .int .i64 0, .string ⟨#[]⟩, .slice none 0 0, .int .i8 0, .string ⟨#[]⟩, .int .i8 0, .int .i64 0, .string ⟨#[]⟩, .slice none 0 0]) (blk_put (cs := #[.int .i8 0, .string ⟨#[]⟩, .slice none 0 0, .int .i8 0, .int .i8 0, .string ⟨#[]⟩, .int .i8 0, .int .i64 0, .string ⟨#[]⟩, .slice none 0 0, .int .i8 0, .string ⟨#[]⟩, .int .i8 0, .int .i64 0, .string ⟨#[]⟩, .slice none 0 0]) (cs' := #[.int .i8 x.f0, .string ⟨#[]⟩, .slice none 0 0, .int .i8 0, .int .i8 0, .string ⟨#[]⟩, .int .i8 0, .int .i64 0, .string ⟨#[]⟩, .slice none 0 0, .int .i8 0, .string ⟨#[]⟩, .int .i8 0, .int .i64 0, .string ⟨#[]⟩, .slice none 0 0]) (HK2.out) 0 _ rfl) 1 _ rfl) 2 _ rfl) 3 _ rfl) 4 _ rfl) 5 _ rfl) 6 _ rfl) 7 _ rfl) 8 _ rfl) 9 _ rfl) 10 _ rfl) 11 _ rfl) 12 _ rfl) 13 _ rfl) 14 _ rfl) 15 _ rfl) Tryd.underlying56 rfl (by kernel_rfl)) rfl ?_
  have hfar : ∀ k, k ≠ w.heap.size + 1 → ((((((((((((((((v3.setCell ⟨w.heap.size + 1, 0, none⟩ (.int .i8 x.f0)).setCell ⟨w.heap.size + 1, 1, none⟩ (.string x.f1.f0)).setCell ⟨w.heap.size + 1, 2, none⟩ (.slice B0 x.f1.f1.length d0)).setCell ⟨w.heap.size + 1, 3, none⟩ (.int .i8 x.f2)).setCell ⟨w.heap.size + 1, 4, none⟩ (.int .i8 x.f3.f0)).setCell ⟨w.heap.size + 1, 5, none⟩ (.string x.f3.f1.f0)).setCell ⟨w.heap.size + 1, 6, none⟩ (.int .i8 x.f3.f1.f1.f0)).setCell ⟨w.heap.size + 1, 7, none⟩ (.int .i64 x.f3.f1.f1.f1)).setCell ⟨w.heap.size + 1, 8, none⟩ (.string x.f3.f1.f1.f2)).setCell ⟨w.heap.size + 1, 9, none⟩ (.slice B1 x.f3.f2.length d1)).setCell ⟨w.heap.size + 1, 10, none⟩ (.int .i8 x.f4.f0)).setCell ⟨w.heap.size + 1, 11, none⟩ (.string x.f4.f1.f0)).setCell ⟨w.heap.size + 1, 12, none⟩ (.int .i8 x.f4.f1.f1.f0)).setCell ⟨w.heap.size + 1, 13, none⟩ (.int .i64 x.f4.f1.f1.f1)).setCell ⟨w.heap.size + 1, 14, none⟩ (.string x.f4.f1.f1.f2)).setCell ⟨w.heap.size + 1, 15, none⟩ (.slice B2 x.f4.f2.length d2)).heap[k]? = v3.heap[k]? := (fun k hk => by repeat rw [Below.heap_setCell _ _ _ _ (by exact hk)])
  have hw0 := k53t.M_mono (ok' := fun _ => True) (fun _ _ => trivial) (Kd.M_step (w1 := ((((((((((((((((v3.setCell ⟨w.heap.size + 1, 0, none⟩ (.int .i8 x.f0)).setCell ⟨w.heap.size + 1, 1, none⟩ (.string x.f1.f0)).setCell ⟨w.heap.size + 1, 2, none⟩ (.slice B0 x.f1.f1.length d0)).setCell ⟨w.heap.size + 1, 3, none⟩ (.int .i8 x.f2)).setCell ⟨w.heap.size + 1, 4, none⟩ (.int .i8 x.f3.f0)).setCell ⟨w.heap.size + 1, 5, none⟩ (.string x.f3.f1.f0)).setCell ⟨w.heap.size + 1, 6, none⟩ (.int .i8 x.f3.f1.f1.f0)).setCell ⟨w.heap.size + 1, 7, none⟩ (.int .i64 x.f3.f1.f1.f1)).setCell ⟨w.heap.size + 1, 8, none⟩ (.string x.f3.f1.f1.f2)).setCell ⟨w.heap.size + 1, 9, none⟩ (.slice B1 x.f3.f2.length d1)).setCell ⟨w.heap.size + 1, 10, none⟩ (.int .i8 x.f4.f0)).setCell ⟨w.heap.size + 1, 11, none⟩ (.string x.f4.f1.f0)).setCell ⟨w.heap.size + 1, 12, none⟩ (.int .i8 x.f4.f1.f1.f0)).setCell ⟨w.heap.size + 1, 13, none⟩ (.int .i64 x.f4.f1.f1.f1)).setCell ⟨w.heap.size + 1, 14, none⟩ (.string x.f4.f1.f1.f2)).setCell ⟨w.heap.size + 1, 15, none⟩ (.slice B2 x.f4.f2.length d2))) HW0.out (fun k hk _ => hfar k (by omega)))
  have hw1 := k31t.M_mono (ok' := fun _ => True) (fun _ _ => trivial) (Kd.M_step (w1 := ((((((((((((((((v3.setCell ⟨w.heap.size + 1, 0, none⟩ (.int .i8 x.f0)).setCell ⟨w.heap.size + 1, 1, none⟩ (.string x.f1.f0)).setCell ⟨w.heap.size + 1, 2, none⟩ (.slice B0 x.f1.f1.length d0)).setCell ⟨w.heap.size + 1, 3, none⟩ (.int .i8 x.f2)).setCell ⟨w.heap.size + 1, 4, none⟩ (.int .i8 x.f3.f0)).setCell ⟨w.heap.size + 1, 5, none⟩ (.string x.f3.f1.f0)).setCell ⟨w.heap.size + 1, 6, none⟩ (.int .i8 x.f3.f1.f1.f0)).setCell ⟨w.heap.size + 1, 7, none⟩ (.int .i64 x.f3.f1.f1.f1)).setCell ⟨w.heap.size + 1, 8, none⟩ (.string x.f3.f1.f1.f2)).setCell ⟨w.heap.size + 1, 9, none⟩ (.slice B1 x.f3.f2.length d1)).setCell ⟨w.heap.size + 1, 10, none⟩ (.int .i8 x.f4.f0)).setCell ⟨w.heap.size + 1, 11, none⟩ (.string x.f4.f1.f0)).setCell ⟨w.heap.size + 1, 12, none⟩ (.int .i8 x.f4.f1.f1.f0)).setCell ⟨w.heap.size + 1, 13, none⟩ (.int .i64 x.f4.f1.f1.f1)).setCell ⟨w.heap.size + 1, 14, none⟩ (.string x.f4.f1.f1.f2)).setCell ⟨w.heap.size + 1, 15, none⟩ (.slice B2 x.f4.f2.length d2))) HW1.out (fun k hk _ => hfar k (by omega)))
  have hw2 := k31t.M_mono (ok' := fun _ => True) (fun _ _ => trivial) (Kd.M_step (w1 := ((((((((((((((((v3.setCell ⟨w.heap.size + 1, 0, none⟩ (.int .i8 x.f0)).setCell ⟨w.heap.size + 1, 1, none⟩ (.string x.f1.f0)).setCell ⟨w.heap.size + 1, 2, none⟩ (.slice B0 x.f1.f1.length d0)).setCell ⟨w.heap.size + 1, 3, none⟩ (.int .i8 x.f2)).setCell ⟨w.heap.size + 1, 4, none⟩ (.int .i8 x.f3.f0)).setCell ⟨w.heap.size + 1, 5, none⟩ (.string x.f3.f1.f0)).setCell ⟨w.heap.size + 1, 6, none⟩ (.int .i8 x.f3.f1.f1.f0)).setCell ⟨w.heap.size + 1, 7, none⟩ (.int .i64 x.f3.f1.f1.f1)).setCell ⟨w.heap.size + 1, 8, none⟩ (.string x.f3.f1.f1.f2)).setCell ⟨w.heap.size + 1, 9, none⟩ (.slice B1 x.f3.f2.length d1)).setCell ⟨w.heap.size + 1, 10, none⟩ (.int .i8 x.f4.f0)).setCell ⟨w.heap.size + 1, 11, none⟩ (.string x.f4.f1.f0)).setCell ⟨w.heap.size + 1, 12, none⟩ (.int .i8 x.f4.f1.f1.f0)).setCell ⟨w.heap.size + 1, 13, none⟩ (.int .i64 x.f4.f1.f1.f1)).setCell ⟨w.heap.size + 1, 14, none⟩ (.string x.f4.f1.f1.f2)).setCell ⟨w.heap.size + 1, 15, none⟩ (.slice B2 x.f4.f2.length d2))) HW2.out (fun k hk _ => hfar k (by omega)))
  exact ⟨_, rfl, ⟨[.int .i8 x.f0], [.string x.f1.f0, .slice B0 x.f1.f1.length d0, .int .i8 x.f2, .int .i8 x.f3.f0, .string x.f3.f1.f0, .int .i8 x.f3.f1.f1.f0, .int .i64 x.f3.f1.f1.f1, .string x.f3.f1.f1.f2, .slice B1 x.f3.f2.length d1, .int .i8 x.f4.f0, .string x.f4.f1.f0, .int .i8 x.f4.f1.f1.f0, .int .i64 x.f4.f1.f1.f1, .string x.f4.f1.f1.f2, .slice B2 x.f4.f2.length d2], rfl, rfl, ⟨[.string x.f1.f0, .slice B0 x.f1.f1.length d0], [.int .i8 x.f2, .int .i8 x.f3.f0, .string x.f3.f1.f0, .int .i8 x.f3.f1.f1.f0, .int .i64 x.f3.f1.f1.f1, .string x.f3.f1.f1.f2, .slice B1 x.f3.f2.length d1, .int .i8 x.f4.f0, .string x.f4.f1.f0, .int .i8 x.f4.f1.f1.f0, .int .i64 x.f4.f1.f1.f1, .string x.f4.f1.f1.f2, .slice B2 x.f4.f2.length d2], rfl, hw0, ⟨[.int .i8 x.f2], [.int .i8 x.f3.f0, .string x.f3.f1.f0, .int .i8 x.f3.f1.f1.f0, .int .i64 x.f3.f1.f1.f1, .string x.f3.f1.f1.f2, .slice B1 x.f3.f2.length d1, .int .i8 x.f4.f0, .string x.f4.f1.f0, .int .i8 x.f4.f1.f1.f0, .int .i64 x.f4.f1.f1.f1, .string x.f4.f1.f1.f2, .slice B2 x.f4.f2.length d2], rfl, rfl, ⟨[.int .i8 x.f3.f0, .string x.f3.f1.f0, .int .i8 x.f3.f1.f1.f0, .int .i64 x.f3.f1.f1.f1, .string x.f3.f1.f1.f2, .slice B1 x.f3.f2.length d1], [.int .i8 x.f4.f0, .string x.f4.f1.f0, .int .i8 x.f4.f1.f1.f0, .int .i64 x.f4.f1.f1.f1, .string x.f4.f1.f1.f2, .slice B2 x.f4.f2.length d2], rfl, hw1, hw2⟩⟩⟩⟩, below_set (below_set (below_set (below_set (below_set (below_set (below_set (below_set (below_set (below_set (below_set (below_set (below_set (below_set (below_set (below_set (HB.out) (Nat.le_succ _)) (Nat.le_succ _)) (Nat.le_succ _)) (Nat.le_succ _)) (Nat.le_succ _)) (Nat.le_succ _)) (Nat.le_succ _)) (Nat.le_succ _)) (Nat.le_succ _)) (Nat.le_succ _)) (Nat.le_succ _)) (Nat.le_succ _)) (Nat.le_succ _)) (Nat.le_succ _)) (Nat.le_succ _)) (Nat.le_succ _)⟩
end Go.Proofs.YtllcmggmcogokaaDoor.PAll
end

section
namespace Go.Proofs.YtllcmggmcogokaaDoor.PAll
open Go.RowKit Go.Proofs.YtllcmggmcogokaaDoorW.PrintWords Go.Proofs.YtllcmggmcogokaaDoorW.PrintLast Go.Proofs.YtllcmggmcogokaaDoorW.PrintMore
attribute [local go_sem] max2_int min2_int max_two min_two max_three min_three max_four min_four
set_option linter.unusedVariables false
set_option linter.unusedSimpArgs false
attribute [local go_sem high] eqA28
def pedigreelaw01_isExpr.f (a0_0 : Int) (a0_1 : ByteArray) (a0_2 : Int) (a0_3 : Int) (a0_4 : ByteArray) (l0_5 : List (S31)) (a1 : Int) : Option (Bool) := if a0_0 = 99 then ((pedigreelaw01_word.f a1).bind fun t315 => (if (a0_1.toList == t315.toList && ((a0_2 == 0 && (a0_3 == 0 && (a0_4.toList == ([] : List UInt8)))))) = true then (some ((l0_5.length : Int) == 0)) else (some false))) else (some false)
def pedigreelaw01_isExpr.T1 : Bool × List (List Nat × List Nat) := (true, [([], []), ([0], [0]), ([1], [1]), ([2], [2]), ([3], [3]), ([4, 3], [3, 4]), ([3], [3]), ([6, 3, 3], [3, 6]), ([7, 3], [3, 7]), ([5, 8, 3], [3, 5, 8]), ([3, 9], [3, 9]), ([10, 7], [10]), ([11], [11]), ([12, 11], [11, 12]), ([13, 11], [11, 13]), ([14, 11], [11, 14]), ([11, 15], [11, 15]), ([16, 11, 0, 1, 2, 3, 4, 5, 6, 7, 8, 9, 10, 11, 12, 13, 14, 15, 16], [16])])
def pedigreelaw01_isExpr.B1 : List Nat := [0, 1, 3, 7, 15, 31, 15, 79, 207, 511, 1023, 2047, 4095, 8191, 16383, 32767, 65535, 131071]
theorem pedigreelaw01_isExpr.tab1 : rtab .any (opsOf Tryd.f125 1) = pedigreelaw01_isExpr.T1 := by kernel_rfl
theorem pedigreelaw01_isExpr.bits1 : waitsOk pedigreelaw01_isExpr.T1.2 pedigreelaw01_isExpr.B1 = true := by kernel_rfl
set_option maxHeartbeats 8000000 in
set_option maxRecDepth 100000 in
theorem pedigreelaw01_isExpr.calls (a0_0 : Int) (a0_1 : ByteArray) (a0_2 : Int) (a0_3 : Int) (a0_4 : ByteArray) (A0_5 : Option Addr) (c0_5 : Nat) (l0_5 : List (S31)) (a1 : Int) (r : Bool) (w : World) (hr0_5 : Kd.C k31 w A0_5 l0_5.length l0_5) (hc0_5 : l0_5.length ≤ c0_5) (hTB : TabB w) (h : pedigreelaw01_isExpr.f a0_0 a0_1 a0_2 a0_3 a0_4 l0_5 a1 = some r) :
    Calls Tryd.prog 125 #[.agg #[.int .i8 a0_0, .string a0_1, .int .i8 a0_2, .int .i64 a0_3, .string a0_4, .slice A0_5 l0_5.length c0_5], .int .i64 a1] w fun e w' => e = .returned (.bool r) ∧ Below w.heap.size w w' := by
  have hu31 := Tryd.underlying31
  have hu28 := Tryd.underlying28
  have HR0_5 := Aside0.mk hr0_5
  have HC0_5 := Aside0.mk hc0_5
  clear hr0_5 hc0_5
  have HB := Aside0.mk (Below.refl w.heap.size w)
  have HTB := Aside0.mk hTB
  clear hTB
  have H : (if a0_0 = 99 then ((pedigreelaw01_word.f a1).bind fun t315 => (if (a0_1.toList == t315.toList && ((a0_2 == 0 && (a0_3 == 0 && (a0_4.toList == ([] : List UInt8)))))) = true then (some ((l0_5.length : Int) == 0)) else (some false))) else (some false)) = some r := h
  clear h
  by_cases c3 : a0_0 = 99
  · rw [if_pos c3] at H
    have c3b0 : (a0_0 == 99) = true := beq_iff_eq.mpr c3
    have c3b1 : (a0_0 != 99) = false := bne_eq_false_iff_eq.mpr c3
    clear c3
    replace H := Option.bind_eq_some_iff.mp H
    obtain ⟨t315, A40, H⟩ := H
    replace H : (if (a0_1.toList == t315.toList && ((a0_2 == 0 && (a0_3 == 0 && (a0_4.toList == ([] : List UInt8)))))) = true then (some ((l0_5.length : Int) == 0)) else (some false)) = some r := H
    have A4 := Aside0.mk A40
    clear A40
    by_cases c5 : (a0_1.toList == t315.toList && ((a0_2 == 0 && (a0_3 == 0 && (a0_4.toList == ([] : List UInt8)))))) = true
    · rw [if_pos c5] at H
      have c5b0 : (a0_1.toList == t315.toList && ((a0_2 == 0 && (a0_3 == 0 && (a0_4.toList == ([] : List UInt8)))))) = true := c5
      (try (have c5b1 : (a0_1.toList == t315.toList && ((a0_2 == 0 && (a0_3 == 0 && (a0_4.toList.isEmpty))))) = true := by simpa using c5))
      (try (have c5b2 : decide (a0_1.toList = t315.toList && ((a0_2 == 0 && (a0_3 == 0 && (a0_4.toList == ([] : List UInt8)))))) = true := by simpa using c5))
      (try (have c5b3 : (a0_1.toList == t315.toList && ((a0_2 == 0 && (a0_3 == 0 && (a0_4.toList == ([] : List UInt8)))))) = true := by simpa using c5))
      clear c5
      obtain rfl := Option.some.inj H
      go_enter Tryd.func125, Tryd.ntmps125
      try go_wp2_with (first | ((with_reducible refine gate_dst (N := 2) rfl ?_); (try (refine gate_guard (by rfl) ?_; dsimp only)); refine box_event ?hg (N := 2) ?hd (cs := #[.int .i8 a0_0, .string a0_1, .int .i8 a0_2, .int .i64 a0_3, .string a0_4, .slice A0_5 l0_5.length c0_5]) (t := 31) ?hr ?_; (case hd => rfl); (case hg => rfl); (case hr => first | (go_simp; done) | (go_simp; rfl)); intro gb314 hg w6 hbox hb; have n0_ := Aside0.mk (below_step (by repeat (first | (with_reducible first | exact HB.out | apply below_alloc | apply pw_below_drewN | apply below_drew1) | exact HB.out)) hb); have n1_ := Aside0.mk (hbox); have n2_ := Aside0.mk ((by rw [hg]; exact (below_size (by repeat (first | (with_reducible first | exact HB.out | apply below_alloc | apply pw_below_drewN | apply below_drew1) | exact HB.out))) : w.heap.size ≤ gb314)); have n3_ := Aside0.mk ((by rw [hg]; exact (below_size (by repeat (first | (with_reducible first | exact HB.out | apply below_alloc | apply pw_below_drewN | apply below_drew1) | exact HB.out))) : w.heap.size ≤ gb314)); clear HB; have HB := n0_; have BK314 := n1_; have GW314 := n2_; have GE314 := n3_; clear n0_ n1_ n2_ n3_; clear hb hbox hg))
      have n0_ := Aside0.mk (blk_drew BK314.out)
      have n1_ := Aside0.mk (below_drew1 HB.out)
      clear BK314
      clear HB
      have BK314 := n0_
      have HB := n1_
      clear n0_ n1_
      refine start_ (n := 18) (S := fun w' => w'.cell? ⟨gb314, 0, none⟩ = some (.int .i8 a0_0) ∧ w'.cell? ⟨gb314, 1, none⟩ = some (.string a0_1) ∧ w'.cell? ⟨gb314, 2, none⟩ = some (.int .i8 a0_2) ∧ w'.cell? ⟨gb314, 3, none⟩ = some (.int .i64 a0_3) ∧ w'.cell? ⟨gb314, 4, none⟩ = some (.string a0_4) ∧ w'.cell? ⟨gb314, 5, none⟩ = some (.slice A0_5 l0_5.length c0_5)) (ds := []) #[false, false, false, false, false, false, false, false, false, false, false, false, false, false, false, false, false, false] (by kernel_rfl) rfl rfl ⟨(blk_cell BK314.out 0).trans rfl, (blk_cell BK314.out 1).trans rfl, (blk_cell BK314.out 2).trans rfl, (blk_cell BK314.out 3).trans rfl, (blk_cell BK314.out 4).trans rfl, (blk_cell BK314.out 5).trans rfl⟩ (fun hHeld => ?_); refine with_tabW pedigreelaw01_isExpr.tab1 pedigreelaw01_isExpr.bits1 (fun HT_ HW_ => ?_)
      generalize w6.drew = w7 at BK314 HB hHeld ⊢
      refine pure_ (i := 0) (N := some 5) (v := ?_) (a' := ?_) #[true, false, false, false, false, false, false, false, false, false, false, false, false, false, false, false, false, false] rfl rfl (any_of HT_.out (by kernel_rfl)) (fun _ _ _ h => h) (Or.inl ⟨by rfl, ?_⟩) ?_ ?_
      rotate_left
      · intro w'
        go_simp
        with_reducible rfl
      rotate_left
      · simp only [Act.put, List.setIfInBounds_toArray, List.set_cons_zero, List.set_cons_succ, i64_w, i32_w]
        rfl
      refine take_ (i := 1) (N := some 6) (v := ?_) (a' := ?_) #[true, true, false, false, false, false, false, false, false, false, false, false, false, false, false, false, false, false] rfl rfl (take_ofW HT_.out HW_.out (by kernel_rfl)) (fun _ _ _ h => h) (Or.inl ⟨by rfl, ?_⟩) hHeld ?_ ?_
      rotate_left
      · rintro w' ⟨s0, s1, s2, s3, s4, s5⟩
        go_simp
        with_reducible rfl
      rotate_left
      · simp only [Act.put, List.setIfInBounds_toArray, List.set_cons_zero, List.set_cons_succ, i64_w, i32_w]
        rfl
      refine pure_ (i := 2) (N := some 7) (v := ?_) (a' := ?_) #[true, true, true, false, false, false, false, false, false, false, false, false, false, false, false, false, false, false] rfl rfl (any_of HT_.out (by kernel_rfl)) (fun _ _ _ h => h) (Or.inl ⟨by rfl, ?_⟩) ?_ ?_
      rotate_left
      · intro w'
        go_simp
        with_reducible rfl
      rotate_left
      · simp only [Act.put, List.setIfInBounds_toArray, List.set_cons_zero, List.set_cons_succ, i64_w, i32_w]
        rfl
      refine pure_ (i := 3) (N := some 8) (v := ?_) (a' := ?_) #[true, true, true, true, false, false, false, false, false, false, false, false, false, false, false, false, false, false] rfl rfl (any_of HT_.out (by kernel_rfl)) (fun _ _ _ h => h) (Or.inl ⟨by rfl, ?_⟩) ?_ ?_
      rotate_left
      · intro w'
        go_simp
        with_reducible rfl
      rotate_left
      · simp only [Act.put, List.setIfInBounds_toArray, List.set_cons_zero, List.set_cons_succ, i64_w, i32_w]
        rfl
      refine pure_ (i := 4) (N := some 9) (v := ?_) (a' := ?_) #[true, true, true, true, true, false, false, false, false, false, false, false, false, false, false, false, false, false] rfl rfl (any_of HT_.out (by kernel_rfl)) (fun _ _ _ h => h) (Or.inl ⟨by rfl, ?_⟩) ?_ ?_
      rotate_left
      · intro w'
        go_simp
        with_reducible rfl
      rotate_left
      · simp only [Act.put, List.setIfInBounds_toArray, List.set_cons_zero, List.set_cons_succ, i64_w, i32_w]
        rfl
      refine pure_ (i := 6) (N := some 11) (v := ?_) (a' := ?_) #[true, true, true, true, true, false, true, false, false, false, false, false, false, false, false, false, false, false] rfl rfl (any_of HT_.out (by kernel_rfl)) (fun _ _ _ h => h) (Or.inl ⟨by rfl, ?_⟩) ?_ ?_
      rotate_left
      · intro w'
        go_simp
        with_reducible rfl
      rotate_left
      · simp only [Act.put, List.setIfInBounds_toArray, List.set_cons_zero, List.set_cons_succ, i64_w, i32_w]
        rfl
      refine take_ (i := 5) (N := some 10) (v := ?_) (a' := ?_) #[true, true, true, true, true, true, true, false, false, false, false, false, false, false, false, false, false, false] rfl rfl (take_ofW HT_.out HW_.out (by kernel_rfl)) (fun _ _ _ h => h) (Or.inl ⟨by rfl, ?_⟩) hHeld ?_ ?_
      rotate_left
      · rintro w' ⟨s0, s1, s2, s3, s4, s5⟩
        go_simp
        with_reducible rfl
      rotate_left
      · simp only [Act.put, List.setIfInBounds_toArray, List.set_cons_zero, List.set_cons_succ, i64_w, i32_w]
        rfl
      refine one_ (i := 7) (N := some 12) #[true, true, true, true, true, true, true, true, false, false, false, false, false, false, false, false, false, false] rfl rfl (one_of HT_.out (by kernel_rfl)) (by decide) (fun K hK => ?_)
      refine goes_ Tryd.func124 (by kernel_rfl) rfl #[.int .i64 a1] (by rfl) rfl rfl (by (try simp only [List.map_toArray, List.map_cons, List.map_nil]); first | done | rfl | (simp only [List.length_drop, List.length_take]; rfl)) ?_
      with_reducible refine (pedigreelaw01_word.calls a1 t315 _ ?side1 A4.out).mono ?_
      (case side1 => exact TabB.below HTB.out (by repeat (first | (with_reducible first | exact HB.out | apply below_alloc | apply pw_below_drewN | apply below_drew1 | refine below_set ?_ GE314.out) | exact HB.out)))
      rintro e w8 ⟨rfl, hb⟩
      refine ⟨_, rfl, ?_⟩
      have n0_ := Aside0.mk (blk_below (g := gb314) (o := .cells #[.int .i8 a0_0, .string a0_1, .int .i8 a0_2, .int .i64 a0_3, .string a0_4, .slice A0_5 l0_5.length c0_5] 31 (0, 0)) (by (with_reducible repeat (first | refine blk_drewN ?_ _ | refine blk_drew ?_ | refine blk_alloc ?_ _)); exact BK314.out) hb)
      have n1_ := Aside0.mk (below_step (by repeat (first | (with_reducible first | exact HB.out | apply below_alloc | apply pw_below_drewN | apply below_drew1 | refine below_set ?_ GE314.out) | exact HB.out)) hb)
      clear BK314
      clear HB
      have BK314 := n0_
      have HB := n1_
      clear n0_ n1_
      (try clear hb)
      (try clear hb2)
      (try clear hk)
      (try clear hi)
      refine hK.out _ _ ⟨(blk_cell BK314.out 0).trans rfl, (blk_cell BK314.out 1).trans rfl, (blk_cell BK314.out 2).trans rfl, (blk_cell BK314.out 3).trans rfl, (blk_cell BK314.out 4).trans rfl, (blk_cell BK314.out 5).trans rfl⟩ (fun hHeld => ?_)
      clear hK K
      refine norm_ (a' := ?_) ?_ ?_
      rotate_left
      · show Act.put _ (some 12) _ = _
        simp only [Act.put, List.setIfInBounds_toArray, List.set_cons_zero, List.set_cons_succ, i64_w, i32_w]
        rfl
      refine pure_ (i := 8) (N := some 13) (v := ?_) (a' := ?_) #[true, true, true, true, true, true, true, true, true, false, false, false, false, false, false, false, false, false] rfl rfl (any_of HT_.out (by kernel_rfl)) (fun _ _ _ h => h) (Or.inl ⟨by rfl, ?_⟩) ?_ ?_
      rotate_left
      · intro w'
        go_simp
        with_reducible rfl
      rotate_left
      · simp only [Act.put, List.setIfInBounds_toArray, List.set_cons_zero, List.set_cons_succ, i64_w, i32_w]
        rfl
      refine pure_ (i := 9) (N := some 14) (v := ?_) (a' := ?_) #[true, true, true, true, true, true, true, true, true, true, false, false, false, false, false, false, false, false] rfl rfl (any_of HT_.out (by kernel_rfl)) (fun _ _ _ h => h) (Or.inl ⟨by rfl, ?_⟩) ?_ ?_
      rotate_left
      · intro w'
        go_simp
        with_reducible rfl
      rotate_left
      · simp only [Act.put, List.setIfInBounds_toArray, List.set_cons_zero, List.set_cons_succ, i64_w, i32_w]
        rfl
      refine pure_ (i := 10) (N := some 15) (v := ?_) (a' := ?_) #[true, true, true, true, true, true, true, true, true, true, true, false, false, false, false, false, false, false] rfl rfl (any_of HT_.out (by kernel_rfl)) (fun _ _ _ h => h) (Or.inl ⟨by rfl, ?_⟩) ?_ ?_
      rotate_left
      · intro w'
        go_simp
        with_reducible rfl
      rotate_left
      · simp only [Act.put, List.setIfInBounds_toArray, List.set_cons_zero, List.set_cons_succ, i64_w, i32_w]
        rfl
      refine pure_ (i := 11) (N := some 16) (v := ?_) (a' := ?_) #[true, true, true, true, true, true, true, true, true, true, true, true, false, false, false, false, false, false] rfl rfl (any_of HT_.out (by kernel_rfl)) (fun _ _ _ h => h) (Or.inl ⟨by rfl, ?_⟩) ?_ ?_
      rotate_left
      · intro w'
        go_simp
        with_reducible rfl
      rotate_left
      · simp only [Act.put, List.setIfInBounds_toArray, List.set_cons_zero, List.set_cons_succ, i64_w, i32_w]
        rfl
      refine pure_ (i := 12) (N := some 17) (v := ?_) (a' := ?_) #[true, true, true, true, true, true, true, true, true, true, true, true, true, false, false, false, false, false] rfl rfl (any_of HT_.out (by kernel_rfl)) (fun _ _ _ h => h) (Or.inl ⟨by rfl, ?_⟩) ?_ ?_
      rotate_left
      · intro w'
        go_simp
        with_reducible rfl
      rotate_left
      · simp only [Act.put, List.setIfInBounds_toArray, List.set_cons_zero, List.set_cons_succ, i64_w, i32_w]
        rfl
      refine take_ (i := 13) (N := some 18) (v := ?_) (a' := ?_) #[true, true, true, true, true, true, true, true, true, true, true, true, true, true, false, false, false, false] rfl rfl (take_ofW HT_.out HW_.out (by kernel_rfl)) (fun _ _ _ h => h) (Or.inl ⟨by rfl, ?_⟩) hHeld ?_ ?_
      rotate_left
      · rintro w' ⟨s0, s1, s2, s3, s4, s5⟩
        go_simp
        with_reducible rfl
      rotate_left
      · simp only [Act.put, List.setIfInBounds_toArray, List.set_cons_zero, List.set_cons_succ, i64_w, i32_w]
        rfl
      refine pure_ (i := 14) (N := some 19) (v := ?_) (a' := ?_) #[true, true, true, true, true, true, true, true, true, true, true, true, true, true, true, false, false, false] rfl rfl (any_of HT_.out (by kernel_rfl)) (fun _ _ _ h => h) (Or.inl ⟨by rfl, ?_⟩) ?_ ?_
      rotate_left
      · intro w'
        go_simp
        with_reducible rfl
      rotate_left
      · simp only [Act.put, List.setIfInBounds_toArray, List.set_cons_zero, List.set_cons_succ, i64_w, i32_w]
        rfl
      refine pure_ (i := 15) (N := some 20) (v := ?_) (a' := ?_) #[true, true, true, true, true, true, true, true, true, true, true, true, true, true, true, true, false, false] rfl rfl (any_of HT_.out (by kernel_rfl)) (fun _ _ _ h => h) (Or.inl ⟨by rfl, ?_⟩) ?_ ?_
      rotate_left
      · intro w'
        go_simp
        with_reducible rfl
      rotate_left
      · simp only [Act.put, List.setIfInBounds_toArray, List.set_cons_zero, List.set_cons_succ, i64_w, i32_w]
        rfl
      refine pure_ (i := 16) (N := some 21) (v := ?_) (a' := ?_) #[true, true, true, true, true, true, true, true, true, true, true, true, true, true, true, true, true, false] rfl rfl (any_of HT_.out (by kernel_rfl)) (fun _ _ _ h => h) (Or.inl ⟨by rfl, ?_⟩) ?_ ?_
      rotate_left
      · intro w'
        go_simp
        with_reducible rfl
      rotate_left
      · simp only [Act.put, List.setIfInBounds_toArray, List.set_cons_zero, List.set_cons_succ, i64_w, i32_w]
        rfl
      refine pure_ (i := 17) (N := some 4) (v := ?_) (a' := ?_) #[true, true, true, true, true, true, true, true, true, true, true, true, true, true, true, true, true, true] rfl rfl (any_of HT_.out (by kernel_rfl)) (fun _ _ _ h => h) (Or.inl ⟨by rfl, ?_⟩) ?_ ?_
      rotate_left
      · intro w'
        go_simp
        with_reducible rfl
      rotate_left
      · simp only [Act.put, List.setIfInBounds_toArray, List.set_cons_zero, List.set_cons_succ, i64_w, i32_w]
        rfl
      refine done_ (done_of HT_.out (by kernel_rfl)) ?_
      try go_wp2
      go_ret
      exact ⟨by first | rfl | (simp [errW_none, errW_some] <;> rfl) | (simp [*, errW_none, errW_some] <;> rfl), by repeat (first | (with_reducible first | exact HB.out | apply below_alloc | apply pw_below_drewN | apply below_drew1 | refine below_set ?_ GE314.out) | exact HB.out)⟩
    · rw [if_neg c5] at H
      have c5b0 : (a0_1.toList == t315.toList && ((a0_2 == 0 && (a0_3 == 0 && (a0_4.toList == ([] : List UInt8)))))) = false := by simpa using c5
      (try (have c5b1 : (a0_1.toList == t315.toList && ((a0_2 == 0 && (a0_3 == 0 && (a0_4.toList.isEmpty))))) = false := by simpa using c5))
      (try (have c5b2 : decide (a0_1.toList = t315.toList && ((a0_2 == 0 && (a0_3 == 0 && (a0_4.toList == ([] : List UInt8)))))) = false := by simpa using c5))
      (try (have c5b3 : (a0_1.toList == t315.toList && ((a0_2 == 0 && (a0_3 == 0 && (a0_4.toList == ([] : List UInt8)))))) = false := by simpa using c5))
      (try (have c5b4 : ¬ (a0_1.toList = t315.toList && ((a0_2 == 0 && (a0_3 == 0 && (a0_4.toList == ([] : List UInt8)))))) := by simpa using c5))
      clear c5
      obtain rfl := Option.some.inj H
      go_enter Tryd.func125, Tryd.ntmps125
      try go_wp2_with (first | ((with_reducible refine gate_dst (N := 2) rfl ?_); (try (refine gate_guard (by rfl) ?_; dsimp only)); refine box_event ?hg (N := 2) ?hd (cs := #[.int .i8 a0_0, .string a0_1, .int .i8 a0_2, .int .i64 a0_3, .string a0_4, .slice A0_5 l0_5.length c0_5]) (t := 31) ?hr ?_; (case hd => rfl); (case hg => rfl); (case hr => first | (go_simp; done) | (go_simp; rfl)); intro gb314 hg w9 hbox hb; have n0_ := Aside0.mk (below_step (by repeat (first | (with_reducible first | exact HB.out | apply below_alloc | apply pw_below_drewN | apply below_drew1) | exact HB.out)) hb); have n1_ := Aside0.mk (hbox); have n2_ := Aside0.mk ((by rw [hg]; exact (below_size (by repeat (first | (with_reducible first | exact HB.out | apply below_alloc | apply pw_below_drewN | apply below_drew1) | exact HB.out))) : w.heap.size ≤ gb314)); have n3_ := Aside0.mk ((by rw [hg]; exact (below_size (by repeat (first | (with_reducible first | exact HB.out | apply below_alloc | apply pw_below_drewN | apply below_drew1) | exact HB.out))) : w.heap.size ≤ gb314)); clear HB; have HB := n0_; have BK314 := n1_; have GW314 := n2_; have GE314 := n3_; clear n0_ n1_ n2_ n3_; clear hb hbox hg))
      have n0_ := Aside0.mk (blk_drew BK314.out)
      have n1_ := Aside0.mk (below_drew1 HB.out)
      clear BK314
      clear HB
      have BK314 := n0_
      have HB := n1_
      clear n0_ n1_
      refine start_ (n := 18) (S := fun w' => w'.cell? ⟨gb314, 0, none⟩ = some (.int .i8 a0_0) ∧ w'.cell? ⟨gb314, 1, none⟩ = some (.string a0_1) ∧ w'.cell? ⟨gb314, 2, none⟩ = some (.int .i8 a0_2) ∧ w'.cell? ⟨gb314, 3, none⟩ = some (.int .i64 a0_3) ∧ w'.cell? ⟨gb314, 4, none⟩ = some (.string a0_4) ∧ w'.cell? ⟨gb314, 5, none⟩ = some (.slice A0_5 l0_5.length c0_5)) (ds := []) #[false, false, false, false, false, false, false, false, false, false, false, false, false, false, false, false, false, false] (by kernel_rfl) rfl rfl ⟨(blk_cell BK314.out 0).trans rfl, (blk_cell BK314.out 1).trans rfl, (blk_cell BK314.out 2).trans rfl, (blk_cell BK314.out 3).trans rfl, (blk_cell BK314.out 4).trans rfl, (blk_cell BK314.out 5).trans rfl⟩ (fun hHeld => ?_); refine with_tabW pedigreelaw01_isExpr.tab1 pedigreelaw01_isExpr.bits1 (fun HT_ HW_ => ?_)
      generalize w9.drew = w10 at BK314 HB hHeld ⊢
      refine pure_ (i := 0) (N := some 5) (v := ?_) (a' := ?_) #[true, false, false, false, false, false, false, false, false, false, false, false, false, false, false, false, false, false] rfl rfl (any_of HT_.out (by kernel_rfl)) (fun _ _ _ h => h) (Or.inl ⟨by rfl, ?_⟩) ?_ ?_
      rotate_left
      · intro w'
        go_simp
        with_reducible rfl
      rotate_left
      · simp only [Act.put, List.setIfInBounds_toArray, List.set_cons_zero, List.set_cons_succ, i64_w, i32_w]
        rfl
      refine take_ (i := 1) (N := some 6) (v := ?_) (a' := ?_) #[true, true, false, false, false, false, false, false, false, false, false, false, false, false, false, false, false, false] rfl rfl (take_ofW HT_.out HW_.out (by kernel_rfl)) (fun _ _ _ h => h) (Or.inl ⟨by rfl, ?_⟩) hHeld ?_ ?_
      rotate_left
      · rintro w' ⟨s0, s1, s2, s3, s4, s5⟩
        go_simp
        with_reducible rfl
      rotate_left
      · simp only [Act.put, List.setIfInBounds_toArray, List.set_cons_zero, List.set_cons_succ, i64_w, i32_w]
        rfl
      refine pure_ (i := 2) (N := some 7) (v := ?_) (a' := ?_) #[true, true, true, false, false, false, false, false, false, false, false, false, false, false, false, false, false, false] rfl rfl (any_of HT_.out (by kernel_rfl)) (fun _ _ _ h => h) (Or.inl ⟨by rfl, ?_⟩) ?_ ?_
      rotate_left
      · intro w'
        go_simp
        with_reducible rfl
      rotate_left
      · simp only [Act.put, List.setIfInBounds_toArray, List.set_cons_zero, List.set_cons_succ, i64_w, i32_w]
        rfl
      refine pure_ (i := 3) (N := some 8) (v := ?_) (a' := ?_) #[true, true, true, true, false, false, false, false, false, false, false, false, false, false, false, false, false, false] rfl rfl (any_of HT_.out (by kernel_rfl)) (fun _ _ _ h => h) (Or.inl ⟨by rfl, ?_⟩) ?_ ?_
      rotate_left
      · intro w'
        go_simp
        with_reducible rfl
      rotate_left
      · simp only [Act.put, List.setIfInBounds_toArray, List.set_cons_zero, List.set_cons_succ, i64_w, i32_w]
        rfl
      refine pure_ (i := 4) (N := some 9) (v := ?_) (a' := ?_) #[true, true, true, true, true, false, false, false, false, false, false, false, false, false, false, false, false, false] rfl rfl (any_of HT_.out (by kernel_rfl)) (fun _ _ _ h => h) (Or.inl ⟨by rfl, ?_⟩) ?_ ?_
      rotate_left
      · intro w'
        go_simp
        with_reducible rfl
      rotate_left
      · simp only [Act.put, List.setIfInBounds_toArray, List.set_cons_zero, List.set_cons_succ, i64_w, i32_w]
        rfl
      refine pure_ (i := 6) (N := some 11) (v := ?_) (a' := ?_) #[true, true, true, true, true, false, true, false, false, false, false, false, false, false, false, false, false, false] rfl rfl (any_of HT_.out (by kernel_rfl)) (fun _ _ _ h => h) (Or.inl ⟨by rfl, ?_⟩) ?_ ?_
      rotate_left
      · intro w'
        go_simp
        with_reducible rfl
      rotate_left
      · simp only [Act.put, List.setIfInBounds_toArray, List.set_cons_zero, List.set_cons_succ, i64_w, i32_w]
        rfl
      refine take_ (i := 5) (N := some 10) (v := ?_) (a' := ?_) #[true, true, true, true, true, true, true, false, false, false, false, false, false, false, false, false, false, false] rfl rfl (take_ofW HT_.out HW_.out (by kernel_rfl)) (fun _ _ _ h => h) (Or.inl ⟨by rfl, ?_⟩) hHeld ?_ ?_
      rotate_left
      · rintro w' ⟨s0, s1, s2, s3, s4, s5⟩
        go_simp
        with_reducible rfl
      rotate_left
      · simp only [Act.put, List.setIfInBounds_toArray, List.set_cons_zero, List.set_cons_succ, i64_w, i32_w]
        rfl
      refine one_ (i := 7) (N := some 12) #[true, true, true, true, true, true, true, true, false, false, false, false, false, false, false, false, false, false] rfl rfl (one_of HT_.out (by kernel_rfl)) (by decide) (fun K hK => ?_)
      refine goes_ Tryd.func124 (by kernel_rfl) rfl #[.int .i64 a1] (by rfl) rfl rfl (by (try simp only [List.map_toArray, List.map_cons, List.map_nil]); first | done | rfl | (simp only [List.length_drop, List.length_take]; rfl)) ?_
      with_reducible refine (pedigreelaw01_word.calls a1 t315 _ ?side1 A4.out).mono ?_
      (case side1 => exact TabB.below HTB.out (by repeat (first | (with_reducible first | exact HB.out | apply below_alloc | apply pw_below_drewN | apply below_drew1 | refine below_set ?_ GE314.out) | exact HB.out)))
      rintro e w11 ⟨rfl, hb⟩
      refine ⟨_, rfl, ?_⟩
      have n0_ := Aside0.mk (blk_below (g := gb314) (o := .cells #[.int .i8 a0_0, .string a0_1, .int .i8 a0_2, .int .i64 a0_3, .string a0_4, .slice A0_5 l0_5.length c0_5] 31 (0, 0)) (by (with_reducible repeat (first | refine blk_drewN ?_ _ | refine blk_drew ?_ | refine blk_alloc ?_ _)); exact BK314.out) hb)
      have n1_ := Aside0.mk (below_step (by repeat (first | (with_reducible first | exact HB.out | apply below_alloc | apply pw_below_drewN | apply below_drew1 | refine below_set ?_ GE314.out) | exact HB.out)) hb)
      clear BK314
      clear HB
      have BK314 := n0_
      have HB := n1_
      clear n0_ n1_
      (try clear hb)
      (try clear hb2)
      (try clear hk)
      (try clear hi)
      refine hK.out _ _ ⟨(blk_cell BK314.out 0).trans rfl, (blk_cell BK314.out 1).trans rfl, (blk_cell BK314.out 2).trans rfl, (blk_cell BK314.out 3).trans rfl, (blk_cell BK314.out 4).trans rfl, (blk_cell BK314.out 5).trans rfl⟩ (fun hHeld => ?_)
      clear hK K
      refine norm_ (a' := ?_) ?_ ?_
      rotate_left
      · show Act.put _ (some 12) _ = _
        simp only [Act.put, List.setIfInBounds_toArray, List.set_cons_zero, List.set_cons_succ, i64_w, i32_w]
        rfl
      refine pure_ (i := 8) (N := some 13) (v := ?_) (a' := ?_) #[true, true, true, true, true, true, true, true, true, false, false, false, false, false, false, false, false, false] rfl rfl (any_of HT_.out (by kernel_rfl)) (fun _ _ _ h => h) (Or.inl ⟨by rfl, ?_⟩) ?_ ?_
      rotate_left
      · intro w'
        go_simp
        with_reducible rfl
      rotate_left
      · simp only [Act.put, List.setIfInBounds_toArray, List.set_cons_zero, List.set_cons_succ, i64_w, i32_w]
        rfl
      refine pure_ (i := 9) (N := some 14) (v := ?_) (a' := ?_) #[true, true, true, true, true, true, true, true, true, true, false, false, false, false, false, false, false, false] rfl rfl (any_of HT_.out (by kernel_rfl)) (fun _ _ _ h => h) (Or.inl ⟨by rfl, ?_⟩) ?_ ?_
      rotate_left
      · intro w'
        go_simp
        with_reducible rfl
      rotate_left
      · simp only [Act.put, List.setIfInBounds_toArray, List.set_cons_zero, List.set_cons_succ, i64_w, i32_w]
        rfl
      refine pure_ (i := 10) (N := some 15) (v := ?_) (a' := ?_) #[true, true, true, true, true, true, true, true, true, true, true, false, false, false, false, false, false, false] rfl rfl (any_of HT_.out (by kernel_rfl)) (fun _ _ _ h => h) (Or.inl ⟨by rfl, ?_⟩) ?_ ?_
      rotate_left
      · intro w'
        go_simp
        with_reducible rfl
      rotate_left
      · simp only [Act.put, List.setIfInBounds_toArray, List.set_cons_zero, List.set_cons_succ, i64_w, i32_w]
        rfl
      refine pure_ (i := 11) (N := some 16) (v := ?_) (a' := ?_) #[true, true, true, true, true, true, true, true, true, true, true, true, false, false, false, false, false, false] rfl rfl (any_of HT_.out (by kernel_rfl)) (fun _ _ _ h => h) (Or.inl ⟨by rfl, ?_⟩) ?_ ?_
      rotate_left
      · intro w'
        go_simp
        with_reducible rfl
      rotate_left
      · simp only [Act.put, List.setIfInBounds_toArray, List.set_cons_zero, List.set_cons_succ, i64_w, i32_w]
        rfl
      refine pure_ (i := 12) (N := some 17) (v := undef) (a' := ?_) #[true, true, true, true, true, true, true, true, true, true, true, true, true, false, false, false, false, false] rfl rfl (any_of HT_.out (by kernel_rfl)) (fun _ _ _ h => h) (Or.inr ⟨by rfl, rfl⟩) ?_ ?_
      rotate_left
      · simp only [Act.put, List.setIfInBounds_toArray, List.set_cons_zero, List.set_cons_succ, i64_w, i32_w]
        rfl
      refine pure_ (i := 13) (N := some 18) (v := undef) (a' := ?_) #[true, true, true, true, true, true, true, true, true, true, true, true, true, true, false, false, false, false] rfl rfl (any_of HT_.out (by kernel_rfl)) (fun _ _ _ h => h) (Or.inr ⟨by rfl, rfl⟩) ?_ ?_
      rotate_left
      · simp only [Act.put, List.setIfInBounds_toArray, List.set_cons_zero, List.set_cons_succ, i64_w, i32_w]
        rfl
      refine pure_ (i := 14) (N := some 19) (v := undef) (a' := ?_) #[true, true, true, true, true, true, true, true, true, true, true, true, true, true, true, false, false, false] rfl rfl (any_of HT_.out (by kernel_rfl)) (fun _ _ _ h => h) (Or.inr ⟨by rfl, rfl⟩) ?_ ?_
      rotate_left
      · simp only [Act.put, List.setIfInBounds_toArray, List.set_cons_zero, List.set_cons_succ, i64_w, i32_w]
        rfl
      refine pure_ (i := 15) (N := some 20) (v := undef) (a' := ?_) #[true, true, true, true, true, true, true, true, true, true, true, true, true, true, true, true, false, false] rfl rfl (any_of HT_.out (by kernel_rfl)) (fun _ _ _ h => h) (Or.inr ⟨by rfl, rfl⟩) ?_ ?_
      rotate_left
      · simp only [Act.put, List.setIfInBounds_toArray, List.set_cons_zero, List.set_cons_succ, i64_w, i32_w]
        rfl
      refine pure_ (i := 16) (N := some 21) (v := ?_) (a' := ?_) #[true, true, true, true, true, true, true, true, true, true, true, true, true, true, true, true, true, false] rfl rfl (any_of HT_.out (by kernel_rfl)) (fun _ _ _ h => h) (Or.inl ⟨by rfl, ?_⟩) ?_ ?_
      rotate_left
      · intro w'
        go_simp
        with_reducible rfl
      rotate_left
      · simp only [Act.put, List.setIfInBounds_toArray, List.set_cons_zero, List.set_cons_succ, i64_w, i32_w]
        rfl
      refine pure_ (i := 17) (N := some 4) (v := ?_) (a' := ?_) #[true, true, true, true, true, true, true, true, true, true, true, true, true, true, true, true, true, true] rfl rfl (any_of HT_.out (by kernel_rfl)) (fun _ _ _ h => h) (Or.inl ⟨by rfl, ?_⟩) ?_ ?_
      rotate_left
      · intro w'
        go_simp
        with_reducible rfl
      rotate_left
      · simp only [Act.put, List.setIfInBounds_toArray, List.set_cons_zero, List.set_cons_succ, i64_w, i32_w]
        rfl
      refine done_ (done_of HT_.out (by kernel_rfl)) ?_
      try go_wp2
      go_ret
      exact ⟨by first | rfl | (simp [errW_none, errW_some] <;> rfl) | (simp [*, errW_none, errW_some] <;> rfl), by repeat (first | (with_reducible first | exact HB.out | apply below_alloc | apply pw_below_drewN | apply below_drew1 | refine below_set ?_ GE314.out) | exact HB.out)⟩
  · rw [if_neg c3] at H
    have c3b0 : (a0_0 == 99) = false := beq_eq_false_iff_ne.mpr c3
    have c3b1 : (a0_0 != 99) = true := bne_iff_ne.mpr c3
    obtain rfl := Option.some.inj H
    go_enter Tryd.func125, Tryd.ntmps125
    try go_wp2_with (first | ((with_reducible refine gate_dst (N := 2) rfl ?_); (try (refine gate_guard (by rfl) ?_; dsimp only)); refine box_event ?hg (N := 2) ?hd (cs := #[.int .i8 a0_0, .string a0_1, .int .i8 a0_2, .int .i64 a0_3, .string a0_4, .slice A0_5 l0_5.length c0_5]) (t := 31) ?hr ?_; (case hd => rfl); (case hg => rfl); (case hr => first | (go_simp; done) | (go_simp; rfl)); intro gb314 hg w12 hbox hb; have n0_ := Aside0.mk (below_step (by repeat (first | (with_reducible first | exact HB.out | apply below_alloc | apply pw_below_drewN | apply below_drew1) | exact HB.out)) hb); have n1_ := Aside0.mk (hbox); have n2_ := Aside0.mk ((by rw [hg]; exact (below_size (by repeat (first | (with_reducible first | exact HB.out | apply below_alloc | apply pw_below_drewN | apply below_drew1) | exact HB.out))) : w.heap.size ≤ gb314)); have n3_ := Aside0.mk ((by rw [hg]; exact (below_size (by repeat (first | (with_reducible first | exact HB.out | apply below_alloc | apply pw_below_drewN | apply below_drew1) | exact HB.out))) : w.heap.size ≤ gb314)); clear HB; have HB := n0_; have BK314 := n1_; have GW314 := n2_; have GE314 := n3_; clear n0_ n1_ n2_ n3_; clear hb hbox hg))
    have n0_ := Aside0.mk (blk_drew BK314.out)
    have n1_ := Aside0.mk (below_drew1 HB.out)
    clear BK314
    clear HB
    have BK314 := n0_
    have HB := n1_
    clear n0_ n1_
    refine start_ (n := 18) (S := fun w' => w'.cell? ⟨gb314, 0, none⟩ = some (.int .i8 a0_0) ∧ w'.cell? ⟨gb314, 1, none⟩ = some (.string a0_1) ∧ w'.cell? ⟨gb314, 2, none⟩ = some (.int .i8 a0_2) ∧ w'.cell? ⟨gb314, 3, none⟩ = some (.int .i64 a0_3) ∧ w'.cell? ⟨gb314, 4, none⟩ = some (.string a0_4) ∧ w'.cell? ⟨gb314, 5, none⟩ = some (.slice A0_5 l0_5.length c0_5)) (ds := []) #[false, false, false, false, false, false, false, false, false, false, false, false, false, false, false, false, false, false] (by kernel_rfl) rfl rfl ⟨(blk_cell BK314.out 0).trans rfl, (blk_cell BK314.out 1).trans rfl, (blk_cell BK314.out 2).trans rfl, (blk_cell BK314.out 3).trans rfl, (blk_cell BK314.out 4).trans rfl, (blk_cell BK314.out 5).trans rfl⟩ (fun hHeld => ?_); refine with_tabW pedigreelaw01_isExpr.tab1 pedigreelaw01_isExpr.bits1 (fun HT_ HW_ => ?_)
    generalize w12.drew = w13 at BK314 HB hHeld ⊢
    refine pure_ (i := 0) (N := some 5) (v := ?_) (a' := ?_) #[true, false, false, false, false, false, false, false, false, false, false, false, false, false, false, false, false, false] rfl rfl (any_of HT_.out (by kernel_rfl)) (fun _ _ _ h => h) (Or.inl ⟨by rfl, ?_⟩) ?_ ?_
    rotate_left
    · intro w'
      go_simp
      with_reducible rfl
    rotate_left
    · simp only [Act.put, List.setIfInBounds_toArray, List.set_cons_zero, List.set_cons_succ, i64_w, i32_w]
      rfl
    refine take_ (i := 1) (N := some 6) (v := ?_) (a' := ?_) #[true, true, false, false, false, false, false, false, false, false, false, false, false, false, false, false, false, false] rfl rfl (take_ofW HT_.out HW_.out (by kernel_rfl)) (fun _ _ _ h => h) (Or.inl ⟨by rfl, ?_⟩) hHeld ?_ ?_
    rotate_left
    · rintro w' ⟨s0, s1, s2, s3, s4, s5⟩
      go_simp
      with_reducible rfl
    rotate_left
    · simp only [Act.put, List.setIfInBounds_toArray, List.set_cons_zero, List.set_cons_succ, i64_w, i32_w]
      rfl
    refine pure_ (i := 2) (N := some 7) (v := ?_) (a' := ?_) #[true, true, true, false, false, false, false, false, false, false, false, false, false, false, false, false, false, false] rfl rfl (any_of HT_.out (by kernel_rfl)) (fun _ _ _ h => h) (Or.inl ⟨by rfl, ?_⟩) ?_ ?_
    rotate_left
    · intro w'
      go_simp
      with_reducible rfl
    rotate_left
    · simp only [Act.put, List.setIfInBounds_toArray, List.set_cons_zero, List.set_cons_succ, i64_w, i32_w]
      rfl
    refine pure_ (i := 3) (N := some 8) (v := ?_) (a' := ?_) #[true, true, true, true, false, false, false, false, false, false, false, false, false, false, false, false, false, false] rfl rfl (any_of HT_.out (by kernel_rfl)) (fun _ _ _ h => h) (Or.inl ⟨by rfl, ?_⟩) ?_ ?_
    rotate_left
    · intro w'
      go_simp
      with_reducible rfl
    rotate_left
    · simp only [Act.put, List.setIfInBounds_toArray, List.set_cons_zero, List.set_cons_succ, i64_w, i32_w]
      rfl
    refine pure_ (i := 4) (N := some 9) (v := undef) (a' := ?_) #[true, true, true, true, true, false, false, false, false, false, false, false, false, false, false, false, false, false] rfl rfl (any_of HT_.out (by kernel_rfl)) (fun _ _ _ h => h) (Or.inr ⟨by rfl, rfl⟩) ?_ ?_
    rotate_left
    · simp only [Act.put, List.setIfInBounds_toArray, List.set_cons_zero, List.set_cons_succ, i64_w, i32_w]
      rfl
    refine pure_ (i := 5) (N := some 10) (v := undef) (a' := ?_) #[true, true, true, true, true, true, false, false, false, false, false, false, false, false, false, false, false, false] rfl rfl (any_of HT_.out (by kernel_rfl)) (fun _ _ _ h => h) (Or.inr ⟨by rfl, rfl⟩) ?_ ?_
    rotate_left
    · simp only [Act.put, List.setIfInBounds_toArray, List.set_cons_zero, List.set_cons_succ, i64_w, i32_w]
      rfl
    refine pure_ (i := 6) (N := some 11) (v := undef) (a' := ?_) #[true, true, true, true, true, true, true, false, false, false, false, false, false, false, false, false, false, false] rfl rfl (any_of HT_.out (by kernel_rfl)) (fun _ _ _ h => h) (Or.inr ⟨by rfl, rfl⟩) ?_ ?_
    rotate_left
    · simp only [Act.put, List.setIfInBounds_toArray, List.set_cons_zero, List.set_cons_succ, i64_w, i32_w]
      rfl
    refine pure_ (i := 7) (N := some 12) (v := undef) (a' := ?_) #[true, true, true, true, true, true, true, true, false, false, false, false, false, false, false, false, false, false] rfl rfl (any_of HT_.out (by kernel_rfl)) (fun _ _ _ h => h) (Or.inr ⟨by rfl, rfl⟩) ?_ ?_
    rotate_left
    · simp only [Act.put, List.setIfInBounds_toArray, List.set_cons_zero, List.set_cons_succ, i64_w, i32_w]
      rfl
    refine pure_ (i := 8) (N := some 13) (v := undef) (a' := ?_) #[true, true, true, true, true, true, true, true, true, false, false, false, false, false, false, false, false, false] rfl rfl (any_of HT_.out (by kernel_rfl)) (fun _ _ _ h => h) (Or.inr ⟨by rfl, rfl⟩) ?_ ?_
    rotate_left
    · simp only [Act.put, List.setIfInBounds_toArray, List.set_cons_zero, List.set_cons_succ, i64_w, i32_w]
      rfl
    refine pure_ (i := 9) (N := some 14) (v := undef) (a' := ?_) #[true, true, true, true, true, true, true, true, true, true, false, false, false, false, false, false, false, false] rfl rfl (any_of HT_.out (by kernel_rfl)) (fun _ _ _ h => h) (Or.inr ⟨by rfl, rfl⟩) ?_ ?_
    rotate_left
    · simp only [Act.put, List.setIfInBounds_toArray, List.set_cons_zero, List.set_cons_succ, i64_w, i32_w]
      rfl
    refine pure_ (i := 10) (N := some 15) (v := ?_) (a' := ?_) #[true, true, true, true, true, true, true, true, true, true, true, false, false, false, false, false, false, false] rfl rfl (any_of HT_.out (by kernel_rfl)) (fun _ _ _ h => h) (Or.inl ⟨by rfl, ?_⟩) ?_ ?_
    rotate_left
    · intro w'
      go_simp
      with_reducible rfl
    rotate_left
    · simp only [Act.put, List.setIfInBounds_toArray, List.set_cons_zero, List.set_cons_succ, i64_w, i32_w]
      rfl
    refine pure_ (i := 11) (N := some 16) (v := ?_) (a' := ?_) #[true, true, true, true, true, true, true, true, true, true, true, true, false, false, false, false, false, false] rfl rfl (any_of HT_.out (by kernel_rfl)) (fun _ _ _ h => h) (Or.inl ⟨by rfl, ?_⟩) ?_ ?_
    rotate_left
    · intro w'
      go_simp
      with_reducible rfl
    rotate_left
    · simp only [Act.put, List.setIfInBounds_toArray, List.set_cons_zero, List.set_cons_succ, i64_w, i32_w]
      rfl
    refine pure_ (i := 12) (N := some 17) (v := undef) (a' := ?_) #[true, true, true, true, true, true, true, true, true, true, true, true, true, false, false, false, false, false] rfl rfl (any_of HT_.out (by kernel_rfl)) (fun _ _ _ h => h) (Or.inr ⟨by rfl, rfl⟩) ?_ ?_
    rotate_left
    · simp only [Act.put, List.setIfInBounds_toArray, List.set_cons_zero, List.set_cons_succ, i64_w, i32_w]
      rfl
    refine pure_ (i := 13) (N := some 18) (v := undef) (a' := ?_) #[true, true, true, true, true, true, true, true, true, true, true, true, true, true, false, false, false, false] rfl rfl (any_of HT_.out (by kernel_rfl)) (fun _ _ _ h => h) (Or.inr ⟨by rfl, rfl⟩) ?_ ?_
    rotate_left
    · simp only [Act.put, List.setIfInBounds_toArray, List.set_cons_zero, List.set_cons_succ, i64_w, i32_w]
      rfl
    refine pure_ (i := 14) (N := some 19) (v := undef) (a' := ?_) #[true, true, true, true, true, true, true, true, true, true, true, true, true, true, true, false, false, false] rfl rfl (any_of HT_.out (by kernel_rfl)) (fun _ _ _ h => h) (Or.inr ⟨by rfl, rfl⟩) ?_ ?_
    rotate_left
    · simp only [Act.put, List.setIfInBounds_toArray, List.set_cons_zero, List.set_cons_succ, i64_w, i32_w]
      rfl
    refine pure_ (i := 15) (N := some 20) (v := undef) (a' := ?_) #[true, true, true, true, true, true, true, true, true, true, true, true, true, true, true, true, false, false] rfl rfl (any_of HT_.out (by kernel_rfl)) (fun _ _ _ h => h) (Or.inr ⟨by rfl, rfl⟩) ?_ ?_
    rotate_left
    · simp only [Act.put, List.setIfInBounds_toArray, List.set_cons_zero, List.set_cons_succ, i64_w, i32_w]
      rfl
    refine pure_ (i := 16) (N := some 21) (v := ?_) (a' := ?_) #[true, true, true, true, true, true, true, true, true, true, true, true, true, true, true, true, true, false] rfl rfl (any_of HT_.out (by kernel_rfl)) (fun _ _ _ h => h) (Or.inl ⟨by rfl, ?_⟩) ?_ ?_
    rotate_left
    · intro w'
      go_simp
      with_reducible rfl
    rotate_left
    · simp only [Act.put, List.setIfInBounds_toArray, List.set_cons_zero, List.set_cons_succ, i64_w, i32_w]
      rfl
    refine pure_ (i := 17) (N := some 4) (v := ?_) (a' := ?_) #[true, true, true, true, true, true, true, true, true, true, true, true, true, true, true, true, true, true] rfl rfl (any_of HT_.out (by kernel_rfl)) (fun _ _ _ h => h) (Or.inl ⟨by rfl, ?_⟩) ?_ ?_
    rotate_left
    · intro w'
      go_simp
      with_reducible rfl
    rotate_left
    · simp only [Act.put, List.setIfInBounds_toArray, List.set_cons_zero, List.set_cons_succ, i64_w, i32_w]
      rfl
    refine done_ (done_of HT_.out (by kernel_rfl)) ?_
    try go_wp2
    go_ret
    exact ⟨by first | rfl | (simp [errW_none, errW_some] <;> rfl) | (simp [*, errW_none, errW_some] <;> rfl), by repeat (first | (with_reducible first | exact HB.out | apply below_alloc | apply pw_below_drewN | apply below_drew1 | refine below_set ?_ GE314.out) | exact HB.out)⟩
end Go.Proofs.YtllcmggmcogokaaDoor.PAll
end

section
namespace Go.Proofs.YtllcmggmcogokaaDoor.PAll
open Go.RowKit Go.Proofs.YtllcmggmcogokaaDoorW.PrintWords Go.Proofs.YtllcmggmcogokaaDoorW.PrintLast Go.Proofs.YtllcmggmcogokaaDoorW.PrintMore
attribute [local go_sem] max2_int min2_int max_two min_two max_three min_three max_four min_four
set_option linter.unusedVariables false
set_option linter.unusedSimpArgs false
abbrev LeExprC (x : S31) : Prop := ∀ (A' : Option Addr) (c' : Nat) (A : Option Addr) (c : Nat) (w : World), Kd.C (orC k31t) w A' (x.f2.length + 1) (marked x.f2 mk31) → x.f2.length + 1 ≤ c' → Kd.C k31 w A x.f2.length x.f2 → x.f2.length ≤ c → TabB w →
    Calls Tryd.prog 43 #[.agg #[.int .i8 x.f0, .string x.f1.f0, .int .i8 x.f1.f1.f0, .int .i64 x.f1.f1.f1, .string x.f1.f1.f2, .slice A' x.f2.length c'], .agg #[.int .i8 x.f0, .string x.f1.f0, .int .i8 x.f1.f1.f0, .int .i64 x.f1.f1.f1, .string x.f1.f1.f2, .slice A x.f2.length c]] w fun e w' => e = .returned (.bool true) ∧ Below w.heap.size w w'
abbrev LeExprsC (l : List S31) : Prop := ∀ (A' : Option Addr) (c' : Nat) (A : Option Addr) (c : Nat) (w : World), Kd.C (orC k31t) w A' (l.length + 1) (marked l mk31) → l.length + 1 ≤ c' → Kd.C k31 w A l.length l → l.length ≤ c → TabB w →
    Calls Tryd.prog 91 #[.slice A' l.length c', .slice A l.length c] w fun e w' => e = .returned (.bool true) ∧ Below w.heap.size w w'
theorem isExpr_spare : pedigreelaw01_isExpr.f 99 spare 0 0 ⟨#[]⟩ [] 777777 = some true := by rw [pedigreelaw01_isExpr.f, word_spare]; simp
set_option maxHeartbeats 4000000 in
set_option maxRecDepth 100000 in
theorem LeExprs_step (l : List S31) (hl : l.length < 2000000) (hE : Hid (∀ k, k < l.length → LeExprC (l.getD k z31))) : LeExprsC l := by
  intro A' c' A c w hr' hc' hr hc hT
  have hm : l.length ≤ 9223372036854775807 := by omega
  have HR' := Lib.hid hr'
  have HR := Lib.hid hr
  have HT := Lib.hid hT
  clear hr hT hr'
  go_enter Tryd.func91, Tryd.ntmps91
  go_wp2_with fail
  go_loopw [5] (fun v wr => ∃ k : Nat, k ≤ l.length ∧ v = .int .i64 k ∧ Hid (Below w.heap.size w wr)) (fun v _ => l.length - (intOf v).toNat)
  case atStart => exact ⟨0, Nat.zero_le _, rfl, Lib.hid (Below.refl _ _)⟩
  case round =>
    obtain ⟨k, hk, rfl, HB⟩ := hrel
    by_cases hlt : k < l.length
    · obtain ⟨ad, A5, c5, e0, g0, g1, g2, g3, g4, g5, hl5, hC5⟩ := at_T31 (Kd.C_below HR.out HB.out) (k : Int) (by omega) (by omega)
      subst e0
      simp only [Int.toNat_natCast] at g0 g1 g2 g3 g4 g5
      obtain ⟨ad', cs, e0', _, hK, hcell⟩ := marked_get (Kd.C_below HR'.out HB.out) z31 k hlt
      subst e0'
      have HY := Lib.hid (show rd_T31 l (k : Int) = l.getD k z31 from rfl)
      rw [← HY.out] at hK
      obtain ⟨A6, c6, rfl, hl6, hC6⟩ := k31t_open hK
      have HE := Lib.hid (hE.out k hlt)
      rw [← HY.out] at HE
      have HC5 := Lib.hid hC5
      have HL5 := Lib.hid hl5
      have HC6 := Lib.hid hC6
      have HL6 := Lib.hid hl6
      generalize rd_T31 l (k : Int) = y at *
      have t0 : wr.cell? (ad'.add (k * 6 + 0)) = some (.int .i8 y.f0) := hcell 0 _ rfl
      have t1 : wr.cell? (ad'.add (k * 6 + 1)) = some (.string y.f1.f0) := hcell 1 _ rfl
      have t2 : wr.cell? (ad'.add (k * 6 + 2)) = some (.int .i8 y.f1.f1.f0) := hcell 2 _ rfl
      have t3 : wr.cell? (ad'.add (k * 6 + 3)) = some (.int .i64 y.f1.f1.f1) := hcell 3 _ rfl
      have t4 : wr.cell? (ad'.add (k * 6 + 4)) = some (.string y.f1.f1.f2) := hcell 4 _ rfl
      have t5 : wr.cell? (ad'.add (k * 6 + 5)) = some (.slice A6 y.f2.length c6) := hcell 5 _ rfl
      rw [Nat.add_zero] at t0
      rw [add_field _ _ 1 (by omega)] at t1
      rw [add_field _ _ 2 (by omega)] at t2
      rw [add_field _ _ 3 (by omega)] at t3
      rw [add_field _ _ 4 (by omega)] at t4
      rw [add_field _ _ 5 (by omega)] at t5
      clear hcell hK hC5 hl5 hC6 hl6
      go_wp2_with fail
      refine start_ (n := 10) (S := fun w' => w'.cell? (ad'.add (k * 6)) = some (.int .i8 y.f0) ∧ w'.cell? (⟨(ad'.add (k * 6)).block, (ad'.add (k * 6)).off + 1, none⟩) = some (.string y.f1.f0) ∧ w'.cell? (⟨(ad'.add (k * 6)).block, (ad'.add (k * 6)).off + 2, none⟩) = some (.int .i8 y.f1.f1.f0) ∧ w'.cell? (⟨(ad'.add (k * 6)).block, (ad'.add (k * 6)).off + 3, none⟩) = some (.int .i64 y.f1.f1.f1) ∧ w'.cell? (⟨(ad'.add (k * 6)).block, (ad'.add (k * 6)).off + 4, none⟩) = some (.string y.f1.f1.f2) ∧ w'.cell? (⟨(ad'.add (k * 6)).block, (ad'.add (k * 6)).off + 5, none⟩) = some (.slice A6 y.f2.length c6) ∧ w'.cell? (ad.add (k * 6)) = some (.int .i8 y.f0) ∧ w'.cell? (⟨(ad.add (k * 6)).block, (ad.add (k * 6)).off + 1, none⟩) = some (.string y.f1.f0) ∧ w'.cell? (⟨(ad.add (k * 6)).block, (ad.add (k * 6)).off + 2, none⟩) = some (.int .i8 y.f1.f1.f0) ∧ w'.cell? (⟨(ad.add (k * 6)).block, (ad.add (k * 6)).off + 3, none⟩) = some (.int .i64 y.f1.f1.f1) ∧ w'.cell? (⟨(ad.add (k * 6)).block, (ad.add (k * 6)).off + 4, none⟩) = some (.string y.f1.f1.f2) ∧ w'.cell? (⟨(ad.add (k * 6)).block, (ad.add (k * 6)).off + 5, none⟩) = some (.slice A5 y.f2.length c5) ∧ Hid (Below wr.heap.size wr w')) (ds := []) #[false, false, false, false, false, false, false, false, false, false] (by kernel_rfl) rfl rfl ⟨t0, t1, t2, t3, t4, t5, g0, g1, g2, g3, g4, g5, (Lib.hid (below_drew (Below.refl _ _)))⟩ (fun hHeld => ?_)
      refine pure_ (i := 0) (N := some 17) (v := ?_) (a' := ?_) #[true, false, false, false, false, false, false, false, false, false] rfl rfl (by kernel_rfl) (fun _ _ _ h => h) (Or.inl ⟨by rfl, ?_⟩) ?_ ?_
      rotate_left
      · intro w'
        go_simp
        with_reducible rfl
      rotate_left
      · simp only [Act.put, List.setIfInBounds_toArray, List.set_cons_zero, List.set_cons_succ, i64_w, i32_w]
        rfl
      refine pure_ (i := 1) (N := some 18) (v := ?_) (a' := ?_) #[true, true, false, false, false, false, false, false, false, false] rfl rfl (by kernel_rfl) (fun _ _ _ h => h) (Or.inl ⟨by rfl, ?_⟩) ?_ ?_
      rotate_left
      · intro w'
        go_simp
        with_reducible rfl
      rotate_left
      · simp only [Act.put, List.setIfInBounds_toArray, List.set_cons_zero, List.set_cons_succ, i64_w, i32_w]
        rfl
      refine pure_ (i := 2) (N := some 19) (v := ?_) (a' := ?_) #[true, true, true, false, false, false, false, false, false, false] rfl rfl (by kernel_rfl) (fun _ _ _ h => h) (Or.inl ⟨by rfl, ?_⟩) ?_ ?_
      rotate_left
      · intro w'
        go_simp
        with_reducible rfl
      rotate_left
      · simp only [Act.put, List.setIfInBounds_toArray, List.set_cons_zero, List.set_cons_succ, i64_w, i32_w]
        rfl
      refine pure_ (i := 4) (N := some 21) (v := ?_) (a' := ?_) #[true, true, true, false, true, false, false, false, false, false] rfl rfl (by kernel_rfl) (fun _ _ _ h => h) (Or.inl ⟨by rfl, ?_⟩) ?_ ?_
      rotate_left
      · intro w'
        go_simp
        with_reducible rfl
      rotate_left
      · simp only [Act.put, List.setIfInBounds_toArray, List.set_cons_zero, List.set_cons_succ, i64_w, i32_w]
        rfl
      refine pure_ (i := 5) (N := some 22) (v := ?_) (a' := ?_) #[true, true, true, false, true, true, false, false, false, false] rfl rfl (by kernel_rfl) (fun _ _ _ h => h) (Or.inl ⟨by rfl, ?_⟩) ?_ ?_
      rotate_left
      · intro w'
        go_simp
        with_reducible rfl
      rotate_left
      · simp only [Act.put, List.setIfInBounds_toArray, List.set_cons_zero, List.set_cons_succ, i64_w, i32_w]
        rfl
      refine pure_ (i := 6) (N := some 23) (v := ?_) (a' := ?_) #[true, true, true, false, true, true, true, false, false, false] rfl rfl (by kernel_rfl) (fun _ _ _ h => h) (Or.inl ⟨by rfl, ?_⟩) ?_ ?_
      rotate_left
      · intro w'
        go_simp
        with_reducible rfl
      rotate_left
      · simp only [Act.put, List.setIfInBounds_toArray, List.set_cons_zero, List.set_cons_succ, i64_w, i32_w]
        rfl
      refine take_ (i := 3) (N := some 20) (v := ?_) (a' := ?_) #[true, true, true, true, true, true, true, false, false, false] rfl rfl (by kernel_rfl) (fun _ _ _ h => h) (Or.inl ⟨by rfl, ?_⟩) hHeld ?_ ?_
      rotate_left
      · rintro w' ⟨s0, s1, s2, s3, s4, s5, s6, s7, s8, s9, s10, s11, s12⟩
        go_simp
        with_reducible rfl
      rotate_left
      · simp only [Act.put, List.setIfInBounds_toArray, List.set_cons_zero, List.set_cons_succ, i64_w, i32_w]
        rfl
      refine take_ (i := 7) (N := some 24) (v := ?_) (a' := ?_) #[true, true, true, true, true, true, true, true, false, false] rfl rfl (by kernel_rfl) (fun _ _ _ h => h) (Or.inl ⟨by rfl, ?_⟩) hHeld ?_ ?_
      rotate_left
      · rintro w' ⟨s0, s1, s2, s3, s4, s5, s6, s7, s8, s9, s10, s11, s12⟩
        go_simp
        with_reducible rfl
      rotate_left
      · simp only [Act.put, List.setIfInBounds_toArray, List.set_cons_zero, List.set_cons_succ, i64_w, i32_w]
        rfl
      refine one_ (i := 8) (N := some 25) #[true, true, true, true, true, true, true, true, true, false] rfl rfl (by kernel_rfl) (by decide) (fun K hK => ?_)
      obtain ⟨s0, s1, s2, s3, s4, s5, s6, s7, s8, s9, s10, s11, s12⟩ := hHeld
      refine goes_ Tryd.func43 (by kernel_rfl) rfl #[.agg #[.int .i8 y.f0, .string y.f1.f0, .int .i8 y.f1.f1.f0, .int .i64 y.f1.f1.f1, .string y.f1.f1.f2, .slice A6 y.f2.length c6], .agg #[.int .i8 y.f0, .string y.f1.f0, .int .i8 y.f1.f1.f0, .int .i64 y.f1.f1.f1, .string y.f1.f1.f2, .slice A5 y.f2.length c5]] (by rfl) rfl rfl (by simp only [List.map_toArray, List.map_cons, List.map_nil]; rfl) ?_
      with_reducible refine (HE.out A6 c6 A5 c5 _ (Kd.C_below HC6.out s12.out) HL6.out (Kd.C_below HC5.out s12.out) HL5.out (HT.out.below (below_step HB.out s12.out))).mono ?_
      rintro e w3 ⟨rfl, hb3⟩
      refine ⟨_, rfl, ?_⟩
      refine hK.out _ _ ⟨(pw_cell_below hb3 s0), (pw_cell_below hb3 s1), (pw_cell_below hb3 s2), (pw_cell_below hb3 s3), (pw_cell_below hb3 s4), (pw_cell_below hb3 s5), (pw_cell_below hb3 s6), (pw_cell_below hb3 s7), (pw_cell_below hb3 s8), (pw_cell_below hb3 s9), (pw_cell_below hb3 s10), (pw_cell_below hb3 s11), (Lib.hid (below_step s12.out hb3))⟩ (fun hHeld => ?_)
      clear hK K
      refine norm_ (a' := ?_) ?_ ?_
      rotate_left
      · show Act.put _ (some 25) _ = _
        simp only [Act.put, List.setIfInBounds_toArray, List.set_cons_zero, List.set_cons_succ, i64_w, i32_w]
        rfl
      refine pure_ (i := 9) (N := some 26) (v := ?_) (a' := ?_) #[true, true, true, true, true, true, true, true, true, true] rfl rfl (by kernel_rfl) (fun _ _ _ h => h) (Or.inl ⟨by rfl, ?_⟩) ?_ ?_
      rotate_left
      · intro w'
        go_simp
        with_reducible rfl
      rotate_left
      · simp only [Act.put, List.setIfInBounds_toArray, List.set_cons_zero, List.set_cons_succ, i64_w, i32_w]
        rfl
      refine done_ (by kernel_rfl) ?_
      obtain ⟨_, _, _, _, _, _, _, _, _, _, _, _, HB1⟩ := hHeld
      have HB2 := Lib.hid (below_step HB.out HB1.out)
      clear HB1
      go_wp2_with fail
      go_roundw
      case rel => exact ⟨k + 1, by omega, by go_num, HB2⟩
      case measure => simp [intOf]; omega
    · have hk' : k = l.length := by omega
      subst hk'
      obtain ⟨ad, rfl, hz⟩ := marked_mark (Kd.C_below HR'.out HB.out)
      have z0 : wr.cell? (ad.add (l.length * 6 + 0)) = some (.int .i8 99) := hz 0 _ rfl
      have z1 : wr.cell? (ad.add (l.length * 6 + 1)) = some (.string spare) := hz 1 _ rfl
      have z2 : wr.cell? (ad.add (l.length * 6 + 2)) = some (.int .i8 0) := hz 2 _ rfl
      have z3 : wr.cell? (ad.add (l.length * 6 + 3)) = some (.int .i64 0) := hz 3 _ rfl
      have z4 : wr.cell? (ad.add (l.length * 6 + 4)) = some (.string ⟨#[]⟩) := hz 4 _ rfl
      have z5 : wr.cell? (ad.add (l.length * 6 + 5)) = some (.slice none 0 0) := hz 5 _ rfl
      rw [Nat.add_zero] at z0
      rw [add_field _ _ 1 (by omega)] at z1
      rw [add_field _ _ 2 (by omega)] at z2
      rw [add_field _ _ 3 (by omega)] at z3
      rw [add_field _ _ 4 (by omega)] at z4
      rw [add_field _ _ 5 (by omega)] at z5
      clear hz
      obtain ⟨i0, hi0, _, hsz, _⟩ := info_parts info31
      have hcut := cut_up (P := Tryd.prog) 29 31 .i64 Tryd.underlying29 hi0 (some ad) l.length c' (l.length + 1 : Int) (by omega) (by omega)
      rw [show (l.length + 1 : Int).toNat = l.length + 1 by omega] at hcut
      clear hi0 hsz
      go_wp2_with fail
      refine (pedigreelaw01_isExpr.calls 99 spare 0 0 ⟨#[]⟩ none 0 [] 777777 true wr (Kd.C_nil _ _) (Nat.le_refl _) (HT.out.below HB.out) isExpr_spare).mono ?_
      rintro e w2 ⟨rfl, hb⟩
      have HB2 := Lib.hid (below_step HB.out hb)
      clear hb HB
      go_wp2_with fail
      go_ret
      exact ⟨rfl, HB2.out⟩
set_option maxHeartbeats 4000000 in
set_option maxRecDepth 100000 in
theorem LeExpr_step (x : S31) (hE : Hid (LeExprsC x.f2)) : LeExprC x := by
  intro A' c' A c w hr' hc' hr hc hT
  have HR' := Lib.hid hr'
  have HR := Lib.hid hr
  have HT := Lib.hid hT
  clear hr hT hr'
  go_enter Tryd.func43, Tryd.ntmps43
  go_wp2_with fail
  have HB0 := Lib.hid (below_alloc (below_alloc (Below.refl w.heap.size w) (.cells #[.int .i8 x.f0, .string x.f1.f0, .int .i8 x.f1.f1.f0, .int .i64 x.f1.f1.f1, .string x.f1.f1.f2, .slice A' x.f2.length c'] 31 (0, 0))) (.cells #[.int .i8 x.f0, .string x.f1.f0, .int .i8 x.f1.f1.f0, .int .i64 x.f1.f1.f1, .string x.f1.f1.f2, .slice A x.f2.length c] 31 (0, 0)))
  refine (hE.out A' c' A c _ (Kd.C_below HR'.out HB0.out) hc' (Kd.C_below HR.out HB0.out) hc (HT.out.below HB0.out)).mono ?_
  rintro e w2 ⟨rfl, hb⟩
  have HB := Lib.hid (below_step HB0.out hb)
  clear hb HB0
  go_wp2_with fail
  go_ret
  exact ⟨rfl, HB.out⟩
theorem LeExpr_both : ∀ n, (∀ x : S31, SizeOf.sizeOf x < n → (exprTermsL x).length < 2000000 → LeExprC x) ∧ (∀ l : List S31, SizeOf.sizeOf l < n → (kidsTermsL l).length < 2000000 → LeExprsC l)
  | 0 => ⟨fun _ h => absurd h (Nat.not_lt_zero _), fun _ h => absurd h (Nat.not_lt_zero _)⟩
  | n + 1 => by
    obtain ⟨h1, h2⟩ := LeExpr_both n
    refine ⟨fun x hx hl => LeExpr_step x (Lib.hid (h2 _ (by have := sizeOf_kids x; omega) (by rw [exprTermsL_eq] at hl; simp at hl; omega))), fun l hx hl => LeExprs_step l (Nat.lt_of_le_of_lt (kids_le l) hl) (Lib.hid (fun k hk => h1 _ (by have := sizeOf_getD l k hk; omega) ?_))⟩
    have := congrArg List.length (kids_parts l k hk)
    simp only [List.length_append] at this
    omega
theorem LeExpr_twin (x : S31) (h : (exprTermsL x).length < 2000000) : LeExprC x := (LeExpr_both _).1 x (Nat.lt_succ_self _) h
end Go.Proofs.YtllcmggmcogokaaDoor.PAll
end

section
namespace Go.Proofs.YtllcmggmcogokaaDoor.PAll
open Go.RowKit Go.Proofs.YtllcmggmcogokaaDoorW.PrintWords Go.Proofs.YtllcmggmcogokaaDoorW.PrintLast Go.Proofs.YtllcmggmcogokaaDoorW.PrintMore
attribute [local go_sem] max2_int min2_int max_two min_two max_three min_three max_four min_four
set_option linter.unusedVariables false
set_option linter.unusedSimpArgs false
attribute [local go_sem high] eqA28
def pedigreelaw01_SameTerms.l0 : Nat → List (S28) → List (S28) → Int → Option (Bool)
  | 0, _, _, _ => none
  | k + 1, x0, x1, x5 => if x5 < (x0.length : Int) then (if 0 ≤ x5 then (if x5 < (x1.length : Int) then (if (!((((rd_T28 x0 x5).f0).toList) == (((rd_T28 x1 x5).f0).toList)) || ((!(((rd_T28 x0 x5).f1.f0) == ((rd_T28 x1 x5).f1.f0)) || (!(((rd_T28 x0 x5).f1.f1) == ((rd_T28 x1 x5).f1.f1)) || (!((((rd_T28 x0 x5).f1.f2).toList) == (((rd_T28 x1 x5).f1.f2).toList))))))) = true then (some false) else (pedigreelaw01_SameTerms.l0 k x0 x1 (wrap64 (x5 + 1)))) else (none)) else (none)) else (some true)
def pedigreelaw01_SameTerms.f (k : Nat) (l0 : List (S28)) (l1 : List (S28)) : Option (Bool) := if (l0.length : Int) = (l1.length : Int) then (pedigreelaw01_SameTerms.l0 k l0 l1 0) else (some false)
theorem pedigreelaw01_SameTerms.mono_l : ∀ k, (∀ y0 y1 y2, LeO (pedigreelaw01_SameTerms.l0 k y0 y1 y2) (pedigreelaw01_SameTerms.l0 (k + 1) y0 y1 y2))
  | 0 => fun _ _ _ r h => by simp [pedigreelaw01_SameTerms.l0] at h
  | k + 1 => by
    have ih0 := pedigreelaw01_SameTerms.mono_l k
    · intro y0 y1 y2
      unfold pedigreelaw01_SameTerms.l0
      repeat' first
      | (with_reducible exact ih0 _ _ _)
      | (with_reducible exact LeO.refl _)
      | (with_reducible exact LeO.none _)
      | (with_reducible refine LeO.ite ?_ ?_)
      | (with_reducible refine LeO.bind ?_ (fun _ => ?_))
      | exact ih0 _ _ _
      | exact LeO.none _
      | refine LeO.ite ?_ ?_
      | refine LeO.bind ?_ (fun _ => ?_)
theorem pedigreelaw01_SameTerms.mono : ∀ a0 a1 k, LeO (pedigreelaw01_SameTerms.f k a0 a1) (pedigreelaw01_SameTerms.f (k + 1) a0 a1) := by
  intro a0 a1 k
  have ih0 := pedigreelaw01_SameTerms.mono_l k
  unfold pedigreelaw01_SameTerms.f
  repeat' first
      | (with_reducible exact ih0 _ _ _)
      | (with_reducible exact LeO.refl _)
      | (with_reducible exact LeO.none _)
      | (with_reducible refine LeO.ite ?_ ?_)
      | (with_reducible refine LeO.bind ?_ (fun _ => ?_))
      | exact ih0 _ _ _
      | exact LeO.none _
      | refine LeO.ite ?_ ?_
      | refine LeO.bind ?_ (fun _ => ?_)
set_option maxHeartbeats 8000000 in
set_option maxRecDepth 100000 in
theorem pedigreelaw01_SameTerms.calls (k : Nat) (A0 : Option Addr) (c0 : Nat) (l0 : List (S28)) (A1 : Option Addr) (c1 : Nat) (l1 : List (S28)) (r : Bool) (w : World) (hr0 : Kd.C k28 w A0 l0.length l0) (hc0 : l0.length ≤ c0) (hr1 : Kd.C k28 w A1 l1.length l1) (hc1 : l1.length ≤ c1) (h : pedigreelaw01_SameTerms.f k l0 l1 = some r) :
    Calls Tryd.prog 78 #[.slice A0 l0.length c0, .slice A1 l1.length c1] w fun e w' => e = .returned (.bool r) ∧ Drawn0 w w' := by
  have hu28 := Tryd.underlying28
  have HR0 := Aside0.mk hr0
  have HC0 := Aside0.mk hc0
  clear hr0 hc0
  have HR1 := Aside0.mk hr1
  have HC1 := Aside0.mk hc1
  clear hr1 hc1
  have H : (if (l0.length : Int) = (l1.length : Int) then (pedigreelaw01_SameTerms.l0 k l0 l1 0) else (some false)) = some r := h
  clear h
  by_cases c3 : (l0.length : Int) = (l1.length : Int)
  · rw [if_pos c3] at H
    have c3b0 : ((l0.length : Int) == (l1.length : Int)) = true := beq_iff_eq.mpr c3
    have c3b1 : ((l0.length : Int) != (l1.length : Int)) = false := bne_eq_false_iff_eq.mpr c3
    have c3b2 : (l0.length == l1.length) = true := by first | simpa using c3 | (simp at c3 ⊢; omega)
    clear c3
    have H' := Aside0.mk H
    clear H
    go_enter Tryd.func78, Tryd.ntmps78
    go_wp2
    repeat (go_quiet (fail); try go_wp2)
    go_loopg [5] k (fun kq v5 w' => ∃ (x5_1 : Int), v5 = .int .i64 x5_1 ∧ Aside0 (pedigreelaw01_SameTerms.l0 kq l0 l1 x5_1 = some r) ∧ Aside0 (kq ≤ k) ∧ Drawn0 w w')
    case atStart => exact ⟨(0), (by first | rfl | (simp; done) | (simp [*]; done)), H', ⟨Nat.le_refl _⟩, by repeat (first | exact Drawn0.refl _ | apply Drawn0.step)⟩
    case round =>
      clear H'
      try clear c1
      try clear p2
      try clear c3
      try clear c3b0
      try clear c3b1
      try clear c3b2
      obtain ⟨x5_1, rfl, HA, HK1, ⟨m1, rfl⟩⟩ := hrel
      cases gk with
      | zero => exact absurd HA.out (by simp [pedigreelaw01_SameTerms.l0])
      | succ k1 =>
        have H := HA.out
        clear HA
        simp only [pedigreelaw01_SameTerms.l0] at H
        by_cases c4 : x5_1 < (l0.length : Int)
        · rw [if_pos c4] at H
          have c4b0 : decide (x5_1 < (l0.length : Int)) = true := decide_eq_true c4
          clear c4
          by_cases c5 : 0 ≤ x5_1
          · rw [if_pos c5] at H
            have c5b0 : decide (0 ≤ x5_1) = true := decide_eq_true c5
            clear c5
            by_cases c6 : x5_1 < (l1.length : Int)
            · rw [if_pos c6] at H
              have c6b0 : decide (x5_1 < (l1.length : Int)) = true := decide_eq_true c6
              clear c6
              by_cases c7 : (!((((rd_T28 l0 x5_1).f0).toList) == (((rd_T28 l1 x5_1).f0).toList)) || ((!(((rd_T28 l0 x5_1).f1.f0) == ((rd_T28 l1 x5_1).f1.f0)) || (!(((rd_T28 l0 x5_1).f1.f1) == ((rd_T28 l1 x5_1).f1.f1)) || (!((((rd_T28 l0 x5_1).f1.f2).toList) == (((rd_T28 l1 x5_1).f1.f2).toList))))))) = true
              · rw [if_pos c7] at H
                have c7b0 : (!((((rd_T28 l0 x5_1).f0).toList) == (((rd_T28 l1 x5_1).f0).toList)) || ((!(((rd_T28 l0 x5_1).f1.f0) == ((rd_T28 l1 x5_1).f1.f0)) || (!(((rd_T28 l0 x5_1).f1.f1) == ((rd_T28 l1 x5_1).f1.f1)) || (!((((rd_T28 l0 x5_1).f1.f2).toList) == (((rd_T28 l1 x5_1).f1.f2).toList))))))) = true := c7
                clear c7
                obtain rfl := Option.some.inj H
                have p318 : 0 ≤ (x5_1 : Int) := of_decide_eq_true (by first | (with_reducible assumption) | assumption)
                have q318 : x5_1 < (l0.length : Int) := of_decide_eq_true (by first | (with_reducible assumption) | assumption)
                obtain ⟨ad318, e318, hx318_0, hx318_1, hx318_2, hx318_3⟩ := at_T28 HR0.out x5_1 p318 q318
                cases e318
                replace p318 := eq_true p318
                replace q318 := eq_true q318
                have p319 : 0 ≤ (x5_1 : Int) := of_decide_eq_true (by first | (with_reducible assumption) | assumption)
                have q319 : x5_1 < (l1.length : Int) := of_decide_eq_true (by first | (with_reducible assumption) | assumption)
                obtain ⟨ad319, e319, hx319_0, hx319_1, hx319_2, hx319_3⟩ := at_T28 HR1.out x5_1 p319 q319
                cases e319
                replace p319 := eq_true p319
                replace q319 := eq_true q319
                go_wp2
                repeat (go_quiet (fail); try go_wp2)
                go_ret
                exact ⟨by first | rfl | (simp; done) | (simp [*]; done), by repeat (first | exact Drawn0.refl _ | apply Drawn0.step)⟩
              · rw [if_neg c7] at H
                have c7b0 : (!((((rd_T28 l0 x5_1).f0).toList) == (((rd_T28 l1 x5_1).f0).toList)) || ((!(((rd_T28 l0 x5_1).f1.f0) == ((rd_T28 l1 x5_1).f1.f0)) || (!(((rd_T28 l0 x5_1).f1.f1) == ((rd_T28 l1 x5_1).f1.f1)) || (!((((rd_T28 l0 x5_1).f1.f2).toList) == (((rd_T28 l1 x5_1).f1.f2).toList))))))) = false := by simpa using c7
                clear c7
                have H' := Aside0.mk H
                clear H
                have p318 : 0 ≤ (x5_1 : Int) := of_decide_eq_true (by first | (with_reducible assumption) | assumption)
                have q318 : x5_1 < (l0.length : Int) := of_decide_eq_true (by first | (with_reducible assumption) | assumption)
                obtain ⟨ad318, e318, hx318_0, hx318_1, hx318_2, hx318_3⟩ := at_T28 HR0.out x5_1 p318 q318
                cases e318
                replace p318 := eq_true p318
                replace q318 := eq_true q318
                have p319 : 0 ≤ (x5_1 : Int) := of_decide_eq_true (by first | (with_reducible assumption) | assumption)
                have q319 : x5_1 < (l1.length : Int) := of_decide_eq_true (by first | (with_reducible assumption) | assumption)
                obtain ⟨ad319, e319, hx319_0, hx319_1, hx319_2, hx319_3⟩ := at_T28 HR1.out x5_1 p319 q319
                cases e319
                replace p319 := eq_true p319
                replace q319 := eq_true q319
                go_wp2
                repeat (go_quiet (fail); try go_wp2)
                go_roundg k1
                case measure => have := HK1.out; omega
                case rel => exact ⟨(wrap64 (x5_1 + 1)), (by first | rfl | (simp; done) | (simp [*]; done)), H', ⟨by have := HK1.out; omega⟩, by repeat (first | exact Drawn0.refl _ | apply Drawn0.step)⟩
            · rw [if_neg c6] at H
              exact absurd H (by simp)
          · rw [if_neg c5] at H
            exact absurd H (by simp)
        · rw [if_neg c4] at H
          have c4b0 : decide (x5_1 < (l0.length : Int)) = false := decide_eq_false c4
          clear c4
          obtain rfl := Option.some.inj H
          go_wp2
          repeat (go_quiet (fail); try go_wp2)
          go_ret
          exact ⟨by first | rfl | (simp; done) | (simp [*]; done), by repeat (first | exact Drawn0.refl _ | apply Drawn0.step)⟩
  · rw [if_neg c3] at H
    have c3b0 : ((l0.length : Int) == (l1.length : Int)) = false := beq_eq_false_iff_ne.mpr c3
    have c3b1 : ((l0.length : Int) != (l1.length : Int)) = true := bne_iff_ne.mpr c3
    have c3b2 : (l0.length == l1.length) = false := by first | simpa using c3 | (simp at c3 ⊢; omega)
    obtain rfl := Option.some.inj H
    go_enter Tryd.func78, Tryd.ntmps78
    go_wp2
    repeat (go_quiet (fail); try go_wp2)
    go_ret
    exact ⟨by first | rfl | (simp; done) | (simp [*]; done), by repeat (first | exact Drawn0.refl _ | apply Drawn0.step)⟩
end Go.Proofs.YtllcmggmcogokaaDoor.PAll
end

section
namespace Go.Proofs.YtllcmggmcogokaaDoor.PAll
open Go.RowKit Go.Proofs.YtllcmggmcogokaaDoorW.PrintWords Go.Proofs.YtllcmggmcogokaaDoorW.PrintLast Go.Proofs.YtllcmggmcogokaaDoorW.PrintMore
attribute [local go_sem] max2_int min2_int max_two min_two max_three min_three max_four min_four
set_option linter.unusedVariables false
set_option linter.unusedSimpArgs false
attribute [local go_sem high] eqA28
def pedigreelaw01_isTerm.f (a0_0 : ByteArray) (a0_1 : Int) (a0_2 : Int) (a0_3 : ByteArray) (a1 : Int) : Option (Bool) := (pedigreelaw01_word.f a1).bind fun t321 => (some (a0_0.toList == t321.toList && ((a0_1 == 0 && (a0_2 == 0 && (a0_3.toList == ([] : List UInt8)))))))
set_option maxHeartbeats 8000000 in
set_option maxRecDepth 100000 in
theorem pedigreelaw01_isTerm.calls (a0_0 : ByteArray) (a0_1 : Int) (a0_2 : Int) (a0_3 : ByteArray) (a1 : Int) (r : Bool) (w : World) (hTB : TabB w) (h : pedigreelaw01_isTerm.f a0_0 a0_1 a0_2 a0_3 a1 = some r) :
    Calls Tryd.prog 132 #[.agg #[.string a0_0, .int .i8 a0_1, .int .i64 a0_2, .string a0_3], .int .i64 a1] w fun e w' => e = .returned (.bool r) ∧ Below w.heap.size w w' := by
  have hu28 := Tryd.underlying28
  have HB := Aside0.mk (Below.refl w.heap.size w)
  have HTB := Aside0.mk hTB
  clear hTB
  have H : ((pedigreelaw01_word.f a1).bind fun t321 => (some (a0_0.toList == t321.toList && ((a0_1 == 0 && (a0_2 == 0 && (a0_3.toList == ([] : List UInt8)))))))) = some r := h
  clear h
  replace H := Option.bind_eq_some_iff.mp H
  obtain ⟨t321, A30, H⟩ := H
  replace H : (some (a0_0.toList == t321.toList && ((a0_1 == 0 && (a0_2 == 0 && (a0_3.toList == ([] : List UInt8))))))) = some r := H
  have A3 := Aside0.mk A30
  clear A30
  obtain rfl := Option.some.inj H
  go_enter Tryd.func132, Tryd.ntmps132
  try go_wp2_with (first | ((with_reducible refine gate_dst (N := 2) rfl ?_); refine box_event ?hg (N := 2) ?hd (cs := #[.string a0_0, .int .i8 a0_1, .int .i64 a0_2, .string a0_3]) (t := 28) ?hr ?_; (case hd => rfl); (case hg => rfl); (case hr => first | (go_simp; done) | (go_simp; rfl)); intro gb320 hg w4 hbox hb; have n0_ := Aside0.mk (below_step (by repeat (first | (with_reducible first | exact HB.out | apply below_alloc | apply pw_below_drewN | apply below_drew1) | exact HB.out)) hb); have n1_ := Aside0.mk (hbox); have n2_ := Aside0.mk ((by rw [hg]; exact (below_size (by repeat (first | (with_reducible first | exact HB.out | apply below_alloc | apply pw_below_drewN | apply below_drew1) | exact HB.out))) : w.heap.size ≤ gb320)); have n3_ := Aside0.mk ((by rw [hg]; exact (below_size (by repeat (first | (with_reducible first | exact HB.out | apply below_alloc | apply pw_below_drewN | apply below_drew1) | exact HB.out))) : w.heap.size ≤ gb320)); clear HB; have HB := n0_; have BK320 := n1_; have GW320 := n2_; have GE320 := n3_; clear n0_ n1_ n2_ n3_; clear hb hbox hg))
  have n0_ := Aside0.mk (blk_drew BK320.out)
  have n1_ := Aside0.mk (below_drew1 HB.out)
  clear BK320
  clear HB
  have BK320 := n0_
  have HB := n1_
  clear n0_ n1_
  refine start_ (n := 6) (S := fun w' => w'.cell? ⟨gb320, 0, none⟩ = some (.string a0_0) ∧ w'.cell? ⟨gb320, 1, none⟩ = some (.int .i8 a0_1) ∧ w'.cell? ⟨gb320, 2, none⟩ = some (.int .i64 a0_2) ∧ w'.cell? ⟨gb320, 3, none⟩ = some (.string a0_3)) (ds := []) #[false, false, false, false, false, false] (by kernel_rfl) rfl rfl ⟨(blk_cell BK320.out 0).trans rfl, (blk_cell BK320.out 1).trans rfl, (blk_cell BK320.out 2).trans rfl, (blk_cell BK320.out 3).trans rfl⟩ (fun hHeld => ?_)
  generalize w4.drew = w5 at BK320 HB hHeld ⊢
  refine pure_ (i := 1) (N := some 6) (v := ?_) (a' := ?_) #[false, true, false, false, false, false] rfl rfl (by kernel_rfl) (fun _ _ _ h => h) (Or.inl ⟨by rfl, ?_⟩) ?_ ?_
  rotate_left
  · intro w'
    go_simp
    with_reducible rfl
  rotate_left
  · simp only [Act.put, List.setIfInBounds_toArray, List.set_cons_zero, List.set_cons_succ, i64_w, i32_w]
    rfl
  refine take_ (i := 0) (N := some 5) (v := ?_) (a' := ?_) #[true, true, false, false, false, false] rfl rfl (by kernel_rfl) (fun _ _ _ h => h) (Or.inl ⟨by rfl, ?_⟩) hHeld ?_ ?_
  rotate_left
  · rintro w' ⟨s0, s1, s2, s3⟩
    go_simp
    with_reducible rfl
  rotate_left
  · simp only [Act.put, List.setIfInBounds_toArray, List.set_cons_zero, List.set_cons_succ, i64_w, i32_w]
    rfl
  refine one_ (i := 2) (N := some 7) #[true, true, true, false, false, false] rfl rfl (by kernel_rfl) (by decide) (fun K hK => ?_)
  refine goes_ Tryd.func124 (by kernel_rfl) rfl #[.int .i64 a1] (by rfl) rfl rfl (by (try simp only [List.map_toArray, List.map_cons, List.map_nil]); first | done | rfl | (simp only [List.length_drop, List.length_take]; rfl)) ?_
  with_reducible refine (pedigreelaw01_word.calls a1 t321 _ ?side1 A3.out).mono ?_
  (case side1 => exact TabB.below HTB.out (by repeat (first | (with_reducible first | exact HB.out | apply below_alloc | apply pw_below_drewN | apply below_drew1 | refine below_set ?_ GE320.out) | exact HB.out)))
  rintro e w6 ⟨rfl, hb⟩
  refine ⟨_, rfl, ?_⟩
  have n0_ := Aside0.mk (blk_below (g := gb320) (o := .cells #[.string a0_0, .int .i8 a0_1, .int .i64 a0_2, .string a0_3] 28 (0, 0)) (by (with_reducible repeat (first | refine blk_drewN ?_ _ | refine blk_drew ?_ | refine blk_alloc ?_ _)); exact BK320.out) hb)
  have n1_ := Aside0.mk (below_step (by repeat (first | (with_reducible first | exact HB.out | apply below_alloc | apply pw_below_drewN | apply below_drew1 | refine below_set ?_ GE320.out) | exact HB.out)) hb)
  clear BK320
  clear HB
  have BK320 := n0_
  have HB := n1_
  clear n0_ n1_
  (try clear hb)
  (try clear hb2)
  (try clear hk)
  (try clear hi)
  refine hK.out _ _ ⟨(blk_cell BK320.out 0).trans rfl, (blk_cell BK320.out 1).trans rfl, (blk_cell BK320.out 2).trans rfl, (blk_cell BK320.out 3).trans rfl⟩ (fun hHeld => ?_)
  clear hK K
  refine norm_ (a' := ?_) ?_ ?_
  rotate_left
  · show Act.put _ (some 7) _ = _
    simp only [Act.put, List.setIfInBounds_toArray, List.set_cons_zero, List.set_cons_succ, i64_w, i32_w]
    rfl
  refine pure_ (i := 3) (N := some 8) (v := ?_) (a' := ?_) #[true, true, true, true, false, false] rfl rfl (by kernel_rfl) (fun _ _ _ h => h) (Or.inl ⟨by rfl, ?_⟩) ?_ ?_
  rotate_left
  · intro w'
    go_simp
    with_reducible rfl
  rotate_left
  · simp only [Act.put, List.setIfInBounds_toArray, List.set_cons_zero, List.set_cons_succ, i64_w, i32_w]
    rfl
  refine pure_ (i := 4) (N := some 9) (v := ?_) (a' := ?_) #[true, true, true, true, true, false] rfl rfl (by kernel_rfl) (fun _ _ _ h => h) (Or.inl ⟨by rfl, ?_⟩) ?_ ?_
  rotate_left
  · intro w'
    go_simp
    with_reducible rfl
  rotate_left
  · simp only [Act.put, List.setIfInBounds_toArray, List.set_cons_zero, List.set_cons_succ, i64_w, i32_w]
    rfl
  refine pure_ (i := 5) (N := some 4) (v := ?_) (a' := ?_) #[true, true, true, true, true, true] rfl rfl (by kernel_rfl) (fun _ _ _ h => h) (Or.inl ⟨by rfl, ?_⟩) ?_ ?_
  rotate_left
  · intro w'
    go_simp
    with_reducible rfl
  rotate_left
  · simp only [Act.put, List.setIfInBounds_toArray, List.set_cons_zero, List.set_cons_succ, i64_w, i32_w]
    rfl
  refine done_ (by kernel_rfl) ?_
  try go_wp2
  go_ret
  exact ⟨by first | rfl | (simp [errW_none, errW_some] <;> rfl) | (simp [*, errW_none, errW_some] <;> rfl), by repeat (first | (with_reducible first | exact HB.out | apply below_alloc | apply pw_below_drewN | apply below_drew1 | refine below_set ?_ GE320.out) | exact HB.out)⟩
end Go.Proofs.YtllcmggmcogokaaDoor.PAll
end

section
namespace Go.Proofs.YtllcmggmcogokaaDoor.PAll
open Go.RowKit Go.Proofs.YtllcmggmcogokaaDoorW.PrintWords Go.Proofs.YtllcmggmcogokaaDoorW.PrintLast Go.Proofs.YtllcmggmcogokaaDoorW.PrintMore
attribute [local go_sem] max2_int min2_int max_two min_two max_three min_three max_four min_four
set_option linter.unusedVariables false
set_option linter.unusedSimpArgs false
theorem SameTerms_refl_l (l : List S28) (hl : l.length < 2000000) : ∀ d i : Nat, l.length - i = d → i ≤ l.length → pedigreelaw01_SameTerms.l0 (d + 1) l l (i : Int) = some true
  | d, i, hd, hi => by
    rw [pedigreelaw01_SameTerms.l0]
    by_cases h : i < l.length
    · rw [if_pos (by omega), if_pos (by omega), if_pos (by omega)]
      obtain ⟨d, rfl⟩ : ∃ e, d = e + 1 := ⟨d - 1, by omega⟩
      rw [if_neg (by simp), wrap64_next (n := l.length) (by omega) hi]
      exact SameTerms_refl_l l hl d (i + 1) (by omega) (by omega)
    · rw [if_neg (by omega)]
theorem SameTerms_refl (l : List S28) (hl : l.length < 2000000) : pedigreelaw01_SameTerms.f (l.length + 1) l l = some true := by
  rw [pedigreelaw01_SameTerms.f, if_pos rfl]
  exact SameTerms_refl_l l hl l.length 0 (by omega) (by omega)
theorem isTerm_spare : pedigreelaw01_isTerm.f spare 0 0 ⟨#[]⟩ 777777 = some true := by rw [pedigreelaw01_isTerm.f, word_spare]; simp
set_option maxHeartbeats 4000000 in
set_option maxRecDepth 100000 in
theorem pedigreelaw01_LeftTerms.twin (A' : Option Addr) (c' : Nat) (A : Option Addr) (c : Nat) (l : List S28) (w : World) (hr' : Kd.C (orC k28) w A' (l.length + 1) (marked l mk28)) (hc' : l.length + 1 ≤ c') (hr : Kd.C k28 w A l.length l) (hc : l.length ≤ c) (hl : l.length < 2000000) (hT : TabB w) :
    Calls Tryd.prog 110 #[.slice A' l.length c', .slice A l.length c] w fun e w' => e = .returned (.bool true) ∧ Below w.heap.size w w' := by
  have hm : l.length ≤ 9223372036854775807 := by omega
  have HR' := Lib.hid hr'
  have HR := Lib.hid hr
  have HT := Lib.hid hT
  clear hr hT hr'
  go_enter Tryd.func110, Tryd.ntmps110
  go_wp2_with fail
  refine (pedigreelaw01_SameTerms.calls (l.length + 1) A' c' l A c l true w (marked_C rfl (fun _ _ _ h => h) HR'.out) (by omega) HR.out hc (SameTerms_refl l hl)).mono ?_
  rintro e w1 ⟨rfl, hb0⟩
  have hb := hb0.below
  clear hb0
  obtain ⟨ad, rfl, hz⟩ := marked_mark (Kd.C_below HR'.out hb)
  have z0 : w1.cell? (ad.add (l.length * 4 + 0)) = some (.string spare) := hz 0 _ rfl
  have z1 : w1.cell? (ad.add (l.length * 4 + 1)) = some (.int .i8 0) := hz 1 _ rfl
  have z2 : w1.cell? (ad.add (l.length * 4 + 2)) = some (.int .i64 0) := hz 2 _ rfl
  have z3 : w1.cell? (ad.add (l.length * 4 + 3)) = some (.string ⟨#[]⟩) := hz 3 _ rfl
  rw [add_field _ _ 1 (by omega)] at z1
  rw [add_field _ _ 2 (by omega)] at z2
  rw [add_field _ _ 3 (by omega)] at z3
  rw [Nat.add_zero] at z0
  clear hz
  have HB := Lib.hid hb
  clear hb
  obtain ⟨i0, hi0, _, hsz, _⟩ := info_parts info28
  have hcut := cut_up (P := Tryd.prog) 51 28 .i64 Tryd.underlying51 hi0 (some ad) l.length c' (l.length + 1 : Int) (by omega) (by omega)
  rw [show (l.length + 1 : Int).toNat = l.length + 1 by omega] at hcut
  clear hi0 hsz
  go_wp2_with fail
  refine (pedigreelaw01_isTerm.calls spare 0 0 ⟨#[]⟩ 777777 true w1 (HT.out.below HB.out) isTerm_spare).mono ?_
  rintro e w2 ⟨rfl, hb⟩
  have HB2 := Lib.hid (below_step HB.out hb)
  clear hb HB
  go_wp2_with fail
  go_ret
  exact ⟨rfl, HB2.out⟩
end Go.Proofs.YtllcmggmcogokaaDoor.PAll
end

section
namespace Go.Proofs.YtllcmggmcogokaaDoor.PAll
open Go.RowKit Go.Proofs.YtllcmggmcogokaaDoorW.PrintWords Go.Proofs.YtllcmggmcogokaaDoorW.PrintLast Go.Proofs.YtllcmggmcogokaaDoorW.PrintMore
attribute [local go_sem] max2_int min2_int max_two min_two max_three min_three max_four min_four
set_option linter.unusedVariables false
set_option linter.unusedSimpArgs false
abbrev LeAtomC (x : S53) : Prop := ∀ (A'0 : Option Addr) (c'0 : Nat) (A0 : Option Addr) (c0 : Nat) (w : World), Kd.C (orC k28) w A'0 (x.f1.length + 1) (marked x.f1 mk28) → x.f1.length + 1 ≤ c'0 → Kd.C k28 w A0 x.f1.length x.f1 → x.f1.length ≤ c0 → TabB w →
    Calls Tryd.prog 70 #[.agg #[.string x.f0, .slice A'0 x.f1.length c'0], .agg #[.string x.f0, .slice A0 x.f1.length c0]] w fun e w' => e = .returned (.bool true) ∧ Below w.heap.size w w'
set_option maxHeartbeats 8000000 in
set_option maxRecDepth 100000 in
theorem LeAtom_step (x : S53) (hS1 : x.f1.length < 2000000) : LeAtomC x := by
  intro A'0 c'0 A0 c0 w hr'0 hc'0 hr0 hc0 hT
  have HR0 := Lib.hid hr0
  have HR'0 := Lib.hid hr'0
  have HT := Lib.hid hT
  clear hT hr0 hr'0
  go_enter Tryd.func70, Tryd.ntmps70
  go_wp2_with fail
  have HK1 := Lib.hid (blk_below (blk_new w (.cells #[.string x.f0, .slice A'0 x.f1.length c'0] 53 (0, 0))) (below_alloc (Below.refl _ _) (.cells #[.string x.f0, .slice A0 x.f1.length c0] 53 (0, 0))))
  have HK2 := Lib.hid (blk_new (w.alloc (.cells #[.string x.f0, .slice A'0 x.f1.length c'0] 53 (0, 0))) (.cells #[.string x.f0, .slice A0 x.f1.length c0] 53 (0, 0)))
  rw [show (w.alloc (.cells #[.string x.f0, .slice A'0 x.f1.length c'0] 53 (0, 0))).heap.size = w.heap.size + 1 by simp] at HK2
  have HB := Lib.hid (below_alloc (below_alloc (Below.refl w.heap.size w) (.cells #[.string x.f0, .slice A'0 x.f1.length c'0] 53 (0, 0))) (.cells #[.string x.f0, .slice A0 x.f1.length c0] 53 (0, 0)))
  generalize (w.alloc (.cells #[.string x.f0, .slice A'0 x.f1.length c'0] 53 (0, 0))).alloc (.cells #[.string x.f0, .slice A0 x.f1.length c0] 53 (0, 0)) = v0 at *
  refine (pedigreelaw01_LeftTerms.twin A'0 c'0 A0 c0 x.f1 v0 (Kd.C_below HR'0.out HB.out) hc'0 (Kd.C_below HR0.out HB.out) hc0 hS1 (HT.out.below HB.out)).mono ?_
  rintro e v1 ⟨rfl, hb⟩
  replace HK1 := Lib.hid (blk_below HK1.out hb)
  replace HK2 := Lib.hid (blk_below HK2.out hb)
  replace HB := Lib.hid (below_step HB.out hb)
  clear hb
  go_wp2_with fail
  go_ret
  exact ⟨rfl, HB.out⟩
end Go.Proofs.YtllcmggmcogokaaDoor.PAll
end
