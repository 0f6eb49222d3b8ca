-- Written by programs of this work and by hand, joined by a program. Lean checks it.
import Derived.Test.YtllcmggmcogokaaDoorRulA4
set_option linter.unusedVariables false
set_option linter.unusedSimpArgs false
section
namespace Go.Proofs.YtllcmggmcogokaaDoor.PAll
open Go.RowKit Go.Proofs.YtllcmggmcogokaaDoorW.PrintWords Go.Proofs.YtllcmggmcogokaaDoorW.PrintLast Go.Proofs.YtllcmggmcogokaaDoorW.PrintMore
attribute [local go_sem] max2_int min2_int max_two min_two max_three min_three max_four min_four
theorem orC_R_back {e : Nat} {w : World} {base : Nat} {ok : Nat → Prop} {v : Value} {xs : List (S31 ⊕ List Value)} (h : (orC k31t).R e w base ok v xs) : ∃ n, (orC (Kd.upto F31t 6 [31] n)).R e w base ok v xs := by
 obtain ⟨h0, inner, ho, h1, h2⟩ := h
 have hn : ∀ m : Nat, m ≤ xs.length → ∃ n, ∀ j p, j < m → xs[j]? = some p → (orC (Kd.upto F31t 6 [31] n)).M w base (fun k => ok k ∧ some k ≠ v.ownBlock) p ((inner.drop (j * 6)).take 6) := by
  intro m
  induction m with
  | zero => exact fun _ => ⟨0, fun j p hj => absurd hj (Nat.not_lt_zero _)⟩
  | succ m ih =>
   intro hm
   obtain ⟨n, hn⟩ := ih (by omega)
   have hp := List.getElem?_eq_getElem (show m < xs.length by omega)
   have hM := h2 m _ hp
   have : ∃ n', (orC (Kd.upto F31t 6 [31] n')).M w base (fun k => ok k ∧ some k ≠ v.ownBlock) xs[m] ((inner.drop (m * 6)).take 6) := by
    cases hx : xs[m] with
    | inl a => rw [hx] at hM; obtain ⟨n', h'⟩ := hM; exact ⟨n', h'⟩
    | inr c => rw [hx] at hM; exact ⟨0, hM⟩
   obtain ⟨n', hn'⟩ := this
   refine ⟨max n n', fun j p hj hjp => ?_⟩
   have up : ∀ {a b : Nat} {q : S31 ⊕ List Value} {cs : List Value}, a ≤ b → (orC (Kd.upto F31t 6 [31] a)).M w base (fun k => ok k ∧ some k ≠ v.ownBlock) q cs → (orC (Kd.upto F31t 6 [31] b)).M w base (fun k => ok k ∧ some k ≠ v.ownBlock) q cs := by
    intro a b q cs hab hq
    exact orM_imp ((sz31t a).trans (sz31t b).symm) (fun _ _ _ _ _ h => Kd.upto_M_le mono31t sz31t hab h) _ _ _ _ _ hq
   rcases Nat.lt_or_ge j m with hlt | hge
   ·exact up (Nat.le_max_left _ _) (hn j p hlt hjp)
   ·have : j = m := by omega
    subst this
    rw [hp] at hjp
    injection hjp with hjp
    subst hjp
    exact up (Nat.le_max_right _ _) hn'
 obtain ⟨n, hn⟩ := hn xs.length (Nat.le_refl _)
 have hsz : (orC (Kd.upto F31t 6 [31] n)).sz = 6 := sz31t n
 refine ⟨n, h0, inner, by rw [hsz]; exact ho, by rw [hsz]; exact h1, fun j p hj => by rw [hsz]; exact hn j p (List.getElem?_eq_some_iff.1 hj).1 hj⟩
theorem k31t_mkM (w : World) (base : Nat) (ok : Nat → Prop) (x : S31) {A5 : Option Addr} {c5 : Nat} (g5 : (orC k31t).R 31 w base ok (.slice A5 (x.f2.length + 1) c5) (marked x.f2 mk31)) : k31t.M w base ok x [.int .i8 x.f0, .string x.f1.f0, .int .i8 x.f1.f1.f0, .int .i64 x.f1.f1.f1, .string x.f1.f1.f2, .slice A5 x.f2.length c5] := by
 obtain ⟨n5, q5⟩ := orC_R_back g5
 exact ⟨n5 + 1, ⟨[.int .i8 x.f0], [.string x.f1.f0, .int .i8 x.f1.f1.f0, .int .i64 x.f1.f1.f1, .string x.f1.f1.f2, .slice A5 x.f2.length c5], rfl, rfl, ⟨[.string x.f1.f0, .int .i8 x.f1.f1.f0, .int .i64 x.f1.f1.f1, .string x.f1.f1.f2], [.slice A5 x.f2.length c5], rfl, (k28_mkM w base ok x.f1 ), ⟨A5, c5, rfl, q5⟩⟩⟩⟩
theorem k31t_plain : ∀ (w : World) (x : S31) (cs : List Value), k31t.K w x cs → k31.K w x cs := by
 intro w x cs h
 obtain ⟨n, h⟩ := h
 refine ⟨n, ?_⟩
 induction n generalizing x cs with
 | zero => exact h.elim
 | succ n ih =>
  obtain ⟨c0, c1, rfl, h0, ⟨c2, c3, rfl, h1, h2⟩⟩ := h
  obtain ⟨A, c, rfl, hl, hr⟩ := h2
  refine ⟨c0, _, rfl, h0, ⟨c2, _, rfl, h1, ⟨A, c, rfl, by omega, ?_⟩⟩⟩
  obtain ⟨q1, q2, q3⟩ := hr
  refine ⟨rfl, by omega, fun hn => ?_⟩
  obtain ⟨ad, e, hc⟩ := q3 (by omega)
  refine ⟨ad, e, fun j p hj => ?_⟩
  have hlj := (List.getElem?_eq_some_iff.1 hj).1
  obtain ⟨c', hcs, hK, hcell⟩ := hc j (.inl p) (by rw [marked, List.getElem?_append_left (by simpa using hlj)]; simp [hj])
  have s1 : (Kd.upto F31 6 [31] n).sz = 6 := sz31 n
  have s2 : (orC (Kd.upto F31t 6 [31] n)).sz = 6 := sz31t n
  rw [s2] at hcs hcell
  rw [s1]
  exact ⟨c', hcs, ih p c' hK, hcell⟩
def TwExprC (x : S31) : Prop := ∀ (A : Option Addr) (c : Nat) (w : World), Kd.C k31 w A x.f2.length x.f2 → x.f2.length ≤ c → TabB w →
  Calls Tryd.prog 41 #[.agg #[.int .i8 x.f0, .string x.f1.f0, .int .i8 x.f1.f1.f0, .int .i64 x.f1.f1.f1, .string x.f1.f1.f2, .slice A x.f2.length c]] w fun e w' => ∃ cs, e = .returned (.agg cs.toArray) ∧ k31t.M w' w.heap.size (fun _ => True) x cs ∧ Below w.heap.size w w'
def TwExprsC (l : List S31) : Prop := ∀ (A : Option Addr) (c : Nat) (w : World), Kd.C k31 w A l.length l → l.length ≤ c → TabB w →
  Calls Tryd.prog 89 #[.slice A l.length c] w fun e w' => ∃ A' c', e = .returned (.slice A' l.length c') ∧ (orC k31t).R 31 w' w.heap.size (fun _ => True) (.slice A' (l.length + 1) c') (marked l mk31) ∧ Below w.heap.size w w'
structure TwExprsI (w wr : World) (g cap : Nat) (l : List S31) (k : Nat) : Prop where
 row : (orC k31t).R 31 wr w.heap.size (fun _ => True) (.slice (some ⟨g, 0, none⟩) (l.length + 1) cap) (begun l k [.int .i8 0, .string ⟨#[]⟩, .int .i8 0, .int .i64 0, .string ⟨#[]⟩, .slice none 0 0])
 below : Below w.heap.size w wr
 base : w.heap.size ≤ g
 lt : g < wr.heap.size
set_option maxHeartbeats 4000000 in
set_option maxRecDepth 100000 in
theorem TwExprs_step (l : List S31) (hl : l.length < 2000000) (hE : Hid (∀ k, k < l.length → TwExprC (l.getD k z31))) : TwExprsC l := by
 intro A c w hr hc hT
 have hm : l.length ≤ 9223372036854775807 := by omega
 have HR := Lib.hid hr
 have HT := Lib.hid hT
 clear hr hT
 go_enter Tryd.func89, Tryd.ntmps89
 go_wp2_with ((with_reducible refine xar (N := 8) rfl ?_); go_loud (refine Kd.R_make (orC k31t) w.heap.size 31 rfl (N := 8) rfl 29 _ _ rfl (l.length + 1 : Int) rfl rfl Tryd.underlying29 (.agg #[(.int .i8 0), (.string ⟨#[]⟩), (.int .i8 0), (.int .i64 0), (.string ⟨#[]⟩), (.slice none 0 0)]) 80 info31 rfl (by decide) (by omega) (.inr [.int .i8 0, .string ⟨#[]⟩, .int .i8 0, .int .i64 0, .string ⟨#[]⟩, .slice none 0 0]) (ok := fun _ => True) (okp := fun _ => True) ⟨rfl, rfl, by decide⟩ (fun _ hk => hk) trivial (by omega) (by omega) (Below.refl _ _) (Nat.le_refl _) ?_); intro v1 w1 hR1 hB1 _ _; rw [show (l.length + 1 : Int).toNat = l.length + 1 by omega, ← xbm] at hR1; obtain ⟨g, cap, rfl, hg, hg2, _⟩ := Kd.R_form hR1 (by rw [xbm]; simp); rw [xbh _ _ _ (Nat.zero_le _)] at hR1 ⊢; have HI := Lib.hid (show TwExprsI w w1 g cap l 0 from ⟨hR1, hB1, hg, hg2⟩); clear hR1 hB1 hg hg2)
 go_loopw [4] (fun v wr => ∃ k : Nat, k ≤ l.length ∧ v = .int .i64 k ∧ Hid (TwExprsI w wr g cap l k)) (fun v _ => l.length - (intOf v).toNat)
 case atStart => exact ⟨0, Nat.zero_le _, rfl, HI⟩
 case round =>
  clear HI
  obtain ⟨k, hk, rfl, HI⟩ := hrel
  by_cases hlt : k < l.length
  ·obtain ⟨ad, A5, c5, e0, g0, g1, g2, g3, g4, g5, hl5, hC5⟩ := at_T31 HR.out (k : Int) (by omega) (by omega)
   subst e0
   simp only [Int.toNat_natCast] at g0 g1 g2 g3 g4 g5
   replace g0 := (HI.out.below.cell (World.block_lt_of_cell? w _ g0)).trans g0
   replace g1 := (HI.out.below.cell (World.block_lt_of_cell? w _ g1)).trans g1
   replace g2 := (HI.out.below.cell (World.block_lt_of_cell? w _ g2)).trans g2
   replace g3 := (HI.out.below.cell (World.block_lt_of_cell? w _ g3)).trans g3
   replace g4 := (HI.out.below.cell (World.block_lt_of_cell? w _ g4)).trans g4
   replace g5 := (HI.out.below.cell (World.block_lt_of_cell? w _ g5)).trans g5
   have HE := Lib.hid (hE.out k hlt)
   have HY := Lib.hid (show rd_T31 l (k : Int) = l.getD k z31 from rfl)
   rw [← HY.out] at HE
   have HC5 := Lib.hid hC5
   have HL5 := Lib.hid hl5
   clear hC5 hl5
   generalize rd_T31 l (k : Int) = y at *
   go_wp2_with fail
   refine (HE.out A5 c5 wr (Kd.C_below HC5.out HI.out.below) HL5.out (HT.out.below HI.out.below)).mono ?_
   rintro e w2 ⟨cs, rfl, hM, hb⟩
   have HI1 : Hid (TwExprsI w w2 g cap l k) := Lib.hid ⟨Kd.R_below HI.out.row hb, xah HI.out.below hb, HI.out.base, Nat.lt_of_lt_of_le HI.out.lt hb.size⟩
   have hM2 := k31t.M_lower HI.out.below.size (k31t.M_bound hM)
   obtain ⟨A6, c6, rfl, _⟩ := k31t_openM hM
   obtain ⟨_, hz, hf⟩ := xbe HI1.out.row hk
   have z0 : w2.cell? ⟨g, k * 6, none⟩ = some (.int .i8 0) := hz 0 _ rfl
   have z1 : w2.cell? ⟨g, k * 6 + 1, none⟩ = some (.string ⟨#[]⟩) := hz 1 _ rfl
   have z2 : w2.cell? ⟨g, k * 6 + 2, none⟩ = some (.int .i8 0) := hz 2 _ rfl
   have z3 : w2.cell? ⟨g, k * 6 + 3, none⟩ = some (.int .i64 0) := hz 3 _ rfl
   have z4 : w2.cell? ⟨g, k * 6 + 4, none⟩ = some (.string ⟨#[]⟩) := hz 4 _ rfl
   have z5 : w2.cell? ⟨g, k * 6 + 5, none⟩ = some (.slice none 0 0) := hz 5 _ rfl
   have f0 : w2.frozen? ⟨g, k * 6, none⟩ = false := hf 0
   have f1 : w2.frozen? ⟨g, k * 6 + 1, none⟩ = false := hf 1
   have f2 : w2.frozen? ⟨g, k * 6 + 2, none⟩ = false := hf 2
   have f3 : w2.frozen? ⟨g, k * 6 + 3, none⟩ = false := hf 3
   have f4 : w2.frozen? ⟨g, k * 6 + 4, none⟩ = false := hf 4
   have f5 : w2.frozen? ⟨g, k * 6 + 5, none⟩ = false := hf 5
   have HP := Lib.hid (begun_put HI1.out.row hlt z31 (by rw [← HY.out]; exact hM2) (fun k' h => ⟨trivial, by have := h.2.1; have := HI.out.lt; omega⟩))
   clear hz hf hM hM2 hb HI g0 g1 g2 g3 g4 g5 HE
   go_wp2_with ((with_reducible refine xay (t := 31) (p := 22) rfl ?_); (refine xba (t := 31) (p := 22) (v := ?vo) (w1 := w2.setCells g (k * 6) [.int .i8 y.f0, .string y.f1.f0, .int .i8 y.f1.f1.f0, .int .i64 y.f1.f1.f1, .string y.f1.f1.f2, .slice A6 y.f2.length c6]) ?hg ?ho ?hn ?hr ?_; (case ho => rfl); (case hg => rfl); (case hn => rfl); (case hr => first | (go_simp; done) | (go_simp; rfl))); intro w3 hw; have HI2 : Hid (TwExprsI w w3 g cap l (k + 1)) := Lib.hid ⟨by rw [hw]; exact HP.out.1, by rw [hw]; exact xad (xad (xad (xad (xad (xad HI1.out.below HI1.out.base) HI1.out.base) HI1.out.base) HI1.out.base) HI1.out.base) HI1.out.base, HI1.out.base, by rw [hw]; exact Kd.R_lt HP.out.1 g rfl⟩; clear hw)
   go_roundw
   case rel => exact ⟨k + 1, by omega, by go_num, HI2⟩
   case measure => simp [intOf]; omega
  ·have hk' : k = l.length := by omega
   subst hk'
   go_wp2_with fail
   refine (markExpr_mark wr (HT.out.below HI.out.below)).mono ?_
   rintro e w2 ⟨rfl, hb⟩
   have HI2 : Hid (TwExprsI w w2 g cap l l.length) := Lib.hid ⟨Kd.R_below HI.out.row hb, xah HI.out.below hb, HI.out.base, Nat.lt_of_lt_of_le HI.out.lt hb.size⟩
   clear HI hb
   have HP := Lib.hid (begun_end HI2.out.row (seg := mk31) ⟨rfl, by decide⟩)
   obtain ⟨_, hz, hf⟩ := xbe HI2.out.row (Nat.le_refl _)
   have z0 : w2.cell? ⟨g, l.length * 6, none⟩ = some (.int .i8 0) := hz 0 _ rfl
   have z1 : w2.cell? ⟨g, l.length * 6 + 1, none⟩ = some (.string ⟨#[]⟩) := hz 1 _ rfl
   have z2 : w2.cell? ⟨g, l.length * 6 + 2, none⟩ = some (.int .i8 0) := hz 2 _ rfl
   have z3 : w2.cell? ⟨g, l.length * 6 + 3, none⟩ = some (.int .i64 0) := hz 3 _ rfl
   have z4 : w2.cell? ⟨g, l.length * 6 + 4, none⟩ = some (.string ⟨#[]⟩) := hz 4 _ rfl
   have z5 : w2.cell? ⟨g, l.length * 6 + 5, none⟩ = some (.slice none 0 0) := hz 5 _ rfl
   have f0 : w2.frozen? ⟨g, l.length * 6, none⟩ = false := hf 0
   have f1 : w2.frozen? ⟨g, l.length * 6 + 1, none⟩ = false := hf 1
   have f2 : w2.frozen? ⟨g, l.length * 6 + 2, none⟩ = false := hf 2
   have f3 : w2.frozen? ⟨g, l.length * 6 + 3, none⟩ = false := hf 3
   have f4 : w2.frozen? ⟨g, l.length * 6 + 4, none⟩ = false := hf 4
   have f5 : w2.frozen? ⟨g, l.length * 6 + 5, none⟩ = false := hf 5
   clear hz hf
   obtain ⟨i0, hi0, _, hsz, _⟩ := info_parts info31
   have hcut := cut_to (P := Tryd.prog) 29 31 .i64 Tryd.underlying29 hi0 (some ⟨g, 0, none⟩) (l.length + 1) cap (l.length : Int) (by omega) (by omega) (by have := (Kd.R_reads' HI2.out.row).2.1; exact this)
   rw [show (l.length : Int).toNat = l.length by omega] at hcut
   clear hi0 hsz
   go_wp2_with ((with_reducible refine xay (t := 31) (p := 27) rfl ?_); (refine xba (t := 31) (p := 27) (v := ?vo2) (w1 := w2.setCells g (l.length * 6) [.int .i8 99, .string spare, .int .i8 0, .int .i64 0, .string ⟨#[]⟩, .slice none 0 0]) ?hg ?ho ?hn ?hr ?_; (case ho => rfl); (case hg => rfl); (case hn => rfl); (case hr => first | (go_simp; done) | (go_simp; rfl))); intro w3 hw; have HR3 : Hid (((orC k31t).R 31 w3 w.heap.size (fun _ => True) (.slice (some ⟨g, 0, none⟩) (l.length + 1) cap) (marked l mk31)) ∧ Below w.heap.size w w3) := Lib.hid ⟨by rw [hw]; exact HP.out.1, by rw [hw]; exact xad (xad (xad (xad (xad (xad HI2.out.below HI2.out.base) HI2.out.base) HI2.out.base) HI2.out.base) HI2.out.base) HI2.out.base⟩; clear hw)
   go_ret
   exact ⟨_, _, rfl, HR3.out.1, HR3.out.2⟩
set_option maxHeartbeats 4000000 in
set_option maxRecDepth 100000 in
theorem TwExpr_step (x : S31) (hE : Hid (TwExprsC x.f2)) : TwExprC x := by
 intro A c w hr hc hT
 have HR := Lib.hid hr
 have HT := Lib.hid hT
 clear hr hT
 go_enter Tryd.func41, Tryd.ntmps41
 go_wp2_with fail
 have HB0 := Lib.hid (xab (xab (Below.refl w.heap.size w) (.cells #[.int .i8 x.f0, .string x.f1.f0, .int .i8 x.f1.f1.f0, .int .i64 x.f1.f1.f1, .string x.f1.f1.f2, .slice A x.f2.length c] 31 (0, 0))) (.cells #[.int .i8 0, .string ⟨#[]⟩, .int .i8 0, .int .i64 0, .string ⟨#[]⟩, .slice none 0 0] 31 (0, 0)))
 refine (hE.out A c _ (Kd.C_below HR.out HB0.out) hc (HT.out.below HB0.out)).mono ?_
 rintro e w2 ⟨A6, c6, rfl, hR, hb⟩
 have hk1 := xam (xaz w (.cells #[.int .i8 x.f0, .string x.f1.f0, .int .i8 x.f1.f1.f0, .int .i64 x.f1.f1.f1, .string x.f1.f1.f2, .slice A x.f2.length c] 31 (0, 0))) (xab (Below.refl _ _) (.cells #[.int .i8 0, .string ⟨#[]⟩, .int .i8 0, .int .i64 0, .string ⟨#[]⟩, .slice none 0 0] 31 (0, 0)))
 have hk2 := xam (xaz (w.alloc (.cells #[.int .i8 x.f0, .string x.f1.f0, .int .i8 x.f1.f1.f0, .int .i64 x.f1.f1.f1, .string x.f1.f1.f2, .slice A x.f2.length c] 31 (0, 0))) (.cells #[.int .i8 0, .string ⟨#[]⟩, .int .i8 0, .int .i64 0, .string ⟨#[]⟩, .slice none 0 0] 31 (0, 0))) hb
 replace hk1 := xam hk1 hb
 rw [show (w.alloc (.cells #[.int .i8 x.f0, .string x.f1.f0, .int .i8 x.f1.f1.f0, .int .i64 x.f1.f1.f1, .string x.f1.f1.f2, .slice A x.f2.length c] 31 (0, 0))).heap.size = w.heap.size + 1 by simp] at hk2
 have HB := Lib.hid (xah HB0.out hb)
 have hR2 := Kd.R_bound hR
 have hsz : w.heap.size + 2 = ((w.alloc (.cells #[.int .i8 x.f0, .string x.f1.f0, .int .i8 x.f1.f1.f0, .int .i64 x.f1.f1.f1, .string x.f1.f1.f2, .slice A x.f2.length c] 31 (0, 0))).alloc (.cells #[.int .i8 0, .string ⟨#[]⟩, .int .i8 0, .int .i64 0, .string ⟨#[]⟩, .slice none 0 0] 31 (0, 0))).heap.size := by simp
 rw [← hsz] at hR2
 have HR6 := Lib.hid (show (orC k31t).R 31 w2 w.heap.size (fun k => w.heap.size + 2 ≤ k) (.slice A6 (x.f2.length + 1) c6) (marked x.f2 mk31) from Kd.R_lower (Kd.R_mono hR2 (fun k h => h.2.1)) (by omega))
 clear hR2 hsz hR hb HB0
 have p0 := xae hk1 0
 have pf0 := xal hk1 0
 have p1 := xae hk1 1
 have pf1 := xal hk1 1
 have p2 := xae hk1 2
 have pf2 := xal hk1 2
 have p3 := xae hk1 3
 have pf3 := xal hk1 3
 have p4 := xae hk1 4
 have pf4 := xal hk1 4
 have p5 := xae hk1 5
 have pf5 := xal hk1 5
 have q0 := xae hk2 0
 have qf0 := xal hk2 0
 have q1 := xae hk2 1
 have qf1 := xal hk2 1
 have q2 := xae hk2 2
 have qf2 := xal hk2 2
 have q3 := xae hk2 3
 have qf3 := xal hk2 3
 have q4 := xae hk2 4
 have qf4 := xal hk2 4
 have q5 := xae hk2 5
 have qf5 := xal hk2 5
 simp at p0 q0 p1 q1 p2 q2 p3 q3 p4 q4 p5 q5
 have HK1 := Lib.hid hk1
 have HK2 := Lib.hid hk2
 clear hk1 hk2
 go_wp2_with fail
 have hkf : (w2.setCell ⟨w.heap.size, 5, none⟩ (.slice A6 x.f2.length c6)).heap[w.heap.size + 1]? = _ := (Below.heap_setCell w2 ⟨w.heap.size, 5, none⟩ (.slice A6 x.f2.length c6) (w.heap.size + 1) (by show w.heap.size + 1 ≠ w.heap.size; omega)).trans HK2.out
 refine bodyPost_ret (results_cell_row rfl _ _ (w.heap.size + 1) 31 #[.int .i8 x.f0, .string x.f1.f0, .int .i8 x.f1.f1.f0, .int .i64 x.f1.f1.f1, .string x.f1.f1.f2, .slice A6 x.f2.length c6] (0, 0) _ rfl (xas (xas (xas (xas (xas (xas hkf 0 _ rfl) 1 _ rfl) 2 _ rfl) 3 _ rfl) 4 _ rfl) 5 _ rfl) Tryd.underlying31 rfl (by kernel_rfl)) rfl ?_
 have hR7 := Kd.R_far (Kd.R_far (Kd.R_far (Kd.R_far (Kd.R_far (Kd.R_far (Kd.R_far HR6.out (p := ⟨w.heap.size, 5, none⟩) (fun k h => by show k ≠ w.heap.size; omega) (.slice A6 x.f2.length c6)) (p := ⟨w.heap.size + 1, 0, none⟩) (fun k h => by show k ≠ w.heap.size + 1; omega) (.int .i8 x.f0)) (p := ⟨w.heap.size + 1, 1, none⟩) (fun k h => by show k ≠ w.heap.size + 1; omega) (.string x.f1.f0)) (p := ⟨w.heap.size + 1, 2, none⟩) (fun k h => by show k ≠ w.heap.size + 1; omega) (.int .i8 x.f1.f1.f0)) (p := ⟨w.heap.size + 1, 3, none⟩) (fun k h => by show k ≠ w.heap.size + 1; omega) (.int .i64 x.f1.f1.f1)) (p := ⟨w.heap.size + 1, 4, none⟩) (fun k h => by show k ≠ w.heap.size + 1; omega) (.string x.f1.f1.f2)) (p := ⟨w.heap.size + 1, 5, none⟩) (fun k h => by show k ≠ w.heap.size + 1; omega) (.slice A6 x.f2.length c6)
 exact ⟨_, rfl, k31t_mkM _ _ _ x (Kd.R_mono hR7 (fun _ _ => trivial)), xad (xad (xad (xad (xad (xad (xad HB.out (Nat.le_refl _)) (Nat.le_succ _)) (Nat.le_succ _)) (Nat.le_succ _)) (Nat.le_succ _)) (Nat.le_succ _)) (Nat.le_succ _)⟩
theorem kids_le : ∀ l : List S31, l.length ≤ (kidsTermsL l).length
 | [] => Nat.zero_le _
 | e :: r => by
  rw [kidsTermsL, xbc]
  have := kids_le r
  simp
  omega
theorem TwExpr_both : ∀ n, (∀ x : S31, SizeOf.sizeOf x < n → (exprTermsL x).length < 2000000 → TwExprC x) ∧ (∀ l : List S31, SizeOf.sizeOf l < n → (kidsTermsL l).length < 2000000 → TwExprsC l)
 | 0 => ⟨fun _ h => absurd h (Nat.not_lt_zero _), fun _ h => absurd h (Nat.not_lt_zero _)⟩
 | n + 1 => by
  obtain ⟨h1, h2⟩ := TwExpr_both n
  refine ⟨fun x hx hl => TwExpr_step x (Lib.hid (h2 _ (by have := sizeOf_kids x; omega) (by rw [xbc] at hl; simp at hl; omega))), fun l hx hl => TwExprs_step l (Nat.lt_of_le_of_lt (kids_le l) hl) (Lib.hid (fun k hk => h1 _ (by have := sizeOf_getD l k hk; omega) ?_))⟩
  have := congrArg List.length (kids_parts l k hk)
  simp only [List.length_append] at this
  omega
theorem TwExpr_twin (x : S31) (h : (exprTermsL x).length < 2000000) : TwExprC x := (TwExpr_both _).1 x (Nat.lt_succ_self _) h
def w1_markTerm.f (a0 : Int) : Option (ByteArray × Int × Int × ByteArray) := (w1_word.f a0).bind fun t268 => (some (t268, 0, 0, (⟨#[]⟩ : ByteArray)))
set_option maxHeartbeats 8000000 in
set_option maxRecDepth 100000 in
theorem w1_markTerm.calls (a0 : Int) (r1 : ByteArray) (r2 : Int) (r3 : Int) (r4 : ByteArray) (w : World) (hTB : TabB w) (h : w1_markTerm.f a0 = some (r1, r2, r3, r4)) :
  Calls Tryd.prog 131 #[.int .i64 a0] w fun e w' => e = .returned (.agg #[.string r1, .int .i8 r2, .int .i64 r3, .string r4]) ∧ Below w.heap.size w w' := by
 have hu28 := Tryd.underlying28
 have HB := Aside0.mk (Below.refl w.heap.size w)
 have HTB := Aside0.mk hTB
 clear hTB
 have H : ((w1_word.f a0).bind fun t268 => (some (t268, 0, 0, (⟨#[]⟩ : ByteArray)))) = some (r1, r2, r3, r4) := h
 clear h
 replace H := Option.bind_eq_some_iff.mp H
 obtain ⟨t268, A20, H⟩ := H
 replace H : (some (t268, 0, 0, (⟨#[]⟩ : ByteArray))) = some (r1, r2, r3, r4) := H
 have A2 := Aside0.mk A20
 clear A20
 simp only [Option.some.injEq, Prod.mk.injEq] at H
 obtain ⟨rfl, rfl, rfl, rfl⟩ := H
 go_enter Tryd.func131, Tryd.ntmps131
 go_wp2_with (first | ((with_reducible refine xar (N := 2) rfl ?_); refine xap ?hg (N := 2) ?hd (cs := #[.string (⟨#[]⟩ : ByteArray), .int .i8 0, .int .i64 0, .string (⟨#[]⟩ : ByteArray)]) (t := 28) ?hr ?_; (case hd => rfl); (case hg => rfl); (case hr => first | (go_simp; done) | (go_simp; rfl)); intro gb267 hg w3 hbox hb; have n0_ := Aside0.mk (xah (by repeat (first | (with_reducible first | exact HB.out | apply xab | apply xaa | apply xac) | exact HB.out)) hb); have n1_ := Aside0.mk (hbox); have n2_ := Aside0.mk ((by rw [hg]; exact (xao (by repeat (first | (with_reducible first | exact HB.out | apply xab | apply xaa | apply xac) | exact HB.out))) : w.heap.size ≤ gb267)); have n3_ := n2_; clear HB; have HB := n0_; have BK267 := n1_; have GW267 := n2_; have GE267 := n3_; clear n0_ n1_ n2_ n3_; clear hb hbox hg) | ((with_reducible refine xau (f := 124) rfl ?_); refine goesL_ (some 4) rfl rfl Tryd.func124 (by kernel_rfl) rfl #[.int .i64 a0] rfl (by (try simp only [List.map_toArray, List.map_cons, List.map_nil]); first | done | rfl | (simp only [List.length_drop, List.length_take]; rfl)) ?_; (with_reducible refine (w1_word.calls a0 t268 _ ?side1 A2.out).mono ?_); (case side1 => exact TabB.below HTB.out (by repeat (first | (with_reducible first | exact HB.out | apply xab | apply xaa | apply xac | refine xad ?_ GE267.out) | exact HB.out))); rintro e w4 ⟨rfl, hb⟩; refine ⟨_, rfl, ?_⟩; have n0_ := Aside0.mk (xam (g := gb267) (o := .cells #[.string (⟨#[]⟩ : ByteArray), .int .i8 0, .int .i64 0, .string (⟨#[]⟩ : ByteArray)] 28 (0, 0)) (by (with_reducible repeat (first | refine xag ?_ _ | refine xai ?_ | refine xaf ?_ _)); exact BK267.out) hb); have n1_ := Aside0.mk (xah (by repeat (first | (with_reducible first | exact HB.out | apply xab | apply xaa | apply xac | refine xad ?_ GE267.out) | exact HB.out)) hb); clear BK267; clear HB; have BK267 := n0_; have HB := n1_; clear n0_ n1_; (try clear hb); (try clear hb2); (try clear hk); (try clear hi); obtain ⟨hcz5_0, hcz5_1, hcz5_2, hcz5_3⟩ := cz4 BK267.out; obtain ⟨hfz5_0, hfz5_1, hfz5_2, hfz5_3⟩ := fz4 BK267.out))
 refine bodyPost_ret (results_cell_row rfl _ _ gb267 28 #[.string t268, .int .i8 0, .int .i64 0, .string (⟨#[]⟩ : ByteArray)] (0, 0) _ rfl (by (with_reducible repeat (first | refine xag ?_ _ | refine xai ?_ | refine xaf ?_ _)); refine xas (cs := #[.string t268, .int .i8 0, .int .i64 0, .string (⟨#[]⟩ : ByteArray)]) ?_ 3 _ rfl; (with_reducible repeat (first | refine xag ?_ _ | refine xai ?_ | refine xaf ?_ _)); refine xas (cs := #[.string t268, .int .i8 0, .int .i64 0, .string (⟨#[]⟩ : ByteArray)]) ?_ 2 _ rfl; (with_reducible repeat (first | refine xag ?_ _ | refine xai ?_ | refine xaf ?_ _)); refine xas (cs := #[.string t268, .int .i8 0, .int .i64 0, .string (⟨#[]⟩ : ByteArray)]) ?_ 1 _ rfl; (with_reducible repeat (first | refine xag ?_ _ | refine xai ?_ | refine xaf ?_ _)); refine xas (cs := #[.string (⟨#[]⟩ : ByteArray), .int .i8 0, .int .i64 0, .string (⟨#[]⟩ : ByteArray)]) ?_ 0 _ rfl; (with_reducible repeat (first | refine xag ?_ _ | refine xai ?_ | refine xaf ?_ _)); exact BK267.out) Tryd.underlying28 rfl (by kernel_rfl)) rfl ?_
 exact ⟨by first | rfl | (simp [xak, xaj] <;> rfl) | (simp [*, xak, xaj] <;> rfl), by repeat (first | (with_reducible first | exact HB.out | apply xab | apply xaa | apply xac | refine xad ?_ GE267.out) | exact HB.out)⟩
def mk28 : List Value := [.string spare, .int .i8 0, .int .i64 0, .string ⟨#[]⟩]
theorem markTerm_spare : w1_markTerm.f 777777 = some (spare, 0, 0, ⟨#[]⟩) := by rw [w1_markTerm.f, xbn]; rfl
structure TwTermsI (w wr : World) (g cap : Nat) (l : List S28) (k : Nat) : Prop where
 row : (orC k28).R 28 wr w.heap.size (fun _ => True) (.slice (some ⟨g, 0, none⟩) (l.length + 1) cap) (begun l k [.string ⟨#[]⟩, .int .i8 0, .int .i64 0, .string ⟨#[]⟩])
 below : Below w.heap.size w wr
 base : w.heap.size ≤ g
set_option maxHeartbeats 4000000 in
set_option maxRecDepth 100000 in
theorem w1_TwinTerms.twin (A : Option Addr) (c : Nat) (l : List S28) (w : World) (hr : Kd.C k28 w A l.length l) (hc : l.length ≤ c) (hl : l.length < 2000000) (hT : TabB w) :
  Calls Tryd.prog 105 #[.slice A l.length c] w fun e w' => ∃ A' c', e = .returned (.slice A' l.length c') ∧ (orC k28).R 28 w' w.heap.size (fun _ => True) (.slice A' (l.length + 1) c') (marked l mk28) ∧ Below w.heap.size w w' := by
 have hm : l.length ≤ 9223372036854775807 := by omega
 have HR := Lib.hid hr
 have HT := Lib.hid hT
 clear hr hT
 go_enter Tryd.func105, Tryd.ntmps105
 go_wp2_with ((with_reducible refine xar (N := 8) rfl ?_); go_loud (refine Kd.R_make (orC k28) w.heap.size 28 rfl (N := 8) rfl 51 _ _ rfl (l.length + 1 : Int) rfl rfl Tryd.underlying51 (.agg #[(.string ⟨#[]⟩), (.int .i8 0), (.int .i64 0), (.string ⟨#[]⟩)]) 48 info28 rfl (by decide) (by omega) (.inr [.string ⟨#[]⟩, .int .i8 0, .int .i64 0, .string ⟨#[]⟩]) (ok := fun _ => True) (okp := fun _ => True) ⟨rfl, rfl, by decide⟩ (fun _ hk => hk) trivial (by omega) (by omega) (Below.refl _ _) (Nat.le_refl _) ?_); intro v1 w1 hR1 hB1 _ _; rw [show (l.length + 1 : Int).toNat = l.length + 1 by omega, ← xbm] at hR1; obtain ⟨g, cap, rfl, hg, hg2, _⟩ := Kd.R_form hR1 (by rw [xbm]; simp); rw [xbh _ _ _ (Nat.zero_le _)] at hR1 ⊢; have HI := Lib.hid (show TwTermsI w w1 g cap l 0 from ⟨hR1, hB1, hg⟩); clear hR1 hB1 hg hg2)
 go_loopw [4] (fun v wr => ∃ k : Nat, k ≤ l.length ∧ v = .int .i64 k ∧ Hid (TwTermsI w wr g cap l k)) (fun v _ => l.length - (intOf v).toNat)
 case atStart => exact ⟨0, Nat.zero_le _, rfl, HI⟩
 case round =>
  clear HI
  obtain ⟨k, hk, rfl, HI⟩ := hrel
  by_cases hlt : k < l.length
  ·obtain ⟨ad, e0, g0, g1, g2, g3⟩ := at_T28 HR.out (k : Int) (by omega) (by omega)
   subst e0
   simp only [Int.toNat_natCast] at g0 g1 g2 g3
   replace g0 := (HI.out.below.cell (World.block_lt_of_cell? w _ g0)).trans g0
   replace g1 := (HI.out.below.cell (World.block_lt_of_cell? w _ g1)).trans g1
   replace g2 := (HI.out.below.cell (World.block_lt_of_cell? w _ g2)).trans g2
   replace g3 := (HI.out.below.cell (World.block_lt_of_cell? w _ g3)).trans g3
   have HY := Lib.hid (show rd_T28 l (k : Int) = l.getD k z28 from rfl)
   generalize rd_T28 l (k : Int) = y at *
   obtain ⟨_, hz, hf⟩ := xbe HI.out.row hk
   have z0 : wr.cell? ⟨g, k * 4, none⟩ = some (.string ⟨#[]⟩) := hz 0 _ rfl
   have z1 : wr.cell? ⟨g, k * 4 + 1, none⟩ = some (.int .i8 0) := hz 1 _ rfl
   have z2 : wr.cell? ⟨g, k * 4 + 2, none⟩ = some (.int .i64 0) := hz 2 _ rfl
   have z3 : wr.cell? ⟨g, k * 4 + 3, none⟩ = some (.string ⟨#[]⟩) := hz 3 _ rfl
   have f0 : wr.frozen? ⟨g, k * 4, none⟩ = false := hf 0
   have f1 : wr.frozen? ⟨g, k * 4 + 1, none⟩ = false := hf 1
   have f2 : wr.frozen? ⟨g, k * 4 + 2, none⟩ = false := hf 2
   have f3 : wr.frozen? ⟨g, k * 4 + 3, none⟩ = false := hf 3
   have HP := Lib.hid (begun_put HI.out.row hlt z28 (seg := [.string y.f0, .int .i8 y.f1.f0, .int .i64 y.f1.f1, .string y.f1.f2]) (okp := fun _ => False) (by rw [← HY.out]; exact k28_mkM _ _ _ y) (fun _ h => h.elim))
   clear hz hf
   go_wp2_with ((with_reducible refine xay (t := 28) (p := 21) rfl ?_); refine xba (t := 28) (p := 21) (v := ?vo) (w1 := wr.setCells g (k * 4) [.string y.f0, .int .i8 y.f1.f0, .int .i64 y.f1.f1, .string y.f1.f2]) ?hg ?ho ?hn ?hr ?_; (case ho => rfl); (case hg => rfl); (case hn => rfl); (case hr => first | (go_simp; done) | (go_simp; rfl)); intro w2 hw; have HI2 : Hid (TwTermsI w w2 g cap l (k + 1)) := Lib.hid ⟨by rw [hw]; exact HP.out.1, by rw [hw]; exact xad (xad (xad (xad HI.out.below HI.out.base) HI.out.base) HI.out.base) HI.out.base, HI.out.base⟩; clear hw)
   go_roundw
   case rel => exact ⟨k + 1, by omega, by go_num, HI2⟩
   case measure => simp [intOf]; omega
  ·have hk' : k = l.length := by omega
   subst hk'
   obtain ⟨_, hz, hf⟩ := xbe HI.out.row (Nat.le_refl _)
   have z0 : wr.cell? ⟨g, l.length * 4, none⟩ = some (.string ⟨#[]⟩) := hz 0 _ rfl
   have z1 : wr.cell? ⟨g, l.length * 4 + 1, none⟩ = some (.int .i8 0) := hz 1 _ rfl
   have z2 : wr.cell? ⟨g, l.length * 4 + 2, none⟩ = some (.int .i64 0) := hz 2 _ rfl
   have z3 : wr.cell? ⟨g, l.length * 4 + 3, none⟩ = some (.string ⟨#[]⟩) := hz 3 _ rfl
   have f0 : wr.frozen? ⟨g, l.length * 4, none⟩ = false := hf 0
   have f1 : wr.frozen? ⟨g, l.length * 4 + 1, none⟩ = false := hf 1
   have f2 : wr.frozen? ⟨g, l.length * 4 + 2, none⟩ = false := hf 2
   have f3 : wr.frozen? ⟨g, l.length * 4 + 3, none⟩ = false := hf 3
   clear hz hf
   go_wp2_with fail
   refine (w1_markTerm.calls 777777 spare 0 0 ⟨#[]⟩ wr (HT.out.below HI.out.below) markTerm_spare).mono ?_
   rintro e w2 ⟨rfl, hb⟩
   have HI2 : Hid (TwTermsI w w2 g cap l l.length) := Lib.hid ⟨Kd.R_below HI.out.row hb, xah HI.out.below hb, HI.out.base⟩
   clear HI
   have HP := Lib.hid (begun_end HI2.out.row (seg := mk28) ⟨rfl, by decide⟩)
   clear z0 z1 z2 z3 f0 f1 f2 f3
   obtain ⟨_, hz, hf⟩ := xbe HI2.out.row (Nat.le_refl _)
   have z0 : w2.cell? ⟨g, l.length * 4, none⟩ = some (.string ⟨#[]⟩) := hz 0 _ rfl
   have z1 : w2.cell? ⟨g, l.length * 4 + 1, none⟩ = some (.int .i8 0) := hz 1 _ rfl
   have z2 : w2.cell? ⟨g, l.length * 4 + 2, none⟩ = some (.int .i64 0) := hz 2 _ rfl
   have z3 : w2.cell? ⟨g, l.length * 4 + 3, none⟩ = some (.string ⟨#[]⟩) := hz 3 _ rfl
   have f0 : w2.frozen? ⟨g, l.length * 4, none⟩ = false := hf 0
   have f1 : w2.frozen? ⟨g, l.length * 4 + 1, none⟩ = false := hf 1
   have f2 : w2.frozen? ⟨g, l.length * 4 + 2, none⟩ = false := hf 2
   have f3 : w2.frozen? ⟨g, l.length * 4 + 3, none⟩ = false := hf 3
   clear hz hf
   obtain ⟨i0, hi0, _, hsz, _⟩ := info_parts info28
   have hcut := cut_to (P := Tryd.prog) 51 28 .i64 Tryd.underlying51 hi0 (some ⟨g, 0, none⟩) (l.length + 1) cap (l.length : Int) (by omega) (by omega) (by have := (Kd.R_reads' HI2.out.row).2.1; exact this)
   rw [show (l.length : Int).toNat = l.length by omega] at hcut
   clear hi0 hsz
   go_wp2_with ((with_reducible refine xay (t := 28) (p := 26) rfl ?_); (refine xba (t := 28) (p := 26) (v := ?vo2) (w1 := w2.setCells g (l.length * 4) [.string spare, .int .i8 0, .int .i64 0, .string ⟨#[]⟩]) ?hg ?ho ?hn ?hr ?_; (case ho => rfl); (case hg => rfl); (case hn => rfl); (case hr => first | (go_simp; done) | (go_simp; rfl))); intro w3 hw; have HR3 : Hid (((orC k28).R 28 w3 w.heap.size (fun _ => True) (.slice (some ⟨g, 0, none⟩) (l.length + 1) cap) (marked l mk28)) ∧ Below w.heap.size w w3) := Lib.hid ⟨by rw [hw]; exact HP.out.1, by rw [hw]; exact xad (xad (xad (xad HI2.out.below HI2.out.base) HI2.out.base) HI2.out.base) HI2.out.base⟩; clear hw)
   go_ret
   exact ⟨_, _, rfl, HR3.out.1, HR3.out.2⟩
def k53t : Kd S53 := Kd.iso (Kd.pair (Kd.string) (twin 28 k28 mk28)) (fun x : S53 => (x.f0, x.f1))
theorem k53t_open {w : World} {x : S53} {cs : List Value} (h : k53t.K w x cs) : ∃ A0 c0, cs = [.string x.f0, .slice A0 x.f1.length c0] ∧ x.f1.length + 1 ≤ c0 ∧ (orC k28).C w A0 (x.f1.length + 1) (marked x.f1 mk28) := by
 obtain ⟨_, _, rfl, rfl, ⟨A0, c0, rfl, l1, g1⟩⟩ := h
 exact ⟨A0, c0, rfl, l1, g1⟩
theorem k53t_openM {w : World} {base : Nat} {ok : Nat → Prop} {x : S53} {cs : List Value} (h : k53t.M w base ok x cs) : ∃ A0 c0, cs = [.string x.f0, .slice A0 x.f1.length c0] ∧ (orC k28).R 28 w base ok (.slice A0 (x.f1.length + 1) c0) (marked x.f1 mk28) := by
 obtain ⟨_, _, rfl, rfl, ⟨A0, c0, rfl, g1⟩⟩ := h
 exact ⟨A0, c0, rfl, g1⟩
theorem k53t_plain : ∀ (w : World) (x : S53) (cs : List Value), k53t.K w x cs → k53.K w x cs := by
 intro w x cs h
 obtain ⟨_, _, rfl, h0, h1⟩ := h
 exact ⟨_, _, rfl, h0, twin_plain rfl (fun _ _ _ h => h) _ _ _ h1⟩
abbrev TwAtomC (x : S53) : Prop := ∀ (A0 : Option Addr) (c0 : Nat) (w : World), Kd.C k28 w A0 x.f1.length x.f1 → x.f1.length ≤ c0 → TabB w →
  Calls Tryd.prog 65 #[.agg #[.string x.f0, .slice A0 x.f1.length c0]] w fun e w' => ∃ cs, e = .returned (.agg cs.toArray) ∧ k53t.M w' w.heap.size (fun _ => True) x cs ∧ Below w.heap.size w w'
set_option maxHeartbeats 8000000 in
set_option maxRecDepth 100000 in
theorem TwAtom_step (x : S53) (hS1 : x.f1.length < 2000000) : TwAtomC x := by
 intro A0 c0 w hr0 hc0 hT
 have HR0 := Lib.hid hr0
 have HT := Lib.hid hT
 clear hT hr0
 go_enter Tryd.func65, Tryd.ntmps65
 go_wp2_with fail
 have HK1 := Lib.hid (xam (xaz w (.cells #[.string x.f0, .slice A0 x.f1.length c0] 53 (0, 0))) (xab (Below.refl _ _) (.cells #[.string ⟨#[]⟩, .slice none 0 0] 53 (0, 0))))
 have HK2 := Lib.hid (xaz (w.alloc (.cells #[.string x.f0, .slice A0 x.f1.length c0] 53 (0, 0))) (.cells #[.string ⟨#[]⟩, .slice none 0 0] 53 (0, 0)))
 rw [show (w.alloc (.cells #[.string x.f0, .slice A0 x.f1.length c0] 53 (0, 0))).heap.size = w.heap.size + 1 by simp] at HK2
 have HB := Lib.hid (xab (xab (Below.refl w.heap.size w) (.cells #[.string x.f0, .slice A0 x.f1.length c0] 53 (0, 0))) (.cells #[.string ⟨#[]⟩, .slice none 0 0] 53 (0, 0)))
 have HZ : Hid (w.heap.size + 2 ≤ ((w.alloc (.cells #[.string x.f0, .slice A0 x.f1.length c0] 53 (0, 0))).alloc (.cells #[.string ⟨#[]⟩, .slice none 0 0] 53 (0, 0))).heap.size) := Lib.hid (by simp)
 generalize (w.alloc (.cells #[.string x.f0, .slice A0 x.f1.length c0] 53 (0, 0))).alloc (.cells #[.string ⟨#[]⟩, .slice none 0 0] 53 (0, 0)) = v0 at *
 refine (w1_TwinTerms.twin A0 c0 x.f1 v0 (Kd.C_below HR0.out HB.out) hc0 hS1 (HT.out.below HB.out)).mono ?_
 rintro e u0 ⟨B0, d0, rfl, hR, hb⟩
 have HW0 := Lib.hid (show (orC k28).R 28 u0 w.heap.size (fun k => w.heap.size + 2 ≤ k) (.slice B0 (x.f1.length + 1) d0) (marked x.f1 mk28) from Kd.R_mono (Kd.R_lower (Kd.R_bound hR) (Nat.le_trans (Nat.le_add_right _ _) HZ.out)) (fun k hk => Nat.le_trans HZ.out hk.2.1))
 clear hR
 replace HK1 := Lib.hid (xam HK1.out hb)
 replace HK2 := Lib.hid (xam HK2.out hb)
 replace HB := Lib.hid (xah HB.out hb)
 replace HZ := Lib.hid (Nat.le_trans HZ.out hb.size)
 clear hb
 have p0 : u0.cell? ⟨w.heap.size, 0, none⟩ = some (.string x.f0) := (xae HK1.out 0).trans rfl
 have pf0 := xal HK1.out 0
 have p1 : u0.cell? ⟨w.heap.size, 1, none⟩ = some (.slice A0 x.f1.length c0) := (xae HK1.out 1).trans rfl
 have pf1 := xal HK1.out 1
 go_wp2_with ((with_reducible refine xay (t := 51) (p := 6) rfl ?_); (refine xba (t := 51) (p := 6) (v := ?vo0) (w1 := (u0.setCell ⟨w.heap.size, 1, none⟩ (.slice B0 x.f1.length d0))) ?hg0 ?ho0 ?hn0 ?hr0 ?_; (case ho0 => rfl); (case hg0 => rfl); (case hn0 => rfl); (case hr0 => first | (go_simp; done) | (go_simp; rfl))); intro v1 hw; have hk1 : v1.heap[w.heap.size]? = some (.cells #[.string x.f0, .slice B0 x.f1.length d0] 53 (0, 0)) := (by rw [hw]; exact xas (cs := #[.string x.f0, .slice A0 x.f1.length c0]) (cs' := #[.string x.f0, .slice B0 x.f1.length d0]) (HK1.out) 1 _ rfl); have hfar : ∀ k, k ≠ w.heap.size → v1.heap[k]? = u0.heap[k]? := (fun k hk => by rw [hw]; repeat rw [Below.heap_setCell _ _ _ _ (by exact hk)]); have hk2 := (hfar (w.heap.size + 1) (by omega)).trans HK2.out; have hbb : Below w.heap.size w v1 := (by rw [hw]; exact xad (HB.out) (Nat.le_refl _)); have hz : w.heap.size + 2 ≤ v1.heap.size := (by rw [hw]; simpa using HZ.out); have hw0 := Kd.R_step (w1 := v1) HW0.out (fun k hk _ => hfar k (by omega)); clear hw hfar HK1 HK2 HB HZ HW0; have HK1 := Lib.hid hk1; have HK2 := Lib.hid hk2; have HB := Lib.hid hbb; have HZ := Lib.hid hz; have HW0 := Lib.hid hw0; clear hk1 hk2 hbb hz hw0; clear p0 pf0 p1 pf1; have p0 : v1.cell? ⟨w.heap.size, 0, none⟩ = some (.string x.f0) := (xae HK1.out 0).trans rfl; have pf0 := xal HK1.out 0; have p1 : v1.cell? ⟨w.heap.size, 1, none⟩ = some (.slice B0 x.f1.length d0) := (xae HK1.out 1).trans rfl; have pf1 := xal HK1.out 1; have q0 : v1.cell? ⟨w.heap.size + 1, 0, none⟩ = some (.string ⟨#[]⟩) := (xae HK2.out 0).trans rfl; have qf0 := xal HK2.out 0; have q1 : v1.cell? ⟨w.heap.size + 1, 1, none⟩ = some (.slice none 0 0) := (xae HK2.out 1).trans rfl; have qf1 := xal HK2.out 1)
 refine bodyPost_ret (results_cell_row rfl _ _ (w.heap.size + 1) 53 #[.string x.f0, .slice B0 x.f1.length d0] (0, 0) _ rfl (xas (cs := #[.string x.f0, .slice none 0 0]) (cs' := #[.string x.f0, .slice B0 x.f1.length d0]) (xas (cs := #[.string ⟨#[]⟩, .slice none 0 0]) (cs' := #[.string x.f0, .slice none 0 0]) (HK2.out) 0 _ rfl) 1 _ rfl) Tryd.underlying53 rfl (by kernel_rfl)) rfl ?_
 have hfar : ∀ k, k ≠ w.heap.size + 1 → ((v1.setCell ⟨w.heap.size + 1, 0, none⟩ (.string x.f0)).setCell ⟨w.heap.size + 1, 1, none⟩ (.slice B0 x.f1.length d0)).heap[k]? = v1.heap[k]? := (fun k hk => by repeat rw [Below.heap_setCell _ _ _ _ (by exact hk)])
 have hw0 := Kd.R_mono (Kd.R_step (w1 := ((v1.setCell ⟨w.heap.size + 1, 0, none⟩ (.string x.f0)).setCell ⟨w.heap.size + 1, 1, none⟩ (.slice B0 x.f1.length d0))) HW0.out (fun k hk _ => hfar k (by omega))) (fun _ _ => trivial)
 exact ⟨_, rfl, ⟨[.string x.f0], [.slice B0 x.f1.length d0], rfl, rfl, ⟨_, _, rfl, hw0⟩⟩, xad (xad (HB.out) (Nat.le_succ _)) (Nat.le_succ _)⟩
def k56t : Kd S56 := Kd.iso (Kd.pair (Kd.int .i8) (Kd.pair k53t (Kd.pair (Kd.int .i8) (Kd.pair k31t k31t)))) (fun x : S56 => (x.f0, x.f1, x.f2, x.f3, x.f4))
theorem k56t_open {w : World} {x : S56} {cs : List Value} (h : k56t.K w x cs) : ∃ A0 c0 A1 c1 A2 c2, cs = [.int .i8 x.f0, .string x.f1.f0, .slice A0 x.f1.f1.length c0, .int .i8 x.f2, .int .i8 x.f3.f0, .string x.f3.f1.f0, .int .i8 x.f3.f1.f1.f0, .int .i64 x.f3.f1.f1.f1, .string x.f3.f1.f1.f2, .slice A1 x.f3.f2.length c1, .int .i8 x.f4.f0, .string x.f4.f1.f0, .int .i8 x.f4.f1.f1.f0, .int .i64 x.f4.f1.f1.f1, .string x.f4.f1.f1.f2, .slice A2 x.f4.f2.length c2] ∧ x.f1.f1.length + 1 ≤ c0 ∧ (orC k28).C w A0 (x.f1.f1.length + 1) (marked x.f1.f1 mk28) ∧ x.f3.f2.length + 1 ≤ c1 ∧ (orC k31t).C w A1 (x.f3.f2.length + 1) (marked x.f3.f2 mk31) ∧ x.f4.f2.length + 1 ≤ c2 ∧ (orC k31t).C w A2 (x.f4.f2.length + 1) (marked x.f4.f2 mk31) := by
 obtain ⟨_, _, rfl, rfl, ⟨_, _, rfl, m1, ⟨_, _, rfl, rfl, ⟨_, _, rfl, m3, m4⟩⟩⟩⟩ := h
 obtain ⟨A0, c0, rfl, l1_0, g1_0⟩ := k53t_open m1
 obtain ⟨A1, c1, rfl, l3_0, g3_0⟩ := k31t_open m3
 obtain ⟨A2, c2, rfl, l4_0, g4_0⟩ := k31t_open m4
 exact ⟨A0, c0, A1, c1, A2, c2, rfl, l1_0, g1_0, l3_0, g3_0, l4_0, g4_0⟩
theorem k56t_openM {w : World} {base : Nat} {ok : Nat → Prop} {x : S56} {cs : List Value} (h : k56t.M w base ok x cs) : ∃ A0 c0 A1 c1 A2 c2, cs = [.int .i8 x.f0, .string x.f1.f0, .slice A0 x.f1.f1.length c0, .int .i8 x.f2, .int .i8 x.f3.f0, .string x.f3.f1.f0, .int .i8 x.f3.f1.f1.f0, .int .i64 x.f3.f1.f1.f1, .string x.f3.f1.f1.f2, .slice A1 x.f3.f2.length c1, .int .i8 x.f4.f0, .string x.f4.f1.f0, .int .i8 x.f4.f1.f1.f0, .int .i64 x.f4.f1.f1.f1, .string x.f4.f1.f1.f2, .slice A2 x.f4.f2.length c2] ∧ (orC k28).R 28 w base ok (.slice A0 (x.f1.f1.length + 1) c0) (marked x.f1.f1 mk28) ∧ (orC k31t).R 31 w base ok (.slice A1 (x.f3.f2.length + 1) c1) (marked x.f3.f2 mk31) ∧ (orC k31t).R 31 w base ok (.slice A2 (x.f4.f2.length + 1) c2) (marked x.f4.f2 mk31) := by
 obtain ⟨_, _, rfl, rfl, ⟨_, _, rfl, m1, ⟨_, _, rfl, rfl, ⟨_, _, rfl, m3, m4⟩⟩⟩⟩ := h
 obtain ⟨A0, c0, rfl, g1_0⟩ := k53t_openM m1
 obtain ⟨A1, c1, rfl, g3_0⟩ := k31t_openM m3
 obtain ⟨A2, c2, rfl, g4_0⟩ := k31t_openM m4
 exact ⟨A0, c0, A1, c1, A2, c2, rfl, g1_0, g3_0, g4_0⟩
theorem k56t_plain : ∀ (w : World) (x : S56) (cs : List Value), k56t.K w x cs → k56.K w x cs := by
 intro w x cs h
 obtain ⟨_, _, rfl, h0, ⟨_, _, rfl, h1, ⟨_, _, rfl, h2, ⟨_, _, rfl, h3, h4⟩⟩⟩⟩ := h
 exact ⟨_, _, rfl, h0, ⟨_, _, rfl, k53t_plain _ _ _ h1, ⟨_, _, rfl, h2, ⟨_, _, rfl, k31t_plain _ _ _ h3, k31t_plain _ _ _ h4⟩⟩⟩⟩
abbrev TwLiteralC (x : S56) : Prop := ∀ (A0 : Option Addr) (c0 : Nat) (A1 : Option Addr) (c1 : Nat) (A2 : Option Addr) (c2 : Nat) (w : World), Kd.C k28 w A0 x.f1.f1.length x.f1.f1 → x.f1.f1.length ≤ c0 → Kd.C k31 w A1 x.f3.f2.length x.f3.f2 → x.f3.f2.length ≤ c1 → Kd.C k31 w A2 x.f4.f2.length x.f4.f2 → x.f4.f2.length ≤ c2 → TabB w →
  Calls Tryd.prog 19 #[.agg #[.int .i8 x.f0, .string x.f1.f0, .slice A0 x.f1.f1.length c0, .int .i8 x.f2, .int .i8 x.f3.f0, .string x.f3.f1.f0, .int .i8 x.f3.f1.f1.f0, .int .i64 x.f3.f1.f1.f1, .string x.f3.f1.f1.f2, .slice A1 x.f3.f2.length c1, .int .i8 x.f4.f0, .string x.f4.f1.f0, .int .i8 x.f4.f1.f1.f0, .int .i64 x.f4.f1.f1.f1, .string x.f4.f1.f1.f2, .slice A2 x.f4.f2.length c2]] w fun e w' => ∃ cs, e = .returned (.agg cs.toArray) ∧ k56t.M w' w.heap.size (fun _ => True) x cs ∧ Below w.heap.size w w'
set_option maxHeartbeats 8000000 in
set_option maxRecDepth 100000 in
theorem TwLiteral_step (x : S56) (hS1 : Hid (TwAtomC x.f1)) (hS3 : Hid (TwExprC x.f3)) (hS4 : Hid (TwExprC x.f4)) : TwLiteralC x := by
 intro A0 c0 A1 c1 A2 c2 w hr0 hc0 hr1 hc1 hr2 hc2 hT
 have HR0 := Lib.hid hr0
 have HR1 := Lib.hid hr1
 have HR2 := Lib.hid hr2
 have HT := Lib.hid hT
 clear hT hr0 hr1 hr2
 go_enter Tryd.func19, Tryd.ntmps19
 go_wp2_with fail
 have HK1 := Lib.hid (xam (xaz w (.cells #[.int .i8 x.f0, .string x.f1.f0, .slice A0 x.f1.f1.length c0, .int .i8 x.f2, .int .i8 x.f3.f0, .string x.f3.f1.f0, .int .i8 x.f3.f1.f1.f0, .int .i64 x.f3.f1.f1.f1, .string x.f3.f1.f1.f2, .slice A1 x.f3.f2.length c1, .int .i8 x.f4.f0, .string x.f4.f1.f0, .int .i8 x.f4.f1.f1.f0, .int .i64 x.f4.f1.f1.f1, .string x.f4.f1.f1.f2, .slice A2 x.f4.f2.length c2] 56 (0, 0))) (xab (Below.refl _ _) (.cells #[.int .i8 0, .string ⟨#[]⟩, .slice none 0 0, .int .i8 0, .int .i8 0, .string ⟨#[]⟩, .int .i8 0, .int .i64 0, .string ⟨#[]⟩, .slice none 0 0, .int .i8 0, .string ⟨#[]⟩, .int .i8 0, .int .i64 0, .string ⟨#[]⟩, .slice none 0 0] 56 (0, 0))))
 have HK2 := Lib.hid (xaz (w.alloc (.cells #[.int .i8 x.f0, .string x.f1.f0, .slice A0 x.f1.f1.length c0, .int .i8 x.f2, .int .i8 x.f3.f0, .string x.f3.f1.f0, .int .i8 x.f3.f1.f1.f0, .int .i64 x.f3.f1.f1.f1, .string x.f3.f1.f1.f2, .slice A1 x.f3.f2.length c1, .int .i8 x.f4.f0, .string x.f4.f1.f0, .int .i8 x.f4.f1.f1.f0, .int .i64 x.f4.f1.f1.f1, .string x.f4.f1.f1.f2, .slice A2 x.f4.f2.length c2] 56 (0, 0))) (.cells #[.int .i8 0, .string ⟨#[]⟩, .slice none 0 0, .int .i8 0, .int .i8 0, .string ⟨#[]⟩, .int .i8 0, .int .i64 0, .string ⟨#[]⟩, .slice none 0 0, .int .i8 0, .string ⟨#[]⟩, .int .i8 0, .int .i64 0, .string ⟨#[]⟩, .slice none 0 0] 56 (0, 0)))
 rw [show (w.alloc (.cells #[.int .i8 x.f0, .string x.f1.f0, .slice A0 x.f1.f1.length c0, .int .i8 x.f2, .int .i8 x.f3.f0, .string x.f3.f1.f0, .int .i8 x.f3.f1.f1.f0, .int .i64 x.f3.f1.f1.f1, .string x.f3.f1.f1.f2, .slice A1 x.f3.f2.length c1, .int .i8 x.f4.f0, .string x.f4.f1.f0, .int .i8 x.f4.f1.f1.f0, .int .i64 x.f4.f1.f1.f1, .string x.f4.f1.f1.f2, .slice A2 x.f4.f2.length c2] 56 (0, 0))).heap.size = w.heap.size + 1 by simp] at HK2
 have HB := Lib.hid (xab (xab (Below.refl w.heap.size w) (.cells #[.int .i8 x.f0, .string x.f1.f0, .slice A0 x.f1.f1.length c0, .int .i8 x.f2, .int .i8 x.f3.f0, .string x.f3.f1.f0, .int .i8 x.f3.f1.f1.f0, .int .i64 x.f3.f1.f1.f1, .string x.f3.f1.f1.f2, .slice A1 x.f3.f2.length c1, .int .i8 x.f4.f0, .string x.f4.f1.f0, .int .i8 x.f4.f1.f1.f0, .int .i64 x.f4.f1.f1.f1, .string x.f4.f1.f1.f2, .slice A2 x.f4.f2.length c2] 56 (0, 0))) (.cells #[.int .i8 0, .string ⟨#[]⟩, .slice none 0 0, .int .i8 0, .int .i8 0, .string ⟨#[]⟩, .int .i8 0, .int .i64 0, .string ⟨#[]⟩, .slice none 0 0, .int .i8 0, .string ⟨#[]⟩, .int .i8 0, .int .i64 0, .string ⟨#[]⟩, .slice none 0 0] 56 (0, 0)))
 have HZ : Hid (w.heap.size + 2 ≤ ((w.alloc (.cells #[.int .i8 x.f0, .string x.f1.f0, .slice A0 x.f1.f1.length c0, .int .i8 x.f2, .int .i8 x.f3.f0, .string x.f3.f1.f0, .int .i8 x.f3.f1.f1.f0, .int .i64 x.f3.f1.f1.f1, .string x.f3.f1.f1.f2, .slice A1 x.f3.f2.length c1, .int .i8 x.f4.f0, .string x.f4.f1.f0, .int .i8 x.f4.f1.f1.f0, .int .i64 x.f4.f1.f1.f1, .string x.f4.f1.f1.f2, .slice A2 x.f4.f2.length c2] 56 (0, 0))).alloc (.cells #[.int .i8 0, .string ⟨#[]⟩, .slice none 0 0, .int .i8 0, .int .i8 0, .string ⟨#[]⟩, .int .i8 0, .int .i64 0, .string ⟨#[]⟩, .slice none 0 0, .int .i8 0, .string ⟨#[]⟩, .int .i8 0, .int .i64 0, .string ⟨#[]⟩, .slice none 0 0] 56 (0, 0))).heap.size) := Lib.hid (by simp)
 generalize (w.alloc (.cells #[.int .i8 x.f0, .string x.f1.f0, .slice A0 x.f1.f1.length c0, .int .i8 x.f2, .int .i8 x.f3.f0, .string x.f3.f1.f0, .int .i8 x.f3.f1.f1.f0, .int .i64 x.f3.f1.f1.f1, .string x.f3.f1.f1.f2, .slice A1 x.f3.f2.length c1, .int .i8 x.f4.f0, .string x.f4.f1.f0, .int .i8 x.f4.f1.f1.f0, .int .i64 x.f4.f1.f1.f1, .string x.f4.f1.f1.f2, .slice A2 x.f4.f2.length c2] 56 (0, 0))).alloc (.cells #[.int .i8 0, .string ⟨#[]⟩, .slice none 0 0, .int .i8 0, .int .i8 0, .string ⟨#[]⟩, .int .i8 0, .int .i64 0, .string ⟨#[]⟩, .slice none 0 0, .int .i8 0, .string ⟨#[]⟩, .int .i8 0, .int .i64 0, .string ⟨#[]⟩, .slice none 0 0] 56 (0, 0)) = v0 at *
 refine (hS1.out A0 c0 v0 (Kd.C_below HR0.out HB.out) hc0 (HT.out.below HB.out)).mono ?_
 rintro e u0 ⟨cs, rfl, hM, hb⟩
 obtain ⟨B0, d0, rfl, _⟩ := k53t_openM hM
 have HW0 := Lib.hid (show k53t.M u0 w.heap.size (fun k => w.heap.size + 2 ≤ k) x.f1 [.string x.f1.f0, .slice B0 x.f1.f1.length d0] from k53t.M_mono (fun k hk => Nat.le_trans HZ.out hk.2.1) (k53t.M_lower (Nat.le_trans (Nat.le_add_right _ _) HZ.out) (k53t.M_bound hM)))
 clear hM
 replace HK1 := Lib.hid (xam HK1.out hb)
 replace HK2 := Lib.hid (xam HK2.out hb)
 replace HB := Lib.hid (xah HB.out hb)
 replace HZ := Lib.hid (Nat.le_trans HZ.out hb.size)
 clear hb
 have p0 : u0.cell? ⟨w.heap.size, 0, none⟩ = some (.int .i8 x.f0) := (xae HK1.out 0).trans rfl
 have pf0 := xal HK1.out 0
 have p1 : u0.cell? ⟨w.heap.size, 1, none⟩ = some (.string x.f1.f0) := (xae HK1.out 1).trans rfl
 have pf1 := xal HK1.out 1
 have p2 : u0.cell? ⟨w.heap.size, 2, none⟩ = some (.slice A0 x.f1.f1.length c0) := (xae HK1.out 2).trans rfl
 have pf2 := xal HK1.out 2
 have p3 : u0.cell? ⟨w.heap.size, 3, none⟩ = some (.int .i8 x.f2) := (xae HK1.out 3).trans rfl
 have pf3 := xal HK1.out 3
 have p4 : u0.cell? ⟨w.heap.size, 4, none⟩ = some (.int .i8 x.f3.f0) := (xae HK1.out 4).trans rfl
 have pf4 := xal HK1.out 4
 have p5 : u0.cell? ⟨w.heap.size, 5, none⟩ = some (.string x.f3.f1.f0) := (xae HK1.out 5).trans rfl
 have pf5 := xal HK1.out 5
 have p6 : u0.cell? ⟨w.heap.size, 6, none⟩ = some (.int .i8 x.f3.f1.f1.f0) := (xae HK1.out 6).trans rfl
 have pf6 := xal HK1.out 6
 have p7 : u0.cell? ⟨w.heap.size, 7, none⟩ = some (.int .i64 x.f3.f1.f1.f1) := (xae HK1.out 7).trans rfl
 have pf7 := xal HK1.out 7
 have p8 : u0.cell? ⟨w.heap.size, 8, none⟩ = some (.string x.f3.f1.f1.f2) := (xae HK1.out 8).trans rfl
 have pf8 := xal HK1.out 8
 have p9 : u0.cell? ⟨w.heap.size, 9, none⟩ = some (.slice A1 x.f3.f2.length c1) := (xae HK1.out 9).trans rfl
 have pf9 := xal HK1.out 9
 have p10 : u0.cell? ⟨w.heap.size, 10, none⟩ = some (.int .i8 x.f4.f0) := (xae HK1.out 10).trans rfl
 have pf10 := xal HK1.out 10
 have p11 : u0.cell? ⟨w.heap.size, 11, none⟩ = some (.string x.f4.f1.f0) := (xae HK1.out 11).trans rfl
 have pf11 := xal HK1.out 11
 have p12 : u0.cell? ⟨w.heap.size, 12, none⟩ = some (.int .i8 x.f4.f1.f1.f0) := (xae HK1.out 12).trans rfl
 have pf12 := xal HK1.out 12
 have p13 : u0.cell? ⟨w.heap.size, 13, none⟩ = some (.int .i64 x.f4.f1.f1.f1) := (xae HK1.out 13).trans rfl
 have pf13 := xal HK1.out 13
 have p14 : u0.cell? ⟨w.heap.size, 14, none⟩ = some (.string x.f4.f1.f1.f2) := (xae HK1.out 14).trans rfl
 have pf14 := xal HK1.out 14
 have p15 : u0.cell? ⟨w.heap.size, 15, none⟩ = some (.slice A2 x.f4.f2.length c2) := (xae HK1.out 15).trans rfl
 have pf15 := xal HK1.out 15
 go_wp2_with ((with_reducible refine xay (t := 53) (p := 6) rfl ?_); (refine xba (t := 53) (p := 6) (v := ?vo0) (w1 := ((u0.setCell ⟨w.heap.size, 1, none⟩ (.string x.f1.f0)).setCell ⟨w.heap.size, 2, none⟩ (.slice B0 x.f1.f1.length d0))) ?hg0 ?ho0 ?hn0 ?hr0 ?_; (case ho0 => rfl); (case hg0 => rfl); (case hn0 => rfl); (case hr0 => first | (go_simp; done) | (go_simp; rfl))); intro v1 hw; have hk1 : v1.heap[w.heap.size]? = some (.cells #[.int .i8 x.f0, .string x.f1.f0, .slice B0 x.f1.f1.length d0, .int .i8 x.f2, .int .i8 x.f3.f0, .string x.f3.f1.f0, .int .i8 x.f3.f1.f1.f0, .int .i64 x.f3.f1.f1.f1, .string x.f3.f1.f1.f2, .slice A1 x.f3.f2.length c1, .int .i8 x.f4.f0, .string x.f4.f1.f0, .int .i8 x.f4.f1.f1.f0, .int .i64 x.f4.f1.f1.f1, .string x.f4.f1.f1.f2, .slice A2 x.f4.f2.length c2] 56 (0, 0)) := (by rw [hw]; exact xas (cs := #[.int .i8 x.f0, .string x.f1.f0, .slice A0 x.f1.f1.length c0, .int .i8 x.f2, .int .i8 x.f3.f0, .string x.f3.f1.f0, .int .i8 x.f3.f1.f1.f0, .int .i64 x.f3.f1.f1.f1, .string x.f3.f1.f1.f2, .slice A1 x.f3.f2.length c1, .int .i8 x.f4.f0, .string x.f4.f1.f0, .int .i8 x.f4.f1.f1.f0, .int .i64 x.f4.f1.f1.f1, .string x.f4.f1.f1.f2, .slice A2 x.f4.f2.length c2]) (cs' := #[.int .i8 x.f0, .string x.f1.f0, .slice B0 x.f1.f1.length d0, .int .i8 x.f2, .int .i8 x.f3.f0, .string x.f3.f1.f0, .int .i8 x.f3.f1.f1.f0, .int .i64 x.f3.f1.f1.f1, .string x.f3.f1.f1.f2, .slice A1 x.f3.f2.length c1, .int .i8 x.f4.f0, .string x.f4.f1.f0, .int .i8 x.f4.f1.f1.f0, .int .i64 x.f4.f1.f1.f1, .string x.f4.f1.f1.f2, .slice A2 x.f4.f2.length c2]) (xas (cs := #[.int .i8 x.f0, .string x.f1.f0, .slice A0 x.f1.f1.length c0, .int .i8 x.f2, .int .i8 x.f3.f0, .string x.f3.f1.f0, .int .i8 x.f3.f1.f1.f0, .int .i64 x.f3.f1.f1.f1, .string x.f3.f1.f1.f2, .slice A1 x.f3.f2.length c1, .int .i8 x.f4.f0, .string x.f4.f1.f0, .int .i8 x.f4.f1.f1.f0, .int .i64 x.f4.f1.f1.f1, .string x.f4.f1.f1.f2, .slice A2 x.f4.f2.length c2]) (cs' := #[.int .i8 x.f0, .string x.f1.f0, .slice A0 x.f1.f1.length c0, .int .i8 x.f2, .int .i8 x.f3.f0, .string x.f3.f1.f0, .int .i8 x.f3.f1.f1.f0, .int .i64 x.f3.f1.f1.f1, .string x.f3.f1.f1.f2, .slice A1 x.f3.f2.length c1, .int .i8 x.f4.f0, .string x.f4.f1.f0, .int .i8 x.f4.f1.f1.f0, .int .i64 x.f4.f1.f1.f1, .string x.f4.f1.f1.f2, .slice A2 x.f4.f2.length c2]) (HK1.out) 1 _ rfl) 2 _ rfl); have hfar : ∀ k, k ≠ w.heap.size → v1.heap[k]? = u0.heap[k]? := (fun k hk => by rw [hw]; repeat rw [Below.heap_setCell _ _ _ _ (by exact hk)]); have hk2 := (hfar (w.heap.size + 1) (by omega)).trans HK2.out; have hbb : Below w.heap.size w v1 := (by rw [hw]; exact xad (xad (HB.out) (Nat.le_refl _)) (Nat.le_refl _)); have hz : w.heap.size + 2 ≤ v1.heap.size := (by rw [hw]; simpa using HZ.out); have hw0 := Kd.M_step (w1 := v1) HW0.out (fun k hk _ => hfar k (by omega)); clear hw hfar HK1 HK2 HB HZ HW0; have HK1 := Lib.hid hk1; have HK2 := Lib.hid hk2; have HB := Lib.hid hbb; have HZ := Lib.hid hz; have HW0 := Lib.hid hw0; clear hk1 hk2 hbb hz hw0; clear p0 pf0 p1 pf1 p2 pf2 p3 pf3 p4 pf4 p5 pf5 p6 pf6 p7 pf7 p8 pf8 p9 pf9 p10 pf10 p11 pf11 p12 pf12 p13 pf13 p14 pf14 p15 pf15; have p0 : v1.cell? ⟨w.heap.size, 0, none⟩ = some (.int .i8 x.f0) := (xae HK1.out 0).trans rfl; have pf0 := xal HK1.out 0; have p1 : v1.cell? ⟨w.heap.size, 1, none⟩ = some (.string x.f1.f0) := (xae HK1.out 1).trans rfl; have pf1 := xal HK1.out 1; have p2 : v1.cell? ⟨w.heap.size, 2, none⟩ = some (.slice B0 x.f1.f1.length d0) := (xae HK1.out 2).trans rfl; have pf2 := xal HK1.out 2; have p3 : v1.cell? ⟨w.heap.size, 3, none⟩ = some (.int .i8 x.f2) := (xae HK1.out 3).trans rfl; have pf3 := xal HK1.out 3; have p4 : v1.cell? ⟨w.heap.size, 4, none⟩ = some (.int .i8 x.f3.f0) := (xae HK1.out 4).trans rfl; have pf4 := xal HK1.out 4; have p5 : v1.cell? ⟨w.heap.size, 5, none⟩ = some (.string x.f3.f1.f0) := (xae HK1.out 5).trans rfl; have pf5 := xal HK1.out 5; have p6 : v1.cell? ⟨w.heap.size, 6, none⟩ = some (.int .i8 x.f3.f1.f1.f0) := (xae HK1.out 6).trans rfl; have pf6 := xal HK1.out 6; have p7 : v1.cell? ⟨w.heap.size, 7, none⟩ = some (.int .i64 x.f3.f1.f1.f1) := (xae HK1.out 7).trans rfl; have pf7 := xal HK1.out 7; have p8 : v1.cell? ⟨w.heap.size, 8, none⟩ = some (.string x.f3.f1.f1.f2) := (xae HK1.out 8).trans rfl; have pf8 := xal HK1.out 8; have p9 : v1.cell? ⟨w.heap.size, 9, none⟩ = some (.slice A1 x.f3.f2.length c1) := (xae HK1.out 9).trans rfl; have pf9 := xal HK1.out 9; have p10 : v1.cell? ⟨w.heap.size, 10, none⟩ = some (.int .i8 x.f4.f0) := (xae HK1.out 10).trans rfl; have pf10 := xal HK1.out 10; have p11 : v1.cell? ⟨w.heap.size, 11, none⟩ = some (.string x.f4.f1.f0) := (xae HK1.out 11).trans rfl; have pf11 := xal HK1.out 11; have p12 : v1.cell? ⟨w.heap.size, 12, none⟩ = some (.int .i8 x.f4.f1.f1.f0) := (xae HK1.out 12).trans rfl; have pf12 := xal HK1.out 12; have p13 : v1.cell? ⟨w.heap.size, 13, none⟩ = some (.int .i64 x.f4.f1.f1.f1) := (xae HK1.out 13).trans rfl; have pf13 := xal HK1.out 13; have p14 : v1.cell? ⟨w.heap.size, 14, none⟩ = some (.string x.f4.f1.f1.f2) := (xae HK1.out 14).trans rfl; have pf14 := xal HK1.out 14; have p15 : v1.cell? ⟨w.heap.size, 15, none⟩ = some (.slice A2 x.f4.f2.length c2) := (xae HK1.out 15).trans rfl; have pf15 := xal HK1.out 15)
 refine (hS3.out A1 c1 v1 (Kd.C_below HR1.out HB.out) hc1 (HT.out.below HB.out)).mono ?_
 rintro e u1 ⟨cs, rfl, hM, hb⟩
 obtain ⟨B1, d1, rfl, _⟩ := k31t_openM hM
 have HW1 := Lib.hid (show k31t.M u1 w.heap.size (fun k => w.heap.size + 2 ≤ k) x.f3 [.int .i8 x.f3.f0, .string x.f3.f1.f0, .int .i8 x.f3.f1.f1.f0, .int .i64 x.f3.f1.f1.f1, .string x.f3.f1.f1.f2, .slice B1 x.f3.f2.length d1] from k31t.M_mono (fun k hk => Nat.le_trans HZ.out hk.2.1) (k31t.M_lower (Nat.le_trans (Nat.le_add_right _ _) HZ.out) (k31t.M_bound hM)))
 clear hM
 replace HW0 := Lib.hid (Kd.M_below HW0.out hb)
 replace HK1 := Lib.hid (xam HK1.out hb)
 replace HK2 := Lib.hid (xam HK2.out hb)
 replace HB := Lib.hid (xah HB.out hb)
 replace HZ := Lib.hid (Nat.le_trans HZ.out hb.size)
 clear hb
 clear p0 pf0 p1 pf1 p2 pf2 p3 pf3 p4 pf4 p5 pf5 p6 pf6 p7 pf7 p8 pf8 p9 pf9 p10 pf10 p11 pf11 p12 pf12 p13 pf13 p14 pf14 p15 pf15
 have p0 : u1.cell? ⟨w.heap.size, 0, none⟩ = some (.int .i8 x.f0) := (xae HK1.out 0).trans rfl
 have pf0 := xal HK1.out 0
 have p1 : u1.cell? ⟨w.heap.size, 1, none⟩ = some (.string x.f1.f0) := (xae HK1.out 1).trans rfl
 have pf1 := xal HK1.out 1
 have p2 : u1.cell? ⟨w.heap.size, 2, none⟩ = some (.slice B0 x.f1.f1.length d0) := (xae HK1.out 2).trans rfl
 have pf2 := xal HK1.out 2
 have p3 : u1.cell? ⟨w.heap.size, 3, none⟩ = some (.int .i8 x.f2) := (xae HK1.out 3).trans rfl
 have pf3 := xal HK1.out 3
 have p4 : u1.cell? ⟨w.heap.size, 4, none⟩ = some (.int .i8 x.f3.f0) := (xae HK1.out 4).trans rfl
 have pf4 := xal HK1.out 4
 have p5 : u1.cell? ⟨w.heap.size, 5, none⟩ = some (.string x.f3.f1.f0) := (xae HK1.out 5).trans rfl
 have pf5 := xal HK1.out 5
 have p6 : u1.cell? ⟨w.heap.size, 6, none⟩ = some (.int .i8 x.f3.f1.f1.f0) := (xae HK1.out 6).trans rfl
 have pf6 := xal HK1.out 6
 have p7 : u1.cell? ⟨w.heap.size, 7, none⟩ = some (.int .i64 x.f3.f1.f1.f1) := (xae HK1.out 7).trans rfl
 have pf7 := xal HK1.out 7
 have p8 : u1.cell? ⟨w.heap.size, 8, none⟩ = some (.string x.f3.f1.f1.f2) := (xae HK1.out 8).trans rfl
 have pf8 := xal HK1.out 8
 have p9 : u1.cell? ⟨w.heap.size, 9, none⟩ = some (.slice A1 x.f3.f2.length c1) := (xae HK1.out 9).trans rfl
 have pf9 := xal HK1.out 9
 have p10 : u1.cell? ⟨w.heap.size, 10, none⟩ = some (.int .i8 x.f4.f0) := (xae HK1.out 10).trans rfl
 have pf10 := xal HK1.out 10
 have p11 : u1.cell? ⟨w.heap.size, 11, none⟩ = some (.string x.f4.f1.f0) := (xae HK1.out 11).trans rfl
 have pf11 := xal HK1.out 11
 have p12 : u1.cell? ⟨w.heap.size, 12, none⟩ = some (.int .i8 x.f4.f1.f1.f0) := (xae HK1.out 12).trans rfl
 have pf12 := xal HK1.out 12
 have p13 : u1.cell? ⟨w.heap.size, 13, none⟩ = some (.int .i64 x.f4.f1.f1.f1) := (xae HK1.out 13).trans rfl
 have pf13 := xal HK1.out 13
 have p14 : u1.cell? ⟨w.heap.size, 14, none⟩ = some (.string x.f4.f1.f1.f2) := (xae HK1.out 14).trans rfl
 have pf14 := xal HK1.out 14
 have p15 : u1.cell? ⟨w.heap.size, 15, none⟩ = some (.slice A2 x.f4.f2.length c2) := (xae HK1.out 15).trans rfl
 have pf15 := xal HK1.out 15
 go_wp2_with ((with_reducible refine xay (t := 31) (p := 10) rfl ?_); (refine xba (t := 31) (p := 10) (v := ?vo1) (w1 := ((((((u1.setCell ⟨w.heap.size, 4, none⟩ (.int .i8 x.f3.f0)).setCell ⟨w.heap.size, 5, none⟩ (.string x.f3.f1.f0)).setCell ⟨w.heap.size, 6, none⟩ (.int .i8 x.f3.f1.f1.f0)).setCell ⟨w.heap.size, 7, none⟩ (.int .i64 x.f3.f1.f1.f1)).setCell ⟨w.heap.size, 8, none⟩ (.string x.f3.f1.f1.f2)).setCell ⟨w.heap.size, 9, none⟩ (.slice B1 x.f3.f2.length d1))) ?hg1 ?ho1 ?hn1 ?hr1 ?_; (case ho1 => rfl); (case hg1 => rfl); (case hn1 => rfl); (case hr1 => first | (go_simp; done) | (go_simp; rfl))); intro v2 hw; have hk1 : v2.heap[w.heap.size]? = some (.cells #[.int .i8 x.f0, .string x.f1.f0, .slice B0 x.f1.f1.length d0, .int .i8 x.f2, .int .i8 x.f3.f0, .string x.f3.f1.f0, .int .i8 x.f3.f1.f1.f0, .int .i64 x.f3.f1.f1.f1, .string x.f3.f1.f1.f2, .slice B1 x.f3.f2.length d1, .int .i8 x.f4.f0, .string x.f4.f1.f0, .int .i8 x.f4.f1.f1.f0, .int .i64 x.f4.f1.f1.f1, .string x.f4.f1.f1.f2, .slice A2 x.f4.f2.length c2] 56 (0, 0)) := (by rw [hw]; exact xas (cs := #[.int .i8 x.f0, .string x.f1.f0, .slice B0 x.f1.f1.length d0, .int .i8 x.f2, .int .i8 x.f3.f0, .string x.f3.f1.f0, .int .i8 x.f3.f1.f1.f0, .int .i64 x.f3.f1.f1.f1, .string x.f3.f1.f1.f2, .slice A1 x.f3.f2.length c1, .int .i8 x.f4.f0, .string x.f4.f1.f0, .int .i8 x.f4.f1.f1.f0, .int .i64 x.f4.f1.f1.f1, .string x.f4.f1.f1.f2, .slice A2 x.f4.f2.length c2]) (cs' := #[.int .i8 x.f0, .string x.f1.f0, .slice B0 x.f1.f1.length d0, .int .i8 x.f2, .int .i8 x.f3.f0, .string x.f3.f1.f0, .int .i8 x.f3.f1.f1.f0, .int .i64 x.f3.f1.f1.f1, .string x.f3.f1.f1.f2, .slice B1 x.f3.f2.length d1, .int .i8 x.f4.f0, .string x.f4.f1.f0, .int .i8 x.f4.f1.f1.f0, .int .i64 x.f4.f1.f1.f1, .string x.f4.f1.f1.f2, .slice A2 x.f4.f2.length c2]) (xas (cs := #[.int .i8 x.f0, .string x.f1.f0, .slice B0 x.f1.f1.length d0, .int .i8 x.f2, .int .i8 x.f3.f0, .string x.f3.f1.f0, .int .i8 x.f3.f1.f1.f0, .int .i64 x.f3.f1.f1.f1, .string x.f3.f1.f1.f2, .slice A1 x.f3.f2.length c1, .int .i8 x.f4.f0, .string x.f4.f1.f0, .int .i8 x.f4.f1.f1.f0, .int .i64 x.f4.f1.f1.f1, .string x.f4.f1.f1.f2, .slice A2 x.f4.f2.length c2]) (cs' := #[.int .i8 x.f0, .string x.f1.f0, .slice B0 x.f1.f1.length d0, .int .i8 x.f2, .int .i8 x.f3.f0, .string x.f3.f1.f0, .int .i8 x.f3.f1.f1.f0, .int .i64 x.f3.f1.f1.f1, .string x.f3.f1.f1.f2, .slice A1 x.f3.f2.length c1, .int .i8 x.f4.f0, .string x.f4.f1.f0, .int .i8 x.f4.f1.f1.f0, .int .i64 x.f4.f1.f1.f1, .string x.f4.f1.f1.f2, .slice A2 x.f4.f2.length c2]) (xas (cs := #[.int .i8 x.f0, .string x.f1.f0, .slice B0 x.f1.f1.length d0, .int .i8 x.f2, .int .i8 x.f3.f0, .string x.f3.f1.f0, .int .i8 x.f3.f1.f1.f0, .int .i64 x.f3.f1.f1.f1, .string x.f3.f1.f1.f2, .slice A1 x.f3.f2.length c1, .int .i8 x.f4.f0, .string x.f4.f1.f0, .int .i8 x.f4.f1.f1.f0, .int .i64 x.f4.f1.f1.f1, .string x.f4.f1.f1.f2, .slice A2 x.f4.f2.length c2]) (cs' := #[.int .i8 x.f0, .string x.f1.f0, .slice B0 x.f1.f1.length d0, .int .i8 x.f2, .int .i8 x.f3.f0, .string x.f3.f1.f0, .int .i8 x.f3.f1.f1.f0, .int .i64 x.f3.f1.f1.f1, .string x.f3.f1.f1.f2, .slice A1 x.f3.f2.length c1, .int .i8 x.f4.f0, .string x.f4.f1.f0, .int .i8 x.f4.f1.f1.f0, .int .i64 x.f4.f1.f1.f1, .string x.f4.f1.f1.f2, .slice A2 x.f4.f2.length c2]) (xas (cs := #[.int .i8 x.f0, .string x.f1.f0, .slice B0 x.f1.f1.length d0, .int .i8 x.f2, .int .i8 x.f3.f0, .string x.f3.f1.f0, .int .i8 x.f3.f1.f1.f0, .int .i64 x.f3.f1.f1.f1, .string x.f3.f1.f1.f2, .slice A1 x.f3.f2.length c1, .int .i8 x.f4.f0, .string x.f4.f1.f0, .int .i8 x.f4.f1.f1.f0, .int .i64 x.f4.f1.f1.f1, .string x.f4.f1.f1.f2, .slice A2 x.f4.f2.length c2]) (cs' := #[.int .i8 x.f0, .string x.f1.f0, .slice B0 x.f1.f1.length d0, .int .i8 x.f2, .int .i8 x.f3.f0, .string x.f3.f1.f0, .int .i8 x.f3.f1.f1.f0, .int .i64 x.f3.f1.f1.f1, .string x.f3.f1.f1.f2, .slice A1 x.f3.f2.length c1, .int .i8 x.f4.f0, .string x.f4.f1.f0, .int .i8 x.f4.f1.f1.f0, .int .i64 x.f4.f1.f1.f1, .string x.f4.f1.f1.f2, .slice A2 x.f4.f2.length c2]) (xas (cs := #[.int .i8 x.f0, .string x.f1.f0, .slice B0 x.f1.f1.length d0, .int .i8 x.f2, .int .i8 x.f3.f0, .string x.f3.f1.f0, .int .i8 x.f3.f1.f1.f0, .int .i64 x.f3.f1.f1.f1, .string x.f3.f1.f1.f2, .slice A1 x.f3.f2.length c1, .int .i8 x.f4.f0, .string x.f4.f1.f0, .int .i8 x.f4.f1.f1.f0, .int .i64 x.f4.f1.f1.f1, .string x.f4.f1.f1.f2, .slice A2 x.f4.f2.length c2]) (cs' := #[.int .i8 x.f0, .string x.f1.f0, .slice B0 x.f1.f1.length d0, .int .i8 x.f2, .int .i8 x.f3.f0, .string x.f3.f1.f0, .int .i8 x.f3.f1.f1.f0, .int .i64 x.f3.f1.f1.f1, .string x.f3.f1.f1.f2, .slice A1 x.f3.f2.length c1, .int .i8 x.f4.f0, .string x.f4.f1.f0, .int .i8 x.f4.f1.f1.f0, .int .i64 x.f4.f1.f1.f1, .string x.f4.f1.f1.f2, .slice A2 x.f4.f2.length c2]) (xas (cs := #[.int .i8 x.f0, .string x.f1.f0, .slice B0 x.f1.f1.length d0, .int .i8 x.f2, .int .i8 x.f3.f0, .string x.f3.f1.f0, .int .i8 x.f3.f1.f1.f0, .int .i64 x.f3.f1.f1.f1, .string x.f3.f1.f1.f2, .slice A1 x.f3.f2.length c1, .int .i8 x.f4.f0, .string x.f4.f1.f0, .int .i8 x.f4.f1.f1.f0, .int .i64 x.f4.f1.f1.f1, .string x.f4.f1.f1.f2, .slice A2 x.f4.f2.length c2]) (cs' := #[.int .i8 x.f0, .string x.f1.f0, .slice B0 x.f1.f1.length d0, .int .i8 x.f2, .int .i8 x.f3.f0, .string x.f3.f1.f0, .int .i8 x.f3.f1.f1.f0, .int .i64 x.f3.f1.f1.f1, .string x.f3.f1.f1.f2, .slice A1 x.f3.f2.length c1, .int .i8 x.f4.f0, .string x.f4.f1.f0, .int .i8 x.f4.f1.f1.f0, .int .i64 x.f4.f1.f1.f1, .string x.f4.f1.f1.f2, .slice A2 x.f4.f2.length c2]) (HK1.out) 4 _ rfl) 5 _ rfl) 6 _ rfl) 7 _ rfl) 8 _ rfl) 9 _ rfl); have hfar : ∀ k, k ≠ w.heap.size → v2.heap[k]? = u1.heap[k]? := (fun k hk => by rw [hw]; repeat rw [Below.heap_setCell _ _ _ _ (by exact hk)]); have hk2 := (hfar (w.heap.size + 1) (by omega)).trans HK2.out; have hbb : Below w.heap.size w v2 := (by rw [hw]; exact xad (xad (xad (xad (xad (xad (HB.out) (Nat.le_refl _)) (Nat.le_refl _)) (Nat.le_refl _)) (Nat.le_refl _)) (Nat.le_refl _)) (Nat.le_refl _)); have hz : w.heap.size + 2 ≤ v2.heap.size := (by rw [hw]; simpa using HZ.out); have hw0 := Kd.M_step (w1 := v2) HW0.out (fun k hk _ => hfar k (by omega)); have hw1 := Kd.M_step (w1 := v2) HW1.out (fun k hk _ => hfar k (by omega)); clear hw hfar HK1 HK2 HB HZ HW0 HW1; have HK1 := Lib.hid hk1; have HK2 := Lib.hid hk2; have HB := Lib.hid hbb; have HZ := Lib.hid hz; have HW0 := Lib.hid hw0; have HW1 := Lib.hid hw1; clear hk1 hk2 hbb hz hw0 hw1; clear p0 pf0 p1 pf1 p2 pf2 p3 pf3 p4 pf4 p5 pf5 p6 pf6 p7 pf7 p8 pf8 p9 pf9 p10 pf10 p11 pf11 p12 pf12 p13 pf13 p14 pf14 p15 pf15; have p0 : v2.cell? ⟨w.heap.size, 0, none⟩ = some (.int .i8 x.f0) := (xae HK1.out 0).trans rfl; have pf0 := xal HK1.out 0; have p1 : v2.cell? ⟨w.heap.size, 1, none⟩ = some (.string x.f1.f0) := (xae HK1.out 1).trans rfl; have pf1 := xal HK1.out 1; have p2 : v2.cell? ⟨w.heap.size, 2, none⟩ = some (.slice B0 x.f1.f1.length d0) := (xae HK1.out 2).trans rfl; have pf2 := xal HK1.out 2; have p3 : v2.cell? ⟨w.heap.size, 3, none⟩ = some (.int .i8 x.f2) := (xae HK1.out 3).trans rfl; have pf3 := xal HK1.out 3; have p4 : v2.cell? ⟨w.heap.size, 4, none⟩ = some (.int .i8 x.f3.f0) := (xae HK1.out 4).trans rfl; have pf4 := xal HK1.out 4; have p5 : v2.cell? ⟨w.heap.size, 5, none⟩ = some (.string x.f3.f1.f0) := (xae HK1.out 5).trans rfl; have pf5 := xal HK1.out 5; have p6 : v2.cell? ⟨w.heap.size, 6, none⟩ = some (.int .i8 x.f3.f1.f1.f0) := (xae HK1.out 6).trans rfl; have pf6 := xal HK1.out 6; have p7 : v2.cell? ⟨w.heap.size, 7, none⟩ = some (.int .i64 x.f3.f1.f1.f1) := (xae HK1.out 7).trans rfl; have pf7 := xal HK1.out 7; have p8 : v2.cell? ⟨w.heap.size, 8, none⟩ = some (.string x.f3.f1.f1.f2) := (xae HK1.out 8).trans rfl; have pf8 := xal HK1.out 8; have p9 : v2.cell? ⟨w.heap.size, 9, none⟩ = some (.slice B1 x.f3.f2.length d1) := (xae HK1.out 9).trans rfl; have pf9 := xal HK1.out 9; have p10 : v2.cell? ⟨w.heap.size, 10, none⟩ = some (.int .i8 x.f4.f0) := (xae HK1.out 10).trans rfl; have pf10 := xal HK1.out 10; have p11 : v2.cell? ⟨w.heap.size, 11, none⟩ = some (.string x.f4.f1.f0) := (xae HK1.out 11).trans rfl; have pf11 := xal HK1.out 11; have p12 : v2.cell? ⟨w.heap.size, 12, none⟩ = some (.int .i8 x.f4.f1.f1.f0) := (xae HK1.out 12).trans rfl; have pf12 := xal HK1.out 12; have p13 : v2.cell? ⟨w.heap.size, 13, none⟩ = some (.int .i64 x.f4.f1.f1.f1) := (xae HK1.out 13).trans rfl; have pf13 := xal HK1.out 13; have p14 : v2.cell? ⟨w.heap.size, 14, none⟩ = some (.string x.f4.f1.f1.f2) := (xae HK1.out 14).trans rfl; have pf14 := xal HK1.out 14; have p15 : v2.cell? ⟨w.heap.size, 15, none⟩ = some (.slice A2 x.f4.f2.length c2) := (xae HK1.out 15).trans rfl; have pf15 := xal HK1.out 15)
 refine (hS4.out A2 c2 v2 (Kd.C_below HR2.out HB.out) hc2 (HT.out.below HB.out)).mono ?_
 rintro e u2 ⟨cs, rfl, hM, hb⟩
 obtain ⟨B2, d2, rfl, _⟩ := k31t_openM hM
 have HW2 := Lib.hid (show k31t.M u2 w.heap.size (fun k => w.heap.size + 2 ≤ k) x.f4 [.int .i8 x.f4.f0, .string x.f4.f1.f0, .int .i8 x.f4.f1.f1.f0, .int .i64 x.f4.f1.f1.f1, .string x.f4.f1.f1.f2, .slice B2 x.f4.f2.length d2] from k31t.M_mono (fun k hk => Nat.le_trans HZ.out hk.2.1) (k31t.M_lower (Nat.le_trans (Nat.le_add_right _ _) HZ.out) (k31t.M_bound hM)))
 clear hM
 replace HW0 := Lib.hid (Kd.M_below HW0.out hb)
 replace HW1 := Lib.hid (Kd.M_below HW1.out hb)
 replace HK1 := Lib.hid (xam HK1.out hb)
 replace HK2 := Lib.hid (xam HK2.out hb)
 replace HB := Lib.hid (xah HB.out hb)
 replace HZ := Lib.hid (Nat.le_trans HZ.out hb.size)
 clear hb
 clear p0 pf0 p1 pf1 p2 pf2 p3 pf3 p4 pf4 p5 pf5 p6 pf6 p7 pf7 p8 pf8 p9 pf9 p10 pf10 p11 pf11 p12 pf12 p13 pf13 p14 pf14 p15 pf15
 have p0 : u2.cell? ⟨w.heap.size, 0, none⟩ = some (.int .i8 x.f0) := (xae HK1.out 0).trans rfl
 have pf0 := xal HK1.out 0
 have p1 : u2.cell? ⟨w.heap.size, 1, none⟩ = some (.string x.f1.f0) := (xae HK1.out 1).trans rfl
 have pf1 := xal HK1.out 1
 have p2 : u2.cell? ⟨w.heap.size, 2, none⟩ = some (.slice B0 x.f1.f1.length d0) := (xae HK1.out 2).trans rfl
 have pf2 := xal HK1.out 2
 have p3 : u2.cell? ⟨w.heap.size, 3, none⟩ = some (.int .i8 x.f2) := (xae HK1.out 3).trans rfl
 have pf3 := xal HK1.out 3
 have p4 : u2.cell? ⟨w.heap.size, 4, none⟩ = some (.int .i8 x.f3.f0) := (xae HK1.out 4).trans rfl
 have pf4 := xal HK1.out 4
 have p5 : u2.cell? ⟨w.heap.size, 5, none⟩ = some (.string x.f3.f1.f0) := (xae HK1.out 5).trans rfl
 have pf5 := xal HK1.out 5
 have p6 : u2.cell? ⟨w.heap.size, 6, none⟩ = some (.int .i8 x.f3.f1.f1.f0) := (xae HK1.out 6).trans rfl
 have pf6 := xal HK1.out 6
 have p7 : u2.cell? ⟨w.heap.size, 7, none⟩ = some (.int .i64 x.f3.f1.f1.f1) := (xae HK1.out 7).trans rfl
 have pf7 := xal HK1.out 7
 have p8 : u2.cell? ⟨w.heap.size, 8, none⟩ = some (.string x.f3.f1.f1.f2) := (xae HK1.out 8).trans rfl
 have pf8 := xal HK1.out 8
 have p9 : u2.cell? ⟨w.heap.size, 9, none⟩ = some (.slice B1 x.f3.f2.length d1) := (xae HK1.out 9).trans rfl
 have pf9 := xal HK1.out 9
 have p10 : u2.cell? ⟨w.heap.size, 10, none⟩ = some (.int .i8 x.f4.f0) := (xae HK1.out 10).trans rfl
 have pf10 := xal HK1.out 10
 have p11 : u2.cell? ⟨w.heap.size, 11, none⟩ = some (.string x.f4.f1.f0) := (xae HK1.out 11).trans rfl
 have pf11 := xal HK1.out 11
 have p12 : u2.cell? ⟨w.heap.size, 12, none⟩ = some (.int .i8 x.f4.f1.f1.f0) := (xae HK1.out 12).trans rfl
 have pf12 := xal HK1.out 12
 have p13 : u2.cell? ⟨w.heap.size, 13, none⟩ = some (.int .i64 x.f4.f1.f1.f1) := (xae HK1.out 13).trans rfl
 have pf13 := xal HK1.out 13
 have p14 : u2.cell? ⟨w.heap.size, 14, none⟩ = some (.string x.f4.f1.f1.f2) := (xae HK1.out 14).trans rfl
 have pf14 := xal HK1.out 14
 have p15 : u2.cell? ⟨w.heap.size, 15, none⟩ = some (.slice A2 x.f4.f2.length c2) := (xae HK1.out 15).trans rfl
 have pf15 := xal HK1.out 15
 go_wp2_with ((with_reducible refine xay (t := 31) (p := 14) rfl ?_); (refine xba (t := 31) (p := 14) (v := ?vo2) (w1 := ((((((u2.setCell ⟨w.heap.size, 10, none⟩ (.int .i8 x.f4.f0)).setCell ⟨w.heap.size, 11, none⟩ (.string x.f4.f1.f0)).setCell ⟨w.heap.size, 12, none⟩ (.int .i8 x.f4.f1.f1.f0)).setCell ⟨w.heap.size, 13, none⟩ (.int .i64 x.f4.f1.f1.f1)).setCell ⟨w.heap.size, 14, none⟩ (.string x.f4.f1.f1.f2)).setCell ⟨w.heap.size, 15, none⟩ (.slice B2 x.f4.f2.length d2))) ?hg2 ?ho2 ?hn2 ?hr2 ?_; (case ho2 => rfl); (case hg2 => rfl); (case hn2 => rfl); (case hr2 => first | (go_simp; done) | (go_simp; rfl))); intro v3 hw; have hk1 : v3.heap[w.heap.size]? = some (.cells #[.int .i8 x.f0, .string x.f1.f0, .slice B0 x.f1.f1.length d0, .int .i8 x.f2, .int .i8 x.f3.f0, .string x.f3.f1.f0, .int .i8 x.f3.f1.f1.f0, .int .i64 x.f3.f1.f1.f1, .string x.f3.f1.f1.f2, .slice B1 x.f3.f2.length d1, .int .i8 x.f4.f0, .string x.f4.f1.f0, .int .i8 x.f4.f1.f1.f0, .int .i64 x.f4.f1.f1.f1, .string x.f4.f1.f1.f2, .slice B2 x.f4.f2.length d2] 56 (0, 0)) := (by rw [hw]; exact xas (cs := #[.int .i8 x.f0, .string x.f1.f0, .slice B0 x.f1.f1.length d0, .int .i8 x.f2, .int .i8 x.f3.f0, .string x.f3.f1.f0, .int .i8 x.f3.f1.f1.f0, .int .i64 x.f3.f1.f1.f1, .string x.f3.f1.f1.f2, .slice B1 x.f3.f2.length d1, .int .i8 x.f4.f0, .string x.f4.f1.f0, .int .i8 x.f4.f1.f1.f0, .int .i64 x.f4.f1.f1.f1, .string x.f4.f1.f1.f2, .slice A2 x.f4.f2.length c2]) (cs' := #[.int .i8 x.f0, .string x.f1.f0, .slice B0 x.f1.f1.length d0, .int .i8 x.f2, .int .i8 x.f3.f0, .string x.f3.f1.f0, .int .i8 x.f3.f1.f1.f0, .int .i64 x.f3.f1.f1.f1, .string x.f3.f1.f1.f2, .slice B1 x.f3.f2.length d1, .int .i8 x.f4.f0, .string x.f4.f1.f0, .int .i8 x.f4.f1.f1.f0, .int .i64 x.f4.f1.f1.f1, .string x.f4.f1.f1.f2, .slice B2 x.f4.f2.length d2]) (xas (cs := #[.int .i8 x.f0, .string x.f1.f0, .slice B0 x.f1.f1.length d0, .int .i8 x.f2, .int .i8 x.f3.f0, .string x.f3.f1.f0, .int .i8 x.f3.f1.f1.f0, .int .i64 x.f3.f1.f1.f1, .string x.f3.f1.f1.f2, .slice B1 x.f3.f2.length d1, .int .i8 x.f4.f0, .string x.f4.f1.f0, .int .i8 x.f4.f1.f1.f0, .int .i64 x.f4.f1.f1.f1, .string x.f4.f1.f1.f2, .slice A2 x.f4.f2.length c2]) (cs' := #[.int .i8 x.f0, .string x.f1.f0, .slice B0 x.f1.f1.length d0, .int .i8 x.f2, .int .i8 x.f3.f0, .string x.f3.f1.f0, .int .i8 x.f3.f1.f1.f0, .int .i64 x.f3.f1.f1.f1, .string x.f3.f1.f1.f2, .slice B1 x.f3.f2.length d1, .int .i8 x.f4.f0, .string x.f4.f1.f0, .int .i8 x.f4.f1.f1.f0, .int .i64 x.f4.f1.f1.f1, .string x.f4.f1.f1.f2, .slice A2 x.f4.f2.length c2]) (xas (cs := #[.int .i8 x.f0, .string x.f1.f0, .slice B0 x.f1.f1.length d0, .int .i8 x.f2, .int .i8 x.f3.f0, .string x.f3.f1.f0, .int .i8 x.f3.f1.f1.f0, .int .i64 x.f3.f1.f1.f1, .string x.f3.f1.f1.f2, .slice B1 x.f3.f2.length d1, .int .i8 x.f4.f0, .string x.f4.f1.f0, .int .i8 x.f4.f1.f1.f0, .int .i64 x.f4.f1.f1.f1, .string x.f4.f1.f1.f2, .slice A2 x.f4.f2.length c2]) (cs' := #[.int .i8 x.f0, .string x.f1.f0, .slice B0 x.f1.f1.length d0, .int .i8 x.f2, .int .i8 x.f3.f0, .string x.f3.f1.f0, .int .i8 x.f3.f1.f1.f0, .int .i64 x.f3.f1.f1.f1, .string x.f3.f1.f1.f2, .slice B1 x.f3.f2.length d1, .int .i8 x.f4.f0, .string x.f4.f1.f0, .int .i8 x.f4.f1.f1.f0, .int .i64 x.f4.f1.f1.f1, .string x.f4.f1.f1.f2, .slice A2 x.f4.f2.length c2]) (xas (cs := #[.int .i8 x.f0, .string x.f1.f0, .slice B0 x.f1.f1.length d0, .int .i8 x.f2, .int .i8 x.f3.f0, .string x.f3.f1.f0, .int .i8 x.f3.f1.f1.f0, .int .i64 x.f3.f1.f1.f1, .string x.f3.f1.f1.f2, .slice B1 x.f3.f2.length d1, .int .i8 x.f4.f0, .string x.f4.f1.f0, .int .i8 x.f4.f1.f1.f0, .int .i64 x.f4.f1.f1.f1, .string x.f4.f1.f1.f2, .slice A2 x.f4.f2.length c2]) (cs' := #[.int .i8 x.f0, .string x.f1.f0, .slice B0 x.f1.f1.length d0, .int .i8 x.f2, .int .i8 x.f3.f0, .string x.f3.f1.f0, .int .i8 x.f3.f1.f1.f0, .int .i64 x.f3.f1.f1.f1, .string x.f3.f1.f1.f2, .slice B1 x.f3.f2.length d1, .int .i8 x.f4.f0, .string x.f4.f1.f0, .int .i8 x.f4.f1.f1.f0, .int .i64 x.f4.f1.f1.f1, .string x.f4.f1.f1.f2, .slice A2 x.f4.f2.length c2]) (xas (cs := #[.int .i8 x.f0, .string x.f1.f0, .slice B0 x.f1.f1.length d0, .int .i8 x.f2, .int .i8 x.f3.f0, .string x.f3.f1.f0, .int .i8 x.f3.f1.f1.f0, .int .i64 x.f3.f1.f1.f1, .string x.f3.f1.f1.f2, .slice B1 x.f3.f2.length d1, .int .i8 x.f4.f0, .string x.f4.f1.f0, .int .i8 x.f4.f1.f1.f0, .int .i64 x.f4.f1.f1.f1, .string x.f4.f1.f1.f2, .slice A2 x.f4.f2.length c2]) (cs' := #[.int .i8 x.f0, .string x.f1.f0, .slice B0 x.f1.f1.length d0, .int .i8 x.f2, .int .i8 x.f3.f0, .string x.f3.f1.f0, .int .i8 x.f3.f1.f1.f0, .int .i64 x.f3.f1.f1.f1, .string x.f3.f1.f1.f2, .slice B1 x.f3.f2.length d1, .int .i8 x.f4.f0, .string x.f4.f1.f0, .int .i8 x.f4.f1.f1.f0, .int .i64 x.f4.f1.f1.f1, .string x.f4.f1.f1.f2, .slice A2 x.f4.f2.length c2]) (xas (cs := #[.int .i8 x.f0, .string x.f1.f0, .slice B0 x.f1.f1.length d0, .int .i8 x.f2, .int .i8 x.f3.f0, .string x.f3.f1.f0, .int .i8 x.f3.f1.f1.f0, .int .i64 x.f3.f1.f1.f1, .string x.f3.f1.f1.f2, .slice B1 x.f3.f2.length d1, .int .i8 x.f4.f0, .string x.f4.f1.f0, .int .i8 x.f4.f1.f1.f0, .int .i64 x.f4.f1.f1.f1, .string x.f4.f1.f1.f2, .slice A2 x.f4.f2.length c2]) (cs' := #[.int .i8 x.f0, .string x.f1.f0, .slice B0 x.f1.f1.length d0, .int .i8 x.f2, .int .i8 x.f3.f0, .string x.f3.f1.f0, .int .i8 x.f3.f1.f1.f0, .int .i64 x.f3.f1.f1.f1, .string x.f3.f1.f1.f2, .slice B1 x.f3.f2.length d1, .int .i8 x.f4.f0, .string x.f4.f1.f0, .int .i8 x.f4.f1.f1.f0, .int .i64 x.f4.f1.f1.f1, .string x.f4.f1.f1.f2, .slice A2 x.f4.f2.length c2]) (HK1.out) 10 _ rfl) 11 _ rfl) 12 _ rfl) 13 _ rfl) 14 _ rfl) 15 _ rfl); have hfar : ∀ k, k ≠ w.heap.size → v3.heap[k]? = u2.heap[k]? := (fun k hk => by rw [hw]; repeat rw [Below.heap_setCell _ _ _ _ (by exact hk)]); have hk2 := (hfar (w.heap.size + 1) (by omega)).trans HK2.out; have hbb : Below w.heap.size w v3 := (by rw [hw]; exact xad (xad (xad (xad (xad (xad (HB.out) (Nat.le_refl _)) (Nat.le_refl _)) (Nat.le_refl _)) (Nat.le_refl _)) (Nat.le_refl _)) (Nat.le_refl _)); have hz : w.heap.size + 2 ≤ v3.heap.size := (by rw [hw]; simpa using HZ.out); have hw0 := Kd.M_step (w1 := v3) HW0.out (fun k hk _ => hfar k (by omega)); have hw1 := Kd.M_step (w1 := v3) HW1.out (fun k hk _ => hfar k (by omega)); have hw2 := Kd.M_step (w1 := v3) HW2.out (fun k hk _ => hfar k (by omega)); clear hw hfar HK1 HK2 HB HZ HW0 HW1 HW2; have HK1 := Lib.hid hk1; have HK2 := Lib.hid hk2; have HB := Lib.hid hbb; have HZ := Lib.hid hz; have HW0 := Lib.hid hw0; have HW1 := Lib.hid hw1; have HW2 := Lib.hid hw2; clear hk1 hk2 hbb hz hw0 hw1 hw2; clear p0 pf0 p1 pf1 p2 pf2 p3 pf3 p4 pf4 p5 pf5 p6 pf6 p7 pf7 p8 pf8 p9 pf9 p10 pf10 p11 pf11 p12 pf12 p13 pf13 p14 pf14 p15 pf15; have p0 : v3.cell? ⟨w.heap.size, 0, none⟩ = some (.int .i8 x.f0) := (xae HK1.out 0).trans rfl; have pf0 := xal HK1.out 0; have p1 : v3.cell? ⟨w.heap.size, 1, none⟩ = some (.string x.f1.f0) := (xae HK1.out 1).trans rfl; have pf1 := xal HK1.out 1; have p2 : v3.cell? ⟨w.heap.size, 2, none⟩ = some (.slice B0 x.f1.f1.length d0) := (xae HK1.out 2).trans rfl; have pf2 := xal HK1.out 2; have p3 : v3.cell? ⟨w.heap.size, 3, none⟩ = some (.int .i8 x.f2) := (xae HK1.out 3).trans rfl; have pf3 := xal HK1.out 3; have p4 : v3.cell? ⟨w.heap.size, 4, none⟩ = some (.int .i8 x.f3.f0) := (xae HK1.out 4).trans rfl; have pf4 := xal HK1.out 4; have p5 : v3.cell? ⟨w.heap.size, 5, none⟩ = some (.string x.f3.f1.f0) := (xae HK1.out 5).trans rfl; have pf5 := xal HK1.out 5; have p6 : v3.cell? ⟨w.heap.size, 6, none⟩ = some (.int .i8 x.f3.f1.f1.f0) := (xae HK1.out 6).trans rfl; have pf6 := xal HK1.out 6; have p7 : v3.cell? ⟨w.heap.size, 7, none⟩ = some (.int .i64 x.f3.f1.f1.f1) := (xae HK1.out 7).trans rfl; have pf7 := xal HK1.out 7; have p8 : v3.cell? ⟨w.heap.size, 8, none⟩ = some (.string x.f3.f1.f1.f2) := (xae HK1.out 8).trans rfl; have pf8 := xal HK1.out 8; have p9 : v3.cell? ⟨w.heap.size, 9, none⟩ = some (.slice B1 x.f3.f2.length d1) := (xae HK1.out 9).trans rfl; have pf9 := xal HK1.out 9; have p10 : v3.cell? ⟨w.heap.size, 10, none⟩ = some (.int .i8 x.f4.f0) := (xae HK1.out 10).trans rfl; have pf10 := xal HK1.out 10; have p11 : v3.cell? ⟨w.heap.size, 11, none⟩ = some (.string x.f4.f1.f0) := (xae HK1.out 11).trans rfl; have pf11 := xal HK1.out 11; have p12 : v3.cell? ⟨w.heap.size, 12, none⟩ = some (.int .i8 x.f4.f1.f1.f0) := (xae HK1.out 12).trans rfl; have pf12 := xal HK1.out 12; have p13 : v3.cell? ⟨w.heap.size, 13, none⟩ = some (.int .i64 x.f4.f1.f1.f1) := (xae HK1.out 13).trans rfl; have pf13 := xal HK1.out 13; have p14 : v3.cell? ⟨w.heap.size, 14, none⟩ = some (.string x.f4.f1.f1.f2) := (xae HK1.out 14).trans rfl; have pf14 := xal HK1.out 14; have p15 : v3.cell? ⟨w.heap.size, 15, none⟩ = some (.slice B2 x.f4.f2.length d2) := (xae HK1.out 15).trans rfl; have pf15 := xal HK1.out 15; have q0 : v3.cell? ⟨w.heap.size + 1, 0, none⟩ = some (.int .i8 0) := (xae HK2.out 0).trans rfl; have qf0 := xal HK2.out 0; have q1 : v3.cell? ⟨w.heap.size + 1, 1, none⟩ = some (.string ⟨#[]⟩) := (xae HK2.out 1).trans rfl; have qf1 := xal HK2.out 1; have q2 : v3.cell? ⟨w.heap.size + 1, 2, none⟩ = some (.slice none 0 0) := (xae HK2.out 2).trans rfl; have qf2 := xal HK2.out 2; have q3 : v3.cell? ⟨w.heap.size + 1, 3, none⟩ = some (.int .i8 0) := (xae HK2.out 3).trans rfl; have qf3 := xal HK2.out 3; have q4 : v3.cell? ⟨w.heap.size + 1, 4, none⟩ = some (.int .i8 0) := (xae HK2.out 4).trans rfl; have qf4 := xal HK2.out 4; have q5 : v3.cell? ⟨w.heap.size + 1, 5, none⟩ = some (.string ⟨#[]⟩) := (xae HK2.out 5).trans rfl; have qf5 := xal HK2.out 5; have q6 : v3.cell? ⟨w.heap.size + 1, 6, none⟩ = some (.int .i8 0) := (xae HK2.out 6).trans rfl; have qf6 := xal HK2.out 6; have q7 : v3.cell? ⟨w.heap.size + 1, 7, none⟩ = some (.int .i64 0) := (xae HK2.out 7).trans rfl; have qf7 := xal HK2.out 7; have q8 : v3.cell? ⟨w.heap.size + 1, 8, none⟩ = some (.string ⟨#[]⟩) := (xae HK2.out 8).trans rfl; have qf8 := xal HK2.out 8; have q9 : v3.cell? ⟨w.heap.size + 1, 9, none⟩ = some (.slice none 0 0) := (xae HK2.out 9).trans rfl; have qf9 := xal HK2.out 9; have q10 : v3.cell? ⟨w.heap.size + 1, 10, none⟩ = some (.int .i8 0) := (xae HK2.out 10).trans rfl; have qf10 := xal HK2.out 10; have q11 : v3.cell? ⟨w.heap.size + 1, 11, none⟩ = some (.string ⟨#[]⟩) := (xae HK2.out 11).trans rfl; have qf11 := xal HK2.out 11; have q12 : v3.cell? ⟨w.heap.size + 1, 12, none⟩ = some (.int .i8 0) := (xae HK2.out 12).trans rfl; have qf12 := xal HK2.out 12; have q13 : v3.cell? ⟨w.heap.size + 1, 13, none⟩ = some (.int .i64 0) := (xae HK2.out 13).trans rfl; have qf13 := xal HK2.out 13; have q14 : v3.cell? ⟨w.heap.size + 1, 14, none⟩ = some (.string ⟨#[]⟩) := (xae HK2.out 14).trans rfl; have qf14 := xal HK2.out 14; have q15 : v3.cell? ⟨w.heap.size + 1, 15, none⟩ = some (.slice none 0 0) := (xae HK2.out 15).trans rfl; have qf15 := xal HK2.out 15)
 refine bodyPost_ret (results_cell_row rfl _ _ (w.heap.size + 1) 56 #[.int .i8 x.f0, .string x.f1.f0, .slice B0 x.f1.f1.length d0, .int .i8 x.f2, .int .i8 x.f3.f0, .string x.f3.f1.f0, .int .i8 x.f3.f1.f1.f0, .int .i64 x.f3.f1.f1.f1, .string x.f3.f1.f1.f2, .slice B1 x.f3.f2.length d1, .int .i8 x.f4.f0, .string x.f4.f1.f0, .int .i8 x.f4.f1.f1.f0, .int .i64 x.f4.f1.f1.f1, .string x.f4.f1.f1.f2, .slice B2 x.f4.f2.length d2] (0, 0) _ rfl (xas (cs := #[.int .i8 x.f0, .string x.f1.f0, .slice B0 x.f1.f1.length d0, .int .i8 x.f2, .int .i8 x.f3.f0, .string x.f3.f1.f0, .int .i8 x.f3.f1.f1.f0, .int .i64 x.f3.f1.f1.f1, .string x.f3.f1.f1.f2, .slice B1 x.f3.f2.length d1, .int .i8 x.f4.f0, .string x.f4.f1.f0, .int .i8 x.f4.f1.f1.f0, .int .i64 x.f4.f1.f1.f1, .string x.f4.f1.f1.f2, .slice none 0 0]) (cs' := #[.int .i8 x.f0, .string x.f1.f0, .slice B0 x.f1.f1.length d0, .int .i8 x.f2, .int .i8 x.f3.f0, .string x.f3.f1.f0, .int .i8 x.f3.f1.f1.f0, .int .i64 x.f3.f1.f1.f1, .string x.f3.f1.f1.f2, .slice B1 x.f3.f2.length d1, .int .i8 x.f4.f0, .string x.f4.f1.f0, .int .i8 x.f4.f1.f1.f0, .int .i64 x.f4.f1.f1.f1, .string x.f4.f1.f1.f2, .slice B2 x.f4.f2.length d2]) (xas (cs := #[.int .i8 x.f0, .string x.f1.f0, .slice B0 x.f1.f1.length d0, .int .i8 x.f2, .int .i8 x.f3.f0, .string x.f3.f1.f0, .int .i8 x.f3.f1.f1.f0, .int .i64 x.f3.f1.f1.f1, .string x.f3.f1.f1.f2, .slice B1 x.f3.f2.length d1, .int .i8 x.f4.f0, .string x.f4.f1.f0, .int .i8 x.f4.f1.f1.f0, .int .i64 x.f4.f1.f1.f1, .string ⟨#[]⟩, .slice none 0 0]) (cs' := #[.int .i8 x.f0, .string x.f1.f0, .slice B0 x.f1.f1.length d0, .int .i8 x.f2, .int .i8 x.f3.f0, .string x.f3.f1.f0, .int .i8 x.f3.f1.f1.f0, .int .i64 x.f3.f1.f1.f1, .string x.f3.f1.f1.f2, .slice B1 x.f3.f2.length d1, .int .i8 x.f4.f0, .string x.f4.f1.f0, .int .i8 x.f4.f1.f1.f0, .int .i64 x.f4.f1.f1.f1, .string x.f4.f1.f1.f2, .slice none 0 0]) (xas (cs := #[.int .i8 x.f0, .string x.f1.f0, .slice B0 x.f1.f1.length d0, .int .i8 x.f2, .int .i8 x.f3.f0, .string x.f3.f1.f0, .int .i8 x.f3.f1.f1.f0, .int .i64 x.f3.f1.f1.f1, .string x.f3.f1.f1.f2, .slice B1 x.f3.f2.length d1, .int .i8 x.f4.f0, .string x.f4.f1.f0, .int .i8 x.f4.f1.f1.f0, .int .i64 0, .string ⟨#[]⟩, .slice none 0 0]) (cs' := #[.int .i8 x.f0, .string x.f1.f0, .slice B0 x.f1.f1.length d0, .int .i8 x.f2, .int .i8 x.f3.f0, .string x.f3.f1.f0, .int .i8 x.f3.f1.f1.f0, .int .i64 x.f3.f1.f1.f1, .string x.f3.f1.f1.f2, .slice B1 x.f3.f2.length d1, .int .i8 x.f4.f0, .string x.f4.f1.f0, .int .i8 x.f4.f1.f1.f0, .int .i64 x.f4.f1.f1.f1, .string ⟨#[]⟩, .slice none 0 0]) (xas (cs := #[.int .i8 x.f0, .string x.f1.f0, .slice B0 x.f1.f1.length d0, .int .i8 x.f2, .int .i8 x.f3.f0, .string x.f3.f1.f0, .int .i8 x.f3.f1.f1.f0, .int .i64 x.f3.f1.f1.f1, .string x.f3.f1.f1.f2, .slice B1 x.f3.f2.length d1, .int .i8 x.f4.f0, .string x.f4.f1.f0, .int .i8 0, .int .i64 0, .string ⟨#[]⟩, .slice none 0 0]) (cs' := #[.int .i8 x.f0, .string x.f1.f0, .slice B0 x.f1.f1.length d0, .int .i8 x.f2, .int .i8 x.f3.f0, .string x.f3.f1.f0, .int .i8 x.f3.f1.f1.f0, .int .i64 x.f3.f1.f1.f1, .string x.f3.f1.f1.f2, .slice B1 x.f3.f2.length d1, .int .i8 x.f4.f0, .string x.f4.f1.f0, .int .i8 x.f4.f1.f1.f0, .int .i64 0, .string ⟨#[]⟩, .slice none 0 0]) (xas (cs := #[.int .i8 x.f0, .string x.f1.f0, .slice B0 x.f1.f1.length d0, .int .i8 x.f2, .int .i8 x.f3.f0, .string x.f3.f1.f0, .int .i8 x.f3.f1.f1.f0, .int .i64 x.f3.f1.f1.f1, .string x.f3.f1.f1.f2, .slice B1 x.f3.f2.length d1, .int .i8 x.f4.f0, .string ⟨#[]⟩, .int .i8 0, .int .i64 0, .string ⟨#[]⟩, .slice none 0 0]) (cs' := #[.int .i8 x.f0, .string x.f1.f0, .slice B0 x.f1.f1.length d0, .int .i8 x.f2, .int .i8 x.f3.f0, .string x.f3.f1.f0, .int .i8 x.f3.f1.f1.f0, .int .i64 x.f3.f1.f1.f1, .string x.f3.f1.f1.f2, .slice B1 x.f3.f2.length d1, .int .i8 x.f4.f0, .string x.f4.f1.f0, .int .i8 0, .int .i64 0, .string ⟨#[]⟩, .slice none 0 0]) (xas (cs := #[.int .i8 x.f0, .string x.f1.f0, .slice B0 x.f1.f1.length d0, .int .i8 x.f2, .int .i8 x.f3.f0, .string x.f3.f1.f0, .int .i8 x.f3.f1.f1.f0, .int .i64 x.f3.f1.f1.f1, .string x.f3.f1.f1.f2, .slice B1 x.f3.f2.length d1, .int .i8 0, .string ⟨#[]⟩, .int .i8 0, .int .i64 0, .string ⟨#[]⟩, .slice none 0 0]) (cs' := #[.int .i8 x.f0, .string x.f1.f0, .slice B0 x.f1.f1.length d0, .int .i8 x.f2, .int .i8 x.f3.f0, .string x.f3.f1.f0, .int .i8 x.f3.f1.f1.f0, .int .i64 x.f3.f1.f1.f1, .string x.f3.f1.f1.f2, .slice B1 x.f3.f2.length d1, .int .i8 x.f4.f0, .string ⟨#[]⟩, .int .i8 0, .int .i64 0, .string ⟨#[]⟩, .slice none 0 0]) (xas (cs := #[.int .i8 x.f0, .string x.f1.f0, .slice B0 x.f1.f1.length d0, .int .i8 x.f2, .int .i8 x.f3.f0, .string x.f3.f1.f0, .int .i8 x.f3.f1.f1.f0, .int .i64 x.f3.f1.f1.f1, .string x.f3.f1.f1.f2, .slice none 0 0, .int .i8 0, .string ⟨#[]⟩, .int .i8 0, .int .i64 0, .string ⟨#[]⟩, .slice none 0 0]) (cs' := #[.int .i8 x.f0, .string x.f1.f0, .slice B0 x.f1.f1.length d0, .int .i8 x.f2, .int .i8 x.f3.f0, .string x.f3.f1.f0, .int .i8 x.f3.f1.f1.f0, .int .i64 x.f3.f1.f1.f1, .string x.f3.f1.f1.f2, .slice B1 x.f3.f2.length d1, .int .i8 0, .string ⟨#[]⟩, .int .i8 0, .int .i64 0, .string ⟨#[]⟩, .slice none 0 0]) (xas (cs := #[.int .i8 x.f0, .string x.f1.f0, .slice B0 x.f1.f1.length d0, .int .i8 x.f2, .int .i8 x.f3.f0, .string x.f3.f1.f0, .int .i8 x.f3.f1.f1.f0, .int .i64 x.f3.f1.f1.f1, .string ⟨#[]⟩, .slice none 0 0, .int .i8 0, .string ⟨#[]⟩, .int .i8 0, .int .i64 0, .string ⟨#[]⟩, .slice none 0 0]) (cs' := #[.int .i8 x.f0, .string x.f1.f0, .slice B0 x.f1.f1.length d0, .int .i8 x.f2, .int .i8 x.f3.f0, .string x.f3.f1.f0, .int .i8 x.f3.f1.f1.f0, .int .i64 x.f3.f1.f1.f1, .string x.f3.f1.f1.f2, .slice none 0 0, .int .i8 0, .string ⟨#[]⟩, .int .i8 0, .int .i64 0, .string ⟨#[]⟩, .slice none 0 0]) (xas (cs := #[.int .i8 x.f0, .string x.f1.f0, .slice B0 x.f1.f1.length d0, .int .i8 x.f2, .int .i8 x.f3.f0, .string x.f3.f1.f0, .int .i8 x.f3.f1.f1.f0, .int .i64 0, .string ⟨#[]⟩, .slice none 0 0, .int .i8 0, .string ⟨#[]⟩, .int .i8 0, .int .i64 0, .string ⟨#[]⟩, .slice none 0 0]) (cs' := #[.int .i8 x.f0, .string x.f1.f0, .slice B0 x.f1.f1.length d0, .int .i8 x.f2, .int .i8 x.f3.f0, .string x.f3.f1.f0, .int .i8 x.f3.f1.f1.f0, .int .i64 x.f3.f1.f1.f1, .string ⟨#[]⟩, .slice none 0 0, .int .i8 0, .string ⟨#[]⟩, .int .i8 0, .int .i64 0, .string ⟨#[]⟩, .slice none 0 0]) (xas (cs := #[.int .i8 x.f0, .string x.f1.f0, .slice B0 x.f1.f1.length d0, .int .i8 x.f2, .int .i8 x.f3.f0, .string x.f3.f1.f0, .int .i8 0, .int .i64 0, .string ⟨#[]⟩, .slice none 0 0, .int .i8 0, .string ⟨#[]⟩, .int .i8 0, .int .i64 0, .string ⟨#[]⟩, .slice none 0 0]) (cs' := #[.int .i8 x.f0, .string x.f1.f0, .slice B0 x.f1.f1.length d0, .int .i8 x.f2, .int .i8 x.f3.f0, .string x.f3.f1.f0, .int .i8 x.f3.f1.f1.f0, .int .i64 0, .string ⟨#[]⟩, .slice none 0 0, .int .i8 0, .string ⟨#[]⟩, .int .i8 0, .int .i64 0, .string ⟨#[]⟩, .slice none 0 0]) (xas (cs := #[.int .i8 x.f0, .string x.f1.f0, .slice B0 x.f1.f1.length d0, .int .i8 x.f2, .int .i8 x.f3.f0, .string ⟨#[]⟩, .int .i8 0, .int .i64 0, .string ⟨#[]⟩, .slice none 0 0, .int .i8 0, .string ⟨#[]⟩, .int .i8 0, .int .i64 0, .string ⟨#[]⟩, .slice none 0 0]) (cs' := #[.int .i8 x.f0, .string x.f1.f0, .slice B0 x.f1.f1.length d0, .int .i8 x.f2, .int .i8 x.f3.f0, .string x.f3.f1.f0, .int .i8 0, .int .i64 0, .string ⟨#[]⟩, .slice none 0 0, .int .i8 0, .string ⟨#[]⟩, .int .i8 0, .int .i64 0, .string ⟨#[]⟩, .slice none 0 0]) (xas (cs := #[.int .i8 x.f0, .string x.f1.f0, .slice B0 x.f1.f1.length d0, .int .i8 x.f2, .int .i8 0, .string ⟨#[]⟩, .int .i8 0, .int .i64 0, .string ⟨#[]⟩, .slice none 0 0, .int .i8 0, .string ⟨#[]⟩, .int .i8 0, .int .i64 0, .string ⟨#[]⟩, .slice none 0 0]) (cs' := #[.int .i8 x.f0, .string x.f1.f0, .slice B0 x.f1.f1.length d0, .int .i8 x.f2, .int .i8 x.f3.f0, .string ⟨#[]⟩, .int .i8 0, .int .i64 0, .string ⟨#[]⟩, .slice none 0 0, .int .i8 0, .string ⟨#[]⟩, .int .i8 0, .int .i64 0, .string ⟨#[]⟩, .slice none 0 0]) (xas (cs := #[.int .i8 x.f0, .string x.f1.f0, .slice B0 x.f1.f1.length d0, .int .i8 0, .int .i8 0, .string ⟨#[]⟩, .int .i8 0, .int .i64 0, .string ⟨#[]⟩, .slice none 0 0, .int .i8 0, .string ⟨#[]⟩, .int .i8 0, .int .i64 0, .string ⟨#[]⟩, .slice none 0 0]) (cs' := #[.int .i8 x.f0, .string x.f1.f0, .slice B0 x.f1.f1.length d0, .int .i8 x.f2, .int .i8 0, .string ⟨#[]⟩, .int .i8 0, .int .i64 0, .string ⟨#[]⟩, .slice none 0 0, .int .i8 0, .string ⟨#[]⟩, .int .i8 0, .int .i64 0, .string ⟨#[]⟩, .slice none 0 0]) (xas (cs := #[.int .i8 x.f0, .string x.f1.f0, .slice none 0 0, .int .i8 0, .int .i8 0, .string ⟨#[]⟩, .int .i8 0, .int .i64 0, .string ⟨#[]⟩, .slice none 0 0, .int .i8 0, .string ⟨#[]⟩, .int .i8 0, .int .i64 0, .string ⟨#[]⟩, .slice none 0 0]) (cs' := #[.int .i8 x.f0, .string x.f1.f0, .slice B0 x.f1.f1.length d0, .int .i8 0, .int .i8 0, .string ⟨#[]⟩, .int .i8 0, .int .i64 0, .string ⟨#[]⟩, .slice none 0 0, .int .i8 0, .string ⟨#[]⟩, .int .i8 0, .int .i64 0, .string ⟨#[]⟩, .slice none 0 0]) (xas (cs := #[.int .i8 x.f0, .string ⟨#[]⟩, .slice none 0 0, .int .i8 0, .int .i8 0, .string ⟨#[]⟩, .int .i8 0, .int .i64 0, .string ⟨#[]⟩, .slice none 0 0, .int .i8 0, .string ⟨#[]⟩, .int .i8 0, .int .i64 0, .string ⟨#[]⟩, .slice none 0 0]) (cs' := #[.int .i8 x.f0, .string x.f1.f0, .slice none 0 0, .int .i8 0, .int .i8 0, .string ⟨#[]⟩, .int .i8 0, .int .i64 0, .string ⟨#[]⟩, .slice none 0 0, .int .i8 0, .string ⟨#[]⟩, .int .i8 0, .int .i64 0, .string ⟨#[]⟩, .slice none 0 0]) (xas (cs := #[.int .i8 0, .string ⟨#[]⟩, .slice none 0 0, .int .i8 0, .int .i8 0, .string ⟨#[]⟩, .int .i8 0, .int .i64 0, .string ⟨#[]⟩, .slice none 0 0, .int .i8 0, .string ⟨#[]⟩, .int .i8 0, .int .i64 0, .string ⟨#[]⟩, .slice none 0 0]) (cs' := #[.int .i8 x.f0, .string ⟨#[]⟩, .slice none 0 0, .int .i8 0, .int .i8 0, .string ⟨#[]⟩, .int .i8 0, .int .i64 0, .string ⟨#[]⟩, .slice none 0 0, .int .i8 0, .string ⟨#[]⟩, .int .i8 0, .int .i64 0, .string ⟨#[]⟩, .slice none 0 0]) (HK2.out) 0 _ rfl) 1 _ rfl) 2 _ rfl) 3 _ rfl) 4 _ rfl) 5 _ rfl) 6 _ rfl) 7 _ rfl) 8 _ rfl) 9 _ rfl) 10 _ rfl) 11 _ rfl) 12 _ rfl) 13 _ rfl) 14 _ rfl) 15 _ rfl) Tryd.underlying56 rfl (by kernel_rfl)) rfl ?_
 have hfar : ∀ k, k ≠ w.heap.size + 1 → ((((((((((((((((v3.setCell ⟨w.heap.size + 1, 0, none⟩ (.int .i8 x.f0)).setCell ⟨w.heap.size + 1, 1, none⟩ (.string x.f1.f0)).setCell ⟨w.heap.size + 1, 2, none⟩ (.slice B0 x.f1.f1.length d0)).setCell ⟨w.heap.size + 1, 3, none⟩ (.int .i8 x.f2)).setCell ⟨w.heap.size + 1, 4, none⟩ (.int .i8 x.f3.f0)).setCell ⟨w.heap.size + 1, 5, none⟩ (.string x.f3.f1.f0)).setCell ⟨w.heap.size + 1, 6, none⟩ (.int .i8 x.f3.f1.f1.f0)).setCell ⟨w.heap.size + 1, 7, none⟩ (.int .i64 x.f3.f1.f1.f1)).setCell ⟨w.heap.size + 1, 8, none⟩ (.string x.f3.f1.f1.f2)).setCell ⟨w.heap.size + 1, 9, none⟩ (.slice B1 x.f3.f2.length d1)).setCell ⟨w.heap.size + 1, 10, none⟩ (.int .i8 x.f4.f0)).setCell ⟨w.heap.size + 1, 11, none⟩ (.string x.f4.f1.f0)).setCell ⟨w.heap.size + 1, 12, none⟩ (.int .i8 x.f4.f1.f1.f0)).setCell ⟨w.heap.size + 1, 13, none⟩ (.int .i64 x.f4.f1.f1.f1)).setCell ⟨w.heap.size + 1, 14, none⟩ (.string x.f4.f1.f1.f2)).setCell ⟨w.heap.size + 1, 15, none⟩ (.slice B2 x.f4.f2.length d2)).heap[k]? = v3.heap[k]? := (fun k hk => by repeat rw [Below.heap_setCell _ _ _ _ (by exact hk)])
 have hw0 := k53t.M_mono (ok' := fun _ => True) (fun _ _ => trivial) (Kd.M_step (w1 := ((((((((((((((((v3.setCell ⟨w.heap.size + 1, 0, none⟩ (.int .i8 x.f0)).setCell ⟨w.heap.size + 1, 1, none⟩ (.string x.f1.f0)).setCell ⟨w.heap.size + 1, 2, none⟩ (.slice B0 x.f1.f1.length d0)).setCell ⟨w.heap.size + 1, 3, none⟩ (.int .i8 x.f2)).setCell ⟨w.heap.size + 1, 4, none⟩ (.int .i8 x.f3.f0)).setCell ⟨w.heap.size + 1, 5, none⟩ (.string x.f3.f1.f0)).setCell ⟨w.heap.size + 1, 6, none⟩ (.int .i8 x.f3.f1.f1.f0)).setCell ⟨w.heap.size + 1, 7, none⟩ (.int .i64 x.f3.f1.f1.f1)).setCell ⟨w.heap.size + 1, 8, none⟩ (.string x.f3.f1.f1.f2)).setCell ⟨w.heap.size + 1, 9, none⟩ (.slice B1 x.f3.f2.length d1)).setCell ⟨w.heap.size + 1, 10, none⟩ (.int .i8 x.f4.f0)).setCell ⟨w.heap.size + 1, 11, none⟩ (.string x.f4.f1.f0)).setCell ⟨w.heap.size + 1, 12, none⟩ (.int .i8 x.f4.f1.f1.f0)).setCell ⟨w.heap.size + 1, 13, none⟩ (.int .i64 x.f4.f1.f1.f1)).setCell ⟨w.heap.size + 1, 14, none⟩ (.string x.f4.f1.f1.f2)).setCell ⟨w.heap.size + 1, 15, none⟩ (.slice B2 x.f4.f2.length d2))) HW0.out (fun k hk _ => hfar k (by omega)))
 have hw1 := k31t.M_mono (ok' := fun _ => True) (fun _ _ => trivial) (Kd.M_step (w1 := ((((((((((((((((v3.setCell ⟨w.heap.size + 1, 0, none⟩ (.int .i8 x.f0)).setCell ⟨w.heap.size + 1, 1, none⟩ (.string x.f1.f0)).setCell ⟨w.heap.size + 1, 2, none⟩ (.slice B0 x.f1.f1.length d0)).setCell ⟨w.heap.size + 1, 3, none⟩ (.int .i8 x.f2)).setCell ⟨w.heap.size + 1, 4, none⟩ (.int .i8 x.f3.f0)).setCell ⟨w.heap.size + 1, 5, none⟩ (.string x.f3.f1.f0)).setCell ⟨w.heap.size + 1, 6, none⟩ (.int .i8 x.f3.f1.f1.f0)).setCell ⟨w.heap.size + 1, 7, none⟩ (.int .i64 x.f3.f1.f1.f1)).setCell ⟨w.heap.size + 1, 8, none⟩ (.string x.f3.f1.f1.f2)).setCell ⟨w.heap.size + 1, 9, none⟩ (.slice B1 x.f3.f2.length d1)).setCell ⟨w.heap.size + 1, 10, none⟩ (.int .i8 x.f4.f0)).setCell ⟨w.heap.size + 1, 11, none⟩ (.string x.f4.f1.f0)).setCell ⟨w.heap.size + 1, 12, none⟩ (.int .i8 x.f4.f1.f1.f0)).setCell ⟨w.heap.size + 1, 13, none⟩ (.int .i64 x.f4.f1.f1.f1)).setCell ⟨w.heap.size + 1, 14, none⟩ (.string x.f4.f1.f1.f2)).setCell ⟨w.heap.size + 1, 15, none⟩ (.slice B2 x.f4.f2.length d2))) HW1.out (fun k hk _ => hfar k (by omega)))
 have hw2 := k31t.M_mono (ok' := fun _ => True) (fun _ _ => trivial) (Kd.M_step (w1 := ((((((((((((((((v3.setCell ⟨w.heap.size + 1, 0, none⟩ (.int .i8 x.f0)).setCell ⟨w.heap.size + 1, 1, none⟩ (.string x.f1.f0)).setCell ⟨w.heap.size + 1, 2, none⟩ (.slice B0 x.f1.f1.length d0)).setCell ⟨w.heap.size + 1, 3, none⟩ (.int .i8 x.f2)).setCell ⟨w.heap.size + 1, 4, none⟩ (.int .i8 x.f3.f0)).setCell ⟨w.heap.size + 1, 5, none⟩ (.string x.f3.f1.f0)).setCell ⟨w.heap.size + 1, 6, none⟩ (.int .i8 x.f3.f1.f1.f0)).setCell ⟨w.heap.size + 1, 7, none⟩ (.int .i64 x.f3.f1.f1.f1)).setCell ⟨w.heap.size + 1, 8, none⟩ (.string x.f3.f1.f1.f2)).setCell ⟨w.heap.size + 1, 9, none⟩ (.slice B1 x.f3.f2.length d1)).setCell ⟨w.heap.size + 1, 10, none⟩ (.int .i8 x.f4.f0)).setCell ⟨w.heap.size + 1, 11, none⟩ (.string x.f4.f1.f0)).setCell ⟨w.heap.size + 1, 12, none⟩ (.int .i8 x.f4.f1.f1.f0)).setCell ⟨w.heap.size + 1, 13, none⟩ (.int .i64 x.f4.f1.f1.f1)).setCell ⟨w.heap.size + 1, 14, none⟩ (.string x.f4.f1.f1.f2)).setCell ⟨w.heap.size + 1, 15, none⟩ (.slice B2 x.f4.f2.length d2))) HW2.out (fun k hk _ => hfar k (by omega)))
 exact ⟨_, rfl, ⟨[.int .i8 x.f0], [.string x.f1.f0, .slice B0 x.f1.f1.length d0, .int .i8 x.f2, .int .i8 x.f3.f0, .string x.f3.f1.f0, .int .i8 x.f3.f1.f1.f0, .int .i64 x.f3.f1.f1.f1, .string x.f3.f1.f1.f2, .slice B1 x.f3.f2.length d1, .int .i8 x.f4.f0, .string x.f4.f1.f0, .int .i8 x.f4.f1.f1.f0, .int .i64 x.f4.f1.f1.f1, .string x.f4.f1.f1.f2, .slice B2 x.f4.f2.length d2], rfl, rfl, ⟨[.string x.f1.f0, .slice B0 x.f1.f1.length d0], [.int .i8 x.f2, .int .i8 x.f3.f0, .string x.f3.f1.f0, .int .i8 x.f3.f1.f1.f0, .int .i64 x.f3.f1.f1.f1, .string x.f3.f1.f1.f2, .slice B1 x.f3.f2.length d1, .int .i8 x.f4.f0, .string x.f4.f1.f0, .int .i8 x.f4.f1.f1.f0, .int .i64 x.f4.f1.f1.f1, .string x.f4.f1.f1.f2, .slice B2 x.f4.f2.length d2], rfl, hw0, ⟨[.int .i8 x.f2], [.int .i8 x.f3.f0, .string x.f3.f1.f0, .int .i8 x.f3.f1.f1.f0, .int .i64 x.f3.f1.f1.f1, .string x.f3.f1.f1.f2, .slice B1 x.f3.f2.length d1, .int .i8 x.f4.f0, .string x.f4.f1.f0, .int .i8 x.f4.f1.f1.f0, .int .i64 x.f4.f1.f1.f1, .string x.f4.f1.f1.f2, .slice B2 x.f4.f2.length d2], rfl, rfl, ⟨[.int .i8 x.f3.f0, .string x.f3.f1.f0, .int .i8 x.f3.f1.f1.f0, .int .i64 x.f3.f1.f1.f1, .string x.f3.f1.f1.f2, .slice B1 x.f3.f2.length d1], [.int .i8 x.f4.f0, .string x.f4.f1.f0, .int .i8 x.f4.f1.f1.f0, .int .i64 x.f4.f1.f1.f1, .string x.f4.f1.f1.f2, .slice B2 x.f4.f2.length d2], rfl, hw1, hw2⟩⟩⟩⟩, xad (xad (xad (xad (xad (xad (xad (xad (xad (xad (xad (xad (xad (xad (xad (xad (HB.out) (Nat.le_succ _)) (Nat.le_succ _)) (Nat.le_succ _)) (Nat.le_succ _)) (Nat.le_succ _)) (Nat.le_succ _)) (Nat.le_succ _)) (Nat.le_succ _)) (Nat.le_succ _)) (Nat.le_succ _)) (Nat.le_succ _)) (Nat.le_succ _)) (Nat.le_succ _)) (Nat.le_succ _)) (Nat.le_succ _)) (Nat.le_succ _)⟩
end Go.Proofs.YtllcmggmcogokaaDoor.PAll
end
section
namespace Go.Proofs.YtllcmggmcogokaaDoor.PAll
open Go.RowKit Go.Proofs.YtllcmggmcogokaaDoorW.PrintWords Go.Proofs.YtllcmggmcogokaaDoorW.PrintLast Go.Proofs.YtllcmggmcogokaaDoorW.PrintMore
attribute [local go_sem] max2_int min2_int max_two min_two max_three min_three max_four min_four
attribute [local go_sem high] eqA28
def w1_isExpr.f (a0_0 : Int) (a0_1 : ByteArray) (a0_2 : Int) (a0_3 : Int) (a0_4 : ByteArray) (l0_5 : List (S31)) (a1 : Int) : Option (Bool) := if a0_0 = 99 then ((w1_word.f a1).bind fun t315 => (if (a0_1.toList == t315.toList && ((a0_2 == 0 && (a0_3 == 0 && (a0_4.toList == ([] : List UInt8)))))) = true then (some ((l0_5.length : Int) == 0)) else (some false))) else (some false)
def w1_isExpr.T1 : Bool × List (List Nat × List Nat) := (true, [([], []), ([0], [0]), ([1], [1]), ([2], [2]), ([3], [3]), ([4, 3], [3, 4]), ([3], [3]), ([6, 3, 3], [3, 6]), ([7, 3], [3, 7]), ([5, 8, 3], [3, 5, 8]), ([3, 9], [3, 9]), ([10, 7], [10]), ([11], [11]), ([12, 11], [11, 12]), ([13, 11], [11, 13]), ([14, 11], [11, 14]), ([11, 15], [11, 15]), ([16, 11, 0, 1, 2, 3, 4, 5, 6, 7, 8, 9, 10, 11, 12, 13, 14, 15, 16], [16])])
def w1_isExpr.B1 : List Nat := [0, 1, 3, 7, 15, 31, 15, 79, 207, 511, 1023, 2047, 4095, 8191, 16383, 32767, 65535, 131071]
theorem w1_isExpr.tab1 : rtab .any (opsOf Tryd.f125 1) = w1_isExpr.T1 := by kernel_rfl
theorem w1_isExpr.bits1 : waitsOk w1_isExpr.T1.2 w1_isExpr.B1 = true := by kernel_rfl
set_option maxHeartbeats 8000000 in
set_option maxRecDepth 100000 in
theorem w1_isExpr.calls (a0_0 : Int) (a0_1 : ByteArray) (a0_2 : Int) (a0_3 : Int) (a0_4 : ByteArray) (A0_5 : Option Addr) (c0_5 : Nat) (l0_5 : List (S31)) (a1 : Int) (r : Bool) (w : World) (hr0_5 : Kd.C k31 w A0_5 l0_5.length l0_5) (hc0_5 : l0_5.length ≤ c0_5) (hTB : TabB w) (h : w1_isExpr.f a0_0 a0_1 a0_2 a0_3 a0_4 l0_5 a1 = some r) :
  Calls Tryd.prog 125 #[.agg #[.int .i8 a0_0, .string a0_1, .int .i8 a0_2, .int .i64 a0_3, .string a0_4, .slice A0_5 l0_5.length c0_5], .int .i64 a1] w fun e w' => e = .returned (.bool r) ∧ Below w.heap.size w w' := by
 have hu31 := Tryd.underlying31
 have hu28 := Tryd.underlying28
 have HR0_5 := Aside0.mk hr0_5
 have HC0_5 := Aside0.mk hc0_5
 clear hr0_5 hc0_5
 have HB := Aside0.mk (Below.refl w.heap.size w)
 have HTB := Aside0.mk hTB
 clear hTB
 have H : (if a0_0 = 99 then ((w1_word.f a1).bind fun t315 => (if (a0_1.toList == t315.toList && ((a0_2 == 0 && (a0_3 == 0 && (a0_4.toList == ([] : List UInt8)))))) = true then (some ((l0_5.length : Int) == 0)) else (some false))) else (some false)) = some r := h
 clear h
 by_cases c3 : a0_0 = 99
 ·rw [if_pos c3] at H
  have c3b0 : (a0_0 == 99) = true := beq_iff_eq.mpr c3
  have c3b1 : (a0_0 != 99) = false := bne_eq_false_iff_eq.mpr c3
  clear c3
  replace H := Option.bind_eq_some_iff.mp H
  obtain ⟨t315, A40, H⟩ := H
  replace H : (if (a0_1.toList == t315.toList && ((a0_2 == 0 && (a0_3 == 0 && (a0_4.toList == ([] : List UInt8)))))) = true then (some ((l0_5.length : Int) == 0)) else (some false)) = some r := H
  have A4 := Aside0.mk A40
  clear A40
  by_cases c5 : (a0_1.toList == t315.toList && ((a0_2 == 0 && (a0_3 == 0 && (a0_4.toList == ([] : List UInt8)))))) = true
  ·rw [if_pos c5] at H
   have c5b0 : (a0_1.toList == t315.toList && ((a0_2 == 0 && (a0_3 == 0 && (a0_4.toList == ([] : List UInt8)))))) = true := c5
   (try (have c5b1 : (a0_1.toList == t315.toList && ((a0_2 == 0 && (a0_3 == 0 && (a0_4.toList.isEmpty))))) = true := by simpa using c5))
   (try (have c5b2 : decide (a0_1.toList = t315.toList && ((a0_2 == 0 && (a0_3 == 0 && (a0_4.toList == ([] : List UInt8)))))) = true := by simpa using c5))
   (try (have c5b3 : (a0_1.toList == t315.toList && ((a0_2 == 0 && (a0_3 == 0 && (a0_4.toList == ([] : List UInt8)))))) = true := by simpa using c5))
   clear c5
   obtain rfl := Option.some.inj H
   go_enter Tryd.func125, Tryd.ntmps125
   try go_wp2_with (first | ((with_reducible refine xar (N := 2) rfl ?_); (try (refine xav (by rfl) ?_; dsimp only)); refine xap ?hg (N := 2) ?hd (cs := #[.int .i8 a0_0, .string a0_1, .int .i8 a0_2, .int .i64 a0_3, .string a0_4, .slice A0_5 l0_5.length c0_5]) (t := 31) ?hr ?_; (case hd => rfl); (case hg => rfl); (case hr => first | (go_simp; done) | (go_simp; rfl)); intro gb314 hg w6 hbox hb; have n0_ := Aside0.mk (xah (by repeat (first | (with_reducible first | exact HB.out | apply xab | apply xaa | apply xac) | exact HB.out)) hb); have n1_ := Aside0.mk (hbox); have n2_ := Aside0.mk ((by rw [hg]; exact (xao (by repeat (first | (with_reducible first | exact HB.out | apply xab | apply xaa | apply xac) | exact HB.out))) : w.heap.size ≤ gb314)); have n3_ := n2_; clear HB; have HB := n0_; have BK314 := n1_; have GW314 := n2_; have GE314 := n3_; clear n0_ n1_ n2_ n3_; clear hb hbox hg))
   have n0_ := Aside0.mk (xai BK314.out)
   have n1_ := Aside0.mk (xac HB.out)
   clear BK314
   clear HB
   have BK314 := n0_
   have HB := n1_
   clear n0_ n1_
   refine start_ (n := 18) (S := fun w' => w'.cell? ⟨gb314, 0, none⟩ = some (.int .i8 a0_0) ∧ w'.cell? ⟨gb314, 1, none⟩ = some (.string a0_1) ∧ w'.cell? ⟨gb314, 2, none⟩ = some (.int .i8 a0_2) ∧ w'.cell? ⟨gb314, 3, none⟩ = some (.int .i64 a0_3) ∧ w'.cell? ⟨gb314, 4, none⟩ = some (.string a0_4) ∧ w'.cell? ⟨gb314, 5, none⟩ = some (.slice A0_5 l0_5.length c0_5)) (ds := []) #[false, false, false, false, false, false, false, false, false, false, false, false, false, false, false, false, false, false] (by kernel_rfl) rfl rfl ⟨(xae BK314.out 0).trans rfl, (xae BK314.out 1).trans rfl, (xae BK314.out 2).trans rfl, (xae BK314.out 3).trans rfl, (xae BK314.out 4).trans rfl, (xae BK314.out 5).trans rfl⟩ (fun hHeld => ?_); refine xbo w1_isExpr.tab1 w1_isExpr.bits1 (fun HT_ HW_ => ?_)
   generalize w6.drew = w7 at BK314 HB hHeld ⊢
   refine pure_ (i := 0) (N := some 5) (v := ?_) (a' := ?_) #[true, false, false, false, false, false, false, false, false, false, false, false, false, false, false, false, false, false] rfl rfl (any_of HT_.out (by kernel_rfl)) (fun _ _ _ h => h) (Or.inl ⟨by rfl, ?_⟩) ?_ ?_
   rotate_left
   ·intro w'
    go_simp
    with_reducible rfl
   rotate_left
   ·simp only [Act.put, sI, sZ, sS, i64_w, i32_w]
    rfl
   refine take_ (i := 1) (N := some 6) (v := ?_) (a' := ?_) #[true, true, false, false, false, false, false, false, false, false, false, false, false, false, false, false, false, false] rfl rfl (xbb HT_.out HW_.out (by kernel_rfl)) (fun _ _ _ h => h) (Or.inl ⟨by rfl, ?_⟩) hHeld ?_ ?_
   rotate_left
   ·rintro w' ⟨s0, s1, s2, s3, s4, s5⟩
    go_simp
    with_reducible rfl
   rotate_left
   ·simp only [Act.put, sI, sZ, sS, i64_w, i32_w]
    rfl
   refine pure_ (i := 2) (N := some 7) (v := ?_) (a' := ?_) #[true, true, true, false, false, false, false, false, false, false, false, false, false, false, false, false, false, false] rfl rfl (any_of HT_.out (by kernel_rfl)) (fun _ _ _ h => h) (Or.inl ⟨by rfl, ?_⟩) ?_ ?_
   rotate_left
   ·intro w'
    go_simp
    with_reducible rfl
   rotate_left
   ·simp only [Act.put, sI, sZ, sS, i64_w, i32_w]
    rfl
   refine pure_ (i := 3) (N := some 8) (v := ?_) (a' := ?_) #[true, true, true, true, false, false, false, false, false, false, false, false, false, false, false, false, false, false] rfl rfl (any_of HT_.out (by kernel_rfl)) (fun _ _ _ h => h) (Or.inl ⟨by rfl, ?_⟩) ?_ ?_
   rotate_left
   ·intro w'
    go_simp
    with_reducible rfl
   rotate_left
   ·simp only [Act.put, sI, sZ, sS, i64_w, i32_w]
    rfl
   refine pure_ (i := 4) (N := some 9) (v := ?_) (a' := ?_) #[true, true, true, true, true, false, false, false, false, false, false, false, false, false, false, false, false, false] rfl rfl (any_of HT_.out (by kernel_rfl)) (fun _ _ _ h => h) (Or.inl ⟨by rfl, ?_⟩) ?_ ?_
   rotate_left
   ·intro w'
    go_simp
    with_reducible rfl
   rotate_left
   ·simp only [Act.put, sI, sZ, sS, i64_w, i32_w]
    rfl
   refine pure_ (i := 6) (N := some 11) (v := ?_) (a' := ?_) #[true, true, true, true, true, false, true, false, false, false, false, false, false, false, false, false, false, false] rfl rfl (any_of HT_.out (by kernel_rfl)) (fun _ _ _ h => h) (Or.inl ⟨by rfl, ?_⟩) ?_ ?_
   rotate_left
   ·intro w'
    go_simp
    with_reducible rfl
   rotate_left
   ·simp only [Act.put, sI, sZ, sS, i64_w, i32_w]
    rfl
   refine take_ (i := 5) (N := some 10) (v := ?_) (a' := ?_) #[true, true, true, true, true, true, true, false, false, false, false, false, false, false, false, false, false, false] rfl rfl (xbb HT_.out HW_.out (by kernel_rfl)) (fun _ _ _ h => h) (Or.inl ⟨by rfl, ?_⟩) hHeld ?_ ?_
   rotate_left
   ·rintro w' ⟨s0, s1, s2, s3, s4, s5⟩
    go_simp
    with_reducible rfl
   rotate_left
   ·simp only [Act.put, sI, sZ, sS, i64_w, i32_w]
    rfl
   refine one_ (i := 7) (N := some 12) #[true, true, true, true, true, true, true, true, false, false, false, false, false, false, false, false, false, false] rfl rfl (one_of HT_.out (by kernel_rfl)) (by decide) (fun K hK => ?_)
   refine goes_ Tryd.func124 (by kernel_rfl) rfl #[.int .i64 a1] (by rfl) rfl rfl (by (try simp only [List.map_toArray, List.map_cons, List.map_nil]); first | done | rfl | (simp only [List.length_drop, List.length_take]; rfl)) ?_
   with_reducible refine (w1_word.calls a1 t315 _ ?side1 A4.out).mono ?_
   (case side1 => exact TabB.below HTB.out (by repeat (first | (with_reducible first | exact HB.out | apply xab | apply xaa | apply xac | refine xad ?_ GE314.out) | exact HB.out)))
   rintro e w8 ⟨rfl, hb⟩
   refine ⟨_, rfl, ?_⟩
   have n0_ := Aside0.mk (xam (g := gb314) (o := .cells #[.int .i8 a0_0, .string a0_1, .int .i8 a0_2, .int .i64 a0_3, .string a0_4, .slice A0_5 l0_5.length c0_5] 31 (0, 0)) (by (with_reducible repeat (first | refine xag ?_ _ | refine xai ?_ | refine xaf ?_ _)); exact BK314.out) hb)
   have n1_ := Aside0.mk (xah (by repeat (first | (with_reducible first | exact HB.out | apply xab | apply xaa | apply xac | refine xad ?_ GE314.out) | exact HB.out)) hb)
   clear BK314
   clear HB
   have BK314 := n0_
   have HB := n1_
   clear n0_ n1_
   (try clear hb)
   (try clear hb2)
   (try clear hk)
   (try clear hi)
   refine hK.out _ _ ⟨(xae BK314.out 0).trans rfl, (xae BK314.out 1).trans rfl, (xae BK314.out 2).trans rfl, (xae BK314.out 3).trans rfl, (xae BK314.out 4).trans rfl, (xae BK314.out 5).trans rfl⟩ (fun hHeld => ?_)
   clear hK K
   refine norm_ (a' := ?_) ?_ ?_
   rotate_left
   ·show Act.put _ (some 12) _ = _
    simp only [Act.put, sI, sZ, sS, i64_w, i32_w]
    rfl
   refine pure_ (i := 8) (N := some 13) (v := ?_) (a' := ?_) #[true, true, true, true, true, true, true, true, true, false, false, false, false, false, false, false, false, false] rfl rfl (any_of HT_.out (by kernel_rfl)) (fun _ _ _ h => h) (Or.inl ⟨by rfl, ?_⟩) ?_ ?_
   rotate_left
   ·intro w'
    go_simp
    with_reducible rfl
   rotate_left
   ·simp only [Act.put, sI, sZ, sS, i64_w, i32_w]
    rfl
   refine pure_ (i := 9) (N := some 14) (v := ?_) (a' := ?_) #[true, true, true, true, true, true, true, true, true, true, false, false, false, false, false, false, false, false] rfl rfl (any_of HT_.out (by kernel_rfl)) (fun _ _ _ h => h) (Or.inl ⟨by rfl, ?_⟩) ?_ ?_
   rotate_left
   ·intro w'
    go_simp
    with_reducible rfl
   rotate_left
   ·simp only [Act.put, sI, sZ, sS, i64_w, i32_w]
    rfl
   refine pure_ (i := 10) (N := some 15) (v := ?_) (a' := ?_) #[true, true, true, true, true, true, true, true, true, true, true, false, false, false, false, false, false, false] rfl rfl (any_of HT_.out (by kernel_rfl)) (fun _ _ _ h => h) (Or.inl ⟨by rfl, ?_⟩) ?_ ?_
   rotate_left
   ·intro w'
    go_simp
    with_reducible rfl
   rotate_left
   ·simp only [Act.put, sI, sZ, sS, i64_w, i32_w]
    rfl
   refine pure_ (i := 11) (N := some 16) (v := ?_) (a' := ?_) #[true, true, true, true, true, true, true, true, true, true, true, true, false, false, false, false, false, false] rfl rfl (any_of HT_.out (by kernel_rfl)) (fun _ _ _ h => h) (Or.inl ⟨by rfl, ?_⟩) ?_ ?_
   rotate_left
   ·intro w'
    go_simp
    with_reducible rfl
   rotate_left
   ·simp only [Act.put, sI, sZ, sS, i64_w, i32_w]
    rfl
   refine pure_ (i := 12) (N := some 17) (v := ?_) (a' := ?_) #[true, true, true, true, true, true, true, true, true, true, true, true, true, false, false, false, false, false] rfl rfl (any_of HT_.out (by kernel_rfl)) (fun _ _ _ h => h) (Or.inl ⟨by rfl, ?_⟩) ?_ ?_
   rotate_left
   ·intro w'
    go_simp
    with_reducible rfl
   rotate_left
   ·simp only [Act.put, sI, sZ, sS, i64_w, i32_w]
    rfl
   refine take_ (i := 13) (N := some 18) (v := ?_) (a' := ?_) #[true, true, true, true, true, true, true, true, true, true, true, true, true, true, false, false, false, false] rfl rfl (xbb HT_.out HW_.out (by kernel_rfl)) (fun _ _ _ h => h) (Or.inl ⟨by rfl, ?_⟩) hHeld ?_ ?_
   rotate_left
   ·rintro w' ⟨s0, s1, s2, s3, s4, s5⟩
    go_simp
    with_reducible rfl
   rotate_left
   ·simp only [Act.put, sI, sZ, sS, i64_w, i32_w]
    rfl
   refine pure_ (i := 14) (N := some 19) (v := ?_) (a' := ?_) #[true, true, true, true, true, true, true, true, true, true, true, true, true, true, true, false, false, false] rfl rfl (any_of HT_.out (by kernel_rfl)) (fun _ _ _ h => h) (Or.inl ⟨by rfl, ?_⟩) ?_ ?_
   rotate_left
   ·intro w'
    go_simp
    with_reducible rfl
   rotate_left
   ·simp only [Act.put, sI, sZ, sS, i64_w, i32_w]
    rfl
   refine pure_ (i := 15) (N := some 20) (v := ?_) (a' := ?_) #[true, true, true, true, true, true, true, true, true, true, true, true, true, true, true, true, false, false] rfl rfl (any_of HT_.out (by kernel_rfl)) (fun _ _ _ h => h) (Or.inl ⟨by rfl, ?_⟩) ?_ ?_
   rotate_left
   ·intro w'
    go_simp
    with_reducible rfl
   rotate_left
   ·simp only [Act.put, sI, sZ, sS, i64_w, i32_w]
    rfl
   refine pure_ (i := 16) (N := some 21) (v := ?_) (a' := ?_) #[true, true, true, true, true, true, true, true, true, true, true, true, true, true, true, true, true, false] rfl rfl (any_of HT_.out (by kernel_rfl)) (fun _ _ _ h => h) (Or.inl ⟨by rfl, ?_⟩) ?_ ?_
   rotate_left
   ·intro w'
    go_simp
    with_reducible rfl
   rotate_left
   ·simp only [Act.put, sI, sZ, sS, i64_w, i32_w]
    rfl
   refine pure_ (i := 17) (N := some 4) (v := ?_) (a' := ?_) #[true, true, true, true, true, true, true, true, true, true, true, true, true, true, true, true, true, true] rfl rfl (any_of HT_.out (by kernel_rfl)) (fun _ _ _ h => h) (Or.inl ⟨by rfl, ?_⟩) ?_ ?_
   rotate_left
   ·intro w'
    go_simp
    with_reducible rfl
   rotate_left
   ·simp only [Act.put, sI, sZ, sS, i64_w, i32_w]
    rfl
   refine done_ (done_of HT_.out (by kernel_rfl)) ?_
   try go_wp2
   go_ret
   exact ⟨by first | rfl | (simp [xak, xaj] <;> rfl) | (simp [*, xak, xaj] <;> rfl), by repeat (first | (with_reducible first | exact HB.out | apply xab | apply xaa | apply xac | refine xad ?_ GE314.out) | exact HB.out)⟩
  ·rw [if_neg c5] at H
   have c5b0 : (a0_1.toList == t315.toList && ((a0_2 == 0 && (a0_3 == 0 && (a0_4.toList == ([] : List UInt8)))))) = false := by simpa using c5
   (try (have c5b1 : (a0_1.toList == t315.toList && ((a0_2 == 0 && (a0_3 == 0 && (a0_4.toList.isEmpty))))) = false := by simpa using c5))
   (try (have c5b2 : decide (a0_1.toList = t315.toList && ((a0_2 == 0 && (a0_3 == 0 && (a0_4.toList == ([] : List UInt8)))))) = false := by simpa using c5))
   (try (have c5b3 : (a0_1.toList == t315.toList && ((a0_2 == 0 && (a0_3 == 0 && (a0_4.toList == ([] : List UInt8)))))) = false := by simpa using c5))
   (try (have c5b4 : ¬ (a0_1.toList = t315.toList && ((a0_2 == 0 && (a0_3 == 0 && (a0_4.toList == ([] : List UInt8)))))) := by simpa using c5))
   clear c5
   obtain rfl := Option.some.inj H
   go_enter Tryd.func125, Tryd.ntmps125
   try go_wp2_with (first | ((with_reducible refine xar (N := 2) rfl ?_); (try (refine xav (by rfl) ?_; dsimp only)); refine xap ?hg (N := 2) ?hd (cs := #[.int .i8 a0_0, .string a0_1, .int .i8 a0_2, .int .i64 a0_3, .string a0_4, .slice A0_5 l0_5.length c0_5]) (t := 31) ?hr ?_; (case hd => rfl); (case hg => rfl); (case hr => first | (go_simp; done) | (go_simp; rfl)); intro gb314 hg w9 hbox hb; have n0_ := Aside0.mk (xah (by repeat (first | (with_reducible first | exact HB.out | apply xab | apply xaa | apply xac) | exact HB.out)) hb); have n1_ := Aside0.mk (hbox); have n2_ := Aside0.mk ((by rw [hg]; exact (xao (by repeat (first | (with_reducible first | exact HB.out | apply xab | apply xaa | apply xac) | exact HB.out))) : w.heap.size ≤ gb314)); have n3_ := n2_; clear HB; have HB := n0_; have BK314 := n1_; have GW314 := n2_; have GE314 := n3_; clear n0_ n1_ n2_ n3_; clear hb hbox hg))
   have n0_ := Aside0.mk (xai BK314.out)
   have n1_ := Aside0.mk (xac HB.out)
   clear BK314
   clear HB
   have BK314 := n0_
   have HB := n1_
   clear n0_ n1_
   refine start_ (n := 18) (S := fun w' => w'.cell? ⟨gb314, 0, none⟩ = some (.int .i8 a0_0) ∧ w'.cell? ⟨gb314, 1, none⟩ = some (.string a0_1) ∧ w'.cell? ⟨gb314, 2, none⟩ = some (.int .i8 a0_2) ∧ w'.cell? ⟨gb314, 3, none⟩ = some (.int .i64 a0_3) ∧ w'.cell? ⟨gb314, 4, none⟩ = some (.string a0_4) ∧ w'.cell? ⟨gb314, 5, none⟩ = some (.slice A0_5 l0_5.length c0_5)) (ds := []) #[false, false, false, false, false, false, false, false, false, false, false, false, false, false, false, false, false, false] (by kernel_rfl) rfl rfl ⟨(xae BK314.out 0).trans rfl, (xae BK314.out 1).trans rfl, (xae BK314.out 2).trans rfl, (xae BK314.out 3).trans rfl, (xae BK314.out 4).trans rfl, (xae BK314.out 5).trans rfl⟩ (fun hHeld => ?_); refine xbo w1_isExpr.tab1 w1_isExpr.bits1 (fun HT_ HW_ => ?_)
   generalize w9.drew = w10 at BK314 HB hHeld ⊢
   refine pure_ (i := 0) (N := some 5) (v := ?_) (a' := ?_) #[true, false, false, false, false, false, false, false, false, false, false, false, false, false, false, false, false, false] rfl rfl (any_of HT_.out (by kernel_rfl)) (fun _ _ _ h => h) (Or.inl ⟨by rfl, ?_⟩) ?_ ?_
   rotate_left
   ·intro w'
    go_simp
    with_reducible rfl
   rotate_left
   ·simp only [Act.put, sI, sZ, sS, i64_w, i32_w]
    rfl
   refine take_ (i := 1) (N := some 6) (v := ?_) (a' := ?_) #[true, true, false, false, false, false, false, false, false, false, false, false, false, false, false, false, false, false] rfl rfl (xbb HT_.out HW_.out (by kernel_rfl)) (fun _ _ _ h => h) (Or.inl ⟨by rfl, ?_⟩) hHeld ?_ ?_
   rotate_left
   ·rintro w' ⟨s0, s1, s2, s3, s4, s5⟩
    go_simp
    with_reducible rfl
   rotate_left
   ·simp only [Act.put, sI, sZ, sS, i64_w, i32_w]
    rfl
   refine pure_ (i := 2) (N := some 7) (v := ?_) (a' := ?_) #[true, true, true, false, false, false, false, false, false, false, false, false, false, false, false, false, false, false] rfl rfl (any_of HT_.out (by kernel_rfl)) (fun _ _ _ h => h) (Or.inl ⟨by rfl, ?_⟩) ?_ ?_
   rotate_left
   ·intro w'
    go_simp
    with_reducible rfl
   rotate_left
   ·simp only [Act.put, sI, sZ, sS, i64_w, i32_w]
    rfl
   refine pure_ (i := 3) (N := some 8) (v := ?_) (a' := ?_) #[true, true, true, true, false, false, false, false, false, false, false, false, false, false, false, false, false, false] rfl rfl (any_of HT_.out (by kernel_rfl)) (fun _ _ _ h => h) (Or.inl ⟨by rfl, ?_⟩) ?_ ?_
   rotate_left
   ·intro w'
    go_simp
    with_reducible rfl
   rotate_left
   ·simp only [Act.put, sI, sZ, sS, i64_w, i32_w]
    rfl
   refine pure_ (i := 4) (N := some 9) (v := ?_) (a' := ?_) #[true, true, true, true, true, false, false, false, false, false, false, false, false, false, false, false, false, false] rfl rfl (any_of HT_.out (by kernel_rfl)) (fun _ _ _ h => h) (Or.inl ⟨by rfl, ?_⟩) ?_ ?_
   rotate_left
   ·intro w'
    go_simp
    with_reducible rfl
   rotate_left
   ·simp only [Act.put, sI, sZ, sS, i64_w, i32_w]
    rfl
   refine pure_ (i := 6) (N := some 11) (v := ?_) (a' := ?_) #[true, true, true, true, true, false, true, false, false, false, false, false, false, false, false, false, false, false] rfl rfl (any_of HT_.out (by kernel_rfl)) (fun _ _ _ h => h) (Or.inl ⟨by rfl, ?_⟩) ?_ ?_
   rotate_left
   ·intro w'
    go_simp
    with_reducible rfl
   rotate_left
   ·simp only [Act.put, sI, sZ, sS, i64_w, i32_w]
    rfl
   refine take_ (i := 5) (N := some 10) (v := ?_) (a' := ?_) #[true, true, true, true, true, true, true, false, false, false, false, false, false, false, false, false, false, false] rfl rfl (xbb HT_.out HW_.out (by kernel_rfl)) (fun _ _ _ h => h) (Or.inl ⟨by rfl, ?_⟩) hHeld ?_ ?_
   rotate_left
   ·rintro w' ⟨s0, s1, s2, s3, s4, s5⟩
    go_simp
    with_reducible rfl
   rotate_left
   ·simp only [Act.put, sI, sZ, sS, i64_w, i32_w]
    rfl
   refine one_ (i := 7) (N := some 12) #[true, true, true, true, true, true, true, true, false, false, false, false, false, false, false, false, false, false] rfl rfl (one_of HT_.out (by kernel_rfl)) (by decide) (fun K hK => ?_)
   refine goes_ Tryd.func124 (by kernel_rfl) rfl #[.int .i64 a1] (by rfl) rfl rfl (by (try simp only [List.map_toArray, List.map_cons, List.map_nil]); first | done | rfl | (simp only [List.length_drop, List.length_take]; rfl)) ?_
   with_reducible refine (w1_word.calls a1 t315 _ ?side1 A4.out).mono ?_
   (case side1 => exact TabB.below HTB.out (by repeat (first | (with_reducible first | exact HB.out | apply xab | apply xaa | apply xac | refine xad ?_ GE314.out) | exact HB.out)))
   rintro e w11 ⟨rfl, hb⟩
   refine ⟨_, rfl, ?_⟩
   have n0_ := Aside0.mk (xam (g := gb314) (o := .cells #[.int .i8 a0_0, .string a0_1, .int .i8 a0_2, .int .i64 a0_3, .string a0_4, .slice A0_5 l0_5.length c0_5] 31 (0, 0)) (by (with_reducible repeat (first | refine xag ?_ _ | refine xai ?_ | refine xaf ?_ _)); exact BK314.out) hb)
   have n1_ := Aside0.mk (xah (by repeat (first | (with_reducible first | exact HB.out | apply xab | apply xaa | apply xac | refine xad ?_ GE314.out) | exact HB.out)) hb)
   clear BK314
   clear HB
   have BK314 := n0_
   have HB := n1_
   clear n0_ n1_
   (try clear hb)
   (try clear hb2)
   (try clear hk)
   (try clear hi)
   refine hK.out _ _ ⟨(xae BK314.out 0).trans rfl, (xae BK314.out 1).trans rfl, (xae BK314.out 2).trans rfl, (xae BK314.out 3).trans rfl, (xae BK314.out 4).trans rfl, (xae BK314.out 5).trans rfl⟩ (fun hHeld => ?_)
   clear hK K
   refine norm_ (a' := ?_) ?_ ?_
   rotate_left
   ·show Act.put _ (some 12) _ = _
    simp only [Act.put, sI, sZ, sS, i64_w, i32_w]
    rfl
   refine pure_ (i := 8) (N := some 13) (v := ?_) (a' := ?_) #[true, true, true, true, true, true, true, true, true, false, false, false, false, false, false, false, false, false] rfl rfl (any_of HT_.out (by kernel_rfl)) (fun _ _ _ h => h) (Or.inl ⟨by rfl, ?_⟩) ?_ ?_
   rotate_left
   ·intro w'
    go_simp
    with_reducible rfl
   rotate_left
   ·simp only [Act.put, sI, sZ, sS, i64_w, i32_w]
    rfl
   refine pure_ (i := 9) (N := some 14) (v := ?_) (a' := ?_) #[true, true, true, true, true, true, true, true, true, true, false, false, false, false, false, false, false, false] rfl rfl (any_of HT_.out (by kernel_rfl)) (fun _ _ _ h => h) (Or.inl ⟨by rfl, ?_⟩) ?_ ?_
   rotate_left
   ·intro w'
    go_simp
    with_reducible rfl
   rotate_left
   ·simp only [Act.put, sI, sZ, sS, i64_w, i32_w]
    rfl
   refine pure_ (i := 10) (N := some 15) (v := ?_) (a' := ?_) #[true, true, true, true, true, true, true, true, true, true, true, false, false, false, false, false, false, false] rfl rfl (any_of HT_.out (by kernel_rfl)) (fun _ _ _ h => h) (Or.inl ⟨by rfl, ?_⟩) ?_ ?_
   rotate_left
   ·intro w'
    go_simp
    with_reducible rfl
   rotate_left
   ·simp only [Act.put, sI, sZ, sS, i64_w, i32_w]
    rfl
   refine pure_ (i := 11) (N := some 16) (v := ?_) (a' := ?_) #[true, true, true, true, true, true, true, true, true, true, true, true, false, false, false, false, false, false] rfl rfl (any_of HT_.out (by kernel_rfl)) (fun _ _ _ h => h) (Or.inl ⟨by rfl, ?_⟩) ?_ ?_
   rotate_left
   ·intro w'
    go_simp
    with_reducible rfl
   rotate_left
   ·simp only [Act.put, sI, sZ, sS, i64_w, i32_w]
    rfl
   refine pure_ (i := 12) (N := some 17) (v := undef) (a' := ?_) #[true, true, true, true, true, true, true, true, true, true, true, true, true, false, false, false, false, false] rfl rfl (any_of HT_.out (by kernel_rfl)) (fun _ _ _ h => h) (Or.inr ⟨by rfl, rfl⟩) ?_ ?_
   rotate_left
   ·simp only [Act.put, sI, sZ, sS, i64_w, i32_w]
    rfl
   refine pure_ (i := 13) (N := some 18) (v := undef) (a' := ?_) #[true, true, true, true, true, true, true, true, true, true, true, true, true, true, false, false, false, false] rfl rfl (any_of HT_.out (by kernel_rfl)) (fun _ _ _ h => h) (Or.inr ⟨by rfl, rfl⟩) ?_ ?_
   rotate_left
   ·simp only [Act.put, sI, sZ, sS, i64_w, i32_w]
    rfl
   refine pure_ (i := 14) (N := some 19) (v := undef) (a' := ?_) #[true, true, true, true, true, true, true, true, true, true, true, true, true, true, true, false, false, false] rfl rfl (any_of HT_.out (by kernel_rfl)) (fun _ _ _ h => h) (Or.inr ⟨by rfl, rfl⟩) ?_ ?_
   rotate_left
   ·simp only [Act.put, sI, sZ, sS, i64_w, i32_w]
    rfl
   refine pure_ (i := 15) (N := some 20) (v := undef) (a' := ?_) #[true, true, true, true, true, true, true, true, true, true, true, true, true, true, true, true, false, false] rfl rfl (any_of HT_.out (by kernel_rfl)) (fun _ _ _ h => h) (Or.inr ⟨by rfl, rfl⟩) ?_ ?_
   rotate_left
   ·simp only [Act.put, sI, sZ, sS, i64_w, i32_w]
    rfl
   refine pure_ (i := 16) (N := some 21) (v := ?_) (a' := ?_) #[true, true, true, true, true, true, true, true, true, true, true, true, true, true, true, true, true, false] rfl rfl (any_of HT_.out (by kernel_rfl)) (fun _ _ _ h => h) (Or.inl ⟨by rfl, ?_⟩) ?_ ?_
   rotate_left
   ·intro w'
    go_simp
    with_reducible rfl
   rotate_left
   ·simp only [Act.put, sI, sZ, sS, i64_w, i32_w]
    rfl
   refine pure_ (i := 17) (N := some 4) (v := ?_) (a' := ?_) #[true, true, true, true, true, true, true, true, true, true, true, true, true, true, true, true, true, true] rfl rfl (any_of HT_.out (by kernel_rfl)) (fun _ _ _ h => h) (Or.inl ⟨by rfl, ?_⟩) ?_ ?_
   rotate_left
   ·intro w'
    go_simp
    with_reducible rfl
   rotate_left
   ·simp only [Act.put, sI, sZ, sS, i64_w, i32_w]
    rfl
   refine done_ (done_of HT_.out (by kernel_rfl)) ?_
   try go_wp2
   go_ret
   exact ⟨by first | rfl | (simp [xak, xaj] <;> rfl) | (simp [*, xak, xaj] <;> rfl), by repeat (first | (with_reducible first | exact HB.out | apply xab | apply xaa | apply xac | refine xad ?_ GE314.out) | exact HB.out)⟩
 ·rw [if_neg c3] at H
  have c3b0 : (a0_0 == 99) = false := beq_eq_false_iff_ne.mpr c3
  have c3b1 : (a0_0 != 99) = true := bne_iff_ne.mpr c3
  obtain rfl := Option.some.inj H
  go_enter Tryd.func125, Tryd.ntmps125
  try go_wp2_with (first | ((with_reducible refine xar (N := 2) rfl ?_); (try (refine xav (by rfl) ?_; dsimp only)); refine xap ?hg (N := 2) ?hd (cs := #[.int .i8 a0_0, .string a0_1, .int .i8 a0_2, .int .i64 a0_3, .string a0_4, .slice A0_5 l0_5.length c0_5]) (t := 31) ?hr ?_; (case hd => rfl); (case hg => rfl); (case hr => first | (go_simp; done) | (go_simp; rfl)); intro gb314 hg w12 hbox hb; have n0_ := Aside0.mk (xah (by repeat (first | (with_reducible first | exact HB.out | apply xab | apply xaa | apply xac) | exact HB.out)) hb); have n1_ := Aside0.mk (hbox); have n2_ := Aside0.mk ((by rw [hg]; exact (xao (by repeat (first | (with_reducible first | exact HB.out | apply xab | apply xaa | apply xac) | exact HB.out))) : w.heap.size ≤ gb314)); have n3_ := n2_; clear HB; have HB := n0_; have BK314 := n1_; have GW314 := n2_; have GE314 := n3_; clear n0_ n1_ n2_ n3_; clear hb hbox hg))
  have n0_ := Aside0.mk (xai BK314.out)
  have n1_ := Aside0.mk (xac HB.out)
  clear BK314
  clear HB
  have BK314 := n0_
  have HB := n1_
  clear n0_ n1_
  refine start_ (n := 18) (S := fun w' => w'.cell? ⟨gb314, 0, none⟩ = some (.int .i8 a0_0) ∧ w'.cell? ⟨gb314, 1, none⟩ = some (.string a0_1) ∧ w'.cell? ⟨gb314, 2, none⟩ = some (.int .i8 a0_2) ∧ w'.cell? ⟨gb314, 3, none⟩ = some (.int .i64 a0_3) ∧ w'.cell? ⟨gb314, 4, none⟩ = some (.string a0_4) ∧ w'.cell? ⟨gb314, 5, none⟩ = some (.slice A0_5 l0_5.length c0_5)) (ds := []) #[false, false, false, false, false, false, false, false, false, false, false, false, false, false, false, false, false, false] (by kernel_rfl) rfl rfl ⟨(xae BK314.out 0).trans rfl, (xae BK314.out 1).trans rfl, (xae BK314.out 2).trans rfl, (xae BK314.out 3).trans rfl, (xae BK314.out 4).trans rfl, (xae BK314.out 5).trans rfl⟩ (fun hHeld => ?_); refine xbo w1_isExpr.tab1 w1_isExpr.bits1 (fun HT_ HW_ => ?_)
  generalize w12.drew = w13 at BK314 HB hHeld ⊢
  refine pure_ (i := 0) (N := some 5) (v := ?_) (a' := ?_) #[true, false, false, false, false, false, false, false, false, false, false, false, false, false, false, false, false, false] rfl rfl (any_of HT_.out (by kernel_rfl)) (fun _ _ _ h => h) (Or.inl ⟨by rfl, ?_⟩) ?_ ?_
  rotate_left
  ·intro w'
   go_simp
   with_reducible rfl
  rotate_left
  ·simp only [Act.put, sI, sZ, sS, i64_w, i32_w]
   rfl
  refine take_ (i := 1) (N := some 6) (v := ?_) (a' := ?_) #[true, true, false, false, false, false, false, false, false, false, false, false, false, false, false, false, false, false] rfl rfl (xbb HT_.out HW_.out (by kernel_rfl)) (fun _ _ _ h => h) (Or.inl ⟨by rfl, ?_⟩) hHeld ?_ ?_
  rotate_left
  ·rintro w' ⟨s0, s1, s2, s3, s4, s5⟩
   go_simp
   with_reducible rfl
  rotate_left
  ·simp only [Act.put, sI, sZ, sS, i64_w, i32_w]
   rfl
  refine pure_ (i := 2) (N := some 7) (v := ?_) (a' := ?_) #[true, true, true, false, false, false, false, false, false, false, false, false, false, false, false, false, false, false] rfl rfl (any_of HT_.out (by kernel_rfl)) (fun _ _ _ h => h) (Or.inl ⟨by rfl, ?_⟩) ?_ ?_
  rotate_left
  ·intro w'
   go_simp
   with_reducible rfl
  rotate_left
  ·simp only [Act.put, sI, sZ, sS, i64_w, i32_w]
   rfl
  refine pure_ (i := 3) (N := some 8) (v := ?_) (a' := ?_) #[true, true, true, true, false, false, false, false, false, false, false, false, false, false, false, false, false, false] rfl rfl (any_of HT_.out (by kernel_rfl)) (fun _ _ _ h => h) (Or.inl ⟨by rfl, ?_⟩) ?_ ?_
  rotate_left
  ·intro w'
   go_simp
   with_reducible rfl
  rotate_left
  ·simp only [Act.put, sI, sZ, sS, i64_w, i32_w]
   rfl
  refine pure_ (i := 4) (N := some 9) (v := undef) (a' := ?_) #[true, true, true, true, true, false, false, false, false, false, false, false, false, false, false, false, false, false] rfl rfl (any_of HT_.out (by kernel_rfl)) (fun _ _ _ h => h) (Or.inr ⟨by rfl, rfl⟩) ?_ ?_
  rotate_left
  ·simp only [Act.put, sI, sZ, sS, i64_w, i32_w]
   rfl
  refine pure_ (i := 5) (N := some 10) (v := undef) (a' := ?_) #[true, true, true, true, true, true, false, false, false, false, false, false, false, false, false, false, false, false] rfl rfl (any_of HT_.out (by kernel_rfl)) (fun _ _ _ h => h) (Or.inr ⟨by rfl, rfl⟩) ?_ ?_
  rotate_left
  ·simp only [Act.put, sI, sZ, sS, i64_w, i32_w]
   rfl
  refine pure_ (i := 6) (N := some 11) (v := undef) (a' := ?_) #[true, true, true, true, true, true, true, false, false, false, false, false, false, false, false, false, false, false] rfl rfl (any_of HT_.out (by kernel_rfl)) (fun _ _ _ h => h) (Or.inr ⟨by rfl, rfl⟩) ?_ ?_
  rotate_left
  ·simp only [Act.put, sI, sZ, sS, i64_w, i32_w]
   rfl
  refine pure_ (i := 7) (N := some 12) (v := undef) (a' := ?_) #[true, true, true, true, true, true, true, true, false, false, false, false, false, false, false, false, false, false] rfl rfl (any_of HT_.out (by kernel_rfl)) (fun _ _ _ h => h) (Or.inr ⟨by rfl, rfl⟩) ?_ ?_
  rotate_left
  ·simp only [Act.put, sI, sZ, sS, i64_w, i32_w]
   rfl
  refine pure_ (i := 8) (N := some 13) (v := undef) (a' := ?_) #[true, true, true, true, true, true, true, true, true, false, false, false, false, false, false, false, false, false] rfl rfl (any_of HT_.out (by kernel_rfl)) (fun _ _ _ h => h) (Or.inr ⟨by rfl, rfl⟩) ?_ ?_
  rotate_left
  ·simp only [Act.put, sI, sZ, sS, i64_w, i32_w]
   rfl
  refine pure_ (i := 9) (N := some 14) (v := undef) (a' := ?_) #[true, true, true, true, true, true, true, true, true, true, false, false, false, false, false, false, false, false] rfl rfl (any_of HT_.out (by kernel_rfl)) (fun _ _ _ h => h) (Or.inr ⟨by rfl, rfl⟩) ?_ ?_
  rotate_left
  ·simp only [Act.put, sI, sZ, sS, i64_w, i32_w]
   rfl
  refine pure_ (i := 10) (N := some 15) (v := ?_) (a' := ?_) #[true, true, true, true, true, true, true, true, true, true, true, false, false, false, false, false, false, false] rfl rfl (any_of HT_.out (by kernel_rfl)) (fun _ _ _ h => h) (Or.inl ⟨by rfl, ?_⟩) ?_ ?_
  rotate_left
  ·intro w'
   go_simp
   with_reducible rfl
  rotate_left
  ·simp only [Act.put, sI, sZ, sS, i64_w, i32_w]
   rfl
  refine pure_ (i := 11) (N := some 16) (v := ?_) (a' := ?_) #[true, true, true, true, true, true, true, true, true, true, true, true, false, false, false, false, false, false] rfl rfl (any_of HT_.out (by kernel_rfl)) (fun _ _ _ h => h) (Or.inl ⟨by rfl, ?_⟩) ?_ ?_
  rotate_left
  ·intro w'
   go_simp
   with_reducible rfl
  rotate_left
  ·simp only [Act.put, sI, sZ, sS, i64_w, i32_w]
   rfl
  refine pure_ (i := 12) (N := some 17) (v := undef) (a' := ?_) #[true, true, true, true, true, true, true, true, true, true, true, true, true, false, false, false, false, false] rfl rfl (any_of HT_.out (by kernel_rfl)) (fun _ _ _ h => h) (Or.inr ⟨by rfl, rfl⟩) ?_ ?_
  rotate_left
  ·simp only [Act.put, sI, sZ, sS, i64_w, i32_w]
   rfl
  refine pure_ (i := 13) (N := some 18) (v := undef) (a' := ?_) #[true, true, true, true, true, true, true, true, true, true, true, true, true, true, false, false, false, false] rfl rfl (any_of HT_.out (by kernel_rfl)) (fun _ _ _ h => h) (Or.inr ⟨by rfl, rfl⟩) ?_ ?_
  rotate_left
  ·simp only [Act.put, sI, sZ, sS, i64_w, i32_w]
   rfl
  refine pure_ (i := 14) (N := some 19) (v := undef) (a' := ?_) #[true, true, true, true, true, true, true, true, true, true, true, true, true, true, true, false, false, false] rfl rfl (any_of HT_.out (by kernel_rfl)) (fun _ _ _ h => h) (Or.inr ⟨by rfl, rfl⟩) ?_ ?_
  rotate_left
  ·simp only [Act.put, sI, sZ, sS, i64_w, i32_w]
   rfl
  refine pure_ (i := 15) (N := some 20) (v := undef) (a' := ?_) #[true, true, true, true, true, true, true, true, true, true, true, true, true, true, true, true, false, false] rfl rfl (any_of HT_.out (by kernel_rfl)) (fun _ _ _ h => h) (Or.inr ⟨by rfl, rfl⟩) ?_ ?_
  rotate_left
  ·simp only [Act.put, sI, sZ, sS, i64_w, i32_w]
   rfl
  refine pure_ (i := 16) (N := some 21) (v := ?_) (a' := ?_) #[true, true, true, true, true, true, true, true, true, true, true, true, true, true, true, true, true, false] rfl rfl (any_of HT_.out (by kernel_rfl)) (fun _ _ _ h => h) (Or.inl ⟨by rfl, ?_⟩) ?_ ?_
  rotate_left
  ·intro w'
   go_simp
   with_reducible rfl
  rotate_left
  ·simp only [Act.put, sI, sZ, sS, i64_w, i32_w]
   rfl
  refine pure_ (i := 17) (N := some 4) (v := ?_) (a' := ?_) #[true, true, true, true, true, true, true, true, true, true, true, true, true, true, true, true, true, true] rfl rfl (any_of HT_.out (by kernel_rfl)) (fun _ _ _ h => h) (Or.inl ⟨by rfl, ?_⟩) ?_ ?_
  rotate_left
  ·intro w'
   go_simp
   with_reducible rfl
  rotate_left
  ·simp only [Act.put, sI, sZ, sS, i64_w, i32_w]
   rfl
  refine done_ (done_of HT_.out (by kernel_rfl)) ?_
  try go_wp2
  go_ret
  exact ⟨by first | rfl | (simp [xak, xaj] <;> rfl) | (simp [*, xak, xaj] <;> rfl), by repeat (first | (with_reducible first | exact HB.out | apply xab | apply xaa | apply xac | refine xad ?_ GE314.out) | exact HB.out)⟩
end Go.Proofs.YtllcmggmcogokaaDoor.PAll
end
section
namespace Go.Proofs.YtllcmggmcogokaaDoor.PAll
open Go.RowKit Go.Proofs.YtllcmggmcogokaaDoorW.PrintWords Go.Proofs.YtllcmggmcogokaaDoorW.PrintLast Go.Proofs.YtllcmggmcogokaaDoorW.PrintMore
attribute [local go_sem] max2_int min2_int max_two min_two max_three min_three max_four min_four
abbrev LeExprC (x : S31) : Prop := ∀ (A' : Option Addr) (c' : Nat) (A : Option Addr) (c : Nat) (w : World), Kd.C (orC k31t) w A' (x.f2.length + 1) (marked x.f2 mk31) → x.f2.length + 1 ≤ c' → Kd.C k31 w A x.f2.length x.f2 → x.f2.length ≤ c → TabB w →
  Calls Tryd.prog 43 #[.agg #[.int .i8 x.f0, .string x.f1.f0, .int .i8 x.f1.f1.f0, .int .i64 x.f1.f1.f1, .string x.f1.f1.f2, .slice A' x.f2.length c'], .agg #[.int .i8 x.f0, .string x.f1.f0, .int .i8 x.f1.f1.f0, .int .i64 x.f1.f1.f1, .string x.f1.f1.f2, .slice A x.f2.length c]] w fun e w' => e = .returned (.bool true) ∧ Below w.heap.size w w'
abbrev LeExprsC (l : List S31) : Prop := ∀ (A' : Option Addr) (c' : Nat) (A : Option Addr) (c : Nat) (w : World), Kd.C (orC k31t) w A' (l.length + 1) (marked l mk31) → l.length + 1 ≤ c' → Kd.C k31 w A l.length l → l.length ≤ c → TabB w →
  Calls Tryd.prog 91 #[.slice A' l.length c', .slice A l.length c] w fun e w' => e = .returned (.bool true) ∧ Below w.heap.size w w'
theorem isExpr_spare : w1_isExpr.f 99 spare 0 0 ⟨#[]⟩ [] 777777 = some true := by rw [w1_isExpr.f, xbn]; simp
set_option maxHeartbeats 4000000 in
set_option maxRecDepth 100000 in
theorem LeExprs_step (l : List S31) (hl : l.length < 2000000) (hE : Hid (∀ k, k < l.length → LeExprC (l.getD k z31))) : LeExprsC l := by
 intro A' c' A c w hr' hc' hr hc hT
 have hm : l.length ≤ 9223372036854775807 := by omega
 have HR' := Lib.hid hr'
 have HR := Lib.hid hr
 have HT := Lib.hid hT
 clear hr hT hr'
 go_enter Tryd.func91, Tryd.ntmps91
 go_wp2_with fail
 go_loopw [5] (fun v wr => ∃ k : Nat, k ≤ l.length ∧ v = .int .i64 k ∧ Hid (Below w.heap.size w wr)) (fun v _ => l.length - (intOf v).toNat)
 case atStart => exact ⟨0, Nat.zero_le _, rfl, Lib.hid (Below.refl _ _)⟩
 case round =>
  obtain ⟨k, hk, rfl, HB⟩ := hrel
  by_cases hlt : k < l.length
  ·obtain ⟨ad, A5, c5, e0, g0, g1, g2, g3, g4, g5, hl5, hC5⟩ := at_T31 (Kd.C_below HR.out HB.out) (k : Int) (by omega) (by omega)
   subst e0
   simp only [Int.toNat_natCast] at g0 g1 g2 g3 g4 g5
   obtain ⟨ad', cs, e0', _, hK, hcell⟩ := marked_get (Kd.C_below HR'.out HB.out) z31 k hlt
   subst e0'
   have HY := Lib.hid (show rd_T31 l (k : Int) = l.getD k z31 from rfl)
   rw [← HY.out] at hK
   obtain ⟨A6, c6, rfl, hl6, hC6⟩ := k31t_open hK
   have HE := Lib.hid (hE.out k hlt)
   rw [← HY.out] at HE
   have HC5 := Lib.hid hC5
   have HL5 := Lib.hid hl5
   have HC6 := Lib.hid hC6
   have HL6 := Lib.hid hl6
   generalize rd_T31 l (k : Int) = y at *
   have t0 : wr.cell? (ad'.add (k * 6 + 0)) = some (.int .i8 y.f0) := hcell 0 _ rfl
   have t1 : wr.cell? (ad'.add (k * 6 + 1)) = some (.string y.f1.f0) := hcell 1 _ rfl
   have t2 : wr.cell? (ad'.add (k * 6 + 2)) = some (.int .i8 y.f1.f1.f0) := hcell 2 _ rfl
   have t3 : wr.cell? (ad'.add (k * 6 + 3)) = some (.int .i64 y.f1.f1.f1) := hcell 3 _ rfl
   have t4 : wr.cell? (ad'.add (k * 6 + 4)) = some (.string y.f1.f1.f2) := hcell 4 _ rfl
   have t5 : wr.cell? (ad'.add (k * 6 + 5)) = some (.slice A6 y.f2.length c6) := hcell 5 _ rfl
   rw [Nat.add_zero] at t0
   rw [xat _ _ 1 (by omega)] at t1
   rw [xat _ _ 2 (by omega)] at t2
   rw [xat _ _ 3 (by omega)] at t3
   rw [xat _ _ 4 (by omega)] at t4
   rw [xat _ _ 5 (by omega)] at t5
   clear hcell hK hC5 hl5 hC6 hl6
   go_wp2_with fail
   refine start_ (n := 10) (S := fun w' => w'.cell? (ad'.add (k * 6)) = some (.int .i8 y.f0) ∧ w'.cell? (⟨(ad'.add (k * 6)).block, (ad'.add (k * 6)).off + 1, none⟩) = some (.string y.f1.f0) ∧ w'.cell? (⟨(ad'.add (k * 6)).block, (ad'.add (k * 6)).off + 2, none⟩) = some (.int .i8 y.f1.f1.f0) ∧ w'.cell? (⟨(ad'.add (k * 6)).block, (ad'.add (k * 6)).off + 3, none⟩) = some (.int .i64 y.f1.f1.f1) ∧ w'.cell? (⟨(ad'.add (k * 6)).block, (ad'.add (k * 6)).off + 4, none⟩) = some (.string y.f1.f1.f2) ∧ w'.cell? (⟨(ad'.add (k * 6)).block, (ad'.add (k * 6)).off + 5, none⟩) = some (.slice A6 y.f2.length c6) ∧ w'.cell? (ad.add (k * 6)) = some (.int .i8 y.f0) ∧ w'.cell? (⟨(ad.add (k * 6)).block, (ad.add (k * 6)).off + 1, none⟩) = some (.string y.f1.f0) ∧ w'.cell? (⟨(ad.add (k * 6)).block, (ad.add (k * 6)).off + 2, none⟩) = some (.int .i8 y.f1.f1.f0) ∧ w'.cell? (⟨(ad.add (k * 6)).block, (ad.add (k * 6)).off + 3, none⟩) = some (.int .i64 y.f1.f1.f1) ∧ w'.cell? (⟨(ad.add (k * 6)).block, (ad.add (k * 6)).off + 4, none⟩) = some (.string y.f1.f1.f2) ∧ w'.cell? (⟨(ad.add (k * 6)).block, (ad.add (k * 6)).off + 5, none⟩) = some (.slice A5 y.f2.length c5) ∧ Hid (Below wr.heap.size wr w')) (ds := []) #[false, false, false, false, false, false, false, false, false, false] (by kernel_rfl) rfl rfl ⟨t0, t1, t2, t3, t4, t5, g0, g1, g2, g3, g4, g5, (Lib.hid (xbl (Below.refl _ _)))⟩ (fun hHeld => ?_)
   refine pure_ (i := 0) (N := some 17) (v := ?_) (a' := ?_) #[true, false, false, false, false, false, false, false, false, false] rfl rfl (by kernel_rfl) (fun _ _ _ h => h) (Or.inl ⟨by rfl, ?_⟩) ?_ ?_
   rotate_left
   ·intro w'
    go_simp
    with_reducible rfl
   rotate_left
   ·simp only [Act.put, sI, sZ, sS, i64_w, i32_w]
    rfl
   refine pure_ (i := 1) (N := some 18) (v := ?_) (a' := ?_) #[true, true, false, false, false, false, false, false, false, false] rfl rfl (by kernel_rfl) (fun _ _ _ h => h) (Or.inl ⟨by rfl, ?_⟩) ?_ ?_
   rotate_left
   ·intro w'
    go_simp
    with_reducible rfl
   rotate_left
   ·simp only [Act.put, sI, sZ, sS, i64_w, i32_w]
    rfl
   refine pure_ (i := 2) (N := some 19) (v := ?_) (a' := ?_) #[true, true, true, false, false, false, false, false, false, false] rfl rfl (by kernel_rfl) (fun _ _ _ h => h) (Or.inl ⟨by rfl, ?_⟩) ?_ ?_
   rotate_left
   ·intro w'
    go_simp
    with_reducible rfl
   rotate_left
   ·simp only [Act.put, sI, sZ, sS, i64_w, i32_w]
    rfl
   refine pure_ (i := 4) (N := some 21) (v := ?_) (a' := ?_) #[true, true, true, false, true, false, false, false, false, false] rfl rfl (by kernel_rfl) (fun _ _ _ h => h) (Or.inl ⟨by rfl, ?_⟩) ?_ ?_
   rotate_left
   ·intro w'
    go_simp
    with_reducible rfl
   rotate_left
   ·simp only [Act.put, sI, sZ, sS, i64_w, i32_w]
    rfl
   refine pure_ (i := 5) (N := some 22) (v := ?_) (a' := ?_) #[true, true, true, false, true, true, false, false, false, false] rfl rfl (by kernel_rfl) (fun _ _ _ h => h) (Or.inl ⟨by rfl, ?_⟩) ?_ ?_
   rotate_left
   ·intro w'
    go_simp
    with_reducible rfl
   rotate_left
   ·simp only [Act.put, sI, sZ, sS, i64_w, i32_w]
    rfl
   refine pure_ (i := 6) (N := some 23) (v := ?_) (a' := ?_) #[true, true, true, false, true, true, true, false, false, false] rfl rfl (by kernel_rfl) (fun _ _ _ h => h) (Or.inl ⟨by rfl, ?_⟩) ?_ ?_
   rotate_left
   ·intro w'
    go_simp
    with_reducible rfl
   rotate_left
   ·simp only [Act.put, sI, sZ, sS, i64_w, i32_w]
    rfl
   refine take_ (i := 3) (N := some 20) (v := ?_) (a' := ?_) #[true, true, true, true, true, true, true, false, false, false] rfl rfl (by kernel_rfl) (fun _ _ _ h => h) (Or.inl ⟨by rfl, ?_⟩) hHeld ?_ ?_
   rotate_left
   ·rintro w' ⟨s0, s1, s2, s3, s4, s5, s6, s7, s8, s9, s10, s11, s12⟩
    go_simp
    with_reducible rfl
   rotate_left
   ·simp only [Act.put, sI, sZ, sS, i64_w, i32_w]
    rfl
   refine take_ (i := 7) (N := some 24) (v := ?_) (a' := ?_) #[true, true, true, true, true, true, true, true, false, false] rfl rfl (by kernel_rfl) (fun _ _ _ h => h) (Or.inl ⟨by rfl, ?_⟩) hHeld ?_ ?_
   rotate_left
   ·rintro w' ⟨s0, s1, s2, s3, s4, s5, s6, s7, s8, s9, s10, s11, s12⟩
    go_simp
    with_reducible rfl
   rotate_left
   ·simp only [Act.put, sI, sZ, sS, i64_w, i32_w]
    rfl
   refine one_ (i := 8) (N := some 25) #[true, true, true, true, true, true, true, true, true, false] rfl rfl (by kernel_rfl) (by decide) (fun K hK => ?_)
   obtain ⟨s0, s1, s2, s3, s4, s5, s6, s7, s8, s9, s10, s11, s12⟩ := hHeld
   refine goes_ Tryd.func43 (by kernel_rfl) rfl #[.agg #[.int .i8 y.f0, .string y.f1.f0, .int .i8 y.f1.f1.f0, .int .i64 y.f1.f1.f1, .string y.f1.f1.f2, .slice A6 y.f2.length c6], .agg #[.int .i8 y.f0, .string y.f1.f0, .int .i8 y.f1.f1.f0, .int .i64 y.f1.f1.f1, .string y.f1.f1.f2, .slice A5 y.f2.length c5]] (by rfl) rfl rfl (by simp only [List.map_toArray, List.map_cons, List.map_nil]; rfl) ?_
   with_reducible refine (HE.out A6 c6 A5 c5 _ (Kd.C_below HC6.out s12.out) HL6.out (Kd.C_below HC5.out s12.out) HL5.out (HT.out.below (xah HB.out s12.out))).mono ?_
   rintro e w3 ⟨rfl, hb3⟩
   refine ⟨_, rfl, ?_⟩
   refine hK.out _ _ ⟨(xan hb3 s0), (xan hb3 s1), (xan hb3 s2), (xan hb3 s3), (xan hb3 s4), (xan hb3 s5), (xan hb3 s6), (xan hb3 s7), (xan hb3 s8), (xan hb3 s9), (xan hb3 s10), (xan hb3 s11), (Lib.hid (xah s12.out hb3))⟩ (fun hHeld => ?_)
   clear hK K
   refine norm_ (a' := ?_) ?_ ?_
   rotate_left
   ·show Act.put _ (some 25) _ = _
    simp only [Act.put, sI, sZ, sS, i64_w, i32_w]
    rfl
   refine pure_ (i := 9) (N := some 26) (v := ?_) (a' := ?_) #[true, true, true, true, true, true, true, true, true, true] rfl rfl (by kernel_rfl) (fun _ _ _ h => h) (Or.inl ⟨by rfl, ?_⟩) ?_ ?_
   rotate_left
   ·intro w'
    go_simp
    with_reducible rfl
   rotate_left
   ·simp only [Act.put, sI, sZ, sS, i64_w, i32_w]
    rfl
   refine done_ (by kernel_rfl) ?_
   obtain ⟨_, _, _, _, _, _, _, _, _, _, _, _, HB1⟩ := hHeld
   have HB2 := Lib.hid (xah HB.out HB1.out)
   clear HB1
   go_wp2_with fail
   go_roundw
   case rel => exact ⟨k + 1, by omega, by go_num, HB2⟩
   case measure => simp [intOf]; omega
  ·have hk' : k = l.length := by omega
   subst hk'
   obtain ⟨ad, rfl, hz⟩ := marked_mark (Kd.C_below HR'.out HB.out)
   have z0 : wr.cell? (ad.add (l.length * 6 + 0)) = some (.int .i8 99) := hz 0 _ rfl
   have z1 : wr.cell? (ad.add (l.length * 6 + 1)) = some (.string spare) := hz 1 _ rfl
   have z2 : wr.cell? (ad.add (l.length * 6 + 2)) = some (.int .i8 0) := hz 2 _ rfl
   have z3 : wr.cell? (ad.add (l.length * 6 + 3)) = some (.int .i64 0) := hz 3 _ rfl
   have z4 : wr.cell? (ad.add (l.length * 6 + 4)) = some (.string ⟨#[]⟩) := hz 4 _ rfl
   have z5 : wr.cell? (ad.add (l.length * 6 + 5)) = some (.slice none 0 0) := hz 5 _ rfl
   rw [Nat.add_zero] at z0
   rw [xat _ _ 1 (by omega)] at z1
   rw [xat _ _ 2 (by omega)] at z2
   rw [xat _ _ 3 (by omega)] at z3
   rw [xat _ _ 4 (by omega)] at z4
   rw [xat _ _ 5 (by omega)] at z5
   clear hz
   obtain ⟨i0, hi0, _, hsz, _⟩ := info_parts info31
   have hcut := cut_up (P := Tryd.prog) 29 31 .i64 Tryd.underlying29 hi0 (some ad) l.length c' (l.length + 1 : Int) (by omega) (by omega)
   rw [show (l.length + 1 : Int).toNat = l.length + 1 by omega] at hcut
   clear hi0 hsz
   go_wp2_with fail
   refine (w1_isExpr.calls 99 spare 0 0 ⟨#[]⟩ none 0 [] 777777 true wr (Kd.C_nil _ _) (Nat.le_refl _) (HT.out.below HB.out) isExpr_spare).mono ?_
   rintro e w2 ⟨rfl, hb⟩
   have HB2 := Lib.hid (xah HB.out hb)
   clear hb HB
   go_wp2_with fail
   go_ret
   exact ⟨rfl, HB2.out⟩
set_option maxHeartbeats 4000000 in
set_option maxRecDepth 100000 in
theorem LeExpr_step (x : S31) (hE : Hid (LeExprsC x.f2)) : LeExprC x := by
 intro A' c' A c w hr' hc' hr hc hT
 have HR' := Lib.hid hr'
 have HR := Lib.hid hr
 have HT := Lib.hid hT
 clear hr hT hr'
 go_enter Tryd.func43, Tryd.ntmps43
 go_wp2_with fail
 have HB0 := Lib.hid (xab (xab (Below.refl w.heap.size w) (.cells #[.int .i8 x.f0, .string x.f1.f0, .int .i8 x.f1.f1.f0, .int .i64 x.f1.f1.f1, .string x.f1.f1.f2, .slice A' x.f2.length c'] 31 (0, 0))) (.cells #[.int .i8 x.f0, .string x.f1.f0, .int .i8 x.f1.f1.f0, .int .i64 x.f1.f1.f1, .string x.f1.f1.f2, .slice A x.f2.length c] 31 (0, 0)))
 refine (hE.out A' c' A c _ (Kd.C_below HR'.out HB0.out) hc' (Kd.C_below HR.out HB0.out) hc (HT.out.below HB0.out)).mono ?_
 rintro e w2 ⟨rfl, hb⟩
 have HB := Lib.hid (xah HB0.out hb)
 clear hb HB0
 go_wp2_with fail
 go_ret
 exact ⟨rfl, HB.out⟩
theorem LeExpr_both : ∀ n, (∀ x : S31, SizeOf.sizeOf x < n → (exprTermsL x).length < 2000000 → LeExprC x) ∧ (∀ l : List S31, SizeOf.sizeOf l < n → (kidsTermsL l).length < 2000000 → LeExprsC l)
 | 0 => ⟨fun _ h => absurd h (Nat.not_lt_zero _), fun _ h => absurd h (Nat.not_lt_zero _)⟩
 | n + 1 => by
  obtain ⟨h1, h2⟩ := LeExpr_both n
  refine ⟨fun x hx hl => LeExpr_step x (Lib.hid (h2 _ (by have := sizeOf_kids x; omega) (by rw [xbc] at hl; simp at hl; omega))), fun l hx hl => LeExprs_step l (Nat.lt_of_le_of_lt (kids_le l) hl) (Lib.hid (fun k hk => h1 _ (by have := sizeOf_getD l k hk; omega) ?_))⟩
  have := congrArg List.length (kids_parts l k hk)
  simp only [List.length_append] at this
  omega
theorem LeExpr_twin (x : S31) (h : (exprTermsL x).length < 2000000) : LeExprC x := (LeExpr_both _).1 x (Nat.lt_succ_self _) h
end Go.Proofs.YtllcmggmcogokaaDoor.PAll
end
section
namespace Go.Proofs.YtllcmggmcogokaaDoor.PAll
open Go.RowKit Go.Proofs.YtllcmggmcogokaaDoorW.PrintWords Go.Proofs.YtllcmggmcogokaaDoorW.PrintLast Go.Proofs.YtllcmggmcogokaaDoorW.PrintMore
attribute [local go_sem] max2_int min2_int max_two min_two max_three min_three max_four min_four
attribute [local go_sem high] eqA28
def w1_SameTerms.l0 : Nat → List (S28) → List (S28) → Int → Option (Bool)
 | 0, _, _, _ => none
 | k + 1, x0, x1, x5 => if x5 < (x0.length : Int) then (if 0 ≤ x5 then (if x5 < (x1.length : Int) then (if (!((((rd_T28 x0 x5).f0).toList) == (((rd_T28 x1 x5).f0).toList)) || ((!(((rd_T28 x0 x5).f1.f0) == ((rd_T28 x1 x5).f1.f0)) || (!(((rd_T28 x0 x5).f1.f1) == ((rd_T28 x1 x5).f1.f1)) || (!((((rd_T28 x0 x5).f1.f2).toList) == (((rd_T28 x1 x5).f1.f2).toList))))))) = true then (some false) else (w1_SameTerms.l0 k x0 x1 (wrap64 (x5 + 1)))) else (none)) else (none)) else (some true)
def w1_SameTerms.f (k : Nat) (l0 : List (S28)) (l1 : List (S28)) : Option (Bool) := if (l0.length : Int) = (l1.length : Int) then (w1_SameTerms.l0 k l0 l1 0) else (some false)
set_option maxHeartbeats 8000000 in
set_option maxRecDepth 100000 in
theorem w1_SameTerms.calls (k : Nat) (A0 : Option Addr) (c0 : Nat) (l0 : List (S28)) (A1 : Option Addr) (c1 : Nat) (l1 : List (S28)) (r : Bool) (w : World) (hr0 : Kd.C k28 w A0 l0.length l0) (hc0 : l0.length ≤ c0) (hr1 : Kd.C k28 w A1 l1.length l1) (hc1 : l1.length ≤ c1) (h : w1_SameTerms.f k l0 l1 = some r) :
  Calls Tryd.prog 78 #[.slice A0 l0.length c0, .slice A1 l1.length c1] w fun e w' => e = .returned (.bool r) ∧ Drawn0 w w' := by
 have hu28 := Tryd.underlying28
 have HR0 := Aside0.mk hr0
 have HC0 := Aside0.mk hc0
 clear hr0 hc0
 have HR1 := Aside0.mk hr1
 have HC1 := Aside0.mk hc1
 clear hr1 hc1
 have H : (if (l0.length : Int) = (l1.length : Int) then (w1_SameTerms.l0 k l0 l1 0) else (some false)) = some r := h
 clear h
 by_cases c3 : (l0.length : Int) = (l1.length : Int)
 ·rw [if_pos c3] at H
  have c3b0 : ((l0.length : Int) == (l1.length : Int)) = true := beq_iff_eq.mpr c3
  have c3b1 : ((l0.length : Int) != (l1.length : Int)) = false := bne_eq_false_iff_eq.mpr c3
  have c3b2 : (l0.length == l1.length) = true := by first | simpa using c3 | (simp at c3 ⊢; omega)
  clear c3
  have H' := Aside0.mk H
  clear H
  go_enter Tryd.func78, Tryd.ntmps78
  go_wp2
  repeat (go_quiet (fail); try go_wp2)
  go_loopg [5] k (fun kq v5 w' => ∃ (x5_1 : Int), v5 = .int .i64 x5_1 ∧ Aside0 (w1_SameTerms.l0 kq l0 l1 x5_1 = some r) ∧ Aside0 (kq ≤ k) ∧ Drawn0 w w')
  case atStart => exact ⟨(0), (by first | rfl | (simp; done) | (simp [*]; done)), H', ⟨Nat.le_refl _⟩, by repeat (first | exact Drawn0.refl _ | apply Drawn0.step)⟩
  case round =>
   clear H'
   try clear c1
   try clear p2
   try clear c3
   try clear c3b0
   try clear c3b1
   try clear c3b2
   obtain ⟨x5_1, rfl, HA, HK1, ⟨m1, rfl⟩⟩ := hrel
   cases gk with
   | zero => exact absurd HA.out (by simp [w1_SameTerms.l0])
   | succ k1 =>
    have H := HA.out
    clear HA
    simp only [w1_SameTerms.l0] at H
    by_cases c4 : x5_1 < (l0.length : Int)
    ·rw [if_pos c4] at H
     have c4b0 : decide (x5_1 < (l0.length : Int)) = true := decide_eq_true c4
     clear c4
     by_cases c5 : 0 ≤ x5_1
     ·rw [if_pos c5] at H
      have c5b0 : decide (0 ≤ x5_1) = true := decide_eq_true c5
      clear c5
      by_cases c6 : x5_1 < (l1.length : Int)
      ·rw [if_pos c6] at H
       have c6b0 : decide (x5_1 < (l1.length : Int)) = true := decide_eq_true c6
       clear c6
       by_cases c7 : (!((((rd_T28 l0 x5_1).f0).toList) == (((rd_T28 l1 x5_1).f0).toList)) || ((!(((rd_T28 l0 x5_1).f1.f0) == ((rd_T28 l1 x5_1).f1.f0)) || (!(((rd_T28 l0 x5_1).f1.f1) == ((rd_T28 l1 x5_1).f1.f1)) || (!((((rd_T28 l0 x5_1).f1.f2).toList) == (((rd_T28 l1 x5_1).f1.f2).toList))))))) = true
       ·rw [if_pos c7] at H
        have c7b0 : (!((((rd_T28 l0 x5_1).f0).toList) == (((rd_T28 l1 x5_1).f0).toList)) || ((!(((rd_T28 l0 x5_1).f1.f0) == ((rd_T28 l1 x5_1).f1.f0)) || (!(((rd_T28 l0 x5_1).f1.f1) == ((rd_T28 l1 x5_1).f1.f1)) || (!((((rd_T28 l0 x5_1).f1.f2).toList) == (((rd_T28 l1 x5_1).f1.f2).toList))))))) = true := c7
        clear c7
        obtain rfl := Option.some.inj H
        have p318 : 0 ≤ (x5_1 : Int) := of_decide_eq_true (by first | (with_reducible assumption) | assumption)
        have q318 : x5_1 < (l0.length : Int) := of_decide_eq_true (by first | (with_reducible assumption) | assumption)
        obtain ⟨ad318, e318, hx318_0, hx318_1, hx318_2, hx318_3⟩ := at_T28 HR0.out x5_1 p318 q318
        cases e318
        replace p318 := eq_true p318
        replace q318 := eq_true q318
        have p319 : 0 ≤ (x5_1 : Int) := of_decide_eq_true (by first | (with_reducible assumption) | assumption)
        have q319 : x5_1 < (l1.length : Int) := of_decide_eq_true (by first | (with_reducible assumption) | assumption)
        obtain ⟨ad319, e319, hx319_0, hx319_1, hx319_2, hx319_3⟩ := at_T28 HR1.out x5_1 p319 q319
        cases e319
        replace p319 := eq_true p319
        replace q319 := eq_true q319
        go_wp2
        repeat (go_quiet (fail); try go_wp2)
        go_ret
        exact ⟨by first | rfl | (simp; done) | (simp [*]; done), by repeat (first | exact Drawn0.refl _ | apply Drawn0.step)⟩
       ·rw [if_neg c7] at H
        have c7b0 : (!((((rd_T28 l0 x5_1).f0).toList) == (((rd_T28 l1 x5_1).f0).toList)) || ((!(((rd_T28 l0 x5_1).f1.f0) == ((rd_T28 l1 x5_1).f1.f0)) || (!(((rd_T28 l0 x5_1).f1.f1) == ((rd_T28 l1 x5_1).f1.f1)) || (!((((rd_T28 l0 x5_1).f1.f2).toList) == (((rd_T28 l1 x5_1).f1.f2).toList))))))) = false := by simpa using c7
        clear c7
        have H' := Aside0.mk H
        clear H
        have p318 : 0 ≤ (x5_1 : Int) := of_decide_eq_true (by first | (with_reducible assumption) | assumption)
        have q318 : x5_1 < (l0.length : Int) := of_decide_eq_true (by first | (with_reducible assumption) | assumption)
        obtain ⟨ad318, e318, hx318_0, hx318_1, hx318_2, hx318_3⟩ := at_T28 HR0.out x5_1 p318 q318
        cases e318
        replace p318 := eq_true p318
        replace q318 := eq_true q318
        have p319 : 0 ≤ (x5_1 : Int) := of_decide_eq_true (by first | (with_reducible assumption) | assumption)
        have q319 : x5_1 < (l1.length : Int) := of_decide_eq_true (by first | (with_reducible assumption) | assumption)
        obtain ⟨ad319, e319, hx319_0, hx319_1, hx319_2, hx319_3⟩ := at_T28 HR1.out x5_1 p319 q319
        cases e319
        replace p319 := eq_true p319
        replace q319 := eq_true q319
        go_wp2
        repeat (go_quiet (fail); try go_wp2)
        go_roundg k1
        case measure => have := HK1.out; omega
        case rel => exact ⟨(wrap64 (x5_1 + 1)), (by first | rfl | (simp; done) | (simp [*]; done)), H', ⟨by have := HK1.out; omega⟩, by repeat (first | exact Drawn0.refl _ | apply Drawn0.step)⟩
      ·rw [if_neg c6] at H
       exact absurd H (by simp)
     ·rw [if_neg c5] at H
      exact absurd H (by simp)
    ·rw [if_neg c4] at H
     have c4b0 : decide (x5_1 < (l0.length : Int)) = false := decide_eq_false c4
     clear c4
     obtain rfl := Option.some.inj H
     go_wp2
     repeat (go_quiet (fail); try go_wp2)
     go_ret
     exact ⟨by first | rfl | (simp; done) | (simp [*]; done), by repeat (first | exact Drawn0.refl _ | apply Drawn0.step)⟩
 ·rw [if_neg c3] at H
  have c3b0 : ((l0.length : Int) == (l1.length : Int)) = false := beq_eq_false_iff_ne.mpr c3
  have c3b1 : ((l0.length : Int) != (l1.length : Int)) = true := bne_iff_ne.mpr c3
  have c3b2 : (l0.length == l1.length) = false := by first | simpa using c3 | (simp at c3 ⊢; omega)
  obtain rfl := Option.some.inj H
  go_enter Tryd.func78, Tryd.ntmps78
  go_wp2
  repeat (go_quiet (fail); try go_wp2)
  go_ret
  exact ⟨by first | rfl | (simp; done) | (simp [*]; done), by repeat (first | exact Drawn0.refl _ | apply Drawn0.step)⟩
def w1_isTerm.f (a0_0 : ByteArray) (a0_1 : Int) (a0_2 : Int) (a0_3 : ByteArray) (a1 : Int) : Option (Bool) := (w1_word.f a1).bind fun t321 => (some (a0_0.toList == t321.toList && ((a0_1 == 0 && (a0_2 == 0 && (a0_3.toList == ([] : List UInt8)))))))
set_option maxHeartbeats 8000000 in
set_option maxRecDepth 100000 in
theorem w1_isTerm.calls (a0_0 : ByteArray) (a0_1 : Int) (a0_2 : Int) (a0_3 : ByteArray) (a1 : Int) (r : Bool) (w : World) (hTB : TabB w) (h : w1_isTerm.f a0_0 a0_1 a0_2 a0_3 a1 = some r) :
  Calls Tryd.prog 132 #[.agg #[.string a0_0, .int .i8 a0_1, .int .i64 a0_2, .string a0_3], .int .i64 a1] w fun e w' => e = .returned (.bool r) ∧ Below w.heap.size w w' := by
 have hu28 := Tryd.underlying28
 have HB := Aside0.mk (Below.refl w.heap.size w)
 have HTB := Aside0.mk hTB
 clear hTB
 have H : ((w1_word.f a1).bind fun t321 => (some (a0_0.toList == t321.toList && ((a0_1 == 0 && (a0_2 == 0 && (a0_3.toList == ([] : List UInt8)))))))) = some r := h
 clear h
 replace H := Option.bind_eq_some_iff.mp H
 obtain ⟨t321, A30, H⟩ := H
 replace H : (some (a0_0.toList == t321.toList && ((a0_1 == 0 && (a0_2 == 0 && (a0_3.toList == ([] : List UInt8))))))) = some r := H
 have A3 := Aside0.mk A30
 clear A30
 obtain rfl := Option.some.inj H
 go_enter Tryd.func132, Tryd.ntmps132
 try go_wp2_with (first | ((with_reducible refine xar (N := 2) rfl ?_); refine xap ?hg (N := 2) ?hd (cs := #[.string a0_0, .int .i8 a0_1, .int .i64 a0_2, .string a0_3]) (t := 28) ?hr ?_; (case hd => rfl); (case hg => rfl); (case hr => first | (go_simp; done) | (go_simp; rfl)); intro gb320 hg w4 hbox hb; have n0_ := Aside0.mk (xah (by repeat (first | (with_reducible first | exact HB.out | apply xab | apply xaa | apply xac) | exact HB.out)) hb); have n1_ := Aside0.mk (hbox); have n2_ := Aside0.mk ((by rw [hg]; exact (xao (by repeat (first | (with_reducible first | exact HB.out | apply xab | apply xaa | apply xac) | exact HB.out))) : w.heap.size ≤ gb320)); have n3_ := n2_; clear HB; have HB := n0_; have BK320 := n1_; have GW320 := n2_; have GE320 := n3_; clear n0_ n1_ n2_ n3_; clear hb hbox hg))
 have n0_ := Aside0.mk (xai BK320.out)
 have n1_ := Aside0.mk (xac HB.out)
 clear BK320
 clear HB
 have BK320 := n0_
 have HB := n1_
 clear n0_ n1_
 refine start_ (n := 6) (S := fun w' => w'.cell? ⟨gb320, 0, none⟩ = some (.string a0_0) ∧ w'.cell? ⟨gb320, 1, none⟩ = some (.int .i8 a0_1) ∧ w'.cell? ⟨gb320, 2, none⟩ = some (.int .i64 a0_2) ∧ w'.cell? ⟨gb320, 3, none⟩ = some (.string a0_3)) (ds := []) #[false, false, false, false, false, false] (by kernel_rfl) rfl rfl ⟨(xae BK320.out 0).trans rfl, (xae BK320.out 1).trans rfl, (xae BK320.out 2).trans rfl, (xae BK320.out 3).trans rfl⟩ (fun hHeld => ?_)
 generalize w4.drew = w5 at BK320 HB hHeld ⊢
 refine pure_ (i := 1) (N := some 6) (v := ?_) (a' := ?_) #[false, true, false, false, false, false] rfl rfl (by kernel_rfl) (fun _ _ _ h => h) (Or.inl ⟨by rfl, ?_⟩) ?_ ?_
 rotate_left
 ·intro w'
  go_simp
  with_reducible rfl
 rotate_left
 ·simp only [Act.put, sI, sZ, sS, i64_w, i32_w]
  rfl
 refine take_ (i := 0) (N := some 5) (v := ?_) (a' := ?_) #[true, true, false, false, false, false] rfl rfl (by kernel_rfl) (fun _ _ _ h => h) (Or.inl ⟨by rfl, ?_⟩) hHeld ?_ ?_
 rotate_left
 ·rintro w' ⟨s0, s1, s2, s3⟩
  go_simp
  with_reducible rfl
 rotate_left
 ·simp only [Act.put, sI, sZ, sS, i64_w, i32_w]
  rfl
 refine one_ (i := 2) (N := some 7) #[true, true, true, false, false, false] rfl rfl (by kernel_rfl) (by decide) (fun K hK => ?_)
 refine goes_ Tryd.func124 (by kernel_rfl) rfl #[.int .i64 a1] (by rfl) rfl rfl (by (try simp only [List.map_toArray, List.map_cons, List.map_nil]); first | done | rfl | (simp only [List.length_drop, List.length_take]; rfl)) ?_
 with_reducible refine (w1_word.calls a1 t321 _ ?side1 A3.out).mono ?_
 (case side1 => exact TabB.below HTB.out (by repeat (first | (with_reducible first | exact HB.out | apply xab | apply xaa | apply xac | refine xad ?_ GE320.out) | exact HB.out)))
 rintro e w6 ⟨rfl, hb⟩
 refine ⟨_, rfl, ?_⟩
 have n0_ := Aside0.mk (xam (g := gb320) (o := .cells #[.string a0_0, .int .i8 a0_1, .int .i64 a0_2, .string a0_3] 28 (0, 0)) (by (with_reducible repeat (first | refine xag ?_ _ | refine xai ?_ | refine xaf ?_ _)); exact BK320.out) hb)
 have n1_ := Aside0.mk (xah (by repeat (first | (with_reducible first | exact HB.out | apply xab | apply xaa | apply xac | refine xad ?_ GE320.out) | exact HB.out)) hb)
 clear BK320
 clear HB
 have BK320 := n0_
 have HB := n1_
 clear n0_ n1_
 (try clear hb)
 (try clear hb2)
 (try clear hk)
 (try clear hi)
 refine hK.out _ _ ⟨(xae BK320.out 0).trans rfl, (xae BK320.out 1).trans rfl, (xae BK320.out 2).trans rfl, (xae BK320.out 3).trans rfl⟩ (fun hHeld => ?_)
 clear hK K
 refine norm_ (a' := ?_) ?_ ?_
 rotate_left
 ·show Act.put _ (some 7) _ = _
  simp only [Act.put, sI, sZ, sS, i64_w, i32_w]
  rfl
 refine pure_ (i := 3) (N := some 8) (v := ?_) (a' := ?_) #[true, true, true, true, false, false] rfl rfl (by kernel_rfl) (fun _ _ _ h => h) (Or.inl ⟨by rfl, ?_⟩) ?_ ?_
 rotate_left
 ·intro w'
  go_simp
  with_reducible rfl
 rotate_left
 ·simp only [Act.put, sI, sZ, sS, i64_w, i32_w]
  rfl
 refine pure_ (i := 4) (N := some 9) (v := ?_) (a' := ?_) #[true, true, true, true, true, false] rfl rfl (by kernel_rfl) (fun _ _ _ h => h) (Or.inl ⟨by rfl, ?_⟩) ?_ ?_
 rotate_left
 ·intro w'
  go_simp
  with_reducible rfl
 rotate_left
 ·simp only [Act.put, sI, sZ, sS, i64_w, i32_w]
  rfl
 refine pure_ (i := 5) (N := some 4) (v := ?_) (a' := ?_) #[true, true, true, true, true, true] rfl rfl (by kernel_rfl) (fun _ _ _ h => h) (Or.inl ⟨by rfl, ?_⟩) ?_ ?_
 rotate_left
 ·intro w'
  go_simp
  with_reducible rfl
 rotate_left
 ·simp only [Act.put, sI, sZ, sS, i64_w, i32_w]
  rfl
 refine done_ (by kernel_rfl) ?_
 try go_wp2
 go_ret
 exact ⟨by first | rfl | (simp [xak, xaj] <;> rfl) | (simp [*, xak, xaj] <;> rfl), by repeat (first | (with_reducible first | exact HB.out | apply xab | apply xaa | apply xac | refine xad ?_ GE320.out) | exact HB.out)⟩
end Go.Proofs.YtllcmggmcogokaaDoor.PAll
end
section
namespace Go.Proofs.YtllcmggmcogokaaDoor.PAll
open Go.RowKit Go.Proofs.YtllcmggmcogokaaDoorW.PrintWords Go.Proofs.YtllcmggmcogokaaDoorW.PrintLast Go.Proofs.YtllcmggmcogokaaDoorW.PrintMore
attribute [local go_sem] max2_int min2_int max_two min_two max_three min_three max_four min_four
theorem SameTerms_refl_l (l : List S28) (hl : l.length < 2000000) : ∀ d i : Nat, l.length - i = d → i ≤ l.length → w1_SameTerms.l0 (d + 1) l l (i : Int) = some true
 | d, i, hd, hi => by
  rw [w1_SameTerms.l0]
  by_cases h : i < l.length
  ·rw [if_pos (by omega), if_pos (by omega), if_pos (by omega)]
   obtain ⟨d, rfl⟩ : ∃ e, d = e + 1 := ⟨d - 1, by omega⟩
   rw [if_neg (by simp), wrap64_next (n := l.length) (by omega) hi]
   exact SameTerms_refl_l l hl d (i + 1) (by omega) (by omega)
  ·rw [if_neg (by omega)]
theorem SameTerms_refl (l : List S28) (hl : l.length < 2000000) : w1_SameTerms.f (l.length + 1) l l = some true := by
 rw [w1_SameTerms.f, if_pos rfl]
 exact SameTerms_refl_l l hl l.length 0 (by omega) (by omega)
theorem isTerm_spare : w1_isTerm.f spare 0 0 ⟨#[]⟩ 777777 = some true := by rw [w1_isTerm.f, xbn]; simp
set_option maxHeartbeats 4000000 in
set_option maxRecDepth 100000 in
theorem w1_LeftTerms.twin (A' : Option Addr) (c' : Nat) (A : Option Addr) (c : Nat) (l : List S28) (w : World) (hr' : Kd.C (orC k28) w A' (l.length + 1) (marked l mk28)) (hc' : l.length + 1 ≤ c') (hr : Kd.C k28 w A l.length l) (hc : l.length ≤ c) (hl : l.length < 2000000) (hT : TabB w) :
  Calls Tryd.prog 110 #[.slice A' l.length c', .slice A l.length c] w fun e w' => e = .returned (.bool true) ∧ Below w.heap.size w w' := by
 have hm : l.length ≤ 9223372036854775807 := by omega
 have HR' := Lib.hid hr'
 have HR := Lib.hid hr
 have HT := Lib.hid hT
 clear hr hT hr'
 go_enter Tryd.func110, Tryd.ntmps110
 go_wp2_with fail
 refine (w1_SameTerms.calls (l.length + 1) A' c' l A c l true w (marked_C rfl (fun _ _ _ h => h) HR'.out) (by omega) HR.out hc (SameTerms_refl l hl)).mono ?_
 rintro e w1 ⟨rfl, hb0⟩
 have hb := hb0.below
 clear hb0
 obtain ⟨ad, rfl, hz⟩ := marked_mark (Kd.C_below HR'.out hb)
 have z0 : w1.cell? (ad.add (l.length * 4 + 0)) = some (.string spare) := hz 0 _ rfl
 have z1 : w1.cell? (ad.add (l.length * 4 + 1)) = some (.int .i8 0) := hz 1 _ rfl
 have z2 : w1.cell? (ad.add (l.length * 4 + 2)) = some (.int .i64 0) := hz 2 _ rfl
 have z3 : w1.cell? (ad.add (l.length * 4 + 3)) = some (.string ⟨#[]⟩) := hz 3 _ rfl
 rw [xat _ _ 1 (by omega)] at z1
 rw [xat _ _ 2 (by omega)] at z2
 rw [xat _ _ 3 (by omega)] at z3
 rw [Nat.add_zero] at z0
 clear hz
 have HB := Lib.hid hb
 clear hb
 obtain ⟨i0, hi0, _, hsz, _⟩ := info_parts info28
 have hcut := cut_up (P := Tryd.prog) 51 28 .i64 Tryd.underlying51 hi0 (some ad) l.length c' (l.length + 1 : Int) (by omega) (by omega)
 rw [show (l.length + 1 : Int).toNat = l.length + 1 by omega] at hcut
 clear hi0 hsz
 go_wp2_with fail
 refine (w1_isTerm.calls spare 0 0 ⟨#[]⟩ 777777 true w1 (HT.out.below HB.out) isTerm_spare).mono ?_
 rintro e w2 ⟨rfl, hb⟩
 have HB2 := Lib.hid (xah HB.out hb)
 clear hb HB
 go_wp2_with fail
 go_ret
 exact ⟨rfl, HB2.out⟩
abbrev LeAtomC (x : S53) : Prop := ∀ (A'0 : Option Addr) (c'0 : Nat) (A0 : Option Addr) (c0 : Nat) (w : World), Kd.C (orC k28) w A'0 (x.f1.length + 1) (marked x.f1 mk28) → x.f1.length + 1 ≤ c'0 → Kd.C k28 w A0 x.f1.length x.f1 → x.f1.length ≤ c0 → TabB w →
  Calls Tryd.prog 70 #[.agg #[.string x.f0, .slice A'0 x.f1.length c'0], .agg #[.string x.f0, .slice A0 x.f1.length c0]] w fun e w' => e = .returned (.bool true) ∧ Below w.heap.size w w'
set_option maxHeartbeats 8000000 in
set_option maxRecDepth 100000 in
theorem LeAtom_step (x : S53) (hS1 : x.f1.length < 2000000) : LeAtomC x := by
 intro A'0 c'0 A0 c0 w hr'0 hc'0 hr0 hc0 hT
 have HR0 := Lib.hid hr0
 have HR'0 := Lib.hid hr'0
 have HT := Lib.hid hT
 clear hT hr0 hr'0
 go_enter Tryd.func70, Tryd.ntmps70
 go_wp2_with fail
 have HK1 := Lib.hid (xam (xaz w (.cells #[.string x.f0, .slice A'0 x.f1.length c'0] 53 (0, 0))) (xab (Below.refl _ _) (.cells #[.string x.f0, .slice A0 x.f1.length c0] 53 (0, 0))))
 have HK2 := Lib.hid (xaz (w.alloc (.cells #[.string x.f0, .slice A'0 x.f1.length c'0] 53 (0, 0))) (.cells #[.string x.f0, .slice A0 x.f1.length c0] 53 (0, 0)))
 rw [show (w.alloc (.cells #[.string x.f0, .slice A'0 x.f1.length c'0] 53 (0, 0))).heap.size = w.heap.size + 1 by simp] at HK2
 have HB := Lib.hid (xab (xab (Below.refl w.heap.size w) (.cells #[.string x.f0, .slice A'0 x.f1.length c'0] 53 (0, 0))) (.cells #[.string x.f0, .slice A0 x.f1.length c0] 53 (0, 0)))
 generalize (w.alloc (.cells #[.string x.f0, .slice A'0 x.f1.length c'0] 53 (0, 0))).alloc (.cells #[.string x.f0, .slice A0 x.f1.length c0] 53 (0, 0)) = v0 at *
 refine (w1_LeftTerms.twin A'0 c'0 A0 c0 x.f1 v0 (Kd.C_below HR'0.out HB.out) hc'0 (Kd.C_below HR0.out HB.out) hc0 hS1 (HT.out.below HB.out)).mono ?_
 rintro e v1 ⟨rfl, hb⟩
 replace HK1 := Lib.hid (xam HK1.out hb)
 replace HK2 := Lib.hid (xam HK2.out hb)
 replace HB := Lib.hid (xah HB.out hb)
 clear hb
 go_wp2_with fail
 go_ret
 exact ⟨rfl, HB.out⟩
abbrev LeLiteralC (x : S56) : Prop := ∀ (A'0 : Option Addr) (c'0 : Nat) (A'1 : Option Addr) (c'1 : Nat) (A'2 : Option Addr) (c'2 : Nat) (A0 : Option Addr) (c0 : Nat) (A1 : Option Addr) (c1 : Nat) (A2 : Option Addr) (c2 : Nat) (w : World), Kd.C (orC k28) w A'0 (x.f1.f1.length + 1) (marked x.f1.f1 mk28) → x.f1.f1.length + 1 ≤ c'0 → Kd.C (orC k31t) w A'1 (x.f3.f2.length + 1) (marked x.f3.f2 mk31) → x.f3.f2.length + 1 ≤ c'1 → Kd.C (orC k31t) w A'2 (x.f4.f2.length + 1) (marked x.f4.f2 mk31) → x.f4.f2.length + 1 ≤ c'2 → Kd.C k28 w A0 x.f1.f1.length x.f1.f1 → x.f1.f1.length ≤ c0 → Kd.C k31 w A1 x.f3.f2.length x.f3.f2 → x.f3.f2.length ≤ c1 → Kd.C k31 w A2 x.f4.f2.length x.f4.f2 → x.f4.f2.length ≤ c2 → TabB w →
  Calls Tryd.prog 25 #[.agg #[.int .i8 x.f0, .string x.f1.f0, .slice A'0 x.f1.f1.length c'0, .int .i8 x.f2, .int .i8 x.f3.f0, .string x.f3.f1.f0, .int .i8 x.f3.f1.f1.f0, .int .i64 x.f3.f1.f1.f1, .string x.f3.f1.f1.f2, .slice A'1 x.f3.f2.length c'1, .int .i8 x.f4.f0, .string x.f4.f1.f0, .int .i8 x.f4.f1.f1.f0, .int .i64 x.f4.f1.f1.f1, .string x.f4.f1.f1.f2, .slice A'2 x.f4.f2.length c'2], .agg #[.int .i8 x.f0, .string x.f1.f0, .slice A0 x.f1.f1.length c0, .int .i8 x.f2, .int .i8 x.f3.f0, .string x.f3.f1.f0, .int .i8 x.f3.f1.f1.f0, .int .i64 x.f3.f1.f1.f1, .string x.f3.f1.f1.f2, .slice A1 x.f3.f2.length c1, .int .i8 x.f4.f0, .string x.f4.f1.f0, .int .i8 x.f4.f1.f1.f0, .int .i64 x.f4.f1.f1.f1, .string x.f4.f1.f1.f2, .slice A2 x.f4.f2.length c2]] w fun e w' => e = .returned (.bool true) ∧ Below w.heap.size w w'
set_option maxHeartbeats 8000000 in
set_option maxRecDepth 100000 in
theorem LeLiteral_step (x : S56) (hS1 : Hid (LeAtomC x.f1)) (hS3 : Hid (LeExprC x.f3)) (hS4 : Hid (LeExprC x.f4)) : LeLiteralC x := by
 intro A'0 c'0 A'1 c'1 A'2 c'2 A0 c0 A1 c1 A2 c2 w hr'0 hc'0 hr'1 hc'1 hr'2 hc'2 hr0 hc0 hr1 hc1 hr2 hc2 hT
 have HR0 := Lib.hid hr0
 have HR'0 := Lib.hid hr'0
 have HR1 := Lib.hid hr1
 have HR'1 := Lib.hid hr'1
 have HR2 := Lib.hid hr2
 have HR'2 := Lib.hid hr'2
 have HT := Lib.hid hT
 clear hT hr0 hr'0 hr1 hr'1 hr2 hr'2
 go_enter Tryd.func25, Tryd.ntmps25
 go_wp2_with fail
 have HK1 := Lib.hid (xam (xaz w (.cells #[.int .i8 x.f0, .string x.f1.f0, .slice A'0 x.f1.f1.length c'0, .int .i8 x.f2, .int .i8 x.f3.f0, .string x.f3.f1.f0, .int .i8 x.f3.f1.f1.f0, .int .i64 x.f3.f1.f1.f1, .string x.f3.f1.f1.f2, .slice A'1 x.f3.f2.length c'1, .int .i8 x.f4.f0, .string x.f4.f1.f0, .int .i8 x.f4.f1.f1.f0, .int .i64 x.f4.f1.f1.f1, .string x.f4.f1.f1.f2, .slice A'2 x.f4.f2.length c'2] 56 (0, 0))) (xab (Below.refl _ _) (.cells #[.int .i8 x.f0, .string x.f1.f0, .slice A0 x.f1.f1.length c0, .int .i8 x.f2, .int .i8 x.f3.f0, .string x.f3.f1.f0, .int .i8 x.f3.f1.f1.f0, .int .i64 x.f3.f1.f1.f1, .string x.f3.f1.f1.f2, .slice A1 x.f3.f2.length c1, .int .i8 x.f4.f0, .string x.f4.f1.f0, .int .i8 x.f4.f1.f1.f0, .int .i64 x.f4.f1.f1.f1, .string x.f4.f1.f1.f2, .slice A2 x.f4.f2.length c2] 56 (0, 0))))
 have HK2 := Lib.hid (xaz (w.alloc (.cells #[.int .i8 x.f0, .string x.f1.f0, .slice A'0 x.f1.f1.length c'0, .int .i8 x.f2, .int .i8 x.f3.f0, .string x.f3.f1.f0, .int .i8 x.f3.f1.f1.f0, .int .i64 x.f3.f1.f1.f1, .string x.f3.f1.f1.f2, .slice A'1 x.f3.f2.length c'1, .int .i8 x.f4.f0, .string x.f4.f1.f0, .int .i8 x.f4.f1.f1.f0, .int .i64 x.f4.f1.f1.f1, .string x.f4.f1.f1.f2, .slice A'2 x.f4.f2.length c'2] 56 (0, 0))) (.cells #[.int .i8 x.f0, .string x.f1.f0, .slice A0 x.f1.f1.length c0, .int .i8 x.f2, .int .i8 x.f3.f0, .string x.f3.f1.f0, .int .i8 x.f3.f1.f1.f0, .int .i64 x.f3.f1.f1.f1, .string x.f3.f1.f1.f2, .slice A1 x.f3.f2.length c1, .int .i8 x.f4.f0, .string x.f4.f1.f0, .int .i8 x.f4.f1.f1.f0, .int .i64 x.f4.f1.f1.f1, .string x.f4.f1.f1.f2, .slice A2 x.f4.f2.length c2] 56 (0, 0)))
 rw [show (w.alloc (.cells #[.int .i8 x.f0, .string x.f1.f0, .slice A'0 x.f1.f1.length c'0, .int .i8 x.f2, .int .i8 x.f3.f0, .string x.f3.f1.f0, .int .i8 x.f3.f1.f1.f0, .int .i64 x.f3.f1.f1.f1, .string x.f3.f1.f1.f2, .slice A'1 x.f3.f2.length c'1, .int .i8 x.f4.f0, .string x.f4.f1.f0, .int .i8 x.f4.f1.f1.f0, .int .i64 x.f4.f1.f1.f1, .string x.f4.f1.f1.f2, .slice A'2 x.f4.f2.length c'2] 56 (0, 0))).heap.size = w.heap.size + 1 by simp] at HK2
 have HB := Lib.hid (xab (xab (Below.refl w.heap.size w) (.cells #[.int .i8 x.f0, .string x.f1.f0, .slice A'0 x.f1.f1.length c'0, .int .i8 x.f2, .int .i8 x.f3.f0, .string x.f3.f1.f0, .int .i8 x.f3.f1.f1.f0, .int .i64 x.f3.f1.f1.f1, .string x.f3.f1.f1.f2, .slice A'1 x.f3.f2.length c'1, .int .i8 x.f4.f0, .string x.f4.f1.f0, .int .i8 x.f4.f1.f1.f0, .int .i64 x.f4.f1.f1.f1, .string x.f4.f1.f1.f2, .slice A'2 x.f4.f2.length c'2] 56 (0, 0))) (.cells #[.int .i8 x.f0, .string x.f1.f0, .slice A0 x.f1.f1.length c0, .int .i8 x.f2, .int .i8 x.f3.f0, .string x.f3.f1.f0, .int .i8 x.f3.f1.f1.f0, .int .i64 x.f3.f1.f1.f1, .string x.f3.f1.f1.f2, .slice A1 x.f3.f2.length c1, .int .i8 x.f4.f0, .string x.f4.f1.f0, .int .i8 x.f4.f1.f1.f0, .int .i64 x.f4.f1.f1.f1, .string x.f4.f1.f1.f2, .slice A2 x.f4.f2.length c2] 56 (0, 0)))
 generalize (w.alloc (.cells #[.int .i8 x.f0, .string x.f1.f0, .slice A'0 x.f1.f1.length c'0, .int .i8 x.f2, .int .i8 x.f3.f0, .string x.f3.f1.f0, .int .i8 x.f3.f1.f1.f0, .int .i64 x.f3.f1.f1.f1, .string x.f3.f1.f1.f2, .slice A'1 x.f3.f2.length c'1, .int .i8 x.f4.f0, .string x.f4.f1.f0, .int .i8 x.f4.f1.f1.f0, .int .i64 x.f4.f1.f1.f1, .string x.f4.f1.f1.f2, .slice A'2 x.f4.f2.length c'2] 56 (0, 0))).alloc (.cells #[.int .i8 x.f0, .string x.f1.f0, .slice A0 x.f1.f1.length c0, .int .i8 x.f2, .int .i8 x.f3.f0, .string x.f3.f1.f0, .int .i8 x.f3.f1.f1.f0, .int .i64 x.f3.f1.f1.f1, .string x.f3.f1.f1.f2, .slice A1 x.f3.f2.length c1, .int .i8 x.f4.f0, .string x.f4.f1.f0, .int .i8 x.f4.f1.f1.f0, .int .i64 x.f4.f1.f1.f1, .string x.f4.f1.f1.f2, .slice A2 x.f4.f2.length c2] 56 (0, 0)) = v0 at *
 refine (hS1.out A'0 c'0 A0 c0 v0 (Kd.C_below HR'0.out HB.out) hc'0 (Kd.C_below HR0.out HB.out) hc0 (HT.out.below HB.out)).mono ?_
 rintro e v1 ⟨rfl, hb⟩
 replace HK1 := Lib.hid (xam HK1.out hb)
 replace HK2 := Lib.hid (xam HK2.out hb)
 replace HB := Lib.hid (xah HB.out hb)
 clear hb
 have p0 : v1.cell? ⟨w.heap.size, 0, none⟩ = some (.int .i8 x.f0) := (xae HK1.out 0).trans rfl
 have q0 : v1.cell? ⟨w.heap.size + 1, 0, none⟩ = some (.int .i8 x.f0) := (xae HK2.out 0).trans rfl
 have p1 : v1.cell? ⟨w.heap.size, 1, none⟩ = some (.string x.f1.f0) := (xae HK1.out 1).trans rfl
 have q1 : v1.cell? ⟨w.heap.size + 1, 1, none⟩ = some (.string x.f1.f0) := (xae HK2.out 1).trans rfl
 have p2 : v1.cell? ⟨w.heap.size, 2, none⟩ = some (.slice A'0 x.f1.f1.length c'0) := (xae HK1.out 2).trans rfl
 have q2 : v1.cell? ⟨w.heap.size + 1, 2, none⟩ = some (.slice A0 x.f1.f1.length c0) := (xae HK2.out 2).trans rfl
 have p3 : v1.cell? ⟨w.heap.size, 3, none⟩ = some (.int .i8 x.f2) := (xae HK1.out 3).trans rfl
 have q3 : v1.cell? ⟨w.heap.size + 1, 3, none⟩ = some (.int .i8 x.f2) := (xae HK2.out 3).trans rfl
 have p4 : v1.cell? ⟨w.heap.size, 4, none⟩ = some (.int .i8 x.f3.f0) := (xae HK1.out 4).trans rfl
 have q4 : v1.cell? ⟨w.heap.size + 1, 4, none⟩ = some (.int .i8 x.f3.f0) := (xae HK2.out 4).trans rfl
 have p5 : v1.cell? ⟨w.heap.size, 5, none⟩ = some (.string x.f3.f1.f0) := (xae HK1.out 5).trans rfl
 have q5 : v1.cell? ⟨w.heap.size + 1, 5, none⟩ = some (.string x.f3.f1.f0) := (xae HK2.out 5).trans rfl
 have p6 : v1.cell? ⟨w.heap.size, 6, none⟩ = some (.int .i8 x.f3.f1.f1.f0) := (xae HK1.out 6).trans rfl
 have q6 : v1.cell? ⟨w.heap.size + 1, 6, none⟩ = some (.int .i8 x.f3.f1.f1.f0) := (xae HK2.out 6).trans rfl
 have p7 : v1.cell? ⟨w.heap.size, 7, none⟩ = some (.int .i64 x.f3.f1.f1.f1) := (xae HK1.out 7).trans rfl
 have q7 : v1.cell? ⟨w.heap.size + 1, 7, none⟩ = some (.int .i64 x.f3.f1.f1.f1) := (xae HK2.out 7).trans rfl
 have p8 : v1.cell? ⟨w.heap.size, 8, none⟩ = some (.string x.f3.f1.f1.f2) := (xae HK1.out 8).trans rfl
 have q8 : v1.cell? ⟨w.heap.size + 1, 8, none⟩ = some (.string x.f3.f1.f1.f2) := (xae HK2.out 8).trans rfl
 have p9 : v1.cell? ⟨w.heap.size, 9, none⟩ = some (.slice A'1 x.f3.f2.length c'1) := (xae HK1.out 9).trans rfl
 have q9 : v1.cell? ⟨w.heap.size + 1, 9, none⟩ = some (.slice A1 x.f3.f2.length c1) := (xae HK2.out 9).trans rfl
 have p10 : v1.cell? ⟨w.heap.size, 10, none⟩ = some (.int .i8 x.f4.f0) := (xae HK1.out 10).trans rfl
 have q10 : v1.cell? ⟨w.heap.size + 1, 10, none⟩ = some (.int .i8 x.f4.f0) := (xae HK2.out 10).trans rfl
 have p11 : v1.cell? ⟨w.heap.size, 11, none⟩ = some (.string x.f4.f1.f0) := (xae HK1.out 11).trans rfl
 have q11 : v1.cell? ⟨w.heap.size + 1, 11, none⟩ = some (.string x.f4.f1.f0) := (xae HK2.out 11).trans rfl
 have p12 : v1.cell? ⟨w.heap.size, 12, none⟩ = some (.int .i8 x.f4.f1.f1.f0) := (xae HK1.out 12).trans rfl
 have q12 : v1.cell? ⟨w.heap.size + 1, 12, none⟩ = some (.int .i8 x.f4.f1.f1.f0) := (xae HK2.out 12).trans rfl
 have p13 : v1.cell? ⟨w.heap.size, 13, none⟩ = some (.int .i64 x.f4.f1.f1.f1) := (xae HK1.out 13).trans rfl
 have q13 : v1.cell? ⟨w.heap.size + 1, 13, none⟩ = some (.int .i64 x.f4.f1.f1.f1) := (xae HK2.out 13).trans rfl
 have p14 : v1.cell? ⟨w.heap.size, 14, none⟩ = some (.string x.f4.f1.f1.f2) := (xae HK1.out 14).trans rfl
 have q14 : v1.cell? ⟨w.heap.size + 1, 14, none⟩ = some (.string x.f4.f1.f1.f2) := (xae HK2.out 14).trans rfl
 have p15 : v1.cell? ⟨w.heap.size, 15, none⟩ = some (.slice A'2 x.f4.f2.length c'2) := (xae HK1.out 15).trans rfl
 have q15 : v1.cell? ⟨w.heap.size + 1, 15, none⟩ = some (.slice A2 x.f4.f2.length c2) := (xae HK2.out 15).trans rfl
 go_wp2_with fail
 refine (hS3.out A'1 c'1 A1 c1 v1 (Kd.C_below HR'1.out HB.out) hc'1 (Kd.C_below HR1.out HB.out) hc1 (HT.out.below HB.out)).mono ?_
 rintro e v2 ⟨rfl, hb⟩
 replace HK1 := Lib.hid (xam HK1.out hb)
 replace HK2 := Lib.hid (xam HK2.out hb)
 replace HB := Lib.hid (xah HB.out hb)
 clear hb
 clear p0 q0 p1 q1 p2 q2 p3 q3 p4 q4 p5 q5 p6 q6 p7 q7 p8 q8 p9 q9 p10 q10 p11 q11 p12 q12 p13 q13 p14 q14 p15 q15
 have p0 : v2.cell? ⟨w.heap.size, 0, none⟩ = some (.int .i8 x.f0) := (xae HK1.out 0).trans rfl
 have q0 : v2.cell? ⟨w.heap.size + 1, 0, none⟩ = some (.int .i8 x.f0) := (xae HK2.out 0).trans rfl
 have p1 : v2.cell? ⟨w.heap.size, 1, none⟩ = some (.string x.f1.f0) := (xae HK1.out 1).trans rfl
 have q1 : v2.cell? ⟨w.heap.size + 1, 1, none⟩ = some (.string x.f1.f0) := (xae HK2.out 1).trans rfl
 have p2 : v2.cell? ⟨w.heap.size, 2, none⟩ = some (.slice A'0 x.f1.f1.length c'0) := (xae HK1.out 2).trans rfl
 have q2 : v2.cell? ⟨w.heap.size + 1, 2, none⟩ = some (.slice A0 x.f1.f1.length c0) := (xae HK2.out 2).trans rfl
 have p3 : v2.cell? ⟨w.heap.size, 3, none⟩ = some (.int .i8 x.f2) := (xae HK1.out 3).trans rfl
 have q3 : v2.cell? ⟨w.heap.size + 1, 3, none⟩ = some (.int .i8 x.f2) := (xae HK2.out 3).trans rfl
 have p4 : v2.cell? ⟨w.heap.size, 4, none⟩ = some (.int .i8 x.f3.f0) := (xae HK1.out 4).trans rfl
 have q4 : v2.cell? ⟨w.heap.size + 1, 4, none⟩ = some (.int .i8 x.f3.f0) := (xae HK2.out 4).trans rfl
 have p5 : v2.cell? ⟨w.heap.size, 5, none⟩ = some (.string x.f3.f1.f0) := (xae HK1.out 5).trans rfl
 have q5 : v2.cell? ⟨w.heap.size + 1, 5, none⟩ = some (.string x.f3.f1.f0) := (xae HK2.out 5).trans rfl
 have p6 : v2.cell? ⟨w.heap.size, 6, none⟩ = some (.int .i8 x.f3.f1.f1.f0) := (xae HK1.out 6).trans rfl
 have q6 : v2.cell? ⟨w.heap.size + 1, 6, none⟩ = some (.int .i8 x.f3.f1.f1.f0) := (xae HK2.out 6).trans rfl
 have p7 : v2.cell? ⟨w.heap.size, 7, none⟩ = some (.int .i64 x.f3.f1.f1.f1) := (xae HK1.out 7).trans rfl
 have q7 : v2.cell? ⟨w.heap.size + 1, 7, none⟩ = some (.int .i64 x.f3.f1.f1.f1) := (xae HK2.out 7).trans rfl
 have p8 : v2.cell? ⟨w.heap.size, 8, none⟩ = some (.string x.f3.f1.f1.f2) := (xae HK1.out 8).trans rfl
 have q8 : v2.cell? ⟨w.heap.size + 1, 8, none⟩ = some (.string x.f3.f1.f1.f2) := (xae HK2.out 8).trans rfl
 have p9 : v2.cell? ⟨w.heap.size, 9, none⟩ = some (.slice A'1 x.f3.f2.length c'1) := (xae HK1.out 9).trans rfl
 have q9 : v2.cell? ⟨w.heap.size + 1, 9, none⟩ = some (.slice A1 x.f3.f2.length c1) := (xae HK2.out 9).trans rfl
 have p10 : v2.cell? ⟨w.heap.size, 10, none⟩ = some (.int .i8 x.f4.f0) := (xae HK1.out 10).trans rfl
 have q10 : v2.cell? ⟨w.heap.size + 1, 10, none⟩ = some (.int .i8 x.f4.f0) := (xae HK2.out 10).trans rfl
 have p11 : v2.cell? ⟨w.heap.size, 11, none⟩ = some (.string x.f4.f1.f0) := (xae HK1.out 11).trans rfl
 have q11 : v2.cell? ⟨w.heap.size + 1, 11, none⟩ = some (.string x.f4.f1.f0) := (xae HK2.out 11).trans rfl
 have p12 : v2.cell? ⟨w.heap.size, 12, none⟩ = some (.int .i8 x.f4.f1.f1.f0) := (xae HK1.out 12).trans rfl
 have q12 : v2.cell? ⟨w.heap.size + 1, 12, none⟩ = some (.int .i8 x.f4.f1.f1.f0) := (xae HK2.out 12).trans rfl
 have p13 : v2.cell? ⟨w.heap.size, 13, none⟩ = some (.int .i64 x.f4.f1.f1.f1) := (xae HK1.out 13).trans rfl
 have q13 : v2.cell? ⟨w.heap.size + 1, 13, none⟩ = some (.int .i64 x.f4.f1.f1.f1) := (xae HK2.out 13).trans rfl
 have p14 : v2.cell? ⟨w.heap.size, 14, none⟩ = some (.string x.f4.f1.f1.f2) := (xae HK1.out 14).trans rfl
 have q14 : v2.cell? ⟨w.heap.size + 1, 14, none⟩ = some (.string x.f4.f1.f1.f2) := (xae HK2.out 14).trans rfl
 have p15 : v2.cell? ⟨w.heap.size, 15, none⟩ = some (.slice A'2 x.f4.f2.length c'2) := (xae HK1.out 15).trans rfl
 have q15 : v2.cell? ⟨w.heap.size + 1, 15, none⟩ = some (.slice A2 x.f4.f2.length c2) := (xae HK2.out 15).trans rfl
 go_wp2_with fail
 refine (hS4.out A'2 c'2 A2 c2 v2 (Kd.C_below HR'2.out HB.out) hc'2 (Kd.C_below HR2.out HB.out) hc2 (HT.out.below HB.out)).mono ?_
 rintro e v3 ⟨rfl, hb⟩
 replace HK1 := Lib.hid (xam HK1.out hb)
 replace HK2 := Lib.hid (xam HK2.out hb)
 replace HB := Lib.hid (xah HB.out hb)
 clear hb
 go_wp2_with fail
 go_ret
 exact ⟨rfl, HB.out⟩
def w1_BeyondRule.f (k : Nat) (a0_0 : ByteArray) (l0_1 : List (S125)) (l0_2 : List (S56)) : Option (Bool) := (w1_RuleParts.f k a0_0 l0_1 l0_2 1048576).bind fun t323 => (some (decide (t323 > 1048576)))
set_option maxHeartbeats 8000000 in
set_option maxRecDepth 100000 in
theorem w1_BeyondRule.calls (k : Nat) (a0_0 : ByteArray) (A0_1 : Option Addr) (c0_1 : Nat) (l0_1 : List (S125)) (A0_2 : Option Addr) (c0_2 : Nat) (l0_2 : List (S56)) (r : Bool) (w : World) (hr0_1 : Kd.C k125 w A0_1 l0_1.length l0_1) (hc0_1 : l0_1.length ≤ c0_1) (hr0_2 : Kd.C k56 w A0_2 l0_2.length l0_2) (hc0_2 : l0_2.length ≤ c0_2) (h : w1_BeyondRule.f k a0_0 l0_1 l0_2 = some r) :
  Calls Tryd.prog 26 #[.agg #[.string a0_0, .slice A0_1 l0_1.length c0_1, .slice A0_2 l0_2.length c0_2]] w fun e w' => e = .returned (.bool r) ∧ Below w.heap.size w w' := by
 have hu67 := Tryd.underlying67
 have HR0_1 := Aside0.mk hr0_1
 have HC0_1 := Aside0.mk hc0_1
 clear hr0_1 hc0_1
 have HR0_2 := Aside0.mk hr0_2
 have HC0_2 := Aside0.mk hc0_2
 clear hr0_2 hc0_2
 have HB := Aside0.mk (Below.refl w.heap.size w)
 have H : ((w1_RuleParts.f k a0_0 l0_1 l0_2 1048576).bind fun t323 => (some (decide (t323 > 1048576)))) = some r := h
 clear h
 replace H := Option.bind_eq_some_iff.mp H
 obtain ⟨t323, A20, H⟩ := H
 replace H : (some (decide (t323 > 1048576))) = some r := H
 have A2 := Aside0.mk A20
 clear A20
 obtain rfl := Option.some.inj H
 go_enter Tryd.func26, Tryd.ntmps26
 go_wp2_with (first | ((with_reducible refine xar (N := 1) rfl ?_); refine xap ?hg (N := 1) ?hd (cs := #[.string a0_0, .slice A0_1 l0_1.length c0_1, .slice A0_2 l0_2.length c0_2]) (t := 67) ?hr ?_; (case hd => rfl); (case hg => rfl); (case hr => first | (go_simp; done) | (go_simp; rfl)); intro gb322 hg w3 hbox hb; have n0_ := Aside0.mk (xah (by repeat (first | (with_reducible first | exact HB.out | apply xab | apply xaa | apply xac) | exact HB.out)) hb); have n1_ := Aside0.mk (hbox); have n2_ := Aside0.mk ((by rw [hg]; exact (xao (by repeat (first | (with_reducible first | exact HB.out | apply xab | apply xaa | apply xac) | exact HB.out))) : w.heap.size ≤ gb322)); have n3_ := n2_; clear HB; have HB := n0_; have BK322 := n1_; have GW322 := n2_; have GE322 := n3_; clear n0_ n1_ n2_ n3_; clear hb hbox hg; obtain ⟨hcz4_0, hcz4_1, hcz4_2⟩ := cz3 BK322.out; obtain ⟨hfz4_0, hfz4_1, hfz4_2⟩ := fz3 BK322.out) | ((with_reducible refine xau (f := 64) rfl ?_); refine goesL_ (some 4) rfl rfl Tryd.func64 (by kernel_rfl) rfl #[.agg #[.string a0_0, .slice A0_1 l0_1.length c0_1, .slice A0_2 l0_2.length c0_2], .int .i64 1048576] rfl (by (try simp only [List.map_toArray, List.map_cons, List.map_nil]); first | done | rfl | (simp only [List.length_drop, List.length_take]; rfl)) ?_; (with_reducible refine (w1_RuleParts.calls k a0_0 _ _ l0_1 _ _ l0_2 1048576 t323 _ ?side1 ?side2 ?side3 ?side4 A2.out).mono ?_); (case side1 => repeat (first | exact (Kd.C_below HR0_1.out HB.out) | (with_reducible refine Kd.C_alloc ?_ _) | (with_reducible refine Kd.C_drewN ?_ _) | (with_reducible refine Kd.C_drew ?_))); (case side2 => exact HC0_1.out); (case side3 => repeat (first | exact (Kd.C_below HR0_2.out HB.out) | (with_reducible refine Kd.C_alloc ?_ _) | (with_reducible refine Kd.C_drewN ?_ _) | (with_reducible refine Kd.C_drew ?_))); (case side4 => exact HC0_2.out); rintro e w5 ⟨rfl, hb⟩; refine ⟨_, rfl, ?_⟩; have n0_ := Aside0.mk (xam (g := gb322) (o := .cells #[.string a0_0, .slice A0_1 l0_1.length c0_1, .slice A0_2 l0_2.length c0_2] 67 (0, 0)) (by (with_reducible repeat (first | refine xag ?_ _ | refine xai ?_ | refine xaf ?_ _)); exact BK322.out) hb); have n1_ := Aside0.mk (xah (by repeat (first | (with_reducible first | exact HB.out | apply xab | apply xaa | apply xac | refine xad ?_ GE322.out) | exact HB.out)) hb); clear BK322; clear HB; have BK322 := n0_; have HB := n1_; clear n0_ n1_; (try clear hb); (try clear hb2); (try clear hk); (try clear hi)))
 go_ret
 exact ⟨by first | rfl | (simp [xak, xaj] <;> rfl) | (simp [*, xak, xaj] <;> rfl), by repeat (first | (with_reducible first | exact HB.out | apply xab | apply xaa | apply xac | refine xad ?_ GE322.out) | exact HB.out)⟩
def mk56 : List Value := [.int .i8 99, .string spare, .slice none 0 0, .int .i8 0, .int .i8 0, .string ⟨#[]⟩, .int .i8 0, .int .i64 0, .string ⟨#[]⟩, .slice none 0 0, .int .i8 0, .string ⟨#[]⟩, .int .i8 0, .int .i64 0, .string ⟨#[]⟩, .slice none 0 0]
set_option maxHeartbeats 4000000 in
set_option maxRecDepth 100000 in
theorem markLiteral_mark (w : World) (hT : TabB w) : Calls Tryd.prog 112 #[.int .i64 777777] w fun e w' => e = .returned (.agg #[.int .i8 99, .string spare, .slice none 0 0, .int .i8 0, .int .i8 0, .string ⟨#[]⟩, .int .i8 0, .int .i64 0, .string ⟨#[]⟩, .slice none 0 0, .int .i8 0, .string ⟨#[]⟩, .int .i8 0, .int .i64 0, .string ⟨#[]⟩, .slice none 0 0]) ∧ Below w.heap.size w w' := by
 have HT := Lib.hid hT
 clear hT
 go_enter Tryd.func112, Tryd.ntmps112
 go_wp2_with fail
 refine (w1_word.calls 777777 spare _ (HT.out.below (xab (Below.refl _ _) _)) xbn).mono ?_
 rintro e w2 ⟨rfl, hb⟩
 have hk := xam (xaz w _) hb
 have HB := Lib.hid (xah (xab (Below.refl _ _) _) hb)
 clear hb
 have z0 : w2.cell? ⟨w.heap.size, 0, none⟩ = some (.int .i8 0) := (xae hk 0).trans rfl
 have f0 := xal hk 0
 have z1 : w2.cell? ⟨w.heap.size, 1, none⟩ = some (.string ⟨#[]⟩) := (xae hk 1).trans rfl
 have f1 := xal hk 1
 have z2 : w2.cell? ⟨w.heap.size, 2, none⟩ = some (.slice none 0 0) := (xae hk 2).trans rfl
 have f2 := xal hk 2
 have z3 : w2.cell? ⟨w.heap.size, 3, none⟩ = some (.int .i8 0) := (xae hk 3).trans rfl
 have f3 := xal hk 3
 have z4 : w2.cell? ⟨w.heap.size, 4, none⟩ = some (.int .i8 0) := (xae hk 4).trans rfl
 have f4 := xal hk 4
 have z5 : w2.cell? ⟨w.heap.size, 5, none⟩ = some (.string ⟨#[]⟩) := (xae hk 5).trans rfl
 have f5 := xal hk 5
 have z6 : w2.cell? ⟨w.heap.size, 6, none⟩ = some (.int .i8 0) := (xae hk 6).trans rfl
 have f6 := xal hk 6
 have z7 : w2.cell? ⟨w.heap.size, 7, none⟩ = some (.int .i64 0) := (xae hk 7).trans rfl
 have f7 := xal hk 7
 have z8 : w2.cell? ⟨w.heap.size, 8, none⟩ = some (.string ⟨#[]⟩) := (xae hk 8).trans rfl
 have f8 := xal hk 8
 have z9 : w2.cell? ⟨w.heap.size, 9, none⟩ = some (.slice none 0 0) := (xae hk 9).trans rfl
 have f9 := xal hk 9
 have z10 : w2.cell? ⟨w.heap.size, 10, none⟩ = some (.int .i8 0) := (xae hk 10).trans rfl
 have f10 := xal hk 10
 have z11 : w2.cell? ⟨w.heap.size, 11, none⟩ = some (.string ⟨#[]⟩) := (xae hk 11).trans rfl
 have f11 := xal hk 11
 have z12 : w2.cell? ⟨w.heap.size, 12, none⟩ = some (.int .i8 0) := (xae hk 12).trans rfl
 have f12 := xal hk 12
 have z13 : w2.cell? ⟨w.heap.size, 13, none⟩ = some (.int .i64 0) := (xae hk 13).trans rfl
 have f13 := xal hk 13
 have z14 : w2.cell? ⟨w.heap.size, 14, none⟩ = some (.string ⟨#[]⟩) := (xae hk 14).trans rfl
 have f14 := xal hk 14
 have z15 : w2.cell? ⟨w.heap.size, 15, none⟩ = some (.slice none 0 0) := (xae hk 15).trans rfl
 have f15 := xal hk 15
 have HK := Lib.hid hk
 clear hk
 go_wp2_with fail
 refine bodyPost_ret (results_cell_row rfl _ _ w.heap.size 56 #[.int .i8 99, .string spare, .slice none 0 0, .int .i8 0, .int .i8 0, .string ⟨#[]⟩, .int .i8 0, .int .i64 0, .string ⟨#[]⟩, .slice none 0 0, .int .i8 0, .string ⟨#[]⟩, .int .i8 0, .int .i64 0, .string ⟨#[]⟩, .slice none 0 0] (0, 0) _ rfl (xas (cs := #[.int .i8 99, .string spare, .slice none 0 0, .int .i8 0, .int .i8 0, .string ⟨#[]⟩, .int .i8 0, .int .i64 0, .string ⟨#[]⟩, .slice none 0 0, .int .i8 0, .string ⟨#[]⟩, .int .i8 0, .int .i64 0, .string ⟨#[]⟩, .slice none 0 0]) (cs' := #[.int .i8 99, .string spare, .slice none 0 0, .int .i8 0, .int .i8 0, .string ⟨#[]⟩, .int .i8 0, .int .i64 0, .string ⟨#[]⟩, .slice none 0 0, .int .i8 0, .string ⟨#[]⟩, .int .i8 0, .int .i64 0, .string ⟨#[]⟩, .slice none 0 0]) (xas (cs := #[.int .i8 99, .string spare, .slice none 0 0, .int .i8 0, .int .i8 0, .string ⟨#[]⟩, .int .i8 0, .int .i64 0, .string ⟨#[]⟩, .slice none 0 0, .int .i8 0, .string ⟨#[]⟩, .int .i8 0, .int .i64 0, .string ⟨#[]⟩, .slice none 0 0]) (cs' := #[.int .i8 99, .string spare, .slice none 0 0, .int .i8 0, .int .i8 0, .string ⟨#[]⟩, .int .i8 0, .int .i64 0, .string ⟨#[]⟩, .slice none 0 0, .int .i8 0, .string ⟨#[]⟩, .int .i8 0, .int .i64 0, .string ⟨#[]⟩, .slice none 0 0]) (xas (cs := #[.int .i8 99, .string spare, .slice none 0 0, .int .i8 0, .int .i8 0, .string ⟨#[]⟩, .int .i8 0, .int .i64 0, .string ⟨#[]⟩, .slice none 0 0, .int .i8 0, .string ⟨#[]⟩, .int .i8 0, .int .i64 0, .string ⟨#[]⟩, .slice none 0 0]) (cs' := #[.int .i8 99, .string spare, .slice none 0 0, .int .i8 0, .int .i8 0, .string ⟨#[]⟩, .int .i8 0, .int .i64 0, .string ⟨#[]⟩, .slice none 0 0, .int .i8 0, .string ⟨#[]⟩, .int .i8 0, .int .i64 0, .string ⟨#[]⟩, .slice none 0 0]) (xas (cs := #[.int .i8 99, .string spare, .slice none 0 0, .int .i8 0, .int .i8 0, .string ⟨#[]⟩, .int .i8 0, .int .i64 0, .string ⟨#[]⟩, .slice none 0 0, .int .i8 0, .string ⟨#[]⟩, .int .i8 0, .int .i64 0, .string ⟨#[]⟩, .slice none 0 0]) (cs' := #[.int .i8 99, .string spare, .slice none 0 0, .int .i8 0, .int .i8 0, .string ⟨#[]⟩, .int .i8 0, .int .i64 0, .string ⟨#[]⟩, .slice none 0 0, .int .i8 0, .string ⟨#[]⟩, .int .i8 0, .int .i64 0, .string ⟨#[]⟩, .slice none 0 0]) (xas (cs := #[.int .i8 99, .string spare, .slice none 0 0, .int .i8 0, .int .i8 0, .string ⟨#[]⟩, .int .i8 0, .int .i64 0, .string ⟨#[]⟩, .slice none 0 0, .int .i8 0, .string ⟨#[]⟩, .int .i8 0, .int .i64 0, .string ⟨#[]⟩, .slice none 0 0]) (cs' := #[.int .i8 99, .string spare, .slice none 0 0, .int .i8 0, .int .i8 0, .string ⟨#[]⟩, .int .i8 0, .int .i64 0, .string ⟨#[]⟩, .slice none 0 0, .int .i8 0, .string ⟨#[]⟩, .int .i8 0, .int .i64 0, .string ⟨#[]⟩, .slice none 0 0]) (xas (cs := #[.int .i8 99, .string spare, .slice none 0 0, .int .i8 0, .int .i8 0, .string ⟨#[]⟩, .int .i8 0, .int .i64 0, .string ⟨#[]⟩, .slice none 0 0, .int .i8 0, .string ⟨#[]⟩, .int .i8 0, .int .i64 0, .string ⟨#[]⟩, .slice none 0 0]) (cs' := #[.int .i8 99, .string spare, .slice none 0 0, .int .i8 0, .int .i8 0, .string ⟨#[]⟩, .int .i8 0, .int .i64 0, .string ⟨#[]⟩, .slice none 0 0, .int .i8 0, .string ⟨#[]⟩, .int .i8 0, .int .i64 0, .string ⟨#[]⟩, .slice none 0 0]) (xas (cs := #[.int .i8 99, .string spare, .slice none 0 0, .int .i8 0, .int .i8 0, .string ⟨#[]⟩, .int .i8 0, .int .i64 0, .string ⟨#[]⟩, .slice none 0 0, .int .i8 0, .string ⟨#[]⟩, .int .i8 0, .int .i64 0, .string ⟨#[]⟩, .slice none 0 0]) (cs' := #[.int .i8 99, .string spare, .slice none 0 0, .int .i8 0, .int .i8 0, .string ⟨#[]⟩, .int .i8 0, .int .i64 0, .string ⟨#[]⟩, .slice none 0 0, .int .i8 0, .string ⟨#[]⟩, .int .i8 0, .int .i64 0, .string ⟨#[]⟩, .slice none 0 0]) (xas (cs := #[.int .i8 99, .string spare, .slice none 0 0, .int .i8 0, .int .i8 0, .string ⟨#[]⟩, .int .i8 0, .int .i64 0, .string ⟨#[]⟩, .slice none 0 0, .int .i8 0, .string ⟨#[]⟩, .int .i8 0, .int .i64 0, .string ⟨#[]⟩, .slice none 0 0]) (cs' := #[.int .i8 99, .string spare, .slice none 0 0, .int .i8 0, .int .i8 0, .string ⟨#[]⟩, .int .i8 0, .int .i64 0, .string ⟨#[]⟩, .slice none 0 0, .int .i8 0, .string ⟨#[]⟩, .int .i8 0, .int .i64 0, .string ⟨#[]⟩, .slice none 0 0]) (xas (cs := #[.int .i8 99, .string spare, .slice none 0 0, .int .i8 0, .int .i8 0, .string ⟨#[]⟩, .int .i8 0, .int .i64 0, .string ⟨#[]⟩, .slice none 0 0, .int .i8 0, .string ⟨#[]⟩, .int .i8 0, .int .i64 0, .string ⟨#[]⟩, .slice none 0 0]) (cs' := #[.int .i8 99, .string spare, .slice none 0 0, .int .i8 0, .int .i8 0, .string ⟨#[]⟩, .int .i8 0, .int .i64 0, .string ⟨#[]⟩, .slice none 0 0, .int .i8 0, .string ⟨#[]⟩, .int .i8 0, .int .i64 0, .string ⟨#[]⟩, .slice none 0 0]) (xas (cs := #[.int .i8 99, .string spare, .slice none 0 0, .int .i8 0, .int .i8 0, .string ⟨#[]⟩, .int .i8 0, .int .i64 0, .string ⟨#[]⟩, .slice none 0 0, .int .i8 0, .string ⟨#[]⟩, .int .i8 0, .int .i64 0, .string ⟨#[]⟩, .slice none 0 0]) (cs' := #[.int .i8 99, .string spare, .slice none 0 0, .int .i8 0, .int .i8 0, .string ⟨#[]⟩, .int .i8 0, .int .i64 0, .string ⟨#[]⟩, .slice none 0 0, .int .i8 0, .string ⟨#[]⟩, .int .i8 0, .int .i64 0, .string ⟨#[]⟩, .slice none 0 0]) (xas (cs := #[.int .i8 99, .string spare, .slice none 0 0, .int .i8 0, .int .i8 0, .string ⟨#[]⟩, .int .i8 0, .int .i64 0, .string ⟨#[]⟩, .slice none 0 0, .int .i8 0, .string ⟨#[]⟩, .int .i8 0, .int .i64 0, .string ⟨#[]⟩, .slice none 0 0]) (cs' := #[.int .i8 99, .string spare, .slice none 0 0, .int .i8 0, .int .i8 0, .string ⟨#[]⟩, .int .i8 0, .int .i64 0, .string ⟨#[]⟩, .slice none 0 0, .int .i8 0, .string ⟨#[]⟩, .int .i8 0, .int .i64 0, .string ⟨#[]⟩, .slice none 0 0]) (xas (cs := #[.int .i8 99, .string spare, .slice none 0 0, .int .i8 0, .int .i8 0, .string ⟨#[]⟩, .int .i8 0, .int .i64 0, .string ⟨#[]⟩, .slice none 0 0, .int .i8 0, .string ⟨#[]⟩, .int .i8 0, .int .i64 0, .string ⟨#[]⟩, .slice none 0 0]) (cs' := #[.int .i8 99, .string spare, .slice none 0 0, .int .i8 0, .int .i8 0, .string ⟨#[]⟩, .int .i8 0, .int .i64 0, .string ⟨#[]⟩, .slice none 0 0, .int .i8 0, .string ⟨#[]⟩, .int .i8 0, .int .i64 0, .string ⟨#[]⟩, .slice none 0 0]) (xas (cs := #[.int .i8 99, .string spare, .slice none 0 0, .int .i8 0, .int .i8 0, .string ⟨#[]⟩, .int .i8 0, .int .i64 0, .string ⟨#[]⟩, .slice none 0 0, .int .i8 0, .string ⟨#[]⟩, .int .i8 0, .int .i64 0, .string ⟨#[]⟩, .slice none 0 0]) (cs' := #[.int .i8 99, .string spare, .slice none 0 0, .int .i8 0, .int .i8 0, .string ⟨#[]⟩, .int .i8 0, .int .i64 0, .string ⟨#[]⟩, .slice none 0 0, .int .i8 0, .string ⟨#[]⟩, .int .i8 0, .int .i64 0, .string ⟨#[]⟩, .slice none 0 0]) (xas (cs := #[.int .i8 99, .string spare, .slice none 0 0, .int .i8 0, .int .i8 0, .string ⟨#[]⟩, .int .i8 0, .int .i64 0, .string ⟨#[]⟩, .slice none 0 0, .int .i8 0, .string ⟨#[]⟩, .int .i8 0, .int .i64 0, .string ⟨#[]⟩, .slice none 0 0]) (cs' := #[.int .i8 99, .string spare, .slice none 0 0, .int .i8 0, .int .i8 0, .string ⟨#[]⟩, .int .i8 0, .int .i64 0, .string ⟨#[]⟩, .slice none 0 0, .int .i8 0, .string ⟨#[]⟩, .int .i8 0, .int .i64 0, .string ⟨#[]⟩, .slice none 0 0]) (xas (cs := #[.int .i8 99, .string ⟨#[]⟩, .slice none 0 0, .int .i8 0, .int .i8 0, .string ⟨#[]⟩, .int .i8 0, .int .i64 0, .string ⟨#[]⟩, .slice none 0 0, .int .i8 0, .string ⟨#[]⟩, .int .i8 0, .int .i64 0, .string ⟨#[]⟩, .slice none 0 0]) (cs' := #[.int .i8 99, .string spare, .slice none 0 0, .int .i8 0, .int .i8 0, .string ⟨#[]⟩, .int .i8 0, .int .i64 0, .string ⟨#[]⟩, .slice none 0 0, .int .i8 0, .string ⟨#[]⟩, .int .i8 0, .int .i64 0, .string ⟨#[]⟩, .slice none 0 0]) (xas (cs := #[.int .i8 0, .string ⟨#[]⟩, .slice none 0 0, .int .i8 0, .int .i8 0, .string ⟨#[]⟩, .int .i8 0, .int .i64 0, .string ⟨#[]⟩, .slice none 0 0, .int .i8 0, .string ⟨#[]⟩, .int .i8 0, .int .i64 0, .string ⟨#[]⟩, .slice none 0 0]) (cs' := #[.int .i8 99, .string ⟨#[]⟩, .slice none 0 0, .int .i8 0, .int .i8 0, .string ⟨#[]⟩, .int .i8 0, .int .i64 0, .string ⟨#[]⟩, .slice none 0 0, .int .i8 0, .string ⟨#[]⟩, .int .i8 0, .int .i64 0, .string ⟨#[]⟩, .slice none 0 0]) (HK.out) 0 _ rfl) 1 _ rfl) 2 _ rfl) 3 _ rfl) 4 _ rfl) 5 _ rfl) 6 _ rfl) 7 _ rfl) 8 _ rfl) 9 _ rfl) 10 _ rfl) 11 _ rfl) 12 _ rfl) 13 _ rfl) 14 _ rfl) 15 _ rfl) Tryd.underlying56 rfl (by kernel_rfl)) rfl ?_
 exact ⟨rfl, xad (xad (xad (xad (xad (xad (xad (xad (xad (xad (xad (xad (xad (xad (xad (xad (HB.out) (Nat.le_refl _)) (Nat.le_refl _)) (Nat.le_refl _)) (Nat.le_refl _)) (Nat.le_refl _)) (Nat.le_refl _)) (Nat.le_refl _)) (Nat.le_refl _)) (Nat.le_refl _)) (Nat.le_refl _)) (Nat.le_refl _)) (Nat.le_refl _)) (Nat.le_refl _)) (Nat.le_refl _)) (Nat.le_refl _)) (Nat.le_refl _)⟩
structure TwLiteralsI (w wr : World) (g cap : Nat) (l : List S56) (k : Nat) : Prop where
 row : (orC k56t).R 56 wr w.heap.size (fun _ => True) (.slice (some ⟨g, 0, none⟩) (l.length + 1) cap) (begun l k [.int .i8 0, .string ⟨#[]⟩, .slice none 0 0, .int .i8 0, .int .i8 0, .string ⟨#[]⟩, .int .i8 0, .int .i64 0, .string ⟨#[]⟩, .slice none 0 0, .int .i8 0, .string ⟨#[]⟩, .int .i8 0, .int .i64 0, .string ⟨#[]⟩, .slice none 0 0])
 below : Below w.heap.size w wr
 base : w.heap.size ≤ g
 lt : g < wr.heap.size
abbrev TwLiteralsC (l : List S56) : Prop := ∀ (A : Option Addr) (c : Nat) (w : World), Kd.C k56 w A l.length l → l.length ≤ c → TabB w →
  Calls Tryd.prog 72 #[.slice A l.length c] w fun e w' => ∃ A' c', e = .returned (.slice A' l.length c') ∧ (orC k56t).R 56 w' w.heap.size (fun _ => True) (.slice A' (l.length + 1) c') (marked l mk56) ∧ Below w.heap.size w w'
set_option maxHeartbeats 8000000 in
set_option maxRecDepth 100000 in
theorem TwLiterals_step (l : List S56) (hl : l.length < 2000000) (hE : Hid (∀ k, k < l.length → TwLiteralC (l.getD k z56))) : TwLiteralsC l := by
 intro A c w hr hc hT
 have hm : l.length ≤ 9223372036854775807 := by omega
 have HR := Lib.hid hr
 have HT := Lib.hid hT
 clear hr hT
 go_enter Tryd.func72, Tryd.ntmps72
 go_wp2_with ((with_reducible refine xar (N := 8) rfl ?_); (refine Kd.R_make (orC k56t) w.heap.size 56 rfl (N := 8) rfl 58 _ _ rfl (l.length + 1 : Int) rfl rfl Tryd.underlying58 (.agg #[(.int .i8 0), (.string ⟨#[]⟩), (.slice none 0 0), (.int .i8 0), (.int .i8 0), (.string ⟨#[]⟩), (.int .i8 0), (.int .i64 0), (.string ⟨#[]⟩), (.slice none 0 0), (.int .i8 0), (.string ⟨#[]⟩), (.int .i8 0), (.int .i64 0), (.string ⟨#[]⟩), (.slice none 0 0)]) 216 info56 rfl (by decide) (by omega) (.inr [.int .i8 0, .string ⟨#[]⟩, .slice none 0 0, .int .i8 0, .int .i8 0, .string ⟨#[]⟩, .int .i8 0, .int .i64 0, .string ⟨#[]⟩, .slice none 0 0, .int .i8 0, .string ⟨#[]⟩, .int .i8 0, .int .i64 0, .string ⟨#[]⟩, .slice none 0 0]) (ok := fun _ => True) (okp := fun _ => True) ⟨rfl, rfl, by decide⟩ (fun _ hk => hk) trivial (by omega) (by omega) (Below.refl _ _) (Nat.le_refl _) ?_); intro v1 w1 hR1 hB1 _ _; rw [show (l.length + 1 : Int).toNat = l.length + 1 by omega, ← xbm] at hR1; obtain ⟨g, cap, rfl, hg, hg2, _⟩ := Kd.R_form hR1 (by rw [xbm]; simp); rw [xbh _ _ _ (Nat.zero_le _)] at hR1 ⊢; have HI := Lib.hid (show TwLiteralsI w w1 g cap l 0 from ⟨hR1, hB1, hg, hg2⟩); clear hR1 hB1 hg hg2)
 go_loopw [4] (fun v wr => ∃ k : Nat, k ≤ l.length ∧ v = .int .i64 k ∧ Hid (TwLiteralsI w wr g cap l k)) (fun v _ => l.length - (intOf v).toNat)
 case atStart => exact ⟨0, Nat.zero_le _, rfl, HI⟩
 case round =>
  clear HI
  obtain ⟨k, hk, rfl, HI⟩ := hrel
  by_cases hlt : k < l.length
  ·obtain ⟨ad, A0, c0, A1, c1, A2, c2, e0, g0, g1, g2, g3, g4, g5, g6, g7, g8, g9, g10, g11, g12, g13, g14, g15, hl0, hC0, hl1, hC1, hl2, hC2⟩ := at_T56 HR.out (k : Int) (by omega) (by omega)
   subst e0
   simp only [Int.toNat_natCast] at g0 g1 g2 g3 g4 g5 g6 g7 g8 g9 g10 g11 g12 g13 g14 g15
   replace g0 := (HI.out.below.cell (World.block_lt_of_cell? w _ g0)).trans g0
   replace g1 := (HI.out.below.cell (World.block_lt_of_cell? w _ g1)).trans g1
   replace g2 := (HI.out.below.cell (World.block_lt_of_cell? w _ g2)).trans g2
   replace g3 := (HI.out.below.cell (World.block_lt_of_cell? w _ g3)).trans g3
   replace g4 := (HI.out.below.cell (World.block_lt_of_cell? w _ g4)).trans g4
   replace g5 := (HI.out.below.cell (World.block_lt_of_cell? w _ g5)).trans g5
   replace g6 := (HI.out.below.cell (World.block_lt_of_cell? w _ g6)).trans g6
   replace g7 := (HI.out.below.cell (World.block_lt_of_cell? w _ g7)).trans g7
   replace g8 := (HI.out.below.cell (World.block_lt_of_cell? w _ g8)).trans g8
   replace g9 := (HI.out.below.cell (World.block_lt_of_cell? w _ g9)).trans g9
   replace g10 := (HI.out.below.cell (World.block_lt_of_cell? w _ g10)).trans g10
   replace g11 := (HI.out.below.cell (World.block_lt_of_cell? w _ g11)).trans g11
   replace g12 := (HI.out.below.cell (World.block_lt_of_cell? w _ g12)).trans g12
   replace g13 := (HI.out.below.cell (World.block_lt_of_cell? w _ g13)).trans g13
   replace g14 := (HI.out.below.cell (World.block_lt_of_cell? w _ g14)).trans g14
   replace g15 := (HI.out.below.cell (World.block_lt_of_cell? w _ g15)).trans g15
   have HY := Lib.hid (show rd_T56 l (k : Int) = l.getD k z56 from rfl)
   have HE := Lib.hid (hE.out k hlt)
   rw [← HY.out] at HE
   have HC0 := Lib.hid hC0
   have HL0 := Lib.hid hl0
   have HC1 := Lib.hid hC1
   have HL1 := Lib.hid hl1
   have HC2 := Lib.hid hC2
   have HL2 := Lib.hid hl2
   clear hl0 hC0 hl1 hC1 hl2 hC2
   generalize rd_T56 l (k : Int) = y at *
   go_wp2_with fail
   refine (HE.out A0 c0 A1 c1 A2 c2 wr (Kd.C_below HC0.out HI.out.below) HL0.out (Kd.C_below HC1.out HI.out.below) HL1.out (Kd.C_below HC2.out HI.out.below) HL2.out (HT.out.below HI.out.below)).mono ?_
   rintro e w2 ⟨cs, rfl, hM, hb⟩
   have HI1 : Hid (TwLiteralsI w w2 g cap l k) := Lib.hid ⟨Kd.R_below HI.out.row hb, xah HI.out.below hb, HI.out.base, Nat.lt_of_lt_of_le HI.out.lt hb.size⟩
   have hM2 := k56t.M_lower HI.out.below.size (k56t.M_bound hM)
   obtain ⟨B0, d0, B1, d1, B2, d2, rfl, _⟩ := k56t_openM hM
   obtain ⟨_, hz, hf⟩ := xbe HI1.out.row hk
   have z0 : w2.cell? ⟨g, k * 16, none⟩ = some (.int .i8 0) := hz 0 _ rfl
   have f0 : w2.frozen? ⟨g, k * 16, none⟩ = false := hf 0
   have z1 : w2.cell? ⟨g, k * 16 + 1, none⟩ = some (.string ⟨#[]⟩) := hz 1 _ rfl
   have f1 : w2.frozen? ⟨g, k * 16 + 1, none⟩ = false := hf 1
   have z2 : w2.cell? ⟨g, k * 16 + 2, none⟩ = some (.slice none 0 0) := hz 2 _ rfl
   have f2 : w2.frozen? ⟨g, k * 16 + 2, none⟩ = false := hf 2
   have z3 : w2.cell? ⟨g, k * 16 + 3, none⟩ = some (.int .i8 0) := hz 3 _ rfl
   have f3 : w2.frozen? ⟨g, k * 16 + 3, none⟩ = false := hf 3
   have z4 : w2.cell? ⟨g, k * 16 + 4, none⟩ = some (.int .i8 0) := hz 4 _ rfl
   have f4 : w2.frozen? ⟨g, k * 16 + 4, none⟩ = false := hf 4
   have z5 : w2.cell? ⟨g, k * 16 + 5, none⟩ = some (.string ⟨#[]⟩) := hz 5 _ rfl
   have f5 : w2.frozen? ⟨g, k * 16 + 5, none⟩ = false := hf 5
   have z6 : w2.cell? ⟨g, k * 16 + 6, none⟩ = some (.int .i8 0) := hz 6 _ rfl
   have f6 : w2.frozen? ⟨g, k * 16 + 6, none⟩ = false := hf 6
   have z7 : w2.cell? ⟨g, k * 16 + 7, none⟩ = some (.int .i64 0) := hz 7 _ rfl
   have f7 : w2.frozen? ⟨g, k * 16 + 7, none⟩ = false := hf 7
   have z8 : w2.cell? ⟨g, k * 16 + 8, none⟩ = some (.string ⟨#[]⟩) := hz 8 _ rfl
   have f8 : w2.frozen? ⟨g, k * 16 + 8, none⟩ = false := hf 8
   have z9 : w2.cell? ⟨g, k * 16 + 9, none⟩ = some (.slice none 0 0) := hz 9 _ rfl
   have f9 : w2.frozen? ⟨g, k * 16 + 9, none⟩ = false := hf 9
   have z10 : w2.cell? ⟨g, k * 16 + 10, none⟩ = some (.int .i8 0) := hz 10 _ rfl
   have f10 : w2.frozen? ⟨g, k * 16 + 10, none⟩ = false := hf 10
   have z11 : w2.cell? ⟨g, k * 16 + 11, none⟩ = some (.string ⟨#[]⟩) := hz 11 _ rfl
   have f11 : w2.frozen? ⟨g, k * 16 + 11, none⟩ = false := hf 11
   have z12 : w2.cell? ⟨g, k * 16 + 12, none⟩ = some (.int .i8 0) := hz 12 _ rfl
   have f12 : w2.frozen? ⟨g, k * 16 + 12, none⟩ = false := hf 12
   have z13 : w2.cell? ⟨g, k * 16 + 13, none⟩ = some (.int .i64 0) := hz 13 _ rfl
   have f13 : w2.frozen? ⟨g, k * 16 + 13, none⟩ = false := hf 13
   have z14 : w2.cell? ⟨g, k * 16 + 14, none⟩ = some (.string ⟨#[]⟩) := hz 14 _ rfl
   have f14 : w2.frozen? ⟨g, k * 16 + 14, none⟩ = false := hf 14
   have z15 : w2.cell? ⟨g, k * 16 + 15, none⟩ = some (.slice none 0 0) := hz 15 _ rfl
   have f15 : w2.frozen? ⟨g, k * 16 + 15, none⟩ = false := hf 15
   clear hz hf
   have HP := Lib.hid (begun_put HI1.out.row hlt z56 (by rw [← HY.out]; exact hM2) (fun k' h => ⟨trivial, by have := h.2.1; have := HI.out.lt; omega⟩))
   clear hM hM2 hb HI g0 g1 g2 g3 g4 g5 g6 g7 g8 g9 g10 g11 g12 g13 g14 g15 HE
   go_wp2_with ((with_reducible refine xay (t := 56) (p := 22) rfl ?_); (refine xba (t := 56) (p := 22) (v := ?vo1) (w1 := w2.setCells g (k * 16) [.int .i8 y.f0, .string y.f1.f0, .slice B0 y.f1.f1.length d0, .int .i8 y.f2, .int .i8 y.f3.f0, .string y.f3.f1.f0, .int .i8 y.f3.f1.f1.f0, .int .i64 y.f3.f1.f1.f1, .string y.f3.f1.f1.f2, .slice B1 y.f3.f2.length d1, .int .i8 y.f4.f0, .string y.f4.f1.f0, .int .i8 y.f4.f1.f1.f0, .int .i64 y.f4.f1.f1.f1, .string y.f4.f1.f1.f2, .slice B2 y.f4.f2.length d2]) ?hg1 ?ho1 ?hn1 ?hr1 ?_; (case ho1 => rfl); (case hg1 => rfl); (case hn1 => rfl); (case hr1 => first | (go_simp; done) | (go_simp; rfl))); intro w3 hw; have HI2 : Hid (TwLiteralsI w w3 g cap l (k + 1)) := Lib.hid ⟨by rw [hw]; exact HP.out.1, by rw [hw]; exact xad (xad (xad (xad (xad (xad (xad (xad (xad (xad (xad (xad (xad (xad (xad (xad (HI1.out.below) (HI1.out.base)) (HI1.out.base)) (HI1.out.base)) (HI1.out.base)) (HI1.out.base)) (HI1.out.base)) (HI1.out.base)) (HI1.out.base)) (HI1.out.base)) (HI1.out.base)) (HI1.out.base)) (HI1.out.base)) (HI1.out.base)) (HI1.out.base)) (HI1.out.base)) (HI1.out.base), HI1.out.base, by rw [hw]; exact Kd.R_lt HP.out.1 g rfl⟩; clear hw)
   go_roundw
   case rel => exact ⟨k + 1, by omega, by go_num, HI2⟩
   case measure => simp [intOf]; omega
  ·have hk' : k = l.length := by omega
   subst hk'
   go_wp2_with fail
   refine (markLiteral_mark wr (HT.out.below HI.out.below)).mono ?_
   rintro e w2 ⟨rfl, hb⟩
   have HI2 : Hid (TwLiteralsI w w2 g cap l l.length) := Lib.hid ⟨Kd.R_below HI.out.row hb, xah HI.out.below hb, HI.out.base, Nat.lt_of_lt_of_le HI.out.lt hb.size⟩
   clear HI hb
   have HP := Lib.hid (begun_end HI2.out.row (seg := mk56) ⟨rfl, by decide⟩)
   obtain ⟨_, hz, hf⟩ := xbe HI2.out.row (Nat.le_refl _)
   have z0 : w2.cell? ⟨g, l.length * 16, none⟩ = some (.int .i8 0) := hz 0 _ rfl
   have f0 : w2.frozen? ⟨g, l.length * 16, none⟩ = false := hf 0
   have z1 : w2.cell? ⟨g, l.length * 16 + 1, none⟩ = some (.string ⟨#[]⟩) := hz 1 _ rfl
   have f1 : w2.frozen? ⟨g, l.length * 16 + 1, none⟩ = false := hf 1
   have z2 : w2.cell? ⟨g, l.length * 16 + 2, none⟩ = some (.slice none 0 0) := hz 2 _ rfl
   have f2 : w2.frozen? ⟨g, l.length * 16 + 2, none⟩ = false := hf 2
   have z3 : w2.cell? ⟨g, l.length * 16 + 3, none⟩ = some (.int .i8 0) := hz 3 _ rfl
   have f3 : w2.frozen? ⟨g, l.length * 16 + 3, none⟩ = false := hf 3
   have z4 : w2.cell? ⟨g, l.length * 16 + 4, none⟩ = some (.int .i8 0) := hz 4 _ rfl
   have f4 : w2.frozen? ⟨g, l.length * 16 + 4, none⟩ = false := hf 4
   have z5 : w2.cell? ⟨g, l.length * 16 + 5, none⟩ = some (.string ⟨#[]⟩) := hz 5 _ rfl
   have f5 : w2.frozen? ⟨g, l.length * 16 + 5, none⟩ = false := hf 5
   have z6 : w2.cell? ⟨g, l.length * 16 + 6, none⟩ = some (.int .i8 0) := hz 6 _ rfl
   have f6 : w2.frozen? ⟨g, l.length * 16 + 6, none⟩ = false := hf 6
   have z7 : w2.cell? ⟨g, l.length * 16 + 7, none⟩ = some (.int .i64 0) := hz 7 _ rfl
   have f7 : w2.frozen? ⟨g, l.length * 16 + 7, none⟩ = false := hf 7
   have z8 : w2.cell? ⟨g, l.length * 16 + 8, none⟩ = some (.string ⟨#[]⟩) := hz 8 _ rfl
   have f8 : w2.frozen? ⟨g, l.length * 16 + 8, none⟩ = false := hf 8
   have z9 : w2.cell? ⟨g, l.length * 16 + 9, none⟩ = some (.slice none 0 0) := hz 9 _ rfl
   have f9 : w2.frozen? ⟨g, l.length * 16 + 9, none⟩ = false := hf 9
   have z10 : w2.cell? ⟨g, l.length * 16 + 10, none⟩ = some (.int .i8 0) := hz 10 _ rfl
   have f10 : w2.frozen? ⟨g, l.length * 16 + 10, none⟩ = false := hf 10
   have z11 : w2.cell? ⟨g, l.length * 16 + 11, none⟩ = some (.string ⟨#[]⟩) := hz 11 _ rfl
   have f11 : w2.frozen? ⟨g, l.length * 16 + 11, none⟩ = false := hf 11
   have z12 : w2.cell? ⟨g, l.length * 16 + 12, none⟩ = some (.int .i8 0) := hz 12 _ rfl
   have f12 : w2.frozen? ⟨g, l.length * 16 + 12, none⟩ = false := hf 12
   have z13 : w2.cell? ⟨g, l.length * 16 + 13, none⟩ = some (.int .i64 0) := hz 13 _ rfl
   have f13 : w2.frozen? ⟨g, l.length * 16 + 13, none⟩ = false := hf 13
   have z14 : w2.cell? ⟨g, l.length * 16 + 14, none⟩ = some (.string ⟨#[]⟩) := hz 14 _ rfl
   have f14 : w2.frozen? ⟨g, l.length * 16 + 14, none⟩ = false := hf 14
   have z15 : w2.cell? ⟨g, l.length * 16 + 15, none⟩ = some (.slice none 0 0) := hz 15 _ rfl
   have f15 : w2.frozen? ⟨g, l.length * 16 + 15, none⟩ = false := hf 15
   clear hz hf
   obtain ⟨i0, hi0, _, hsz, _⟩ := info_parts info56
   have hcut := cut_to (P := Tryd.prog) 58 56 .i64 Tryd.underlying58 hi0 (some ⟨g, 0, none⟩) (l.length + 1) cap (l.length : Int) (by omega) (by omega) (by have := (Kd.R_reads' HI2.out.row).2.1; exact this)
   rw [show (l.length : Int).toNat = l.length by omega] at hcut
   clear hi0 hsz
   go_wp2_with ((with_reducible refine xay (t := 56) (p := 27) rfl ?_); (refine xba (t := 56) (p := 27) (v := ?vo2) (w1 := w2.setCells g (l.length * 16) [.int .i8 99, .string spare, .slice none 0 0, .int .i8 0, .int .i8 0, .string ⟨#[]⟩, .int .i8 0, .int .i64 0, .string ⟨#[]⟩, .slice none 0 0, .int .i8 0, .string ⟨#[]⟩, .int .i8 0, .int .i64 0, .string ⟨#[]⟩, .slice none 0 0]) ?hg2 ?ho2 ?hn2 ?hr2 ?_; (case ho2 => rfl); (case hg2 => rfl); (case hn2 => rfl); (case hr2 => first | (go_simp; done) | (go_simp; rfl))); intro w3 hw; have HR3 : Hid (((orC k56t).R 56 w3 w.heap.size (fun _ => True) (.slice (some ⟨g, 0, none⟩) (l.length + 1) cap) (marked l mk56)) ∧ Below w.heap.size w w3) := Lib.hid ⟨by rw [hw]; exact HP.out.1, by rw [hw]; exact xad (xad (xad (xad (xad (xad (xad (xad (xad (xad (xad (xad (xad (xad (xad (xad (HI2.out.below) (HI2.out.base)) (HI2.out.base)) (HI2.out.base)) (HI2.out.base)) (HI2.out.base)) (HI2.out.base)) (HI2.out.base)) (HI2.out.base)) (HI2.out.base)) (HI2.out.base)) (HI2.out.base)) (HI2.out.base)) (HI2.out.base)) (HI2.out.base)) (HI2.out.base)) (HI2.out.base)⟩; clear hw)
   go_ret
   exact ⟨_, _, rfl, HR3.out.1, HR3.out.2⟩
def mk125 : List Value := [.int .i8 0, .string spare, .int .i8 0, .int .i64 0, .string ⟨#[]⟩]
set_option maxHeartbeats 4000000 in
set_option maxRecDepth 100000 in
theorem markArg_mark (w : World) (hT : TabB w) : Calls Tryd.prog 111 #[.int .i64 777777] w fun e w' => e = .returned (.agg #[.int .i8 0, .string spare, .int .i8 0, .int .i64 0, .string ⟨#[]⟩]) ∧ Below w.heap.size w w' := by
 have HT := Lib.hid hT
 clear hT
 go_enter Tryd.func111, Tryd.ntmps111
 go_wp2_with fail
 refine (w1_word.calls 777777 spare _ (HT.out.below (xab (Below.refl _ _) _)) xbn).mono ?_
 rintro e w2 ⟨rfl, hb⟩
 have hk := xam (xaz w _) hb
 have HB := Lib.hid (xah (xab (Below.refl _ _) _) hb)
 clear hb
 have z0 : w2.cell? ⟨w.heap.size, 0, none⟩ = some (.int .i8 0) := (xae hk 0).trans rfl
 have f0 := xal hk 0
 have z1 : w2.cell? ⟨w.heap.size, 1, none⟩ = some (.string ⟨#[]⟩) := (xae hk 1).trans rfl
 have f1 := xal hk 1
 have z2 : w2.cell? ⟨w.heap.size, 2, none⟩ = some (.int .i8 0) := (xae hk 2).trans rfl
 have f2 := xal hk 2
 have z3 : w2.cell? ⟨w.heap.size, 3, none⟩ = some (.int .i64 0) := (xae hk 3).trans rfl
 have f3 := xal hk 3
 have z4 : w2.cell? ⟨w.heap.size, 4, none⟩ = some (.string ⟨#[]⟩) := (xae hk 4).trans rfl
 have f4 := xal hk 4
 have HK := Lib.hid hk
 clear hk
 go_wp2_with fail
 refine bodyPost_ret (results_cell_row rfl _ _ w.heap.size 125 #[.int .i8 0, .string spare, .int .i8 0, .int .i64 0, .string ⟨#[]⟩] (0, 0) _ rfl (xas (cs := #[.int .i8 0, .string spare, .int .i8 0, .int .i64 0, .string ⟨#[]⟩]) (cs' := #[.int .i8 0, .string spare, .int .i8 0, .int .i64 0, .string ⟨#[]⟩]) (xas (cs := #[.int .i8 0, .string spare, .int .i8 0, .int .i64 0, .string ⟨#[]⟩]) (cs' := #[.int .i8 0, .string spare, .int .i8 0, .int .i64 0, .string ⟨#[]⟩]) (xas (cs := #[.int .i8 0, .string spare, .int .i8 0, .int .i64 0, .string ⟨#[]⟩]) (cs' := #[.int .i8 0, .string spare, .int .i8 0, .int .i64 0, .string ⟨#[]⟩]) (xas (cs := #[.int .i8 0, .string ⟨#[]⟩, .int .i8 0, .int .i64 0, .string ⟨#[]⟩]) (cs' := #[.int .i8 0, .string spare, .int .i8 0, .int .i64 0, .string ⟨#[]⟩]) (xas (cs := #[.int .i8 0, .string ⟨#[]⟩, .int .i8 0, .int .i64 0, .string ⟨#[]⟩]) (cs' := #[.int .i8 0, .string ⟨#[]⟩, .int .i8 0, .int .i64 0, .string ⟨#[]⟩]) (HK.out) 0 _ rfl) 1 _ rfl) 2 _ rfl) 3 _ rfl) 4 _ rfl) Tryd.underlying125 rfl (by kernel_rfl)) rfl ?_
 exact ⟨rfl, xad (xad (xad (xad (xad (HB.out) (Nat.le_refl _)) (Nat.le_refl _)) (Nat.le_refl _)) (Nat.le_refl _)) (Nat.le_refl _)⟩
structure TwArgsI (w wr : World) (g cap : Nat) (l : List S125) (k : Nat) : Prop where
 row : (orC k125).R 125 wr w.heap.size (fun _ => True) (.slice (some ⟨g, 0, none⟩) (l.length + 1) cap) (begun l k [.int .i8 0, .string ⟨#[]⟩, .int .i8 0, .int .i64 0, .string ⟨#[]⟩])
 below : Below w.heap.size w wr
 base : w.heap.size ≤ g
 lt : g < wr.heap.size
set_option maxHeartbeats 8000000 in
set_option maxRecDepth 100000 in
theorem w1_TwinArgs.twin (A : Option Addr) (c : Nat) (l : List S125) (w : World) (hr : Kd.C k125 w A l.length l) (hc : l.length ≤ c) (hl : l.length < 2000000) (hT : TabB w) :
  Calls Tryd.prog 71 #[.slice A l.length c] w fun e w' => ∃ A' c', e = .returned (.slice A' l.length c') ∧ (orC k125).R 125 w' w.heap.size (fun _ => True) (.slice A' (l.length + 1) c') (marked l mk125) ∧ Below w.heap.size w w' := by
 have hm : l.length ≤ 9223372036854775807 := by omega
 have HR := Lib.hid hr
 have HT := Lib.hid hT
 clear hr hT
 go_enter Tryd.func71, Tryd.ntmps71
 go_wp2_with ((with_reducible refine xar (N := 8) rfl ?_); (refine Kd.R_make (orC k125) w.heap.size 125 rfl (N := 8) rfl 65 _ _ rfl (l.length + 1 : Int) rfl rfl Tryd.underlying65 (.agg #[(.int .i8 0), (.string ⟨#[]⟩), (.int .i8 0), (.int .i64 0), (.string ⟨#[]⟩)]) 56 info125 rfl (by decide) (by omega) (.inr [.int .i8 0, .string ⟨#[]⟩, .int .i8 0, .int .i64 0, .string ⟨#[]⟩]) (ok := fun _ => True) (okp := fun _ => True) ⟨rfl, rfl, by decide⟩ (fun _ hk => hk) trivial (by omega) (by omega) (Below.refl _ _) (Nat.le_refl _) ?_); intro v1 w1 hR1 hB1 _ _; rw [show (l.length + 1 : Int).toNat = l.length + 1 by omega, ← xbm] at hR1; obtain ⟨g, cap, rfl, hg, hg2, _⟩ := Kd.R_form hR1 (by rw [xbm]; simp); rw [xbh _ _ _ (Nat.zero_le _)] at hR1 ⊢; have HI := Lib.hid (show TwArgsI w w1 g cap l 0 from ⟨hR1, hB1, hg, hg2⟩); clear hR1 hB1 hg hg2)
 go_loopw [4] (fun v wr => ∃ k : Nat, k ≤ l.length ∧ v = .int .i64 k ∧ Hid (TwArgsI w wr g cap l k)) (fun v _ => l.length - (intOf v).toNat)
 case atStart => exact ⟨0, Nat.zero_le _, rfl, HI⟩
 case round =>
  clear HI
  obtain ⟨k, hk, rfl, HI⟩ := hrel
  by_cases hlt : k < l.length
  ·obtain ⟨ad, e0, g0, g1, g2, g3, g4⟩ := xbp HR.out (k : Int) (by omega) (by omega)
   subst e0
   simp only [Int.toNat_natCast] at g0 g1 g2 g3 g4
   replace g0 := (HI.out.below.cell (World.block_lt_of_cell? w _ g0)).trans g0
   replace g1 := (HI.out.below.cell (World.block_lt_of_cell? w _ g1)).trans g1
   replace g2 := (HI.out.below.cell (World.block_lt_of_cell? w _ g2)).trans g2
   replace g3 := (HI.out.below.cell (World.block_lt_of_cell? w _ g3)).trans g3
   replace g4 := (HI.out.below.cell (World.block_lt_of_cell? w _ g4)).trans g4
   have HY := Lib.hid (show xaq l (k : Int) = l.getD k z125 from rfl)
   generalize xaq l (k : Int) = y at *
   obtain ⟨_, hz, hf⟩ := xbe HI.out.row hk
   have z0 : wr.cell? ⟨g, k * 5, none⟩ = some (.int .i8 0) := hz 0 _ rfl
   have f0 : wr.frozen? ⟨g, k * 5, none⟩ = false := hf 0
   have z1 : wr.cell? ⟨g, k * 5 + 1, none⟩ = some (.string ⟨#[]⟩) := hz 1 _ rfl
   have f1 : wr.frozen? ⟨g, k * 5 + 1, none⟩ = false := hf 1
   have z2 : wr.cell? ⟨g, k * 5 + 2, none⟩ = some (.int .i8 0) := hz 2 _ rfl
   have f2 : wr.frozen? ⟨g, k * 5 + 2, none⟩ = false := hf 2
   have z3 : wr.cell? ⟨g, k * 5 + 3, none⟩ = some (.int .i64 0) := hz 3 _ rfl
   have f3 : wr.frozen? ⟨g, k * 5 + 3, none⟩ = false := hf 3
   have z4 : wr.cell? ⟨g, k * 5 + 4, none⟩ = some (.string ⟨#[]⟩) := hz 4 _ rfl
   have f4 : wr.frozen? ⟨g, k * 5 + 4, none⟩ = false := hf 4
   clear hz hf
   have HP := Lib.hid (begun_put HI.out.row hlt z125 (seg := [.int .i8 y.f0, .string y.f1.f0, .int .i8 y.f1.f1.f0, .int .i64 y.f1.f1.f1, .string y.f1.f1.f2]) (okp := fun _ => False) (by rw [← HY.out]; exact k125_mkM _ _ _ y) (fun _ h => h.elim))
   go_wp2_with ((with_reducible refine xay (t := 125) (p := 21) rfl ?_); (refine xba (t := 125) (p := 21) (v := ?vo1) (w1 := wr.setCells g (k * 5) [.int .i8 y.f0, .string y.f1.f0, .int .i8 y.f1.f1.f0, .int .i64 y.f1.f1.f1, .string y.f1.f1.f2]) ?hg1 ?ho1 ?hn1 ?hr1 ?_; (case ho1 => rfl); (case hg1 => rfl); (case hn1 => rfl); (case hr1 => first | (go_simp; done) | (go_simp; rfl))); intro w3 hw; have HI2 : Hid (TwArgsI w w3 g cap l (k + 1)) := Lib.hid ⟨by rw [hw]; exact HP.out.1, by rw [hw]; exact xad (xad (xad (xad (xad (HI.out.below) (HI.out.base)) (HI.out.base)) (HI.out.base)) (HI.out.base)) (HI.out.base), HI.out.base, by rw [hw]; exact Kd.R_lt HP.out.1 g rfl⟩; clear hw)
   go_roundw
   case rel => exact ⟨k + 1, by omega, by go_num, HI2⟩
   case measure => simp [intOf]; omega
  ·have hk' : k = l.length := by omega
   subst hk'
   go_wp2_with fail
   refine (markArg_mark wr (HT.out.below HI.out.below)).mono ?_
   rintro e w2 ⟨rfl, hb⟩
   have HI2 : Hid (TwArgsI w w2 g cap l l.length) := Lib.hid ⟨Kd.R_below HI.out.row hb, xah HI.out.below hb, HI.out.base, Nat.lt_of_lt_of_le HI.out.lt hb.size⟩
   clear HI hb
   have HP := Lib.hid (begun_end HI2.out.row (seg := mk125) ⟨rfl, by decide⟩)
   obtain ⟨_, hz, hf⟩ := xbe HI2.out.row (Nat.le_refl _)
   have z0 : w2.cell? ⟨g, l.length * 5, none⟩ = some (.int .i8 0) := hz 0 _ rfl
   have f0 : w2.frozen? ⟨g, l.length * 5, none⟩ = false := hf 0
   have z1 : w2.cell? ⟨g, l.length * 5 + 1, none⟩ = some (.string ⟨#[]⟩) := hz 1 _ rfl
   have f1 : w2.frozen? ⟨g, l.length * 5 + 1, none⟩ = false := hf 1
   have z2 : w2.cell? ⟨g, l.length * 5 + 2, none⟩ = some (.int .i8 0) := hz 2 _ rfl
   have f2 : w2.frozen? ⟨g, l.length * 5 + 2, none⟩ = false := hf 2
   have z3 : w2.cell? ⟨g, l.length * 5 + 3, none⟩ = some (.int .i64 0) := hz 3 _ rfl
   have f3 : w2.frozen? ⟨g, l.length * 5 + 3, none⟩ = false := hf 3
   have z4 : w2.cell? ⟨g, l.length * 5 + 4, none⟩ = some (.string ⟨#[]⟩) := hz 4 _ rfl
   have f4 : w2.frozen? ⟨g, l.length * 5 + 4, none⟩ = false := hf 4
   clear hz hf
   obtain ⟨i0, hi0, _, hsz, _⟩ := info_parts info125
   have hcut := cut_to (P := Tryd.prog) 65 125 .i64 Tryd.underlying65 hi0 (some ⟨g, 0, none⟩) (l.length + 1) cap (l.length : Int) (by omega) (by omega) (by have := (Kd.R_reads' HI2.out.row).2.1; exact this)
   rw [show (l.length : Int).toNat = l.length by omega] at hcut
   clear hi0 hsz
   go_wp2_with ((with_reducible refine xay (t := 125) (p := 26) rfl ?_); (refine xba (t := 125) (p := 26) (v := ?vo2) (w1 := w2.setCells g (l.length * 5) [.int .i8 0, .string spare, .int .i8 0, .int .i64 0, .string ⟨#[]⟩]) ?hg2 ?ho2 ?hn2 ?hr2 ?_; (case ho2 => rfl); (case hg2 => rfl); (case hn2 => rfl); (case hr2 => first | (go_simp; done) | (go_simp; rfl))); intro w3 hw; have HR3 : Hid (((orC k125).R 125 w3 w.heap.size (fun _ => True) (.slice (some ⟨g, 0, none⟩) (l.length + 1) cap) (marked l mk125)) ∧ Below w.heap.size w w3) := Lib.hid ⟨by rw [hw]; exact HP.out.1, by rw [hw]; exact xad (xad (xad (xad (xad (HI2.out.below) (HI2.out.base)) (HI2.out.base)) (HI2.out.base)) (HI2.out.base)) (HI2.out.base)⟩; clear hw)
   go_ret
   exact ⟨_, _, rfl, HR3.out.1, HR3.out.2⟩
def k67t : Kd S67 := Kd.iso (Kd.pair (Kd.string) (Kd.pair (twin 125 k125 mk125) (twin 56 k56t mk56))) (fun x : S67 => (x.f0, x.f1, x.f2))
theorem k67t_open {w : World} {x : S67} {cs : List Value} (h : k67t.K w x cs) : ∃ A0 c0 A1 c1, cs = [.string x.f0, .slice A0 x.f1.length c0, .slice A1 x.f2.length c1] ∧ x.f1.length + 1 ≤ c0 ∧ (orC k125).C w A0 (x.f1.length + 1) (marked x.f1 mk125) ∧ x.f2.length + 1 ≤ c1 ∧ (orC k56t).C w A1 (x.f2.length + 1) (marked x.f2 mk56) := by
 obtain ⟨_, _, rfl, rfl, ⟨_, _, rfl, ⟨A0, c0, rfl, l1, g1⟩, ⟨A1, c1, rfl, l2, g2⟩⟩⟩ := h
 exact ⟨A0, c0, A1, c1, rfl, l1, g1, l2, g2⟩
theorem k67t_plain : ∀ (w : World) (x : S67) (cs : List Value), k67t.K w x cs → k67.K w x cs := by
 intro w x cs h
 obtain ⟨_, _, rfl, h0, ⟨_, _, rfl, h1, h2⟩⟩ := h
 exact ⟨_, _, rfl, h0, ⟨_, _, rfl, twin_plain (d := k125) (d' := k125) rfl (fun _ _ _ h => h) _ _ _ h1, twin_plain (d := k56t) (d' := k56) rfl k56t_plain _ _ _ h2⟩⟩
abbrev TwRuleC (x : S67) : Prop := ∀ (A0 : Option Addr) (c0 : Nat) (A1 : Option Addr) (c1 : Nat) (w : World), Kd.C k125 w A0 x.f1.length x.f1 → x.f1.length ≤ c0 → Kd.C k56 w A1 x.f2.length x.f2 → x.f2.length ≤ c1 → TabB w →
  Calls Tryd.prog 27 #[.agg #[.string x.f0, .slice A0 x.f1.length c0, .slice A1 x.f2.length c1]] w fun e w' => ∃ cs, e = .returned (.agg cs.toArray) ∧ k67t.M w' w.heap.size (fun _ => True) x cs ∧ Below w.heap.size w w'
set_option maxHeartbeats 8000000 in
set_option maxRecDepth 100000 in
theorem TwRule_step (x : S67) (hS1 : x.f1.length < 2000000) (hS2 : Hid (TwLiteralsC x.f2)) : TwRuleC x := by
 intro A0 c0 A1 c1 w hr0 hc0 hr1 hc1 hT
 have HR0 := Lib.hid hr0
 have HR1 := Lib.hid hr1
 have HT := Lib.hid hT
 clear hT hr0 hr1
 go_enter Tryd.func27, Tryd.ntmps27
 go_wp2_with fail
 have HK1 := Lib.hid (xam (xaz w (.cells #[.string x.f0, .slice A0 x.f1.length c0, .slice A1 x.f2.length c1] 67 (0, 0))) (xab (Below.refl _ _) (.cells #[.string ⟨#[]⟩, .slice none 0 0, .slice none 0 0] 67 (0, 0))))
 have HK2 := Lib.hid (xaz (w.alloc (.cells #[.string x.f0, .slice A0 x.f1.length c0, .slice A1 x.f2.length c1] 67 (0, 0))) (.cells #[.string ⟨#[]⟩, .slice none 0 0, .slice none 0 0] 67 (0, 0)))
 rw [show (w.alloc (.cells #[.string x.f0, .slice A0 x.f1.length c0, .slice A1 x.f2.length c1] 67 (0, 0))).heap.size = w.heap.size + 1 by simp] at HK2
 have HB := Lib.hid (xab (xab (Below.refl w.heap.size w) (.cells #[.string x.f0, .slice A0 x.f1.length c0, .slice A1 x.f2.length c1] 67 (0, 0))) (.cells #[.string ⟨#[]⟩, .slice none 0 0, .slice none 0 0] 67 (0, 0)))
 have HZ : Hid (w.heap.size + 2 ≤ ((w.alloc (.cells #[.string x.f0, .slice A0 x.f1.length c0, .slice A1 x.f2.length c1] 67 (0, 0))).alloc (.cells #[.string ⟨#[]⟩, .slice none 0 0, .slice none 0 0] 67 (0, 0))).heap.size) := Lib.hid (by simp)
 generalize (w.alloc (.cells #[.string x.f0, .slice A0 x.f1.length c0, .slice A1 x.f2.length c1] 67 (0, 0))).alloc (.cells #[.string ⟨#[]⟩, .slice none 0 0, .slice none 0 0] 67 (0, 0)) = v0 at *
 refine (w1_TwinArgs.twin A0 c0 x.f1 v0 (Kd.C_below HR0.out HB.out) hc0 hS1 (HT.out.below HB.out)).mono ?_
 rintro e u0 ⟨B0, d0, rfl, hR, hb⟩
 have HW0 := Lib.hid (show (orC k125).R 125 u0 w.heap.size (fun k => w.heap.size + 2 ≤ k) (.slice B0 (x.f1.length + 1) d0) (marked x.f1 mk125) from Kd.R_mono (Kd.R_lower (Kd.R_bound hR) (Nat.le_trans (Nat.le_add_right _ _) HZ.out)) (fun k hk => Nat.le_trans HZ.out hk.2.1))
 clear hR
 replace HK1 := Lib.hid (xam HK1.out hb)
 replace HK2 := Lib.hid (xam HK2.out hb)
 replace HB := Lib.hid (xah HB.out hb)
 replace HZ := Lib.hid (Nat.le_trans HZ.out hb.size)
 clear hb
 have p0 : u0.cell? ⟨w.heap.size, 0, none⟩ = some (.string x.f0) := (xae HK1.out 0).trans rfl
 have pf0 := xal HK1.out 0
 have p1 : u0.cell? ⟨w.heap.size, 1, none⟩ = some (.slice A0 x.f1.length c0) := (xae HK1.out 1).trans rfl
 have pf1 := xal HK1.out 1
 have p2 : u0.cell? ⟨w.heap.size, 2, none⟩ = some (.slice A1 x.f2.length c1) := (xae HK1.out 2).trans rfl
 have pf2 := xal HK1.out 2
 go_wp2_with ((with_reducible refine xay (t := 65) (p := 6) rfl ?_); (refine xba (t := 65) (p := 6) (v := ?vo0) (w1 := (u0.setCell ⟨w.heap.size, 1, none⟩ (.slice B0 x.f1.length d0))) ?hg0 ?ho0 ?hn0 ?hr0 ?_; (case ho0 => rfl); (case hg0 => rfl); (case hn0 => rfl); (case hr0 => first | (go_simp; done) | (go_simp; rfl))); intro v1 hw; have hk1 : v1.heap[w.heap.size]? = some (.cells #[.string x.f0, .slice B0 x.f1.length d0, .slice A1 x.f2.length c1] 67 (0, 0)) := (by rw [hw]; exact xas (cs := #[.string x.f0, .slice A0 x.f1.length c0, .slice A1 x.f2.length c1]) (cs' := #[.string x.f0, .slice B0 x.f1.length d0, .slice A1 x.f2.length c1]) (HK1.out) 1 _ rfl); have hfar : ∀ k, k ≠ w.heap.size → v1.heap[k]? = u0.heap[k]? := (fun k hk => by rw [hw]; repeat rw [Below.heap_setCell _ _ _ _ (by exact hk)]); have hk2 := (hfar (w.heap.size + 1) (by omega)).trans HK2.out; have hbb : Below w.heap.size w v1 := (by rw [hw]; exact xad (HB.out) (Nat.le_refl _)); have hz : w.heap.size + 2 ≤ v1.heap.size := (by rw [hw]; simpa using HZ.out); have hw0 := Kd.R_step (w1 := v1) HW0.out (fun k hk _ => hfar k (by omega)); clear hw hfar HK1 HK2 HB HZ HW0; have HK1 := Lib.hid hk1; have HK2 := Lib.hid hk2; have HB := Lib.hid hbb; have HZ := Lib.hid hz; have HW0 := Lib.hid hw0; clear hk1 hk2 hbb hz hw0; clear p0 pf0 p1 pf1 p2 pf2; have p0 : v1.cell? ⟨w.heap.size, 0, none⟩ = some (.string x.f0) := (xae HK1.out 0).trans rfl; have pf0 := xal HK1.out 0; have p1 : v1.cell? ⟨w.heap.size, 1, none⟩ = some (.slice B0 x.f1.length d0) := (xae HK1.out 1).trans rfl; have pf1 := xal HK1.out 1; have p2 : v1.cell? ⟨w.heap.size, 2, none⟩ = some (.slice A1 x.f2.length c1) := (xae HK1.out 2).trans rfl; have pf2 := xal HK1.out 2)
 refine (hS2.out A1 c1 v1 (Kd.C_below HR1.out HB.out) hc1 (HT.out.below HB.out)).mono ?_
 rintro e u1 ⟨B1, d1, rfl, hR, hb⟩
 have HW1 := Lib.hid (show (orC k56t).R 56 u1 w.heap.size (fun k => w.heap.size + 2 ≤ k) (.slice B1 (x.f2.length + 1) d1) (marked x.f2 mk56) from Kd.R_mono (Kd.R_lower (Kd.R_bound hR) (Nat.le_trans (Nat.le_add_right _ _) HZ.out)) (fun k hk => Nat.le_trans HZ.out hk.2.1))
 clear hR
 replace HW0 := Lib.hid (Kd.R_below HW0.out hb)
 replace HK1 := Lib.hid (xam HK1.out hb)
 replace HK2 := Lib.hid (xam HK2.out hb)
 replace HB := Lib.hid (xah HB.out hb)
 replace HZ := Lib.hid (Nat.le_trans HZ.out hb.size)
 clear hb
 clear p0 pf0 p1 pf1 p2 pf2
 have p0 : u1.cell? ⟨w.heap.size, 0, none⟩ = some (.string x.f0) := (xae HK1.out 0).trans rfl
 have pf0 := xal HK1.out 0
 have p1 : u1.cell? ⟨w.heap.size, 1, none⟩ = some (.slice B0 x.f1.length d0) := (xae HK1.out 1).trans rfl
 have pf1 := xal HK1.out 1
 have p2 : u1.cell? ⟨w.heap.size, 2, none⟩ = some (.slice A1 x.f2.length c1) := (xae HK1.out 2).trans rfl
 have pf2 := xal HK1.out 2
 go_wp2_with ((with_reducible refine xay (t := 58) (p := 10) rfl ?_); (refine xba (t := 58) (p := 10) (v := ?vo1) (w1 := (u1.setCell ⟨w.heap.size, 2, none⟩ (.slice B1 x.f2.length d1))) ?hg1 ?ho1 ?hn1 ?hr1 ?_; (case ho1 => rfl); (case hg1 => rfl); (case hn1 => rfl); (case hr1 => first | (go_simp; done) | (go_simp; rfl))); intro v2 hw; have hk1 : v2.heap[w.heap.size]? = some (.cells #[.string x.f0, .slice B0 x.f1.length d0, .slice B1 x.f2.length d1] 67 (0, 0)) := (by rw [hw]; exact xas (cs := #[.string x.f0, .slice B0 x.f1.length d0, .slice A1 x.f2.length c1]) (cs' := #[.string x.f0, .slice B0 x.f1.length d0, .slice B1 x.f2.length d1]) (HK1.out) 2 _ rfl); have hfar : ∀ k, k ≠ w.heap.size → v2.heap[k]? = u1.heap[k]? := (fun k hk => by rw [hw]; repeat rw [Below.heap_setCell _ _ _ _ (by exact hk)]); have hk2 := (hfar (w.heap.size + 1) (by omega)).trans HK2.out; have hbb : Below w.heap.size w v2 := (by rw [hw]; exact xad (HB.out) (Nat.le_refl _)); have hz : w.heap.size + 2 ≤ v2.heap.size := (by rw [hw]; simpa using HZ.out); have hw0 := Kd.R_step (w1 := v2) HW0.out (fun k hk _ => hfar k (by omega)); have hw1 := Kd.R_step (w1 := v2) HW1.out (fun k hk _ => hfar k (by omega)); clear hw hfar HK1 HK2 HB HZ HW0 HW1; have HK1 := Lib.hid hk1; have HK2 := Lib.hid hk2; have HB := Lib.hid hbb; have HZ := Lib.hid hz; have HW0 := Lib.hid hw0; have HW1 := Lib.hid hw1; clear hk1 hk2 hbb hz hw0 hw1; clear p0 pf0 p1 pf1 p2 pf2; have p0 : v2.cell? ⟨w.heap.size, 0, none⟩ = some (.string x.f0) := (xae HK1.out 0).trans rfl; have pf0 := xal HK1.out 0; have p1 : v2.cell? ⟨w.heap.size, 1, none⟩ = some (.slice B0 x.f1.length d0) := (xae HK1.out 1).trans rfl; have pf1 := xal HK1.out 1; have p2 : v2.cell? ⟨w.heap.size, 2, none⟩ = some (.slice B1 x.f2.length d1) := (xae HK1.out 2).trans rfl; have pf2 := xal HK1.out 2; have q0 : v2.cell? ⟨w.heap.size + 1, 0, none⟩ = some (.string ⟨#[]⟩) := (xae HK2.out 0).trans rfl; have qf0 := xal HK2.out 0; have q1 : v2.cell? ⟨w.heap.size + 1, 1, none⟩ = some (.slice none 0 0) := (xae HK2.out 1).trans rfl; have qf1 := xal HK2.out 1; have q2 : v2.cell? ⟨w.heap.size + 1, 2, none⟩ = some (.slice none 0 0) := (xae HK2.out 2).trans rfl; have qf2 := xal HK2.out 2)
 refine bodyPost_ret (results_cell_row rfl _ _ (w.heap.size + 1) 67 #[.string x.f0, .slice B0 x.f1.length d0, .slice B1 x.f2.length d1] (0, 0) _ rfl (xas (cs := #[.string x.f0, .slice B0 x.f1.length d0, .slice none 0 0]) (cs' := #[.string x.f0, .slice B0 x.f1.length d0, .slice B1 x.f2.length d1]) (xas (cs := #[.string x.f0, .slice none 0 0, .slice none 0 0]) (cs' := #[.string x.f0, .slice B0 x.f1.length d0, .slice none 0 0]) (xas (cs := #[.string ⟨#[]⟩, .slice none 0 0, .slice none 0 0]) (cs' := #[.string x.f0, .slice none 0 0, .slice none 0 0]) (HK2.out) 0 _ rfl) 1 _ rfl) 2 _ rfl) Tryd.underlying67 rfl (by kernel_rfl)) rfl ?_
 have hfar : ∀ k, k ≠ w.heap.size + 1 → (((v2.setCell ⟨w.heap.size + 1, 0, none⟩ (.string x.f0)).setCell ⟨w.heap.size + 1, 1, none⟩ (.slice B0 x.f1.length d0)).setCell ⟨w.heap.size + 1, 2, none⟩ (.slice B1 x.f2.length d1)).heap[k]? = v2.heap[k]? := (fun k hk => by repeat rw [Below.heap_setCell _ _ _ _ (by exact hk)])
 have hw0 := Kd.R_mono (Kd.R_step (w1 := (((v2.setCell ⟨w.heap.size + 1, 0, none⟩ (.string x.f0)).setCell ⟨w.heap.size + 1, 1, none⟩ (.slice B0 x.f1.length d0)).setCell ⟨w.heap.size + 1, 2, none⟩ (.slice B1 x.f2.length d1))) HW0.out (fun k hk _ => hfar k (by omega))) (fun _ _ => trivial)
 have hw1 := Kd.R_mono (Kd.R_step (w1 := (((v2.setCell ⟨w.heap.size + 1, 0, none⟩ (.string x.f0)).setCell ⟨w.heap.size + 1, 1, none⟩ (.slice B0 x.f1.length d0)).setCell ⟨w.heap.size + 1, 2, none⟩ (.slice B1 x.f2.length d1))) HW1.out (fun k hk _ => hfar k (by omega))) (fun _ _ => trivial)
 exact ⟨_, rfl, ⟨[.string x.f0], [.slice B0 x.f1.length d0, .slice B1 x.f2.length d1], rfl, rfl, ⟨[.slice B0 x.f1.length d0], [.slice B1 x.f2.length d1], rfl, ⟨_, _, rfl, hw0⟩, ⟨_, _, rfl, hw1⟩⟩⟩, xad (xad (xad (HB.out) (Nat.le_succ _)) (Nat.le_succ _)) (Nat.le_succ _)⟩
def r4_Head.l0 : Nat → Int → ByteArray → List (S125) → List (S56) → ByteArray → List (S28) → Option (ByteArray × (List (S28)) × Bool)
 | 0, _, _, _, _, _, _ => none
 | k + 1, x5, x329000, x329001, x329002, x331000, x331001 => if x5 < (x329001.length : Int) then (if 0 ≤ x5 then (if ((xaq x329001 x5).f0) = 0 then (if x331001.length < 2932031007402 then (r4_Head.l0 k (wrap64 (x5 + 1)) x329000 x329001 x329002 x331000 (x331001 ++ [(⟨(xaq x329001 x5).f1.f0, (⟨(xaq x329001 x5).f1.f1.f0, (xaq x329001 x5).f1.f1.f1, (xaq x329001 x5).f1.f1.f2⟩ : S26)⟩ : S28)])) else (none)) else (some ((⟨#[]⟩ : ByteArray), ([] : List (S28)), false))) else (none)) else (some (x331000, x331001, true))
def r4_Head.f (k : Nat) (a0_0 : ByteArray) (l0_1 : List (S125)) (l0_2 : List (S56)) : Option (ByteArray × (List (S28)) × Bool) := r4_Head.l0 k 0 a0_0 l0_1 l0_2 a0_0 ([] : List (S28))
def r4_Head.T7 : Bool × List (List Nat × List Nat) := (true, [([], []), ([0], [0]), ([], []), ([2], [2]), ([], []), ([3, 4], [3, 4]), ([5], [5]), ([6], [6]), ([7], [7]), ([1, 8], [1, 8]), ([0, 1, 2, 3, 4, 5, 6, 7, 8, 9], []), ([10, 9, 9, 0, 1, 2, 3, 4, 5, 6, 7, 8, 9], [9, 10])])
def r4_Head.B7 : List Nat := [0, 1, 0, 4, 0, 28, 60, 124, 252, 511, 1023, 2047]
theorem r4_Head.tab7 : rtab .any (opsOf Tryd.f28 7) = r4_Head.T7 := by kernel_rfl
theorem r4_Head.bits7 : waitsOk r4_Head.T7.2 r4_Head.B7 = true := by kernel_rfl
set_option maxHeartbeats 8000000 in
set_option maxRecDepth 100000 in
theorem r4_Head.calls (k : Nat) (a0_0 : ByteArray) (A0_1 : Option Addr) (c0_1 : Nat) (l0_1 : List (S125)) (A0_2 : Option Addr) (c0_2 : Nat) (l0_2 : List (S56)) (r1 : ByteArray) (r2 : List (S28)) (r3 : Bool) (w : World) (hr0_1 : Kd.C k125 w A0_1 l0_1.length l0_1) (hc0_1 : l0_1.length ≤ c0_1) (hr0_2 : Kd.C k56 w A0_2 l0_2.length l0_2) (hc0_2 : l0_2.length ≤ c0_2) (h : r4_Head.f k a0_0 l0_1 l0_2 = some (r1, r2, r3)) :
  Calls Tryd.prog 28 #[.agg #[.string a0_0, .slice A0_1 l0_1.length c0_1, .slice A0_2 l0_2.length c0_2]] w fun e w' => ∃ v1_ : Value, e = .returned (.tuple #[.agg #[.string r1, v1_], .bool r3]) ∧ Kd.R k28 28 w' w.heap.size (fun _ => True) v1_ r2 ∧ Below w.heap.size w w' := by
 have hu67 := Tryd.underlying67
 have hu53 := Tryd.underlying53
 have hu28 := Tryd.underlying28
 have HR0_1 := Aside0.mk hr0_1
 have HC0_1 := Aside0.mk hc0_1
 clear hr0_1 hc0_1
 have HR0_2 := Aside0.mk hr0_2
 have HC0_2 := Aside0.mk hc0_2
 clear hr0_2 hc0_2
 have HB := Aside0.mk (Below.refl w.heap.size w)
 have H : (r4_Head.l0 k 0 a0_0 l0_1 l0_2 a0_0 ([] : List (S28))) = some (r1, r2, r3) := h
 clear h
 have H' := Aside0.mk H
 clear H
 go_enter Tryd.func28, Tryd.ntmps28
 go_wp2_with (first | ((with_reducible refine xar (N := 1) rfl ?_); refine xap ?hg (N := 1) ?hd (cs := #[.string a0_0, .slice A0_1 l0_1.length c0_1, .slice A0_2 l0_2.length c0_2]) (t := 67) ?hr ?_; (case hd => rfl); (case hg => rfl); (case hr => first | (go_simp; done) | (go_simp; rfl)); intro gb328 hg w2 hbox hb; have n0_ := Aside0.mk (xah (by repeat (first | (with_reducible first | exact HB.out | apply xab | apply xaa | apply xac) | exact HB.out)) hb); have n1_ := Aside0.mk (hbox); have n2_ := Aside0.mk ((by rw [hg]; exact (xao (by repeat (first | (with_reducible first | exact HB.out | apply xab | apply xaa | apply xac) | exact HB.out))) : w.heap.size ≤ gb328)); have n3_ := n2_; clear HB; have HB := n0_; have BK328 := n1_; have GW328 := n2_; have GE328 := n3_; clear n0_ n1_ n2_ n3_; clear hb hbox hg) | ((with_reducible refine xar (N := 2) rfl ?_); refine xap ?hg (N := 2) ?hd (cs := #[.string (⟨#[]⟩ : ByteArray), .slice none 0 0]) (t := 53) ?hr ?_; (case hd => rfl); (case hg => rfl); (case hr => first | (go_simp; done) | (go_simp; rfl)); intro gb329 hg w3 hbox hb; have n0_ := Aside0.mk (xam (g := gb328) (o := .cells #[.string a0_0, .slice A0_1 l0_1.length c0_1, .slice A0_2 l0_2.length c0_2] 67 (0, 0)) (by (with_reducible repeat (first | refine xag ?_ _ | refine xai ?_ | refine xaf ?_ _)); exact BK328.out) hb); have n1_ := Aside0.mk (xah (by repeat (first | (with_reducible first | exact HB.out | apply xab | apply xaa | apply xac | refine xad ?_ GE328.out) | exact HB.out)) hb); have n2_ := Aside0.mk (hbox); have n3_ := Aside0.mk ((by rw [hg]; exact (xao (by repeat (first | (with_reducible first | exact HB.out | apply xab | apply xaa | apply xac | refine xad ?_ GE328.out) | exact HB.out))) : w.heap.size ≤ gb329)); have n4_ := n3_; have n5_ := Aside0.mk ((by rw [hg]; exact Nat.ne_of_lt (blk_lt (g := gb328) (o := .cells #[.string a0_0, .slice A0_1 l0_1.length c0_1, .slice A0_2 l0_2.length c0_2] 67 (0, 0)) (by (with_reducible repeat (first | refine xag ?_ _ | refine xai ?_ | refine xaf ?_ _)); exact BK328.out)) : gb328 ≠ gb329)); have n6_ := Aside0.mk ((by rw [hg]; exact Nat.ne_of_gt (blk_lt (g := gb328) (o := .cells #[.string a0_0, .slice A0_1 l0_1.length c0_1, .slice A0_2 l0_2.length c0_2] 67 (0, 0)) (by (with_reducible repeat (first | refine xag ?_ _ | refine xai ?_ | refine xaf ?_ _)); exact BK328.out)) : gb329 ≠ gb328)); clear BK328; clear HB; have BK328 := n0_; have HB := n1_; have BK329 := n2_; have GW329 := n3_; have GE329 := n4_; have NB328_329 := n5_; have NB329_328 := n6_; clear n0_ n1_ n2_ n3_ n4_ n5_ n6_; clear hb hbox hg; have hnb4 := NB328_329.out; have hnc4 := NB329_328.out; obtain ⟨hcz5_0, hcz5_1, hcz5_2⟩ := cz3 BK328.out; obtain ⟨hfz5_0, hfz5_1, hfz5_2⟩ := fz3 BK328.out) | ((with_reducible refine xar (N := 4) rfl ?_); refine xap ?hg (N := 4) ?hd (cs := #[.string (⟨#[]⟩ : ByteArray), .slice none 0 0]) (t := 53) ?hr ?_; (case hd => rfl); (case hg => rfl); (case hr => first | (go_simp; done) | (go_simp; rfl)); intro gb330 hg w6 hbox hb; have n0_ := Aside0.mk (xam (g := gb328) (o := .cells #[.string a0_0, .slice A0_1 l0_1.length c0_1, .slice A0_2 l0_2.length c0_2] 67 (0, 0)) (by (with_reducible repeat (first | refine xag ?_ _ | refine xai ?_ | refine xaf ?_ _)); exact BK328.out) hb); have n1_ := Aside0.mk (xam (g := gb329) (o := .cells #[.string (⟨#[]⟩ : ByteArray), .slice none 0 0] 53 (0, 0)) (by (with_reducible repeat (first | refine xag ?_ _ | refine xai ?_ | refine xaf ?_ _)); exact BK329.out) hb); have n2_ := Aside0.mk (xah (by repeat (first | (with_reducible first | exact HB.out | apply xab | apply xaa | apply xac | refine xad ?_ GE328.out | refine xad ?_ GE329.out) | exact HB.out)) hb); have n3_ := Aside0.mk (hbox); have n4_ := Aside0.mk ((by rw [hg]; exact (xao (by repeat (first | (with_reducible first | exact HB.out | apply xab | apply xaa | apply xac | refine xad ?_ GE328.out | refine xad ?_ GE329.out) | exact HB.out))) : w.heap.size ≤ gb330)); have n5_ := n4_; have n6_ := Aside0.mk ((by rw [hg]; exact Nat.ne_of_lt (blk_lt (g := gb328) (o := .cells #[.string a0_0, .slice A0_1 l0_1.length c0_1, .slice A0_2 l0_2.length c0_2] 67 (0, 0)) (by (with_reducible repeat (first | refine xag ?_ _ | refine xai ?_ | refine xaf ?_ _)); exact BK328.out)) : gb328 ≠ gb330)); have n7_ := Aside0.mk ((by rw [hg]; exact Nat.ne_of_gt (blk_lt (g := gb328) (o := .cells #[.string a0_0, .slice A0_1 l0_1.length c0_1, .slice A0_2 l0_2.length c0_2] 67 (0, 0)) (by (with_reducible repeat (first | refine xag ?_ _ | refine xai ?_ | refine xaf ?_ _)); exact BK328.out)) : gb330 ≠ gb328)); have n8_ := Aside0.mk ((by rw [hg]; exact Nat.ne_of_lt (blk_lt (g := gb329) (o := .cells #[.string (⟨#[]⟩ : ByteArray), .slice none 0 0] 53 (0, 0)) (by (with_reducible repeat (first | refine xag ?_ _ | refine xai ?_ | refine xaf ?_ _)); exact BK329.out)) : gb329 ≠ gb330)); have n9_ := Aside0.mk ((by rw [hg]; exact Nat.ne_of_gt (blk_lt (g := gb329) (o := .cells #[.string (⟨#[]⟩ : ByteArray), .slice none 0 0] 53 (0, 0)) (by (with_reducible repeat (first | refine xag ?_ _ | refine xai ?_ | refine xaf ?_ _)); exact BK329.out)) : gb330 ≠ gb329)); clear BK328; clear BK329; clear HB; have BK328 := n0_; have BK329 := n1_; have HB := n2_; have BK330 := n3_; have GW330 := n4_; have GE330 := n5_; have NB328_330 := n6_; have NB330_328 := n7_; have NB329_330 := n8_; have NB330_329 := n9_; clear n0_ n1_ n2_ n3_ n4_ n5_ n6_ n7_ n8_ n9_; clear hb hbox hg; have hnb7 := NB330_328.out; have hnc7 := NB328_330.out; have hnb8 := NB330_329.out; have hnc8 := NB329_330.out; obtain ⟨hcz9_0, hcz9_1⟩ := cz2 BK330.out; obtain ⟨hfz9_0, hfz9_1⟩ := fz2 BK330.out))
 go_loopg [5] k (fun kq v5 w' => ∃ (x5_1 : Int) (x330000_1 : ByteArray) (x331001_1 : List (S28)) (u331001 : Value), v5 = .int .i64 x5_1 ∧ Aside0 (r4_Head.l0 kq x5_1 a0_0 l0_1 l0_2 a0_0 x331001_1 = some (r1, r2, r3)) ∧ Aside0 (kq ≤ k) ∧ Aside0 (Kd.R k28 28 w' w.heap.size (fun _ => True) u331001 x331001_1) ∧ Aside0 (w'.heap[gb328]? = some (.cells #[.string a0_0, (.slice A0_1 l0_1.length c0_1), (.slice A0_2 l0_2.length c0_2)] 67 (0, 0))) ∧ Aside0 (w'.heap[gb329]? = some (.cells #[.string x330000_1, (.slice none 0 0)] 53 (0, 0))) ∧ Aside0 (w'.heap[gb330]? = some (.cells #[.string a0_0, u331001] 53 (0, 0))) ∧ Aside0 (Below w.heap.size w w'))
 case atStart => exact ⟨(0), ((⟨#[]⟩ : ByteArray)), (([] : List (S28))), (.slice none 0 0), (by first | rfl | (simp; done) | (simp [*]; done)), H', ⟨Nat.le_refl _⟩, ⟨by first | exact Kd.R_nil _ _ _ _ _ | exact Kd.N_nil _ _ _ _ _ | exact Kd.V_nil _ _ _ _ _ | exact Kd.Q_nil _ _ _ _ _ | exact Kd.S_nil _ _ _ _ _⟩, ⟨by (with_reducible repeat (first | refine xag ?_ _ | refine xai ?_ | refine xaf ?_ _)); refine xax ?_ NB328_330.out _; (with_reducible repeat (first | refine xag ?_ _ | refine xai ?_ | refine xaf ?_ _)); refine xax ?_ NB328_330.out _; (with_reducible repeat (first | refine xag ?_ _ | refine xai ?_ | refine xaf ?_ _)); exact BK328.out⟩, ⟨by (with_reducible repeat (first | refine xag ?_ _ | refine xai ?_ | refine xaf ?_ _)); refine xax ?_ NB329_330.out _; (with_reducible repeat (first | refine xag ?_ _ | refine xai ?_ | refine xaf ?_ _)); refine xax ?_ NB329_330.out _; (with_reducible repeat (first | refine xag ?_ _ | refine xai ?_ | refine xaf ?_ _)); exact BK329.out⟩, ⟨by (with_reducible repeat (first | refine xag ?_ _ | refine xai ?_ | refine xaf ?_ _)); refine xas (cs := #[.string a0_0, .slice none 0 0]) ?_ 1 _ rfl; (with_reducible repeat (first | refine xag ?_ _ | refine xai ?_ | refine xaf ?_ _)); refine xas (cs := #[.string (⟨#[]⟩ : ByteArray), .slice none 0 0]) ?_ 0 _ rfl; (with_reducible repeat (first | refine xag ?_ _ | refine xai ?_ | refine xaf ?_ _)); exact BK330.out⟩, ⟨by repeat (first | (with_reducible first | exact HB.out | apply xab | apply xaa | apply xac | refine xad ?_ GE328.out | refine xad ?_ GE329.out | refine xad ?_ GE330.out) | exact HB.out)⟩⟩
 case round =>
  clear H'
  try clear c2
  try clear p2
  try clear c4
  try clear c7
  try clear c8
  try clear hcz5_0
  try clear hcz5_1
  try clear hcz5_2
  try clear hcz9_0
  try clear hcz9_1
  try clear hfz5_0
  try clear hfz5_1
  try clear hfz5_2
  try clear hfz9_0
  try clear hfz9_1
  obtain ⟨x5_1, x330000_1, x331001_1, u331001, rfl, HA, HK1, HO_331001, BK328, BK329, BK330, HB⟩ := hrel
  cases gk with
  | zero => exact absurd HA.out (by simp [r4_Head.l0])
  | succ k1 =>
   have H := HA.out
   clear HA
   simp only [r4_Head.l0] at H
   by_cases c10 : x5_1 < (l0_1.length : Int)
   ·rw [if_pos c10] at H
    have c10b0 : decide (x5_1 < (l0_1.length : Int)) = true := decide_eq_true c10
    clear c10
    by_cases c11 : 0 ≤ x5_1
    ·rw [if_pos c11] at H
     have c11b0 : decide (0 ≤ x5_1) = true := decide_eq_true c11
     clear c11
     by_cases c12 : ((xaq l0_1 x5_1).f0) = 0
     ·rw [if_pos c12] at H
      have c12b0 : (((xaq l0_1 x5_1).f0) == 0) = true := beq_iff_eq.mpr c12
      have c12b1 : (((xaq l0_1 x5_1).f0) != 0) = false := bne_eq_false_iff_eq.mpr c12
      clear c12
      by_cases c13 : x331001_1.length < 2932031007402
      ·rw [if_pos c13] at H
       have LMc13 := Aside0.mk c13
       clear c13
       obtain ⟨y333, hy333⟩ : ∃ y_ : List (S28), y_ = (x331001_1 ++ [(⟨(xaq l0_1 x5_1).f1.f0, (⟨(xaq l0_1 x5_1).f1.f1.f0, (xaq l0_1 x5_1).f1.f1.f1, (xaq l0_1 x5_1).f1.f1.f2⟩ : S26)⟩ : S28)]) := ⟨_, rfl⟩
       replace H : (r4_Head.l0 k1 (wrap64 (x5_1 + 1)) a0_0 l0_1 l0_2 a0_0 y333) = some (r1, r2, r3) := by first | (rw [hy333]; with_reducible exact H) | (have H2_ := (Option.bind_some _ _).symm.trans H; rw [hy333]; with_reducible exact H2_) | (have H2_ := (Option.bind_some _ _).symm.trans H; with_reducible exact H2_) | with_reducible exact H | (rw [hy333]; exact H) | exact H
       have Ny333 := Aside0.mk hy333
       clear hy333
       have H' := Aside0.mk H
       clear H
       have hnb14 := NB328_329.out
       have hnc14 := NB329_328.out
       have hnb15 := NB328_330.out
       have hnc15 := NB330_328.out
       obtain ⟨hcz16_0, hcz16_1, hcz16_2⟩ := cz3 BK328.out
       obtain ⟨hfz16_0, hfz16_1, hfz16_2⟩ := fz3 BK328.out
       have p331 : 0 ≤ (x5_1 : Int) := of_decide_eq_true (by first | (with_reducible assumption) | assumption)
       have q331 : x5_1 < (l0_1.length : Int) := of_decide_eq_true (by first | (with_reducible assumption) | assumption)
       obtain ⟨ad331, e331, hx331_0, hx331_1, hx331_2, hx331_3, hx331_4⟩ := xbp HR0_1.out x5_1 p331 q331
       cases e331
       replace hx331_0 := (HB.out.cell (World.block_lt_of_cell? w _ hx331_0)).trans hx331_0
       replace hx331_1 := (HB.out.cell (World.block_lt_of_cell? w _ hx331_1)).trans hx331_1
       replace hx331_2 := (HB.out.cell (World.block_lt_of_cell? w _ hx331_2)).trans hx331_2
       replace hx331_3 := (HB.out.cell (World.block_lt_of_cell? w _ hx331_3)).trans hx331_3
       replace hx331_4 := (HB.out.cell (World.block_lt_of_cell? w _ hx331_4)).trans hx331_4
       replace p331 := eq_true p331
       replace q331 := eq_true q331
       try go_wp2
       have n0_ := Aside0.mk (Kd.R_drew HO_331001.out)
       have n1_ := Aside0.mk (xai BK328.out)
       have n2_ := Aside0.mk (xai BK329.out)
       have n3_ := Aside0.mk (xai BK330.out)
       have n4_ := Aside0.mk (xac HB.out)
       clear HO_331001
       clear BK328
       clear BK329
       clear BK330
       clear HB
       have HO_331001 := n0_
       have BK328 := n1_
       have BK329 := n2_
       have BK330 := n3_
       have HB := n4_
       clear n0_ n1_ n2_ n3_ n4_
       have p332 : 0 ≤ (x5_1 : Int) := of_decide_eq_true (by first | (with_reducible assumption) | assumption)
       have q332 : x5_1 < (l0_1.length : Int) := of_decide_eq_true (by first | (with_reducible assumption) | assumption)
       obtain ⟨ad332, e332, hx332_0, hx332_1, hx332_2, hx332_3, hx332_4⟩ := xbp HR0_1.out x5_1 p332 q332
       have hw332_4 := hx332_4
       have hw332_3 := hx332_3
       have hw332_2 := hx332_2
       have hw332_1 := hx332_1
       have hw332_0 := hx332_0
       obtain rfl : ad331 = ad332 := (by injection e332)
       replace hx332_0 := (HB.out.cell (World.block_lt_of_cell? w _ hx332_0)).trans hx332_0
       replace hx332_1 := (HB.out.cell (World.block_lt_of_cell? w _ hx332_1)).trans hx332_1
       replace hx332_2 := (HB.out.cell (World.block_lt_of_cell? w _ hx332_2)).trans hx332_2
       replace hx332_3 := (HB.out.cell (World.block_lt_of_cell? w _ hx332_3)).trans hx332_3
       replace hx332_4 := (HB.out.cell (World.block_lt_of_cell? w _ hx332_4)).trans hx332_4
       replace p332 := eq_true p332
       replace q332 := eq_true q332
       refine start_ (n := 12) (S := fun w' => w'.cell? ⟨gb330, 0, none⟩ = some (.string a0_0) ∧ w'.cell? ⟨gb330, 1, none⟩ = some (u331001) ∧ w'.cell? ⟨gb328, 0, none⟩ = some (.string a0_0) ∧ w'.cell? ⟨gb328, 1, none⟩ = some (.slice (some ad331) l0_1.length c0_1) ∧ w'.cell? ⟨gb328, 2, none⟩ = some (.slice A0_2 l0_2.length c0_2) ∧ w'.cell? (ad331.add ((x5_1).toNat * 5)) = some (.int .i8 ((xaq l0_1 x5_1).f0)) ∧ w'.cell? ⟨(ad331.add ((x5_1).toNat * 5)).block, (ad331.add ((x5_1).toNat * 5)).off + 1, none⟩ = some (.string ((xaq l0_1 x5_1).f1.f0)) ∧ w'.cell? ⟨(ad331.add ((x5_1).toNat * 5)).block, (ad331.add ((x5_1).toNat * 5)).off + 2, none⟩ = some (.int .i8 ((xaq l0_1 x5_1).f1.f1.f0)) ∧ w'.cell? ⟨(ad331.add ((x5_1).toNat * 5)).block, (ad331.add ((x5_1).toNat * 5)).off + 3, none⟩ = some (.int .i64 ((xaq l0_1 x5_1).f1.f1.f1)) ∧ w'.cell? ⟨(ad331.add ((x5_1).toNat * 5)).block, (ad331.add ((x5_1).toNat * 5)).off + 4, none⟩ = some (.string ((xaq l0_1 x5_1).f1.f1.f2))) (ds := [11]) #[false, false, false, false, false, false, false, false, false, false, false, false] (by kernel_rfl) rfl rfl ⟨(xae BK330.out 0).trans rfl, (xae BK330.out 1).trans rfl, (xae BK328.out 0).trans rfl, (xae BK328.out 1).trans rfl, (xae BK328.out 2).trans rfl, ((HB.out.cell (World.block_lt_of_cell? w _ hw332_0)).trans hw332_0), ((HB.out.cell (World.block_lt_of_cell? w _ hw332_1)).trans hw332_1), ((HB.out.cell (World.block_lt_of_cell? w _ hw332_2)).trans hw332_2), ((HB.out.cell (World.block_lt_of_cell? w _ hw332_3)).trans hw332_3), ((HB.out.cell (World.block_lt_of_cell? w _ hw332_4)).trans hw332_4)⟩ (fun hHeld => ?_); refine xbo r4_Head.tab7 r4_Head.bits7 (fun HT_ HW_ => ?_)
       generalize wr.drew = w17 at HO_331001 BK328 BK329 BK330 HB hx332_0 hx332_1 hx332_2 hx332_3 hx332_4 hHeld ⊢
       refine pure_ (i := 0) (N := some 24) (v := ?_) (a' := ?_) #[true, false, false, false, false, false, false, false, false, false, false, false] rfl rfl (any_of HT_.out (by kernel_rfl)) (fun _ _ _ h => h) (Or.inl ⟨by rfl, ?_⟩) ?_ ?_
       rotate_left
       ·intro w'
        go_simp
        with_reducible rfl
       rotate_left
       ·simp only [Act.put, sI, sZ, sS, i64_w, i32_w]
        rfl
       refine pure_ (i := 2) (N := some 26) (v := ?_) (a' := ?_) #[true, false, true, false, false, false, false, false, false, false, false, false] rfl rfl (any_of HT_.out (by kernel_rfl)) (fun _ _ _ h => h) (Or.inl ⟨by rfl, ?_⟩) ?_ ?_
       rotate_left
       ·intro w'
        go_simp
        with_reducible rfl
       rotate_left
       ·simp only [Act.put, sI, sZ, sS, i64_w, i32_w]
        rfl
       refine pure_ (i := 4) (N := some 28) (v := ?_) (a' := ?_) #[true, false, true, false, true, false, false, false, false, false, false, false] rfl rfl (any_of HT_.out (by kernel_rfl)) (fun _ _ _ h => h) (Or.inl ⟨by rfl, ?_⟩) ?_ ?_
       rotate_left
       ·intro w'
        go_simp
        with_reducible rfl
       rotate_left
       ·simp only [Act.put, sI, sZ, sS, i64_w, i32_w]
        rfl
       refine take_ (i := 1) (N := some 25) (v := ?_) (a' := ?_) #[true, true, true, false, true, false, false, false, false, false, false, false] rfl rfl (xbb HT_.out HW_.out (by kernel_rfl)) (fun _ _ _ h => h) (Or.inl ⟨by rfl, ?_⟩) hHeld ?_ ?_
       rotate_left
       ·rintro w' ⟨s0, s1, s2, s3, s4, s5, s6, s7, s8, s9⟩
        go_simp
        with_reducible rfl
       rotate_left
       ·simp only [Act.put, sI, sZ, sS, i64_w, i32_w]
        rfl
       refine take_ (i := 3) (N := some 27) (v := ?_) (a' := ?_) #[true, true, true, true, true, false, false, false, false, false, false, false] rfl rfl (xbb HT_.out HW_.out (by kernel_rfl)) (fun _ _ _ h => h) (Or.inl ⟨by rfl, ?_⟩) hHeld ?_ ?_
       rotate_left
       ·rintro w' ⟨s0, s1, s2, s3, s4, s5, s6, s7, s8, s9⟩
        go_simp
        with_reducible rfl
       rotate_left
       ·simp only [Act.put, sI, sZ, sS, i64_w, i32_w]
        rfl
       refine pure_ (i := 5) (N := some 29) (v := ?_) (a' := ?_) #[true, true, true, true, true, true, false, false, false, false, false, false] rfl rfl (any_of HT_.out (by kernel_rfl)) (fun _ _ _ h => h) (Or.inl ⟨by rfl, ?_⟩) ?_ ?_
       rotate_left
       ·intro w'
        go_simp
        with_reducible rfl
       rotate_left
       ·simp only [Act.put, sI, sZ, sS, i64_w, i32_w]
        rfl
       refine pure_ (i := 6) (N := some 30) (v := ?_) (a' := ?_) #[true, true, true, true, true, true, true, false, false, false, false, false] rfl rfl (any_of HT_.out (by kernel_rfl)) (fun _ _ _ h => h) (Or.inl ⟨by rfl, ?_⟩) ?_ ?_
       rotate_left
       ·intro w'
        go_simp
        with_reducible rfl
       rotate_left
       ·simp only [Act.put, sI, sZ, sS, i64_w, i32_w]
        rfl
       refine take_ (i := 7) (N := some 31) (v := ?_) (a' := ?_) #[true, true, true, true, true, true, true, true, false, false, false, false] rfl rfl (xbb HT_.out HW_.out (by kernel_rfl)) (fun _ _ _ h => h) (Or.inl ⟨by rfl, ?_⟩) hHeld ?_ ?_
       rotate_left
       ·rintro w' ⟨s0, s1, s2, s3, s4, s5, s6, s7, s8, s9⟩
        go_simp
        with_reducible rfl
       rotate_left
       ·simp only [Act.put, sI, sZ, sS, i64_w, i32_w]
        rfl
       refine one_ (i := 8) (N := some 32) #[true, true, true, true, true, true, true, true, true, false, false, false] rfl rfl (one_of HT_.out (by kernel_rfl)) (by decide) (fun K hK => ?_)
       refine value_ (w1 := ?_) (v := ?_) (by rfl) rfl ?_ ?_
       rotate_left 2
       ·go_simp
        constructor
        ·rfl
        ·rfl
       refine hK.out _ _ ⟨(xae (xaf BK330.out _) 0).trans rfl, (xae (xaf BK330.out _) 1).trans rfl, (xae (xaf BK328.out _) 0).trans rfl, (xae (xaf BK328.out _) 1).trans rfl, (xae (xaf BK328.out _) 2).trans rfl, (World.cell?_alloc_lt _ _ _ (World.block_lt_of_cell? _ _ (((HB.out.cell (World.block_lt_of_cell? w _ hw332_0)).trans hw332_0)))).trans (((HB.out.cell (World.block_lt_of_cell? w _ hw332_0)).trans hw332_0)), (World.cell?_alloc_lt _ _ _ (World.block_lt_of_cell? _ _ (((HB.out.cell (World.block_lt_of_cell? w _ hw332_1)).trans hw332_1)))).trans (((HB.out.cell (World.block_lt_of_cell? w _ hw332_1)).trans hw332_1)), (World.cell?_alloc_lt _ _ _ (World.block_lt_of_cell? _ _ (((HB.out.cell (World.block_lt_of_cell? w _ hw332_2)).trans hw332_2)))).trans (((HB.out.cell (World.block_lt_of_cell? w _ hw332_2)).trans hw332_2)), (World.cell?_alloc_lt _ _ _ (World.block_lt_of_cell? _ _ (((HB.out.cell (World.block_lt_of_cell? w _ hw332_3)).trans hw332_3)))).trans (((HB.out.cell (World.block_lt_of_cell? w _ hw332_3)).trans hw332_3)), (World.cell?_alloc_lt _ _ _ (World.block_lt_of_cell? _ _ (((HB.out.cell (World.block_lt_of_cell? w _ hw332_4)).trans hw332_4)))).trans (((HB.out.cell (World.block_lt_of_cell? w _ hw332_4)).trans hw332_4))⟩ (fun hHeld => ?_)
       clear hK K
       refine norm_ (a' := ?_) ?_ ?_
       rotate_left
       ·show Act.put _ (some 32) _ = _
        simp only [Act.put, sI, sZ, sS, i64_w, i32_w]
        rfl
       refine one_ (i := 9) (N := some 33) #[true, true, true, true, true, true, true, true, true, true, false, false] rfl rfl (one_of HT_.out (by kernel_rfl)) (by decide) (fun K hK => ?_)
       refine Kd.R_append_step k28 (w0 := w) w.heap.size (by rfl) (.tmp 25) (.tmp 32) 51 28 (.agg #[(.string ⟨#[]⟩), (.int .i8 0), (.int .i64 0), (.string ⟨#[]⟩)]) 48 rfl Tryd.underlying51 info28 rfl (by decide) (by omega) u331001 x331001_1 (⟨(xaq l0_1 x5_1).f1.f0, (⟨(xaq l0_1 x5_1).f1.f1.f0, (xaq l0_1 x5_1).f1.f1.f1, (xaq l0_1 x5_1).f1.f1.f2⟩ : S26)⟩ : S28) [.string ((xaq l0_1 x5_1).f1.f0), .int .i8 ((xaq l0_1 x5_1).f1.f1.f0), .int .i64 ((xaq l0_1 x5_1).f1.f1.f1), .string ((xaq l0_1 x5_1).f1.f1.f2)] (fun _ => True) (fun _ => False) rfl rfl ?aP (fun _ hk => hk.elim) ?aF ?aO ?aB ?aS ?aL ?_
       (case aP => exact k28_mkM _ _ _ (⟨(xaq l0_1 x5_1).f1.f0, (⟨(xaq l0_1 x5_1).f1.f1.f0, (xaq l0_1 x5_1).f1.f1.f1, (xaq l0_1 x5_1).f1.f1.f2⟩ : S26)⟩ : S28))
       (case aB => exact (by repeat (first | (with_reducible first | exact HB.out | apply xab | apply xaa | apply xac | refine xad ?_ GE328.out | refine xad ?_ GE329.out | refine xad ?_ GE330.out) | exact HB.out)))
       (case aF => exact (fun _ _ => trivial))
       (case aO => exact (by (with_reducible repeat (first | apply Kd.R_alloc | apply Kd.R_drewN | apply Kd.R_drew)); exact HO_331001.out))
       (case aS => exact (xao (by repeat (first | (with_reducible first | exact HB.out | apply xab | apply xaa | apply xac | refine xad ?_ GE328.out | refine xad ?_ GE329.out | refine xad ?_ GE330.out) | exact HB.out))))
       (case aL => have := LMc13.out; omega)
       intro v334 w18 ho hb hg hat
       rw [← Ny333.out] at ho
       have n0_ := Aside0.mk (xbf (g := gb328) (o := .cells #[.string a0_0, .slice (some ad331) l0_1.length c0_1, .slice A0_2 l0_2.length c0_2] 67 (0, 0)) (by (with_reducible repeat (first | refine xag ?_ _ | refine xai ?_ | refine xaf ?_ _)); exact BK328.out) hg (Kd.R_ne HO_331001.out BK328.out (by decide)))
       have n1_ := Aside0.mk (xbf (g := gb329) (o := .cells #[.string x330000_1, .slice none 0 0] 53 (0, 0)) (by (with_reducible repeat (first | refine xag ?_ _ | refine xai ?_ | refine xaf ?_ _)); exact BK329.out) hg (Kd.R_ne HO_331001.out BK329.out (by decide)))
       have n2_ := Aside0.mk (xbf (g := gb330) (o := .cells #[.string a0_0, u331001] 53 (0, 0)) (by (with_reducible repeat (first | refine xag ?_ _ | refine xai ?_ | refine xaf ?_ _)); exact BK330.out) hg (Kd.R_ne HO_331001.out BK330.out (by decide)))
       have n3_ := Aside0.mk (hb)
       have n4_ := Aside0.mk (ho)
       clear BK328
       clear BK329
       clear BK330
       clear HB
       clear HO_331001
       have BK328 := n0_
       have BK329 := n1_
       have BK330 := n2_
       have HB := n3_
       have HO335 := n4_
       clear n0_ n1_ n2_ n3_ n4_
       clear ho hb hg hat
       obtain ⟨Ao19, co19, eo19⟩ := Kd.R_slice HO335.out
       (first | subst eo19 | (injection eo19 with f1_ f2_ f3_; have f4_ := f1_.symm; have f5_ := f3_.symm; clear f1_ f2_ f3_; subst f4_; subst f5_))
       refine hK.out _ _ ⟨(xae BK330.out 0).trans rfl, (xae BK330.out 1).trans rfl, (xae BK328.out 0).trans rfl, (xae BK328.out 1).trans rfl, (xae BK328.out 2).trans rfl, ((HB.out.cell (World.block_lt_of_cell? w _ hw332_0)).trans hw332_0), ((HB.out.cell (World.block_lt_of_cell? w _ hw332_1)).trans hw332_1), ((HB.out.cell (World.block_lt_of_cell? w _ hw332_2)).trans hw332_2), ((HB.out.cell (World.block_lt_of_cell? w _ hw332_3)).trans hw332_3), ((HB.out.cell (World.block_lt_of_cell? w _ hw332_4)).trans hw332_4)⟩ (fun hHeld => ?_)
       clear hK K
       refine norm_ (a' := ?_) ?_ ?_
       rotate_left
       ·show Act.put _ (some 33) _ = _
        simp only [Act.put, sI, sZ, sS, i64_w, i32_w]
        rfl
       refine pure_ (i := 10) (N := some 34) (v := ?_) (a' := ?_) #[true, true, true, true, true, true, true, true, true, true, true, false] rfl rfl (any_of HT_.out (by kernel_rfl)) (fun _ _ _ h => h) (Or.inl ⟨by rfl, ?_⟩) ?_ ?_
       rotate_left
       ·intro w'
        go_simp
        with_reducible rfl
       rotate_left
       ·simp only [Act.put, sI, sZ, sS, i64_w, i32_w]
        rfl
       refine last_ (i := 11) (N := none) #[true, true, true, true, true, true, true, true, true, true, true, true] rfl rfl (one_of HT_.out (by kernel_rfl)) (by decide) (fun K hK => ?_)
       have hs20 : w18.cell? ⟨gb330, 1, none⟩ = some (u331001) := (xae BK330.out 1).trans rfl
       have hfs20 := xal BK330.out 1
       have hns20_0 := NB328_330.out
       have hns20_1 := NB329_330.out
       have hms20_0 := NB330_328.out
       have hms20_1 := NB330_329.out
       refine skip_ (w1 := ?_) (by rfl) rfl ?_ ?_
       rotate_left
       ·go_simp
        rfl
       refine hK.out _ _ ?_
       clear hK K
       refine done_ (done_of HT_.out (by kernel_rfl)) ?_
       try go_wp2
       go_roundg k1
       case measure => have := HK1.out; omega
       case rel => exact ⟨(wrap64 (x5_1 + 1)), (x330000_1), (y333), (.slice Ao19 y333.length co19), (by first | rfl | (simp; done) | (simp [*]; done)), H', ⟨by have := HK1.out; omega⟩, ⟨by (with_reducible repeat (first | apply Kd.R_alloc | apply Kd.R_drewN | apply Kd.R_drew)); exact Kd.R_mono (Kd.R_far (p := ⟨gb330, 1, none⟩) (Kd.R_types HO335.out BK330.out (by decide)) (fun _ hk => hk.2) (.slice Ao19 y333.length co19)) (fun _ hk => trivial)⟩, ⟨by (with_reducible repeat (first | refine xag ?_ _ | refine xai ?_ | refine xaf ?_ _)); refine xax ?_ NB328_330.out _; (with_reducible repeat (first | refine xag ?_ _ | refine xai ?_ | refine xaf ?_ _)); exact BK328.out⟩, ⟨by (with_reducible repeat (first | refine xag ?_ _ | refine xai ?_ | refine xaf ?_ _)); refine xax ?_ NB329_330.out _; (with_reducible repeat (first | refine xag ?_ _ | refine xai ?_ | refine xaf ?_ _)); exact BK329.out⟩, ⟨by (with_reducible repeat (first | refine xag ?_ _ | refine xai ?_ | refine xaf ?_ _)); refine xas (cs := #[.string a0_0, u331001]) ?_ 1 _ rfl; (with_reducible repeat (first | refine xag ?_ _ | refine xai ?_ | refine xaf ?_ _)); exact BK330.out⟩, ⟨by repeat (first | (with_reducible first | exact HB.out | apply xab | apply xaa | apply xac | refine xad ?_ GE328.out | refine xad ?_ GE329.out | refine xad ?_ GE330.out) | exact HB.out)⟩⟩
      ·rw [if_neg c13] at H
       exact absurd H (by simp)
     ·rw [if_neg c12] at H
      have c12b0 : (((xaq l0_1 x5_1).f0) == 0) = false := beq_eq_false_iff_ne.mpr c12
      have c12b1 : (((xaq l0_1 x5_1).f0) != 0) = true := bne_iff_ne.mpr c12
      simp only [Option.some.injEq, Prod.mk.injEq] at H
      obtain ⟨rfl, rfl, rfl⟩ := H
      have hnb21 := NB328_329.out
      have hnc21 := NB329_328.out
      have hnb22 := NB328_330.out
      have hnc22 := NB330_328.out
      obtain ⟨hcz23_0, hcz23_1, hcz23_2⟩ := cz3 BK328.out
      obtain ⟨hfz23_0, hfz23_1, hfz23_2⟩ := fz3 BK328.out
      have p331 : 0 ≤ (x5_1 : Int) := of_decide_eq_true (by first | (with_reducible assumption) | assumption)
      have q331 : x5_1 < (l0_1.length : Int) := of_decide_eq_true (by first | (with_reducible assumption) | assumption)
      obtain ⟨ad331, e331, hx331_0, hx331_1, hx331_2, hx331_3, hx331_4⟩ := xbp HR0_1.out x5_1 p331 q331
      cases e331
      replace hx331_0 := (HB.out.cell (World.block_lt_of_cell? w _ hx331_0)).trans hx331_0
      replace hx331_1 := (HB.out.cell (World.block_lt_of_cell? w _ hx331_1)).trans hx331_1
      replace hx331_2 := (HB.out.cell (World.block_lt_of_cell? w _ hx331_2)).trans hx331_2
      replace hx331_3 := (HB.out.cell (World.block_lt_of_cell? w _ hx331_3)).trans hx331_3
      replace hx331_4 := (HB.out.cell (World.block_lt_of_cell? w _ hx331_4)).trans hx331_4
      replace p331 := eq_true p331
      replace q331 := eq_true q331
      have hnb24 := NB329_330.out
      have hnc24 := NB330_329.out
      obtain ⟨hcz25_0, hcz25_1⟩ := cz2 BK329.out
      obtain ⟨hfz25_0, hfz25_1⟩ := fz2 BK329.out
      go_wp2
      refine bodyPost_ret (results_ct rfl _ _ gb329 53 #[.string (⟨#[]⟩ : ByteArray), .slice none 0 0] (0, 0) _ rfl (by (with_reducible repeat (first | refine xag ?_ _ | refine xai ?_ | refine xaf ?_ _)); refine xas (cs := #[.string (⟨#[]⟩ : ByteArray), .slice none 0 0]) ?_ 1 _ rfl; (with_reducible repeat (first | refine xag ?_ _ | refine xai ?_ | refine xaf ?_ _)); refine xas (cs := #[.string x330000_1, .slice none 0 0]) ?_ 0 _ rfl; (with_reducible repeat (first | refine xag ?_ _ | refine xai ?_ | refine xaf ?_ _)); exact BK329.out) Tryd.underlying53 rfl (by kernel_rfl)) rfl ?_
      exact ⟨_, by first | rfl | (simp [xak, xaj] <;> rfl) | (simp [*, xak, xaj] <;> rfl), by first | exact Kd.R_nil _ _ _ _ _ | exact Kd.N_nil _ _ _ _ _ | exact Kd.V_nil _ _ _ _ _ | exact Kd.Q_nil _ _ _ _ _ | exact Kd.S_nil _ _ _ _ _, by repeat (first | (with_reducible first | exact HB.out | apply xab | apply xaa | apply xac | refine xad ?_ GE328.out | refine xad ?_ GE329.out | refine xad ?_ GE330.out) | exact HB.out)⟩
    ·rw [if_neg c11] at H
     exact absurd H (by simp)
   ·rw [if_neg c10] at H
    have c10b0 : decide (x5_1 < (l0_1.length : Int)) = false := decide_eq_false c10
    clear c10
    simp only [Option.some.injEq, Prod.mk.injEq] at H
    obtain ⟨rfl, rfl, rfl⟩ := H
    have hnb26 := NB328_329.out
    have hnc26 := NB329_328.out
    have hnb27 := NB328_330.out
    have hnc27 := NB330_328.out
    obtain ⟨hcz28_0, hcz28_1, hcz28_2⟩ := cz3 BK328.out
    obtain ⟨hfz28_0, hfz28_1, hfz28_2⟩ := fz3 BK328.out
    have hnb29 := NB330_329.out
    have hnc29 := NB329_330.out
    obtain ⟨hcz30_0, hcz30_1⟩ := cz2 BK330.out
    obtain ⟨hfz30_0, hfz30_1⟩ := fz2 BK330.out
    obtain ⟨hcz31_0, hcz31_1⟩ := cz2 BK329.out
    obtain ⟨hfz31_0, hfz31_1⟩ := fz2 BK329.out
    obtain ⟨Ao32, co32, eo32⟩ := Kd.R_slice HO_331001.out
    subst eo32
    go_wp2
    refine bodyPost_ret (results_ct rfl _ _ gb329 53 #[.string a0_0, .slice Ao32 x331001_1.length co32] (0, 0) _ rfl (by (with_reducible repeat (first | refine xag ?_ _ | refine xai ?_ | refine xaf ?_ _)); refine xas (cs := #[.string a0_0, .slice none 0 0]) ?_ 1 _ rfl; (with_reducible repeat (first | refine xag ?_ _ | refine xai ?_ | refine xaf ?_ _)); refine xas (cs := #[.string x330000_1, .slice none 0 0]) ?_ 0 _ rfl; (with_reducible repeat (first | refine xag ?_ _ | refine xai ?_ | refine xaf ?_ _)); exact BK329.out) Tryd.underlying53 rfl (by kernel_rfl)) rfl ?_
    exact ⟨_, by first | rfl | (simp [xak, xaj] <;> rfl) | (simp [*, xak, xaj] <;> rfl), by (with_reducible repeat (first | apply Kd.R_alloc | apply Kd.R_drewN | apply Kd.R_drew)); exact Kd.R_mono (Kd.R_far (p := ⟨gb329, 1, none⟩) (Kd.R_far (p := ⟨gb329, 0, none⟩) (Kd.R_types HO_331001.out BK329.out (by decide)) (fun _ hk => hk.2) (.string a0_0)) (fun _ hk => hk.2) (.slice Ao32 x331001_1.length co32)) (fun _ hk => trivial), by repeat (first | (with_reducible first | exact HB.out | apply xab | apply xaa | apply xac | refine xad ?_ GE328.out | refine xad ?_ GE329.out | refine xad ?_ GE330.out) | exact HB.out)⟩
def term_Head.l0 : Nat → List (S125) → Int → Int → ByteArray → List (S28) → Option (ByteArray × (List (S28)) × Bool)
 | 0, _, _, _, _, _ => none
 | k + 1, x11, x12, x13, x339000, x339001 => if x13 < x12 then (if 0 ≤ x13 then (if x13 < (x11.length : Int) then (if ((xaq x11 x13).f0) = 0 then (if x339001.length < 2932031007402 then (term_Head.l0 k x11 x12 (wrap64 (x13 + 1)) x339000 (x339001 ++ [(⟨(xaq x11 x13).f1.f0, (⟨(xaq x11 x13).f1.f1.f0, (xaq x11 x13).f1.f1.f1, (xaq x11 x13).f1.f1.f2⟩ : S26)⟩ : S28)])) else (none)) else (some ((⟨#[]⟩ : ByteArray), ([] : List (S28)), false))) else (none)) else (none)) else (some (x339000, x339001, true))
def term_Head.f (k : Nat) (a0_0 : ByteArray) (l0_1 : List (S125)) (l0_2 : List (S56)) : Option (ByteArray × (List (S28)) × Bool) := term_Head.l0 k l0_1 (l0_1.length : Int) 0 a0_0 ([] : List (S28))
end Go.Proofs.YtllcmggmcogokaaDoor.PAll
end
