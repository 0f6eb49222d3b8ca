-- Written by programs of this work and by hand, joined by a program. Lean checks it.
import Derived.Lib.BufferWrite
import Derived.Laws.RangeAny
import Derived.Laws.OwnMore
import Derived.Laws.BytesString
import Derived.Laws.CopyOwn
import Derived.Laws.DeepStrings4
import Derived.Maps.OwnOps
import Derived.Maps.OwnSet
import Derived.Lib.LaidTab
import Derived.WalkSmall
import Derived.Recover
import Derived.Defers
import Derived.Test.YtllcmggmcogokaaDoorEvaA2
set_option linter.unusedVariables false
set_option linter.unusedSimpArgs false
section
namespace Go.Proofs.YtllcmggmcogokaaDoor.PAll
open Go.RowKit Go.Proofs.YtllcmggmcogokaaDoorW.PrintWords Go.Proofs.YtllcmggmcogokaaDoorW.PrintLast Go.Proofs.YtllcmggmcogokaaDoorW.PrintMore
attribute [local go_sem] max2_int min2_int max_two min_two max_three min_three max_four min_four
mutual
def r4_atom.j0 : Nat → Bool → ByteArray → List (S28) → Option (Bool)
 | 0, _, _, _ => none
 | k + 1, x13, x276000, x276001 => if x13 = true then (some false) else (r4_atom.l0 k 0 x276000 x276001)
def r4_atom.l0 : Nat → Int → ByteArray → List (S28) → Option (Bool)
 | 0, _, _, _ => none
 | k + 1, x3, x276000, x276001 => if x3 < (x276001.length : Int) then (if 0 ≤ x3 then ((r4_term.f k ((rd_T28 x276001 x3).f0) ((rd_T28 x276001 x3).f1.f0) ((rd_T28 x276001 x3).f1.f1) ((rd_T28 x276001 x3).f1.f2)).bind fun t278 => (if t278 = true then (r4_atom.l0 k (wrap64 (x3 + 1)) x276000 x276001) else (some false))) else (none)) else (some true)
end
theorem bt_list (s : ByteArray) (i : Nat) (h : i < s.data.toList.length) : bt s (i : Int) = ((s.data.toList[i]).toNat : Int) := by
 have hs : i < s.size := by simpa using h
 rw [← bt_at s (i : Int) (by simpa using hs)]
 rfl
theorem letter_eq (c : Nat) : r1_letter.f (c : Int) = some (letterN c) := by
 unfold r1_letter.f letterN
 repeat' split
 all_goals (refine congrArg some ?_; rw [Bool.eq_iff_iff]; simp; try omega)
theorem written_l0 (s : ByteArray) (hs : s.size ≤ 1000) : ∀ (m i : Nat), s.data.toList.length - i = m → i ≤ s.data.toList.length → Ev (fun k => r1_written.l0 k s (i : Int)) ((s.data.toList.drop i).all fun c => letterN c.toNat)
 | 0, i, hm, hi => by
  have hz : s.data.toList.length = s.size := by simp
  refine Ev.of (fun k => ?_)
  rw [r1_written.l0, if_neg (by omega), List.drop_eq_nil_of_le (by omega)]
  rfl
 | m + 1, i, hm, hi => by
  have hz : s.data.toList.length = s.size := by simp
  have hlt : i < s.data.toList.length := by omega
  have ih := written_l0 s hs m (i + 1) (by omega) (by omega)
  rw [List.drop_eq_getElem_cons hlt, List.all_cons]
  cases hb : letterN (s.data.toList[i]).toNat with
  | false =>
   refine Ev.of (fun k => ?_)
   rw [r1_written.l0, if_pos (by omega), if_pos (by omega), bt_list s i hlt, letter_eq, hb]
   rfl
  | true =>
   rw [Bool.true_and]
   refine ih.step (fun k => ?_)
   rw [r1_written.l0, if_pos (by omega), if_pos (by omega), bt_list s i hlt, letter_eq, hb, w64 (by omega) (by omega)]
   rfl
def wordB (s : ByteArray) (lo hi : Int) : Bool := decide (0 < s.size) && decide (s.size ≤ 120) && decide (lo ≤ bt s 0) && decide (bt s 0 ≤ hi) && lettersFrom s.data.toList
theorem term_word_eq (s : ByteArray) (lo hi : Int) : term_word.f s lo hi = some (wordB s lo hi) := rfl
theorem written_ev (s : ByteArray) (lo hi : Int) (hlo : ∀ c : Nat, lo ≤ (c : Int) → (c : Int) ≤ hi → letterN c = true) : Ev (fun k => r1_written.f k s lo hi) (wordB s lo hi) := by
 have hz : s.data.toList.length = s.size := by simp
 have hj : Ev (fun k => r1_written.j0 k s true) false := Ev.of (fun k => by rw [r1_written.j0, if_pos rfl])
 by_cases h0 : (s.size : Int) < 1
 ·have e : wordB s lo hi = false := by simp [wordB, show ¬ 0 < s.size by omega]
  rw [e]
  exact hj.cong (fun k => by rw [r1_written.f, if_pos h0])
 by_cases h1 : (s.size : Int) > 120
 ·have e : wordB s lo hi = false := by simp [wordB, show ¬ s.size ≤ 120 by omega]
  rw [e]
  exact hj.cong (fun k => by rw [r1_written.f, if_neg h0, if_pos h1])
 by_cases h2 : bt s 0 < lo
 ·have e : wordB s lo hi = false := by simp [wordB, show ¬ lo ≤ bt s 0 by omega]
  rw [e]
  exact hj.cong (fun k => by rw [r1_written.f, if_neg h0, if_neg h1, if_pos (by omega), if_pos h2])
 by_cases h3 : bt s 0 > hi
 ·have e : wordB s lo hi = false := by simp [wordB, show ¬ bt s 0 ≤ hi by omega]
  rw [e]
  exact hj.cong (fun k => by rw [r1_written.f, if_neg h0, if_neg h1, if_pos (by omega), if_neg h2, decide_eq_true h3])
 have hlt : 0 < s.data.toList.length := by omega
 have hb := bt_list s 0 hlt
 have hl : letterN (s.data.toList[0]).toNat = true := hlo _ (by rw [← hb]; simp; omega) (by rw [← hb]; simp; omega)
 have e : wordB s lo hi = ((s.data.toList.drop 1).all fun c => letterN c.toNat) := by
  rw [wordB, decide_eq_true (by omega), decide_eq_true (by omega), decide_eq_true (by omega), decide_eq_true (by omega), lettersFrom]
  conv => lhs; rw [show s.data.toList = s.data.toList[0] :: s.data.toList.drop 1 from by rw [← List.drop_eq_getElem_cons hlt]; rfl]
  rw [List.all_cons, hl]
  rfl
 rw [e]
 have h := written_l0 s (by omega) _ 1 rfl (by omega)
 have h' : Ev (fun k => r1_written.j0 k s false) _ := h.step (fun k => by rw [r1_written.j0, if_neg (by simp)]; rfl)
 exact h'.cong (fun k => by rw [r1_written.f, if_neg h0, if_neg h1, if_pos (by omega), if_neg h2, decide_eq_false h3])
theorem upper_letter (c : Nat) (h : (65 : Int) ≤ c) (h2 : (c : Int) ≤ 90) : letterN c = true := by simp [letterN]; omega
theorem value_same (a b : Int) (s : ByteArray) : r1_Check.f a b s = value_Check.f a b s := by
 unfold r1_Check.f value_Check.f
 by_cases h1 : a = 1
 ·rw [if_pos h1, if_pos h1, if_neg (show ¬ a = 2 by omega)]
 ·rw [if_neg h1, if_neg h1]
theorem value_tot (a b : Int) (s : ByteArray) : ∃ r, value_Check.f a b s = some r := by
 unfold value_Check.f
 repeat' split
 all_goals exact ⟨_, rfl⟩
theorem Ev.of_bind {α β : Type} {f : Nat → Option α} {r : α} {g : α → Option β} {s : β} (h : Ev f r) (h2 : g r = some s) : Ev (fun k => (f k).bind g) s := Ev.bind (g := fun _ => g) h (Ev.const (fun _ => h2))
theorem term_ev (t : S28) : Ev (fun k => r4_term.f k t.f0 t.f1.f0 t.f1.f1 t.f1.f2) (!termBad t) := by
 unfold termBad
 by_cases h0 : t.f0.toList = []
 ·obtain ⟨r, hr⟩ := value_tot t.f1.f0 t.f1.f1 t.f1.f2
  refine Ev.const (fun k => ?_)
  rw [r4_term.f, if_pos h0, value_same, hr, term_CheckTerm.f, if_pos h0, hr]
  show some _ = some _
  congr 1
  by_cases hq : r = 0 <;> simp [term_code.f, hq]
 ·by_cases h1 : t.f0.toList = [95]
  ·refine Ev.const (fun k => ?_)
   rw [r4_term.f, if_neg h0, if_pos h1, term_CheckTerm.f, if_neg h0]
   cases hq : (t.f1.f0 == 0 && (t.f1.f1 == 0 && (t.f1.f2.toList == ([] : List UInt8)))) with
   | true => rw [if_pos rfl, if_pos h1]; simp [term_code.f]
   | false => rw [if_neg (by simp)]; simp [term_code.f]
  ·refine Ev.cong (f := fun k => (r1_Variable.f k t.f0).bind fun t182 => (if t182 = true then (some (t.f1.f0 == 0 && (t.f1.f1 == 0 && (t.f1.f2.toList == ([] : List UInt8))))) else (some false))) ?_ (fun k => by rw [r4_term.f, if_neg h0, if_neg h1])
   have hv : Ev (fun k => r1_Variable.f k t.f0) (wordB t.f0 65 90) := Ev.of_bind (g := fun x => some x) (written_ev t.f0 65 90 upper_letter) rfl
   refine Ev.of_bind hv ?_
   rw [term_CheckTerm.f, if_neg h0, term_word_eq]
   clear hv
   generalize wordB t.f0 65 90 = wb
   cases hq : (t.f1.f0 == 0 && (t.f1.f1 == 0 && (t.f1.f2.toList == ([] : List UInt8)))) with
   | true => rw [if_pos rfl, if_neg h1]; cases wb <;> simp [term_code.f]
   | false => rw [if_neg (show ¬ (false = true) by simp)]; cases wb <;> simp [term_code.f]
theorem solid_bad (t : S28) : solidB t = (decide (t.f0.toList ≠ [95]) && !termBad t) := by
 unfold solidB term_solid.f termBad
 by_cases h : t.f0.toList = [95]
 ·rw [if_pos h]; simp [h]
 ·rw [if_neg h, term_CheckTerm_tot t]
  simp [h, bne]
theorem kids_eq (op : Int) (k : Nat) : r4_kids.f (k + 1) op = some (arityOf op) := by
 unfold r4_kids.f arityOf r4_kids.j0
 repeat' split
 all_goals first | rfl | omega | (simp_all; done) | (simp_all; omega)
theorem expr_l0 (n : Nat) (hn : n ≤ 100) (ih : ∀ e : S31, Ev (fun k => r4_expr.f k e.f0 e.f1.f0 e.f1.f1.f0 e.f1.f1.f1 e.f1.f1.f2 e.f2 (n : Int)) (deepB n e)) (a0 : Int) (a1 : ByteArray) (a2 a3 : Int) (a4 : ByteArray) (l : List S31) (hl : l.length ≤ 1000) :
  ∀ (m i : Nat), l.length - i = m → i ≤ l.length → Ev (fun k => r4_expr.l0 k ((n + 1 : Nat) : Int) (i : Int) a0 a1 a2 a3 a4 l) ((l.drop i).all (deepB n))
 | 0, i, hm, hi => by
  refine Ev.of (fun k => ?_)
  rw [r4_expr.l0, if_neg (by omega), List.drop_eq_nil_of_le (by omega)]
  rfl
 | m + 1, i, hm, hi => by
  have hlt : i < l.length := by omega
  have e : rd_T31 l (i : Int) = l[i] := by rw [rd_T31, List.getD_eq_getElem?_getD, Int.toNat_natCast, List.getElem?_eq_getElem hlt]; rfl
  have h1 := expr_l0 n hn ih a0 a1 a2 a3 a4 l hl m (i + 1) (by omega) (by omega)
  have h2 := ih l[i]
  rw [List.drop_eq_getElem_cons hlt, List.all_cons]
  rw [← e] at h2 ⊢
  have h3 : Ev (fun k => (r4_expr.f k (rd_T31 l (i : Int)).f0 (rd_T31 l (i : Int)).f1.f0 (rd_T31 l (i : Int)).f1.f1.f0 (rd_T31 l (i : Int)).f1.f1.f1 (rd_T31 l (i : Int)).f1.f1.f2 (rd_T31 l (i : Int)).f2 (n : Int)).bind fun t => if t = true then r4_expr.l0 k ((n + 1 : Nat) : Int) ((i + 1 : Nat) : Int) a0 a1 a2 a3 a4 l else some false) (deepB n (rd_T31 l (i : Int)) && (l.drop (i + 1)).all (deepB n)) := by
   refine Ev.bind (g := fun k t => if t = true then r4_expr.l0 k ((n + 1 : Nat) : Int) ((i + 1 : Nat) : Int) a0 a1 a2 a3 a4 l else some false) h2 ?_
   cases deepB n (rd_T31 l (i : Int)) with
   | false => exact Ev.const (fun k => by simp)
   | true => rw [Bool.true_and]; exact h1.cong (fun k => by simp)
  refine h3.step (fun k => ?_)
  rw [r4_expr.l0, if_pos (by omega), if_pos (by omega), w64 (by omega) (by omega), w64 (by omega) (by omega), show (((n + 1 : Nat) : Int) - 1) = (n : Int) by omega]
  rfl
theorem expr_ev : ∀ (n : Nat), n ≤ 100 → ∀ e : S31, Ev (fun k => r4_expr.f k e.f0 e.f1.f0 e.f1.f1.f0 e.f1.f1.f1 e.f1.f1.f2 e.f2 (n : Int)) (deepB n e)
 | 0, _, e => Ev.of (fun k => by rw [r4_expr.f, if_pos (by simp), deepB])
 | n + 1, hn, e => by
  have ih := expr_ev n (by omega)
  have hne : ¬ ((n + 1 : Nat) : Int) = 0 := by omega
  rw [deepB]
  by_cases h0 : e.f0 = 0
  ·rw [if_pos h0, solid_bad]
   by_cases h1 : (e.f2.length : Int) = 0
   ·by_cases h2 : e.f1.f0.toList = [95]
    ·refine Ev.of (fun k => ?_)
     rw [r4_expr.f, if_neg hne, if_pos h0, if_pos h1, if_pos h2]
     simp [h2]
    ·have h3 : Ev (fun k => (r4_term.f k e.f1.f0 e.f1.f1.f0 e.f1.f1.f1 e.f1.f1.f2).bind fun t => some t) (!termBad e.f1) := Ev.of_bind (g := fun x => some x) (term_ev e.f1) rfl
     rw [show (decide (e.f2.length = 0) && (decide (e.f1.f0.toList ≠ [95]) && !termBad e.f1)) = !termBad e.f1 by simp [h2, show e.f2.length = 0 by omega]]
     refine h3.step (fun k => ?_)
     rw [r4_expr.f, if_neg hne, if_pos h0, if_pos h1, if_neg h2]
   ·refine Ev.of (fun k => ?_)
    rw [r4_expr.f, if_neg hne, if_pos h0, if_neg h1, decide_eq_false (by omega)]
    rfl
  ·rw [if_neg h0]
   have hN : noneB e.f1 = (e.f1.f0.toList == ([] : List UInt8) && ((e.f1.f1.f0 == 0 && (e.f1.f1.f1 == 0 && (e.f1.f1.f2.toList == ([] : List UInt8)))))) := rfl
   have hj : Ev (fun k => r4_expr.j0 k ((n + 1 : Nat) : Int) true e.f0 e.f1.f0 e.f1.f1.f0 e.f1.f1.f1 e.f1.f1.f2 e.f2) false := Ev.of (fun k => by rw [r4_expr.j0, if_pos rfl])
   cases hq : noneB e.f1 with
   | false =>
    rw [Bool.false_and, Bool.false_and]
    refine hj.step (fun k => ?_)
    rw [r4_expr.f, if_neg hne, if_neg h0, if_pos ?_]
    rw [hN] at hq
    rw [← Bool.not_and, ← Bool.not_and, ← Bool.not_and, hq]
    rfl
   | true =>
    rw [Bool.true_and]
    have hc : ¬ ((!(e.f1.f0.toList == ([] : List UInt8)) || ((!(e.f1.f1.f0 == 0) || (!(e.f1.f1.f1 == 0) || (!(e.f1.f1.f2.toList == ([] : List UInt8))))))) = true) := by
     rw [hN] at hq
     rw [← Bool.not_and, ← Bool.not_and, ← Bool.not_and, hq]
     simp
    have main : Ev (fun k => r4_expr.j0 k ((n + 1 : Nat) : Int) ((e.f2.length : Int) != arityOf e.f0) e.f0 e.f1.f0 e.f1.f1.f0 e.f1.f1.f1 e.f1.f1.f2 e.f2) (decide ((e.f2.length : Int) = arityOf e.f0) && e.f2.all (deepB n)) := by
     by_cases hk : (e.f2.length : Int) = arityOf e.f0
     ·have har : arityOf e.f0 ≤ 2 := by unfold arityOf; repeat' split <;> omega
      have h4 := expr_l0 n (by omega) ih e.f0 e.f1.f0 e.f1.f1.f0 e.f1.f1.f1 e.f1.f1.f2 e.f2 (by omega) _ 0 rfl (Nat.zero_le _)
      rw [List.drop_zero] at h4
      rw [decide_eq_true hk, Bool.true_and]
      refine h4.step (fun k => ?_)
      rw [r4_expr.j0, if_neg (by simp [hk])]
      rfl
     ·rw [decide_eq_false hk, Bool.false_and]
      refine Ev.of (fun k => ?_)
      rw [r4_expr.j0, if_pos (by simpa using hk)]
    obtain ⟨k0, hk0⟩ := main
    refine ⟨k0 + 2, fun k hk => ?_⟩
    obtain ⟨j, rfl⟩ : ∃ j, k = j + 2 := ⟨k - 2, by omega⟩
    show r4_expr.f (j + 1 + 1) _ _ _ _ _ _ _ = _
    rw [r4_expr.f, if_neg hne, if_neg h0, if_neg hc, kids_eq]
    exact hk0 (j + 1) (by omega)
theorem checkExpr_eq (x : S31) : term_CheckExpr.f x.f0 x.f1.f0 x.f1.f1.f0 x.f1.f1.f1 x.f1.f1.f2 x.f2 = some (if deepB 8 x then 0 else 40) := by
 rw [term_CheckExpr.f, term_deep.f, if_pos ⟨by decide, by decide⟩, eta_expr]
 show (term_code.f (deepB 8 x)).bind _ = _
 cases deepB 8 x <;> rfl
def OpensAt {α : Type} (P : Program) (d : Kd α) (Fit : α → Prop) (t : TypeId) (fuel : Nat) : Prop :=
 ∀ (H : Type) (enc : TypeId × Value → H) (W : World) (cs : List Value) (x : DataW H × List MemPlace), DataW.trod enc P W 0 (fun _ => true) true fuel t cs = some x → (∀ n ∈ x.1.weights P t, n ≤ reachBytes) → ∃ a, d.K W a cs ∧ Fit a
theorem opens_int {P : Program} {k : IntKind} {t : TypeId} (ht : P.underlying t = some (.int k)) (fuel : Nat) : OpensAt P (Kd.int k) (fun n => (Lit.int k n).wf = true) t fuel := by
 intro H enc W cs x h _
 obtain ⟨n, rfl, _, hw⟩ := DataW.trod_int ht h
 exact ⟨n, rfl, hw⟩
theorem opens_string {P : Program} {t : TypeId} (ht : P.underlying t = some .string) (fuel : Nat) : OpensAt P Kd.string (fun s => s.size ≤ reachBytes) t fuel := by
 intro H enc W cs x h hw
 obtain ⟨s, rfl, rfl, _⟩ := DataW.trod_string ht h
 refine ⟨s, rfl, ?_⟩
 have := hw s.data.toList.length (by simp [DataW.weights])
 simpa using this
theorem mem_weightsAll {H : Type} {P : Program} {e : TypeId} : ∀ {l : List (DataW H)} {d : DataW H} {n : Nat}, d ∈ l → n ∈ d.weights P e → n ∈ DataW.weightsAll P e l
 | c :: l, d, n, hd, hn => by
  rw [DataW.weightsAll]
  rcases List.mem_cons.1 hd with rfl | hd
  ·exact List.mem_append_left _ hn
  ·exact List.mem_append_right _ (mem_weightsAll hd hn)
theorem cells_of_cells? {w : World} {a : Addr} {n : Nat} {cs : List Value} (h : w.cells? 0 a n = some cs) : cs.length = n ∧ ∀ i u, cs[i]? = some u → w.cell? (a.add i) = some u := by
 unfold World.cells? at h
 rw [if_pos (Nat.zero_le _)] at h
 have key : ∀ (l : List Nat) (cs : List Value), (l.mapM fun i => w.cell? (a.add i)) = some cs → cs.length = l.length ∧ ∀ (i : Nat) (u : Value) (j : Nat), l[i]? = some j → cs[i]? = some u → w.cell? (a.add j) = some u := by
  intro l
  induction l with
  | nil => intro cs h; simp at h; subst h; simp
  | cons j l ih =>
   intro cs h
   rw [List.mapM_cons] at h
   cases h1 : w.cell? (a.add j) with
   | none => rw [h1] at h; simp at h
   | some v =>
    rw [h1] at h
    cases h2 : (l.mapM fun i => w.cell? (a.add i)) with
    | none => rw [h2] at h; simp at h
    | some vs =>
     rw [h2] at h
     simp at h
     subst h
     obtain ⟨g1, g2⟩ := ih vs h2
     refine ⟨by simp [g1], fun i u q hq hu => ?_⟩
     cases i with
     | zero => simp at hq hu; subst hq; subst hu; exact h1
     | succ i => exact g2 i u q (by simpa using hq) (by simpa using hu)
 obtain ⟨h1, h2⟩ := key _ _ h
 refine ⟨by simpa using h1, fun i u hu => h2 i u i ?_ hu⟩
 have := (List.getElem?_eq_some_iff.1 hu).1
 simp at h1
 rw [List.getElem?_range (by omega)]
theorem opens_slice {α : Type} {P : Program} {d : Kd α} {Fit : α → Prop} {t e : TypeId} {B fuel : Nat} (ht : P.underlying t = some (.slice e)) (hc : P.cellsOf e = d.sz) (hB : P.bytesOf e = B) (hd : ∀ n, n < fuel → OpensAt P d Fit e n) :
  OpensAt P (Kd.slice e d) (fun xs => xs.length * B ≤ reachBytes ∧ ∀ x ∈ xs, Fit x) t fuel := by
 intro H enc W cs x h hw
 rcases DataW.trod_slice ht h with ⟨rfl, rfl⟩ | ⟨a, len, cap, elems, rest, n, rfl, rfl, rfl, _, hl, hm, he, hel, _, _⟩
 ·exact ⟨[], ⟨none, 0, rfl, Nat.le_refl _, Kd.C_nil _ _⟩, by simp, by simp⟩
 ·have hlen : len * B ≤ reachBytes := by
   have := hw ((elems.length + rest.length) * B) (by simp [DataW.weights, ht, hB])
   exact Nat.le_trans (Nat.mul_le_mul_right _ (by omega)) this
  have hone : ∀ i, i < len → ∃ cs' y a', elems[i]? = some y ∧ W.cells? 0 (a.add (i * d.sz)) d.sz = some cs' ∧ d.K W a' cs' ∧ Fit a' := by
   intro i hi
   have h1 := hel i hi
   rw [hc] at h1
   have hy := List.getElem?_eq_getElem (show i < elems.length by omega)
   rw [hy] at h1
   obtain ⟨cs', hcs, hx⟩ := Option.bind_eq_some_iff.1 h1
   obtain ⟨a', hK, hF⟩ := hd n (Nat.lt_succ_self _) H enc W cs' elems[i] hx (fun q hq => hw q (by
    simp only [DataW.weights, ht]
    refine List.mem_cons_of_mem _ (List.mem_append_left _ (mem_weightsAll (List.mem_map_of_mem (List.getElem_mem (show i < elems.length by omega))) hq))))
   exact ⟨cs', elems[i], a', hy, hcs, hK, hF⟩
  have hall : ∀ m : Nat, m ≤ len → ∃ xs : List α, xs.length = m ∧ ∀ i, (hi : i < xs.length) → ∃ cs', W.cells? 0 (a.add (i * d.sz)) d.sz = some cs' ∧ d.K W xs[i] cs' ∧ Fit xs[i] := by
   intro m
   induction m with
   | zero => exact fun _ => ⟨[], rfl, fun i hi => absurd hi (Nat.not_lt_zero _)⟩
   | succ m ih =>
    intro hm
    obtain ⟨xs, h1, h2⟩ := ih (by omega)
    obtain ⟨cs', y, a', _, hcs, hK, hF⟩ := hone m (by omega)
    refine ⟨xs ++ [a'], by simp [h1], fun i hi => ?_⟩
    rcases Nat.lt_or_ge i xs.length with hlt | hge
    ·rw [List.getElem_append_left hlt]
     exact h2 i hlt
    ·have : i = m := by simp at hi; omega
     subst this
     rw [List.getElem_append_right (by omega)]
     simp only [h1, Nat.sub_self, List.getElem_cons_zero]
     exact ⟨cs', hcs, hK, hF⟩
  obtain ⟨xs, hx1, hx2⟩ := hall len (Nat.le_refl _)
  subst hx1
  refine ⟨xs, ⟨some a, cap, rfl, hl, rfl, Nat.le_trans hl (by simpa [maxLen] using hm), fun _ => ⟨a, rfl, fun j p hj => ?_⟩⟩, hlen, fun y hy => ?_⟩
  ·obtain ⟨hjl, rfl⟩ := List.getElem?_eq_some_iff.1 hj
   obtain ⟨cs', hcs, hK, _⟩ := hx2 j hjl
   obtain ⟨g1, g2⟩ := cells_of_cells? hcs
   refine ⟨cs', g1, hK, fun i u hu => ?_⟩
   rw [← add_add]
   exact g2 i u hu
  ·obtain ⟨j, hj, rfl⟩ := List.getElem_of_mem hy
   obtain ⟨_, _, _, hF⟩ := hx2 j hj
   exact hF
def OpensSeq {α : Type} (P : Program) (d : Kd α) (Fit : α → Prop) (fs : List Field) (off : Nat) (fuel : Nat) : Prop :=
 ∀ (H : Type) (enc : TypeId × Value → H) (W : World) (cs : List Value) (xs : List (DataW H × List MemPlace)), (∀ (i : Nat) (f : Field), fs[i]? = some f → DataW.trod enc P W 0 (fun _ => true) true fuel f.type ((cs.drop f.offset).take (P.cellsOf f.type)) = xs[i]?) → xs.length = fs.length →
  (∀ n ∈ DataW.weightsEach P (fs.map (·.type)) (xs.map (·.1)), n ≤ reachBytes) → cs.length = off + d.sz → ∃ a, d.K W a (cs.drop off) ∧ Fit a
theorem opens_last {α : Type} {P : Program} {d : Kd α} {Fit : α → Prop} {f : Field} {off fuel : Nat} (ho : f.offset = off) (hc : P.cellsOf f.type = d.sz) (hd : OpensAt P d Fit f.type fuel) : OpensSeq P d Fit [f] off fuel := by
 intro H enc W cs xs h hl hw hcs
 match xs, hl with
 | [x], _ =>
  have h0 := h 0 f rfl
  rw [ho, hc, List.take_of_length_le (by rw [List.length_drop]; omega)] at h0
  exact hd H enc W _ x h0 (fun n hn => hw n (by simp [DataW.weightsEach, hn]))
theorem opens_cons {α β : Type} {P : Program} {d : Kd α} {d' : Kd β} {Fit : α → Prop} {Fit' : β → Prop} {f : Field} {fs : List Field} {off fuel : Nat} (ho : f.offset = off) (hc : P.cellsOf f.type = d.sz) (hd : OpensAt P d Fit f.type fuel) (hs : OpensSeq P d' Fit' fs (off + d.sz) fuel) :
  OpensSeq P (Kd.pair d d') (fun x => Fit x.1 ∧ Fit' x.2) (f :: fs) off fuel := by
 intro H enc W cs xs h hl hw hcs
 match xs, hl with
 | x :: xs, hl =>
  have h0 := h 0 f rfl
  rw [ho, hc] at h0
  have hcs' : cs.length = off + (d.sz + d'.sz) := hcs
  obtain ⟨a, hK, hF⟩ := hd H enc W _ x h0 (fun n hn => hw n (by simp only [List.map_cons, DataW.weightsEach]; exact List.mem_append_left _ hn))
  obtain ⟨b, hK2, hF2⟩ := hs H enc W cs xs (fun i g hg => by have := h (i + 1) g (by simpa using hg); simpa using this) (by simpa using hl) (fun n hn => hw n (by simp only [List.map_cons, DataW.weightsEach]; exact List.mem_append_right _ hn)) (by omega)
  refine ⟨(a, b), ⟨(cs.drop off).take d.sz, cs.drop (off + d.sz), ?_, hK, hK2⟩, hF, hF2⟩
  rw [← List.drop_drop, List.take_append_drop]
theorem opens_struct {α : Type} {P : Program} {d : Kd α} {Fit : α → Prop} {t : TypeId} {fs : Array Field} {fuel : Nat} (ht : P.underlying t = some (.struct fs)) (hc : P.cellsOf t = d.sz) (hs : ∀ n, n < fuel → OpensSeq P d Fit fs.toList 0 n) : OpensAt P d Fit t fuel := by
 intro H enc W cs x h hw
 obtain ⟨xs, n, rfl, rfl, hl, hx, hf⟩ := DataW.trod_struct ht h
 have := hs n (Nat.lt_succ_self _) H enc W cs xs (fun i f hi => hf i f (by simpa using hi)) (by simpa using hx) (fun q hq => hw q (by simp only [DataW.weights, ht]; exact hq)) (by omega)
 simpa using this
theorem opensSeq_iso {α β : Type} {P : Program} {d : Kd α} {Fit : α → Prop} {f : β → α} (g : α → β) (hg : ∀ x, f (g x) = x) {fs : List Field} {off fuel : Nat} (h : OpensSeq P d Fit fs off fuel) : OpensSeq P (Kd.iso d f) (fun y => Fit (f y)) fs off fuel := by
 intro H enc W cs xs h1 h2 h3 h4
 obtain ⟨a, hK, hF⟩ := h H enc W cs xs h1 h2 h3 h4
 exact ⟨g a, by show d.K W (f (g a)) _; rw [hg]; exact hK, by show Fit (f (g a)); rw [hg]; exact hF⟩
abbrev FV (x : S26) : Prop := (Lit.int .i8 x.f0).wf = true ∧ (Lit.int .i64 x.f1).wf = true ∧ x.f2.size ≤ reachBytes
theorem opens_value (fuel : Nat) : OpensAt Tryd.prog k26 FV 26 fuel :=
 opens_struct Tryd.underlying26 (by kernel_rfl) (fun n _ => opensSeq_iso (fun q : Int × Int × ByteArray => (⟨q.1, q.2.1, q.2.2⟩ : S26)) (fun _ => rfl) (opens_cons rfl (by kernel_rfl) (opens_int (by kernel_rfl) n) (opens_cons rfl (by kernel_rfl) (opens_int (by kernel_rfl) n) (opens_last rfl (by kernel_rfl) (opens_string (by kernel_rfl) n)))))
abbrev FT (x : S28) : Prop := x.f0.size ≤ reachBytes ∧ FV x.f1
theorem opens_term (fuel : Nat) : OpensAt Tryd.prog k28 FT 28 fuel :=
 opens_struct Tryd.underlying28 (by kernel_rfl) (fun n _ => opensSeq_iso (fun q : ByteArray × S26 => (⟨q.1, q.2⟩ : S28)) (fun _ => rfl) (opens_cons rfl (by kernel_rfl) (opens_string (by kernel_rfl) n) (opens_last rfl (by kernel_rfl) (opens_value n))))
def FE : Nat → S31 → Prop
 | 0, _ => False
 | n + 1, x => (Lit.int .i8 x.f0).wf = true ∧ FT x.f1 ∧ x.f2.length * 80 ≤ reachBytes ∧ ∀ k ∈ x.f2, FE n k
set_option maxRecDepth 100000 in
theorem opens_exprN : ∀ fuel : Nat, ∀ m, m ≤ fuel → OpensAt Tryd.prog (Kd.upto F31 6 [31] fuel) (FE fuel) 31 m
 | 0, m, hm => by
  obtain rfl : m = 0 := by omega
  intro H enc W cs x h _
  simp [DataW.trod] at h
 | fuel + 1, m, hm => by
  have ih := opens_exprN fuel
  refine opens_struct (d := F31 (Kd.upto F31 6 [31] fuel)) Tryd.underlying31 (show _ = 6 from by kernel_rfl) (fun n hn => ?_)
  have hs : (Kd.upto F31 6 [31] fuel).sz = 6 := sz31 fuel
  exact opensSeq_iso (fun q : Int × S28 × List S31 => (⟨q.1, q.2.1, q.2.2⟩ : S31)) (fun _ => rfl) (opens_cons rfl (by kernel_rfl) (opens_int (by kernel_rfl) n) (opens_cons rfl (by kernel_rfl) (opens_term n) (opens_last rfl (by kernel_rfl) (opens_slice Tryd.underlying29 (by rw [hs]; kernel_rfl) (by kernel_rfl) (fun j hj => ih j (by omega))))))
def FX (x : S31) : Prop := ∃ n, FE n x
theorem opens_expr (fuel : Nat) : OpensAt Tryd.prog k31 FX 31 fuel := by
 intro H enc W cs x h hw
 obtain ⟨a, hK, hF⟩ := opens_exprN fuel fuel (Nat.le_refl _) H enc W cs x h hw
 exact ⟨a, ⟨fuel, hK⟩, ⟨fuel, hF⟩⟩
end Go.Proofs.YtllcmggmcogokaaDoor.PAll
end
section
namespace Go.Proofs.YtllcmggmcogokaaDoor.PAll
open Go.RowKit Go.Proofs.YtllcmggmcogokaaDoorW.PrintWords Go.Proofs.YtllcmggmcogokaaDoorW.PrintLast Go.Proofs.YtllcmggmcogokaaDoorW.PrintMore
attribute [local go_sem] max2_int min2_int max_two min_two max_three min_three max_four min_four
open Go.Lib (byteCells byteCells_length byteCells_one)
structure BackAt (w0 : World) (s : ByteArray) (q : Nat) (R : List UInt8) (w : World) : Prop where
 below : Below w0.heap.size w0 w
 size : w0.heap.size + 5 ≤ w.heap.size
 b0 : w.heap[w0.heap.size]? = some (.cells #[.string s] 9 (0, 0))
 row : ∃ cur : Array Value, w.heap[w0.heap.size + 1]? = some (.cells cur 5 (0, 0)) ∧ cur.size = s.size ∧ cur.toList.drop (s.size - q) = byteCells R
 b2 : w.heap[w0.heap.size + 2]? = some (.cells #[.slice (some ⟨w0.heap.size + 1, 0, none⟩) s.size s.size] 150 (0, 0))
 b3 : w.heap[w0.heap.size + 3]? = some (.cells #[.int .i64 ((s.size : Int) - q)] 3 (0, 0))
 b4 : w.heap[w0.heap.size + 4]? = some (.cells #[.int .i64 q] 3 (0, 0))
theorem cut_off {P : Program} (t e : TypeId) (ht : P.underlying t = some (.slice e)) (hs : (P.info? e).map (·.size) = some 1) (g n k : Nat) (hk : k ≤ n) :
  ∃ o : Nat, (k = 0 → o = 0) ∧ (k ≠ 0 → o = n - k) ∧ ∀ W : World, (Instr.slice t (.slice (some ⟨g, 0, none⟩) n n) (some (.int .i64 ((n : Int) - k))) none none).run P W = .ok (.slice (some ⟨g, o, none⟩) k k) W := by
 obtain ⟨i, hi, h1⟩ : ∃ i, P.info? e = some i ∧ i.size = 1 := by
  cases hq : P.info? e with
  | none => simp [hq] at hs
  | some i => exact ⟨i, rfl, by simpa [hq] using hs⟩
 have hel : P.elem t = e := by simp [Program.elem, ht]
 have hu : P.underlying t = some (.slice (P.elem t)) := by rw [hel]; exact ht
 have e1 : ((n : Int) - k).toNat = n - k := by omega
 have hrun : ∀ W : World, (Instr.slice t (.slice (some ⟨g, 0, none⟩) n n) (some (.int .i64 ((n : Int) - k))) none none).run P W = .ok (sliced (some ⟨g, 0, none⟩) (n - k) n n 1) W := by
  intro W
  rw [run_slice_l W t _ n n hu .i64 _ (by omega) (by omega), hel, e1]
  simp [Go.sizeOf, typeInfo, hi, h1, Result.andThen]
 by_cases h0 : k = 0
 ·refine ⟨0, fun _ => rfl, fun h => absurd h0 h, fun W => ?_⟩
  rw [hrun W]
  subst h0
  simp [sliced, Addr.add]
 ·refine ⟨n - k, fun h => absurd h h0, fun _ => rfl, fun W => ?_⟩
  rw [hrun W]
  simp [sliced, Addr.add, show ¬ n = n - k by omega, show n - (n - k) = k by omega]
  omega
theorem cut_text {P : Program} (t : TypeId) (ht : P.underlying t = some .string) (s : ByteArray) (a b : Nat) (h1 : a ≤ b) (h2 : b ≤ s.size) :
  ∀ W : World, (Instr.slice t (.string s) (some (.int .i64 (a : Int))) (some (.int .i64 (b : Int))) none).run P W = .ok (.string (s.extract a b)) W := by
 intro W
 rw [run_slice_string_if W t s .i64 .i64 a b ht, if_pos (by omega), if_pos (by omega)]
 simp
theorem extract_list (s : ByteArray) (a b : Nat) : (s.extract a b).data.toList = (s.data.toList.drop a).take (b - a) := by
 rw [ByteArray.data_extract, Array.toList_extract]
theorem extract_size (s : ByteArray) (a b : Nat) (h1 : a ≤ b) (h2 : b ≤ s.size) : (s.extract a b).size = b - a := by
 rw [ByteArray.size_extract]; omega
set_option maxHeartbeats 1000000 in
set_option maxRecDepth 100000 in
theorem back_put (w0 : World) (s : ByteArray) (q i : Nat) (R : List UInt8) (w : World) (h : BackAt w0 s q R w) (hq : q ≤ i) (hi : i ≤ s.size) (hs : s.size ≤ 140737488351232) (r : Nat) (o : Obj) (hr : w0.heap.size + 5 ≤ r) (hro : w.heap[r]? = some o) :
  Calls Tryd.prog 103 #[.int .i64 i, .pointer (some ⟨w0.heap.size + 3, 0, none⟩), .pointer (some ⟨w0.heap.size + 4, 0, none⟩), .pointer (some ⟨w0.heap.size + 2, 0, none⟩), .pointer (some ⟨w0.heap.size, 0, none⟩)] w fun e w' =>
   e = .returned (.tuple #[]) ∧ BackAt w0 s i ((s.data.toList.drop q).take (i - q) ++ R) w' ∧ w'.heap[r]? = some o := by
 obtain ⟨cur, hg, hcs, hcR⟩ := h.row
 have s3 : w.cell? ⟨w0.heap.size + 3, 0, none⟩ = some (.int .i64 ((s.size : Int) - q)) := (xaj h.b3 0).trans rfl
 have f3 := xam h.b3 0
 have s4 : w.cell? ⟨w0.heap.size + 4, 0, none⟩ = some (.int .i64 q) := (xaj h.b4 0).trans rfl
 have HH := Lib.hid h
 have HG := Lib.hid hg
 have HRO := Lib.hid hro
 have HCR := Lib.hid hcR
 obtain ⟨off, ho0, ho1, hcut⟩ := cut_off (P := Tryd.prog) 150 5 Tryd.underlying150 (by kernel_rfl) (w0.heap.size + 1) s.size i hi
 have htext := cut_text (P := Tryd.prog) 9 Tryd.underlying9 s q i hq hi
 have hfit : off + (i - q) ≤ s.size := by by_cases h0 : i = 0 <;> simp_all <;> omega
 have hcopy : ∀ W : World, W.heap[w0.heap.size + 1]? = some (.cells cur 5 (0, 0)) → (Builtin.copy_ #[150, 9] 3 #[.slice (some ⟨w0.heap.size + 1, off, none⟩) i i, .string (s.extract q i)]).run Tryd.prog W =
   .ok (goInt (s.extract q i).size) (W.setRow (w0.heap.size + 1) (cur.toList.take off ++ byteCells (s.extract q i).data.toList ++ cur.toList.drop (off + (s.extract q i).size)).toArray) := fun W hW =>
  Go.Lib.run_copy_row_string W 150 9 3 5 (w0.heap.size + 1) off i i (s.extract q i) cur 5 Tryd.underlying150 (by kernel_rfl) hW (by rw [extract_size s q i hq hi]; omega) (by rw [extract_size s q i hq hi]; omega)
 have HCOPY := Lib.hid hcopy
 clear h hg hro hcR hcopy
 go_enter Tryd.func103, Tryd.ntmps103
 go_wp2_with fail
 rw [show ((s.size : Int) - q - ((i : Int) - q)) = (s.size : Int) - i by omega]
 have HB := Lib.hid (xag (j := 0) (v := .int .i64 ((s.size : Int) - i)) HH.out.below (show w0.heap.size ≤ w0.heap.size + 3 by omega))
 have HZ := Lib.hid (show w0.heap.size + 5 ≤ (w.setCell ⟨w0.heap.size + 3, 0, none⟩ (.int .i64 ((s.size : Int) - i))).heap.size by simpa using HH.out.size)
 have HP0 := Lib.hid (xay (p := ⟨w0.heap.size + 3, 0, none⟩) HH.out.b0 (show w0.heap.size ≠ w0.heap.size + 3 by omega) (.int .i64 ((s.size : Int) - i)))
 have HP1 := Lib.hid (xay (p := ⟨w0.heap.size + 3, 0, none⟩) HG.out (show w0.heap.size + 1 ≠ w0.heap.size + 3 by omega) (.int .i64 ((s.size : Int) - i)))
 have HP2 := Lib.hid (xay (p := ⟨w0.heap.size + 3, 0, none⟩) HH.out.b2 (show w0.heap.size + 2 ≠ w0.heap.size + 3 by omega) (.int .i64 ((s.size : Int) - i)))
 have HP4 := Lib.hid (xay (p := ⟨w0.heap.size + 3, 0, none⟩) HH.out.b4 (show w0.heap.size + 4 ≠ w0.heap.size + 3 by omega) (.int .i64 ((s.size : Int) - i)))
 have HPR := Lib.hid ((Below.heap_setCell w ⟨w0.heap.size + 3, 0, none⟩ (.int .i64 ((s.size : Int) - i)) r (show r ≠ w0.heap.size + 3 by omega)).trans HRO.out)
 have HP3 := Lib.hid (blk_set HH.out.b3 0 (.int .i64 ((s.size : Int) - i)))
 clear s3 f3 s4 HG HRO HH
 generalize w.setCell ⟨w0.heap.size + 3, 0, none⟩ (.int .i64 ((s.size : Int) - i)) = w1 at *
 refine start_ (n := 8) (S := fun w' => w'.cell? ⟨w0.heap.size + 2, 0, none⟩ = some (.slice (some ⟨w0.heap.size + 1, 0, none⟩) s.size s.size) ∧ w'.cell? ⟨w0.heap.size + 3, 0, none⟩ = some (.int .i64 ((s.size : Int) - i)) ∧ w'.cell? ⟨w0.heap.size, 0, none⟩ = some (.string s) ∧ w'.cell? ⟨w0.heap.size + 4, 0, none⟩ = some (.int .i64 q) ∧ Hid (w'.heap = w1.heap ∧ Below w0.heap.size w0 w')) (ds := [7]) #[false, false, false, false, false, false, false, false] (by kernel_rfl) rfl rfl ⟨((xaj HP2.out 0).trans rfl), ((xaj HP3.out 0).trans rfl), ((xaj HP0.out 0).trans rfl), ((xaj HP4.out 0).trans rfl), (Lib.hid ⟨rfl, xba HB.out⟩)⟩ (fun hHeld => ?_)
 refine pure_ (i := 5) (N := some 16) (v := ?_) (a' := ?_) #[false, false, false, false, false, true, false, false] rfl rfl (by kernel_rfl) (fun _ _ _ h => h) (Or.inl ⟨by rfl, ?_⟩) ?_ ?_
 rotate_left
 ·intro w'
  go_simp
  with_reducible rfl
 rotate_left
 ·simp only [Act.put, sI, sZ, sS, i64_w, i32_w]
  rfl
 refine take_ (i := 0) (N := some 11) (v := ?_) (a' := ?_) #[true, false, false, false, false, true, false, false] rfl rfl (by kernel_rfl) (fun _ _ _ h => h) (Or.inl ⟨by rfl, ?_⟩) hHeld ?_ ?_
 rotate_left
 ·rintro w' ⟨s0, s1, s2, s3, s4⟩
  go_simp
  with_reducible rfl
 rotate_left
 ·simp only [Act.put, sI, sZ, sS, i64_w, i32_w]
  rfl
 refine take_ (i := 1) (N := some 12) (v := ?_) (a' := ?_) #[true, true, false, false, false, true, false, false] rfl rfl (by kernel_rfl) (fun _ _ _ h => h) (Or.inl ⟨by rfl, ?_⟩) hHeld ?_ ?_
 rotate_left
 ·rintro w' ⟨s0, s1, s2, s3, s4⟩
  go_simp
  with_reducible rfl
 rotate_left
 ·simp only [Act.put, sI, sZ, sS, i64_w, i32_w]
  rfl
 refine pure_ (i := 2) (N := some 13) (v := ?_) (a' := ?_) #[true, true, true, false, false, true, false, false] rfl rfl (by kernel_rfl) (fun _ _ _ h => h) (Or.inl ⟨by rfl, ?_⟩) ?_ ?_
 rotate_left
 ·intro w'
  go_simp
  with_reducible rfl
 rotate_left
 ·simp only [Act.put, sI, sZ, sS, i64_w, i32_w]
  rfl
 refine take_ (i := 3) (N := some 14) (v := ?_) (a' := ?_) #[true, true, true, true, false, true, false, false] rfl rfl (by kernel_rfl) (fun _ _ _ h => h) (Or.inl ⟨by rfl, ?_⟩) hHeld ?_ ?_
 rotate_left
 ·rintro w' ⟨s0, s1, s2, s3, s4⟩
  go_simp
  with_reducible rfl
 rotate_left
 ·simp only [Act.put, sI, sZ, sS, i64_w, i32_w]
  rfl
 refine take_ (i := 4) (N := some 15) (v := ?_) (a' := ?_) #[true, true, true, true, true, true, false, false] rfl rfl (by kernel_rfl) (fun _ _ _ h => h) (Or.inl ⟨by rfl, ?_⟩) hHeld ?_ ?_
 rotate_left
 ·rintro w' ⟨s0, s1, s2, s3, s4⟩
  go_simp
  with_reducible rfl
 rotate_left
 ·simp only [Act.put, sI, sZ, sS, i64_w, i32_w]
  rfl
 refine pure_ (i := 6) (N := some 17) (v := ?_) (a' := ?_) #[true, true, true, true, true, true, true, false] rfl rfl (by kernel_rfl) (fun _ _ _ h => h) (Or.inl ⟨by rfl, ?_⟩) ?_ ?_
 rotate_left
 ·intro w'
  go_simp
  with_reducible rfl
 rotate_left
 ·simp only [Act.put, sI, sZ, sS, i64_w, i32_w]
  rfl
 refine last_ (i := 7) (N := some 18) #[true, true, true, true, true, true, true, true] rfl rfl (by kernel_rfl) (by decide) (fun K hK => ?_)
 obtain ⟨s0, s1, s2, s3, s4⟩ := hHeld
 have hcp := HCOPY.out _ ((congrArg (·[w0.heap.size + 1]?) s4.out.1).trans HP1.out)
 refine value_ (w1 := ?_) (v := ?_) (by rfl) rfl ?_ ?_
 rotate_left 2
 ·go_simp
  constructor
  ·rfl
  ·rfl
 refine hK.out _ _ ?_
 clear hK K
 refine norm_ (a' := ?_) ?_ ?_
 rotate_left
 ·show Act.put _ (some 18) _ = _
  simp only [Act.put, sI, sZ, sS, i64_w, i32_w]
  rfl
 refine done_ (by kernel_rfl) ?_
 have hsl : s.data.toList.length = s.size := by simp
 have hcl : cur.toList.length = s.size := by simpa using hcs
 have HN := Lib.hid (show ((List.take off cur.toList ++ (byteCells (List.take (i - q) (List.drop q s.data.toList)) ++ List.drop (off + (i - q)) cur.toList)).toArray).size = s.size ∧ ((List.take off cur.toList ++ (byteCells (List.take (i - q) (List.drop q s.data.toList)) ++ List.drop (off + (i - q)) cur.toList)).toArray).toList.drop (s.size - i) = byteCells ((s.data.toList.drop q).take (i - q) ++ R) by
  refine ⟨by simp only [List.size_toArray, List.length_append, byteCells_length, List.length_take, List.length_drop]; omega, ?_⟩
  by_cases h0 : i = 0
  ·have hq0 : q = 0 := by omega
   have hoff := ho0 h0
   subst h0 hq0 hoff
   simpa [byteCells] using HCR.out
  ·rw [ho1 h0]
   show List.drop (s.size - i) (List.take (s.size - i) cur.toList ++ _) = _
   rw [List.drop_append_of_le_length (by rw [List.length_take]; omega), List.drop_eq_nil_of_le (by rw [List.length_take]; omega), List.nil_append, show s.size - i + (i - q) = s.size - q by omega, HCR.out]
   simp [byteCells])
 have HQ1 := Lib.hid (setRow_heap w1.drew (w0.heap.size + 1) cur ((List.take off cur.toList ++ (byteCells (List.take (i - q) (List.drop q s.data.toList)) ++ List.drop (off + (i - q)) cur.toList)).toArray) 5 (0, 0) HP1.out)
 have HQ0 := Lib.hid ((setRow_other w1.drew (w0.heap.size + 1) w0.heap.size ((List.take off cur.toList ++ (byteCells (List.take (i - q) (List.drop q s.data.toList)) ++ List.drop (off + (i - q)) cur.toList)).toArray) (by omega)).trans HP0.out)
 have HQ2 := Lib.hid ((setRow_other w1.drew (w0.heap.size + 1) (w0.heap.size + 2) ((List.take off cur.toList ++ (byteCells (List.take (i - q) (List.drop q s.data.toList)) ++ List.drop (off + (i - q)) cur.toList)).toArray) (by omega)).trans HP2.out)
 have HQ3 := Lib.hid ((setRow_other w1.drew (w0.heap.size + 1) (w0.heap.size + 3) ((List.take off cur.toList ++ (byteCells (List.take (i - q) (List.drop q s.data.toList)) ++ List.drop (off + (i - q)) cur.toList)).toArray) (by omega)).trans HP3.out)
 have HQ4 := Lib.hid ((setRow_other w1.drew (w0.heap.size + 1) (w0.heap.size + 4) ((List.take off cur.toList ++ (byteCells (List.take (i - q) (List.drop q s.data.toList)) ++ List.drop (off + (i - q)) cur.toList)).toArray) (by omega)).trans HP4.out)
 have HQR := Lib.hid ((setRow_other w1.drew (w0.heap.size + 1) r ((List.take off cur.toList ++ (byteCells (List.take (i - q) (List.drop q s.data.toList)) ++ List.drop (off + (i - q)) cur.toList)).toArray) (by omega)).trans HPR.out)
 have HQB := Lib.hid (below_setRow (xba HB.out) (show w0.heap.size ≤ w0.heap.size + 1 by omega) ((List.take off cur.toList ++ (byteCells (List.take (i - q) (List.drop q s.data.toList)) ++ List.drop (off + (i - q)) cur.toList)).toArray))
 have HQZ := Lib.hid (show w0.heap.size + 5 ≤ (w1.drew.setRow (w0.heap.size + 1) ((List.take off cur.toList ++ (byteCells (List.take (i - q) (List.drop q s.data.toList)) ++ List.drop (off + (i - q)) cur.toList)).toArray)).heap.size by rw [size_setRow]; exact HZ.out)
 clear HP0 HP1 HP2 HP3 HP4 HPR HB HZ
 generalize w1.drew.setRow (w0.heap.size + 1) ((List.take off cur.toList ++ (byteCells (List.take (i - q) (List.drop q s.data.toList)) ++ List.drop (off + (i - q)) cur.toList)).toArray) = wz at *
 have s4 : wz.cell? ⟨w0.heap.size + 4, 0, none⟩ = some (.int .i64 q) := (xaj HQ4.out 0).trans rfl
 have f4 := xam HQ4.out 0
 go_wp2_with fail
 go_end0
 have e4 : (⟨w0.heap.size + 4, 0, none⟩ : Addr).block = w0.heap.size + 4 := rfl
 refine ⟨rfl, ⟨xag HQB.out (by omega), by simpa using HQZ.out, xay HQ0.out (by simp) _, ⟨_, xay HQ1.out (by simp) _, HN.out.1, HN.out.2⟩, xay HQ2.out (by simp) _, xay HQ3.out (by simp) _, by have := blk_set HQ4.out 0 (.int .i64 i); simpa using this⟩, ?_⟩
 rw [Below.heap_setCell _ _ _ r (show r ≠ w0.heap.size + 4 by omega)]
 exact HQR.out
def backL (s : ByteArray) : Nat → Nat → List UInt8 → List UInt8
 | 0, _, R => R
 | f + 1, pos, R => if pos < s.size then backL s f (pos + (Utf8.decode s pos).2) ((s.data.toList.drop pos).take (Utf8.decode s pos).2 ++ R) else R
def backOf (s : ByteArray) : ByteArray := ⟨(backL s s.size 0 []).toArray⟩
theorem width_pos (s : ByteArray) (pos : Nat) (h : pos < s.size) : 1 ≤ (Utf8.decode s pos).2 ∧ pos + (Utf8.decode s pos).2 ≤ s.size := by
 simp only [Utf8.decode]
 repeat' split
 all_goals simp_all
 all_goals omega
theorem backL_end (s : ByteArray) (b pos : Nat) (R : List UInt8) (h : ¬ pos < s.size) : backL s b pos R = R := by
 cases b with
 | zero => rfl
 | succ b => rw [backL, if_neg h]
theorem run_next_blk {P : Program} (w : World) (r : Nat) (s : ByteArray) (pos : Nat) (ty : TypeId) (hb : w.heap[r]? = some (.stringIter s pos)) (h : pos < s.size) :
  (Instr.next (.pointer (some ⟨r, 0, none⟩)) true ty).run P w = .ok (.tuple #[.bool true, .int .i64 pos, .int .i32 (Utf8.decode s pos).1]) { w with heap := w.heap.setIfInBounds r (.stringIter s (pos + (Utf8.decode s pos).2)) } := by
 simp only [Instr.next, getObj, setObj, Sem.run_bind, Sem.run, hb, Result.andThen, h, if_true]
 simp [goInt]
theorem run_next_over {P : Program} (w : World) (r : Nat) (s : ByteArray) (pos : Nat) (ty : TypeId) (hb : w.heap[r]? = some (.stringIter s pos)) (h : ¬ pos < s.size) :
  (Instr.next (.pointer (some ⟨r, 0, none⟩)) true ty).run P w = .ok (.tuple #[.bool false]) w := by
 simp [Instr.next, getObj, Sem.run, hb, h]
def atIter (w : World) (r : Nat) (s : ByteArray) (pos : Nat) : World := { w with heap := w.heap.setIfInBounds r (.stringIter s pos) }
theorem atIter_same {w : World} {r : Nat} {s : ByteArray} {pos pos' : Nat} (hb : w.heap[r]? = some (.stringIter s pos)) : (atIter w r s pos').heap[r]? = some (.stringIter s pos') := by
 obtain ⟨h, _⟩ := Array.getElem?_eq_some_iff.1 hb
 show (w.heap.setIfInBounds r _)[r]? = _
 rw [Array.getElem?_setIfInBounds_self_of_lt h]
theorem xbl (w : World) (r k : Nat) (s : ByteArray) (pos : Nat) (h : k ≠ r) : (atIter w r s pos).heap[k]? = w.heap[k]? := by
 show (w.heap.setIfInBounds r _)[k]? = _
 rw [Array.getElem?_setIfInBounds_ne (fun e => h e.symm)]
theorem atIter_below {B : Nat} {w0 w : World} (h : Below B w0 w) {r : Nat} (hr : B ≤ r) (s : ByteArray) (pos : Nat) : Below B w0 (atIter w r s pos) :=
 ⟨h.os, h.tape, h.output, by show _ ≤ (w.heap.setIfInBounds r _).size; rw [Array.size_setIfInBounds]; exact h.size, fun k hk => (xbl w r k s pos (by omega)).trans (h.block k hk)⟩
theorem BackAt.iter {w0 : World} {s : ByteArray} {q : Nat} {R : List UInt8} {w : World} (h : BackAt w0 s q R w) {r : Nat} (hr : w0.heap.size + 5 ≤ r) (t : ByteArray) (pos : Nat) : BackAt w0 s q R (atIter w r t pos) := by
 obtain ⟨cur, h1, h2, h3⟩ := h.row
 refine ⟨atIter_below h.below (by omega) t pos, by show _ ≤ (w.heap.setIfInBounds r _).size; rw [Array.size_setIfInBounds]; exact h.size, ?_, ⟨cur, ?_, h2, h3⟩, ?_, ?_, ?_⟩
 ·rw [xbl _ _ _ _ _ (by omega)]; exact h.b0
 ·rw [xbl _ _ _ _ _ (by omega)]; exact h1
 ·rw [xbl _ _ _ _ _ (by omega)]; exact h.b2
 ·rw [xbl _ _ _ _ _ (by omega)]; exact h.b3
 ·rw [xbl _ _ _ _ _ (by omega)]; exact h.b4
def backWorld (w : World) (s : ByteArray) : World := (((((w.alloc (.cells #[.string s] 9)).alloc (.cells (madeCells #[.int .u8 0] s.size) 5)).alloc (.cells #[.slice (some ⟨w.heap.size + 1, 0, none⟩) s.size s.size] 150)).alloc (.cells #[.int .i64 s.size] 3)).alloc (.cells #[.int .i64 0] 3)).iter s 0
theorem back_start (w : World) (s : ByteArray) : BackAt w s 0 [] (backWorld w s) ∧ (backWorld w s).heap[w.heap.size + 5]? = some (.stringIter s 0) := by
 have g0 : (backWorld w s).heap = (((((w.heap.push (.cells #[.string s] 9)).push (.cells (madeCells #[.int .u8 0] s.size) 5)).push (.cells #[.slice (some ⟨w.heap.size + 1, 0, none⟩) s.size s.size] 150)).push (.cells #[.int .i64 s.size] 3)).push (.cells #[.int .i64 0] 3)).push (.stringIter s 0) := rfl
 refine ⟨⟨xab (xab (xab (xab (xab (xab (Below.refl _ _) _) _) _) _) _) _, by rw [g0]; simp, ?_, ⟨madeCells #[.int .u8 0] s.size, ?_, size_madeCells _ _, ?_⟩, ?_, ?_, ?_⟩, ?_⟩
 ·rw [g0]; simp only [Array.getElem?_push, Array.size_push]; repeat' split
  all_goals first | rfl | (exfalso; omega) | (exfalso; simp_all; done) | (simp; done)
 ·rw [g0]; simp only [Array.getElem?_push, Array.size_push]; repeat' split
  all_goals first | rfl | (exfalso; omega) | (exfalso; simp_all; done) | (simp; done)
 ·rw [List.drop_eq_nil_of_le (by rw [Array.length_toList, size_madeCells]; omega)]; rfl
 ·rw [g0]; simp only [Array.getElem?_push, Array.size_push]; repeat' split
  all_goals first | rfl | (exfalso; omega) | (exfalso; simp_all; done) | (simp; done)
 ·rw [g0]; simp only [Array.getElem?_push, Array.size_push]; repeat' split
  all_goals first | rfl | (exfalso; omega) | (exfalso; simp_all; done) | (simp; done)
 ·rw [g0]; simp only [Array.getElem?_push, Array.size_push]; repeat' split
  all_goals first | rfl | (exfalso; omega) | (exfalso; simp_all; done) | (simp; done)
 ·rw [g0]; simp only [Array.getElem?_push, Array.size_push]; repeat' split
  all_goals first | rfl | (exfalso; omega) | (exfalso; simp_all; done) | (simp; done)
theorem backL_len (s : ByteArray) : ∀ (b pos : Nat) (R : List UInt8), pos ≤ s.size → R.length = pos → s.size ≤ pos + b → (backL s b pos R).length = s.size := by
 intro b
 induction b with
 | zero => intro pos R h1 h2 h3; rw [backL]; omega
 | succ b ih =>
  intro pos R h1 h2 h3
  rw [backL]
  split
  ·rename_i hp
   obtain ⟨g1, g2⟩ := width_pos s pos hp
   refine ih _ _ g2 ?_ (by omega)
   have hl : s.data.toList.length = s.size := by simp
   rw [List.length_append, List.length_take, List.length_drop]
   omega
  ·omega
theorem push_all (L : List UInt8) : ∀ r : ByteArray, (L.map (fun b : UInt8 => (b.toNat : Int))).foldl (fun r n => r.push (UInt8.ofNat n.toNat)) r = ⟨r.data ++ L.toArray⟩ := by
 induction L with
 | nil => intro r; simp
 | cons b L ih =>
  intro r
  rw [List.map_cons, List.foldl_cons, ih]
  simp [ByteArray.push]
theorem run_bytes_text {P : Program} (w : World) (src dst e : TypeId) (g : Nat) (cur : Array Value) (t : TypeId) (L : List UInt8) (n : Nat) (hn : n = L.length) (hs : P.underlying src = some (.slice e)) (he : P.underlying e = some (.int .u8)) (hd : P.underlying dst = some .string)
  (hg : w.heap[g]? = some (.cells cur t (0, 0))) (hc : cur.toList = byteCells L) : (convert src dst (.slice (some ⟨g, 0, none⟩) n n)).run P w = .ok (.string ⟨L.toArray⟩) w := by
 subst hn
 have hl := run_loadCells_list (P := P) (w := w) ⟨g, 0, none⟩ (byteCells L) (fun j v hv => by
  have hadd : (⟨g, 0, none⟩ : Addr).add j = ⟨g, j, none⟩ := by unfold Addr.add; split <;> simp_all
  rw [hadd, xaj hg j, ← Array.getElem?_toList, hc]
  exact hv)
 rw [byteCells_length] at hl
 have e1 : byteCells L = (L.map (fun b : UInt8 => (b.toNat : Int))).map (Value.int .u8) := by simp [byteCells]
 rw [e1] at hl
 rw [run_convert_bytes_string w src dst e _ _ _ hs he hd, run_bytesToString w _ _ _ _ hl, push_all]
 simp
def value_back.f (s : ByteArray) : Option ByteArray := if s.size ≤ 140737488351232 then some (backOf s) else none
set_option maxHeartbeats 1000000 in
set_option maxRecDepth 100000 in
theorem value_back.calls (s : ByteArray) (r : ByteArray) (w : World) (h : value_back.f s = some r) :
  Calls Tryd.prog 63 #[.string s] w fun e w' => e = .returned (.string r) ∧ Below w.heap.size w w' := by
 have hs : s.size ≤ 140737488351232 := by
  rw [value_back.f] at h; split at h
  ·assumption
  ·simp at h
 rw [value_back.f, if_pos hs] at h
 obtain rfl := Option.some.inj h
 clear h
 have hmf : ∀ (fn : Fn) (first cap : Array Value) (w : World), (Instr.makeFunc fn first cap).run Tryd.prog w = .ok (.func fn first cap) w := fun _ _ _ _ => rfl
 have hmk : ∀ W : World, (Instr.makeSlice 150 (.int .i64 (s.size : Int)) (.int .i64 (s.size : Int))).run Tryd.prog W = .ok (.slice (some ⟨W.heap.size, 0, none⟩) s.size s.size) (W.alloc (.cells (madeCells #[.int .u8 0] s.size) 5)) := by
  intro W
  obtain ⟨i, hi, h1, h2, h3⟩ : ∃ i, Tryd.prog.info? 5 = some i ∧ i.size = 1 ∧ i.bytes = 1 ∧ i.zero = some (.int .u8 0) := by
   refine ⟨_, rfl, ?_, ?_, ?_⟩ <;> kernel_rfl
  have := run_make (P := Tryd.prog) W 150 5 i (.int .u8 0) Tryd.underlying150 hi h3 .i64 .i64 s.size s.size (by omega) (by omega) (by rw [h2]; omega) (by omega)
  rw [h1] at this
  simp at this
  exact this
 go_enter Tryd.func63, Tryd.ntmps63
 go_wp2_with fail
 simp only [Nat.add_assoc, Nat.reduceAdd]
 obtain ⟨hA, hI⟩ := back_start w s
 have HA := Lib.hid hA
 have HI := Lib.hid hI
 clear hA hI hmk hmf
 have HW := Lib.hid (show (((((w.alloc (.cells #[.string s] 9)).alloc (.cells (madeCells #[.int .u8 0] s.size) 5)).alloc (.cells #[.slice (some ⟨w.heap.size + 1, 0, none⟩) s.size s.size] 150)).alloc (.cells #[.int .i64 s.size] 3)).alloc (.cells #[.int .i64 0] 3)).iter s 0 = backWorld w s from rfl)
 rw [HW.out]
 clear HW
 generalize backWorld w s = wa at *
 go_loopw [7] (fun v wr => ∃ (q p b : Nat) (R : List UInt8), Hid (BackAt w s q R wr) ∧ Hid (wr.heap[w.heap.size + 5]? = some (.stringIter s p)) ∧ q ≤ p ∧ p ≤ s.size ∧ R.length = q ∧ s.size ≤ p + b ∧ Hid (backL s b p ((s.data.toList.drop q).take (p - q) ++ R) = backL s s.size 0 [])) (fun _ wr => s.size - wr.iterPos (w.heap.size + 5))
 case atStart => exact ⟨0, 0, s.size, [], HA, HI, Nat.le_refl _, Nat.zero_le _, rfl, by omega, Lib.hid (by simp)⟩
 case round =>
  clear HA HI
  obtain ⟨q, p, b, R, HA, HI, hqp, hps, hRl, hb, HT⟩ := hrel
  have hip : wr.iterPos (w.heap.size + 5) = p := by rw [World.iterPos, HI.out]
  by_cases hp : p < s.size
  ·have hnx : ∀ ty, (Instr.next (.pointer (some ⟨w.heap.size + 5, 0, none⟩)) true ty).run Tryd.prog wr = .ok (.tuple #[.bool true, .int .i64 p, .int .i32 (Utf8.decode s p).1]) (atIter wr (w.heap.size + 5) s (p + (Utf8.decode s p).2)) := fun ty => run_next_blk wr _ s p ty HI.out hp
   go_wp2_with fail
   refine (back_put w s q p R (atIter wr (w.heap.size + 5) s (p + (Utf8.decode s p).2)) (HA.out.iter (Nat.le_refl _) s _) hqp hps hs (w.heap.size + 5) _ (Nat.le_refl _) (atIter_same HI.out)).mono ?_
   rintro e w2 ⟨rfl, hA2, hI2⟩
   obtain ⟨g1, g2⟩ := width_pos s p hp
   have hsl : s.data.toList.length = s.size := by simp
   have HT2 : Hid (backL s (b - 1) (p + (Utf8.decode s p).2) ((s.data.toList.drop p).take (p + (Utf8.decode s p).2 - p) ++ ((s.data.toList.drop q).take (p - q) ++ R)) = backL s s.size 0 []) := Lib.hid (by
    rw [← HT.out, Nat.add_sub_cancel_left]
    cases b with
    | zero => omega
    | succ b => rw [backL, if_pos hp]; rfl)
   have HA2 := Lib.hid hA2
   have HI2 := Lib.hid hI2
   have hl2 : ((s.data.toList.drop q).take (p - q) ++ R).length = p := by rw [List.length_append, List.length_take, List.length_drop]; omega
   have hb2 : s.size ≤ p + (Utf8.decode s p).2 + (b - 1) := by omega
   have hip2 : w2.iterPos (w.heap.size + 5) = p + (Utf8.decode s p).2 := by rw [World.iterPos, hI2]
   clear hA2 hI2 HT HA HI hnx
   generalize (Utf8.decode s p).2 = wd at *
   generalize (s.data.toList.drop q).take (p - q) ++ R = R2 at *
   go_wp2_with fail
   go_roundw
   case rel => exact ⟨p, p + wd, b - 1, R2, HA2, HI2, by omega, by omega, hl2, by omega, HT2⟩
   case measure => rw [hip, hip2]; omega
  ·have hnx : ∀ ty, (Instr.next (.pointer (some ⟨w.heap.size + 5, 0, none⟩)) true ty).run Tryd.prog wr = .ok (.tuple #[.bool false]) wr := fun ty => run_next_over wr _ s p ty HI.out hp
   obtain rfl : p = s.size := by omega
   have hb0 : wr.cell? ⟨w.heap.size, 0, none⟩ = some (.string s) := (xaj HA.out.b0 0).trans rfl
   go_wp2_with fail
   refine (back_put w s q s.size R wr HA.out hqp (Nat.le_refl _) hs (w.heap.size + 5) _ (Nat.le_refl _) HI.out).mono ?_
   rintro e w2 ⟨rfl, hA2, hI2⟩
   have hsl : s.data.toList.length = s.size := by simp
   obtain ⟨cur, k1, k2, k3⟩ := hA2.row
   rw [Nat.sub_self, List.drop_zero] at k3
   have hl2 : ((s.data.toList.drop q).take (s.size - q) ++ R).length = s.size := by rw [List.length_append, List.length_take, List.length_drop]; omega
   have hend := HT.out
   rw [backL_end s b s.size _ (by omega)] at hend
   rw [hend] at k3 hl2
   have HCV := Lib.hid (run_bytes_text (P := Tryd.prog) w2 150 9 5 (w.heap.size + 1) cur 5 (backL s s.size 0 []) s.size hl2.symm Tryd.underlying150 (by kernel_rfl) Tryd.underlying9 k1 k3)
   have hcv := HCV.out
   have hb2 : w2.cell? ⟨w.heap.size + 2, 0, none⟩ = some (.slice (some ⟨w.heap.size + 1, 0, none⟩) s.size s.size) := (xaj hA2.b2 0).trans rfl
   have HB := Lib.hid hA2.below
   clear HT HA HI hnx hA2 hI2 k1 k2 k3 hend hb0 hip
   go_wp2_with fail
   go_ret
   exact ⟨rfl, HB.out⟩
end Go.Proofs.YtllcmggmcogokaaDoor.PAll
end
section
namespace Go.Proofs.YtllcmggmcogokaaDoor.PAll
open Go.RowKit Go.Proofs.YtllcmggmcogokaaDoorW.PrintWords Go.Proofs.YtllcmggmcogokaaDoorW.PrintLast Go.Proofs.YtllcmggmcogokaaDoorW.PrintMore
attribute [local go_sem] max2_int min2_int max_two min_two max_three min_three max_four min_four
theorem toList_loop_eq (s : ByteArray) (d : Nat) : ∀ (i : Nat) (r : List UInt8), s.size - i = d → i ≤ s.size → ByteArray.toList.loop s i r = r.reverse ++ s.data.toList.drop i := by
 induction d with
 | zero =>
  intro i r hd hi
  unfold ByteArray.toList.loop
  have : ¬ i < s.size := by omega
  rw [if_neg this]
  have hz : s.data.toList.length = s.size := by simp
  rw [List.drop_eq_nil_of_le (by omega)]; simp
 | succ d ih =>
  intro i r hd hi
  unfold ByteArray.toList.loop
  have hlt : i < s.size := by omega
  rw [if_pos hlt, ih (i + 1) _ (by omega) (by omega)]
  have hz : s.data.toList.length = s.size := by simp
  have hl : i < s.data.toList.length := by rw [hz]; exact hlt
  have hg : s.get! i = s.data.toList[i] := by
   simp [ByteArray.get!, getElem!_pos, hlt]
  rw [List.drop_eq_getElem_cons (i := i) (l := s.data.toList) hl, hg]; simp
theorem xbj (s : ByteArray) : s.toList = s.data.toList := by
 unfold ByteArray.toList
 rw [toList_loop_eq s s.size 0 [] (by omega) (by omega)]; simp
def SMap (P : Program) (k : TypeId) (w : World) (b n : Nat) (f : List UInt8 → Option Value) : Prop :=
 ∃ D : DataW Value, w.ownsMap P k (fun v => some (.held v, [])) b n D ∧ Maps.IsMap D ∧ ∀ s : List UInt8, Maps.has D (.string s) = (f s).isSome ∧ ∀ z, D.atKey (.string s) z = ((f s).map DataW.held).getD z
theorem SMap.made (P : Program) (k : TypeId) (w : World) : SMap P k (w.alloc (.map #[] 0)) w.heap.size 0 (fun _ => none) :=
 ⟨.map [], World.ownsMap_made w P k _, World.ownsMap.isMap (World.ownsMap_made w P k (fun v => some (.held v, []))), fun s => ⟨rfl, fun z => rfl⟩⟩
theorem SMap.kept {P : Program} {k : TypeId} {w w' : World} {b n : Nat} {f : List UInt8 → Option Value} (h : SMap P k w b n f) {row : Option Nat} (hg : w.grownBy w' row) (hne : some b ≠ row) : SMap P k w' b n f := by
 obtain ⟨D, h1, h2, h3⟩ := h
 exact ⟨D, h1.kept hg hne, h2, h3⟩
theorem SMap.move {P : Program} {k : TypeId} {w w' : World} {b n : Nat} {f : List UInt8 → Option Value} (h : SMap P k w b n f) (hb : w'.heap[b]? = w.heap[b]?) : SMap P k w' b n f := by
 obtain ⟨D, ⟨es, clock, h0, h1⟩, h2, h3⟩ := h
 exact ⟨D, ⟨es, clock, hb.trans h0, h1⟩, h2, h3⟩
theorem SMap.lt {P : Program} {k : TypeId} {w : World} {b n : Nat} {f : List UInt8 → Option Value} (h : SMap P k w b n f) : b < w.heap.size := by
 obtain ⟨D, h1, _⟩ := h
 exact h1.lt
theorem SMap.block {P : Program} {k : TypeId} {w : World} {b n : Nat} {f : List UInt8 → Option Value} (h : SMap P k w b n f) : ∃ es clock, w.heap[b]? = some (.map es clock) := by
 obtain ⟨D, ⟨es, clock, h0, h1⟩, _⟩ := h
 exact ⟨es, clock, h0⟩
theorem smap_key {P : Program} {k : TypeId} (hk : P.underlying k = some .string) (s : ByteArray) (hs : s.size ≤ maxLen) : keyOf P k (.string s) = some (.string s.data.toList) := by
 rw [keyOf_string hk]
 simp [mapKey, hk, hs]
theorem SMap.look {P : Program} {k t e : TypeId} {w : World} {b n : Nat} {f : List UInt8 → Option Value} (h : SMap P k w b n f) (hk : P.underlying k = some .string) (ht : P.underlying t = some (.map k e)) {z : Value} (hz : (zeroValue e).run P w = .ok z w) (s : ByteArray) (hs : s.size ≤ maxLen) :
  (Instr.lookup t (.map (some b)) (.string s) false).run P w = .ok ((f s.data.toList).getD z) w := by
 obtain ⟨D, h1, h2, h3⟩ := h
 obtain ⟨v, ps, hrun, hv⟩ := h1.lookup (Maps.string_keyed hk) ht hz (zd := .held z) (zp := []) rfl (smap_key hk s hs)
 rw [(h3 s.data.toList).2] at hv
 rw [hrun]
 cases hf : f s.data.toList with
 | none => rw [hf] at hv; simp at hv; simp [hv.1]
 | some u => rw [hf] at hv; simp at hv; simp [hv.1]
theorem SMap.put {P : Program} {k t e : TypeId} {w : World} {b n : Nat} {f : List UInt8 → Option Value} (h : SMap P k w b n f) (hk : P.underlying k = some .string) (ht : P.underlying t = some (.map k e)) (hn : n < maxLen) (s : ByteArray) (hs : s.size ≤ maxLen) (v : Value) :
  ∃ w', (Instr.mapUpdate t (.map (some b)) (.string s) v).run P w = .ok () w' ∧ SMap P k w' b (n + 1) (fun q => if q = s.data.toList then some v else f q) ∧ w.grownBy w' (some b) := by
 obtain ⟨D, h1, h2, h3⟩ := h
 obtain ⟨w', hrun, hown, hg⟩ := h1.update (Maps.string_keyed hk) ht hn (smap_key hk s hs) (val := v) (d := .held v) (ps := []) rfl
 have hkl : WideAt.IsKeyLit (.string s.data.toList) := (Maps.string_keyed hk).key (smap_key hk s hs)
 refine ⟨w', hrun, ⟨D.put (.string s.data.toList) (.held v), hown, ?_, fun q => ?_⟩, hg⟩
 ·exact World.ownsMap.isMap hown
 ·by_cases hq : q = s.data.toList
  ·subst hq
   rw [Maps.has_put_same h2 hkl]
   simp [Maps.atKey_put_same h2 hkl]
  ·have hne : (Lit.string q) ≠ .string s.data.toList := fun h => hq (Lit.string.inj h)
   rw [Maps.has_put_other hne]
   simp only [if_neg hq]
   exact ⟨(h3 q).1, fun z => by rw [Maps.atKey_put_other hne]; exact (h3 q).2 z⟩
def TabA (w : World) : Prop := Lib.TabIs Tryd.prog w "pedigree/value.takes" .i8 [0, 1, 2, 2, 2, 2, 2, 4, 3, 3, 3]
theorem TabA.below {w w1 : World} (h : TabA w) (hb : Below w.heap.size w w1) : TabA w1 := by
 have hg : Tryd.prog.globalNamed "pedigree/value.takes" = some 0 := by kernel_rfl
 unfold TabA Lib.TabIs at *
 refine var?_below hb hg ?_ h
 unfold World.var? at h
 simp only [hg, Option.bind_some] at h
 rcases Nat.lt_or_ge 0 w.heap.size with h' | h'
 ·exact h'
 ·simp [Array.getElem?_eq_none h'] at h
mutual
def value_fits.j0 : Nat → List (S26) → Int → Int → Option (Bool)
 | 0, _, _, _ => none
 | k + 1, x1, x5, x6 => if (x1.length : Int) = x5 then (value_fits.l0 k x6 x1 (x1.length : Int) 0) else (some false)
def value_fits.l0 : Nat → Int → List (S26) → Int → Int → Option (Bool)
 | 0, _, _, _, _ => none
 | k + 1, x6, x22, x23, x24 => if x24 < x23 then (if 0 ≤ x24 then (if x24 < (x22.length : Int) then (if ((rd_T26 x22 x24).f0) = x6 then ((value_Check.f ((rd_T26 x22 x24).f0) ((rd_T26 x22 x24).f1) ((rd_T26 x22 x24).f2)).bind fun t130 => (if t130 = 0 then (value_fits.l0 k x6 x22 x23 (wrap64 (x24 + 1))) else (some false))) else (some false)) else (none)) else (none)) else (some true)
end
def value_fits.f (k : Nat) (a0 : Int) (l1 : List (S26)) : Option (Bool) := if a0 = 0 then (some false) else (if a0 = 2 then (value_fits.j0 k l1 2 1) else (if a0 = 4 then (value_fits.j0 k l1 2 2) else (if a0 = 3 then (value_fits.j0 k l1 1 2) else (value_fits.j0 k l1 1 1))))
set_option maxHeartbeats 8000000 in
set_option maxRecDepth 100000 in
theorem value_fits.calls (k : Nat) (a0 : Int) (A1 : Option Addr) (c1 : Nat) (l1 : List (S26)) (r : Bool) (w : World) (hr1 : Kd.C k26 w A1 l1.length l1) (hc1 : l1.length ≤ c1) (h : value_fits.f k a0 l1 = some r) :
  Calls Tryd.prog 59 #[.int .i8 a0, .slice A1 l1.length c1] w fun e w' => e = .returned (.bool r) ∧ Below w.heap.size w w' := by
 have hu26 := Tryd.underlying26
 have HR1 := Aside0.mk hr1
 have HC1 := Aside0.mk hc1
 clear hr1 hc1
 have HB := Aside0.mk (Below.refl w.heap.size w)
 have H : (if a0 = 0 then (some false) else (if a0 = 2 then (value_fits.j0 k l1 2 1) else (if a0 = 4 then (value_fits.j0 k l1 2 2) else (if a0 = 3 then (value_fits.j0 k l1 1 2) else (value_fits.j0 k l1 1 1))))) = some r := h
 clear h
 have HC3 := Aside0.mk H
 clear H
 go_enter Tryd.func59, Tryd.ntmps59
 go_upto_block 0 with (fail)
 go_cut [5, 6] (fun v5 v6 wc => ∃ (kq : Nat) (x5_2 : Int) (x6_2 : Int), v5 = .int .i64 x5_2 ∧ v6 = .int .i8 x6_2 ∧ Aside0 (value_fits.j0 kq l1 x5_2 x6_2 = some r) ∧ Aside0 (kq ≤ k) ∧ Aside0 (Below w.heap.size w wc))
 case first =>
  have H := HC3.out
  clear HC3
  by_cases c4 : a0 = 0
  ·rw [if_pos c4] at H
   have c4b0 : (a0 == 0) = true := beq_iff_eq.mpr c4
   have c4b1 : (a0 != 0) = false := bne_eq_false_iff_eq.mpr c4
   clear c4
   (first | rw [c4b0] | (simp only [i64_w, i32_w]; rw [c4b0]) | skip)
   obtain rfl := Option.some.inj H
   go_wp2
   go_ret
   exact ⟨by first | rfl | (simp [xak, xal] <;> rfl) | (simp [*, xak, xal] <;> rfl), by repeat (first | (with_reducible first | exact HB.out | apply xab | apply xaa | apply xac) | exact HB.out)⟩
  ·rw [if_neg c4] at H
   have c4b0 : (a0 == 0) = false := beq_eq_false_iff_ne.mpr c4
   have c4b1 : (a0 != 0) = true := bne_iff_ne.mpr c4
   (first | rw [c4b0] | (simp only [i64_w, i32_w]; rw [c4b0]) | skip)
   by_cases c5 : a0 = 2
   ·rw [if_pos c5] at H
    have c5b0 : (a0 == 2) = true := beq_iff_eq.mpr c5
    have c5b1 : (a0 != 2) = false := bne_eq_false_iff_eq.mpr c5
    clear c5
    have H' := Aside0.mk H
    clear H
    go_wp2
    go_meet
    case rel => exact ⟨_, (2), (1), (by first | rfl | (simp; done) | (simp [*]; done)), (by first | rfl | (simp; done) | (simp [*]; done)), H', ⟨by first | omega | exact Nat.le_refl _⟩, ⟨by repeat (first | (with_reducible first | exact HB.out | apply xab | apply xaa | apply xac) | exact HB.out)⟩⟩
   ·rw [if_neg c5] at H
    have c5b0 : (a0 == 2) = false := beq_eq_false_iff_ne.mpr c5
    have c5b1 : (a0 != 2) = true := bne_iff_ne.mpr c5
    by_cases c6 : a0 = 4
    ·rw [if_pos c6] at H
     have c6b0 : (a0 == 4) = true := beq_iff_eq.mpr c6
     have c6b1 : (a0 != 4) = false := bne_eq_false_iff_eq.mpr c6
     clear c6
     have H' := Aside0.mk H
     clear H
     go_wp2
     go_meet
     case rel => exact ⟨_, (2), (2), (by first | rfl | (simp; done) | (simp [*]; done)), (by first | rfl | (simp; done) | (simp [*]; done)), H', ⟨by first | omega | exact Nat.le_refl _⟩, ⟨by repeat (first | (with_reducible first | exact HB.out | apply xab | apply xaa | apply xac) | exact HB.out)⟩⟩
    ·rw [if_neg c6] at H
     have c6b0 : (a0 == 4) = false := beq_eq_false_iff_ne.mpr c6
     have c6b1 : (a0 != 4) = true := bne_iff_ne.mpr c6
     by_cases c7 : a0 = 3
     ·rw [if_pos c7] at H
      have c7b0 : (a0 == 3) = true := beq_iff_eq.mpr c7
      have c7b1 : (a0 != 3) = false := bne_eq_false_iff_eq.mpr c7
      clear c7
      have H' := Aside0.mk H
      clear H
      go_wp2
      go_meet
      case rel => exact ⟨_, (1), (2), (by first | rfl | (simp; done) | (simp [*]; done)), (by first | rfl | (simp; done) | (simp [*]; done)), H', ⟨by first | omega | exact Nat.le_refl _⟩, ⟨by repeat (first | (with_reducible first | exact HB.out | apply xab | apply xaa | apply xac) | exact HB.out)⟩⟩
     ·rw [if_neg c7] at H
      have c7b0 : (a0 == 3) = false := beq_eq_false_iff_ne.mpr c7
      have c7b1 : (a0 != 3) = true := bne_iff_ne.mpr c7
      have H' := Aside0.mk H
      clear H
      go_wp2
      go_meet
      case rel => exact ⟨_, (1), (1), (by first | rfl | (simp; done) | (simp [*]; done)), (by first | rfl | (simp; done) | (simp [*]; done)), H', ⟨by first | omega | exact Nat.le_refl _⟩, ⟨by repeat (first | (with_reducible first | exact HB.out | apply xab | apply xaa | apply xac) | exact HB.out)⟩⟩
 case rest =>
  clear HC3
  try clear c1
  try clear p2
  try clear c4
  try clear c4b0
  try clear c4b1
  try clear c5
  try clear c5b0
  try clear c5b1
  try clear c6
  try clear c6b0
  try clear c6b1
  try clear c7
  try clear c7b0
  try clear c7b1
  obtain ⟨kq, x5_2, x6_2, rfl, rfl, HA, HJ2, HB⟩ := hcut
  cases kq with
  | zero => exact absurd HA.out (by simp [value_fits.j0])
  | succ kj2 =>
   have H := HA.out
   clear HA
   simp only [value_fits.j0] at H
   by_cases c8 : (l1.length : Int) = x5_2
   ·rw [if_pos c8] at H
    have c8b0 : ((l1.length : Int) == x5_2) = true := beq_iff_eq.mpr c8
    have c8b1 : ((l1.length : Int) != x5_2) = false := bne_eq_false_iff_eq.mpr c8
    clear c8
    have H' := Aside0.mk H
    clear H
    go_wp2
    go_loopg [24] kj2 (fun kq v24 w' => ∃ (x24_2 : Int), v24 = .int .i64 x24_2 ∧ Aside0 (value_fits.l0 kq x6_2 l1 (l1.length : Int) x24_2 = some r) ∧ Aside0 (kq ≤ kj2) ∧ Aside0 (Below w.heap.size w w'))
    case atStart => exact ⟨(0), (by first | rfl | (simp; done) | (simp [*]; done)), H', ⟨Nat.le_refl _⟩, ⟨by repeat (first | (with_reducible first | exact HB.out | apply xab | apply xaa | apply xac) | exact HB.out)⟩⟩
    case round =>
     clear H'
     try clear c1
     try clear p2
     try clear c4
     try clear c4b0
     try clear c4b1
     try clear c5
     try clear c5b0
     try clear c5b1
     try clear c6
     try clear c6b0
     try clear c6b1
     try clear c7
     try clear c7b0
     try clear c7b1
     try clear c8
     try clear c8b0
     try clear c8b1
     try clear p2
     obtain ⟨x24_2, rfl, HA, HK2, HB⟩ := hrel
     cases gk with
     | zero => exact absurd HA.out (by simp [value_fits.l0])
     | succ k2 =>
      have H := HA.out
      clear HA
      simp only [value_fits.l0] at H
      by_cases c9 : x24_2 < (l1.length : Int)
      ·rw [if_pos c9] at H
       have c9b0 : decide (x24_2 < (l1.length : Int)) = true := decide_eq_true c9
       clear c9
       by_cases c10 : 0 ≤ x24_2
       ·rw [if_pos c10] at H
        have c10b0 : decide (0 ≤ x24_2) = true := decide_eq_true c10
        clear c10
        by_cases c11 : x24_2 < (l1.length : Int)
        ·rw [if_pos c11] at H
         have c11b0 : decide (x24_2 < (l1.length : Int)) = true := decide_eq_true c11
         clear c11
         by_cases c12 : ((rd_T26 l1 x24_2).f0) = x6_2
         ·rw [if_pos c12] at H
          have c12b0 : (((rd_T26 l1 x24_2).f0) == x6_2) = true := beq_iff_eq.mpr c12
          have c12b1 : (((rd_T26 l1 x24_2).f0) != x6_2) = false := bne_eq_false_iff_eq.mpr c12
          clear c12
          replace H := Option.bind_eq_some_iff.mp H
          obtain ⟨t130, A130, H⟩ := H
          replace H : (if t130 = 0 then (value_fits.l0 k2 x6_2 l1 (l1.length : Int) (wrap64 (x24_2 + 1))) else (some false)) = some r := H
          have A13 := Aside0.mk A130
          clear A130
          by_cases c14 : t130 = 0
          ·rw [if_pos c14] at H
           have c14b0 : (t130 == 0) = true := beq_iff_eq.mpr c14
           have c14b1 : (t130 != 0) = false := bne_eq_false_iff_eq.mpr c14
           clear c14
           have H' := Aside0.mk H
           clear H
           have p128 : 0 ≤ (x24_2 : Int) := of_decide_eq_true (by first | (with_reducible assumption) | assumption)
           have q128 : x24_2 < (l1.length : Int) := of_decide_eq_true (by first | (with_reducible assumption) | assumption)
           obtain ⟨ad128, e128, hx128_0, hx128_1, hx128_2⟩ := at_T26 HR1.out x24_2 p128 q128
           cases e128
           replace hx128_0 := (HB.out.cell (World.block_lt_of_cell? w _ hx128_0)).trans hx128_0
           replace hx128_1 := (HB.out.cell (World.block_lt_of_cell? w _ hx128_1)).trans hx128_1
           replace hx128_2 := (HB.out.cell (World.block_lt_of_cell? w _ hx128_2)).trans hx128_2
           replace p128 := eq_true p128
           replace q128 := eq_true q128
           go_wp2_with (first | ((with_reducible refine xar (N := 8) rfl ?_); refine xaq ?hg (N := 8) ?hd (cs := #[.int .i8 0, .int .i64 0, .string (⟨#[]⟩ : ByteArray)]) (t := 26) ?hr ?_; (case hd => rfl); (case hg => rfl); (case hr => first | (go_simp; done) | (go_simp; rfl)); intro gb129 hg w15 hbox hb; have n0_ := Aside0.mk (xai (by repeat (first | (with_reducible first | exact HB.out | apply xab | apply xaa | apply xac) | exact HB.out)) hb); have n1_ := Aside0.mk (hbox); have n2_ := Aside0.mk ((by rw [hg]; exact (xap (by repeat (first | (with_reducible first | exact HB.out | apply xab | apply xaa | apply xac) | exact HB.out))) : w.heap.size ≤ gb129)); have n3_ := n2_; clear HB; have HB := n0_; have BK129 := n1_; have GW129 := n2_; have GE129 := n3_; clear n0_ n1_ n2_ n3_; clear hb hbox hg; obtain ⟨hcz16_0, hcz16_1, hcz16_2⟩ := cz3 BK129.out; obtain ⟨hfz16_0, hfz16_1, hfz16_2⟩ := fz3 BK129.out) | (go_at_call 94; (with_reducible refine (value_Check.calls ((rd_T26 l1 x24_2).f0) ((rd_T26 l1 x24_2).f1) ((rd_T26 l1 x24_2).f2) t130 _ A13.out).mono ?_); rintro e w17 ⟨rfl, hb⟩; have n0_ := Aside0.mk (xan (g := gb129) (o := .cells #[.int .i8 ((rd_T26 l1 x24_2).f0), .int .i64 ((rd_T26 l1 x24_2).f1), .string ((rd_T26 l1 x24_2).f2)] 26 (0, 0)) (by (with_reducible repeat (first | refine xae ?_ _ | refine xaf ?_ | refine xad ?_ _)); refine xas (cs := #[.int .i8 ((rd_T26 l1 x24_2).f0), .int .i64 ((rd_T26 l1 x24_2).f1), .string (⟨#[]⟩ : ByteArray)]) ?_ 2 _ rfl; (with_reducible repeat (first | refine xae ?_ _ | refine xaf ?_ | refine xad ?_ _)); refine xas (cs := #[.int .i8 ((rd_T26 l1 x24_2).f0), .int .i64 0, .string (⟨#[]⟩ : ByteArray)]) ?_ 1 _ rfl; (with_reducible repeat (first | refine xae ?_ _ | refine xaf ?_ | refine xad ?_ _)); refine xas (cs := #[.int .i8 0, .int .i64 0, .string (⟨#[]⟩ : ByteArray)]) ?_ 0 _ rfl; (with_reducible repeat (first | refine xae ?_ _ | refine xaf ?_ | refine xad ?_ _)); exact BK129.out) hb); have n1_ := Aside0.mk (xai (by repeat (first | (with_reducible first | exact HB.out | apply xab | apply xaa | apply xac | refine xag ?_ GE129.out) | exact HB.out)) hb); clear BK129; clear HB; have BK129 := n0_; have HB := n1_; clear n0_ n1_; (try clear hb); (try clear hb2); (try clear hk); (try clear hi)))
           go_roundg k2
           case measure => have := HJ2.out; have := HK2.out; omega
           case rel => exact ⟨(wrap64 (x24_2 + 1)), (by first | rfl | (simp; done) | (simp [*]; done)), H', ⟨by have := HJ2.out; have := HK2.out; omega⟩, ⟨by repeat (first | (with_reducible first | exact HB.out | apply xab | apply xaa | apply xac | refine xag ?_ GE129.out) | exact HB.out)⟩⟩
          ·rw [if_neg c14] at H
           have c14b0 : (t130 == 0) = false := beq_eq_false_iff_ne.mpr c14
           have c14b1 : (t130 != 0) = true := bne_iff_ne.mpr c14
           obtain rfl := Option.some.inj H
           have p128 : 0 ≤ (x24_2 : Int) := of_decide_eq_true (by first | (with_reducible assumption) | assumption)
           have q128 : x24_2 < (l1.length : Int) := of_decide_eq_true (by first | (with_reducible assumption) | assumption)
           obtain ⟨ad128, e128, hx128_0, hx128_1, hx128_2⟩ := at_T26 HR1.out x24_2 p128 q128
           cases e128
           replace hx128_0 := (HB.out.cell (World.block_lt_of_cell? w _ hx128_0)).trans hx128_0
           replace hx128_1 := (HB.out.cell (World.block_lt_of_cell? w _ hx128_1)).trans hx128_1
           replace hx128_2 := (HB.out.cell (World.block_lt_of_cell? w _ hx128_2)).trans hx128_2
           replace p128 := eq_true p128
           replace q128 := eq_true q128
           go_wp2_with (first | ((with_reducible refine xar (N := 8) rfl ?_); refine xaq ?hg (N := 8) ?hd (cs := #[.int .i8 0, .int .i64 0, .string (⟨#[]⟩ : ByteArray)]) (t := 26) ?hr ?_; (case hd => rfl); (case hg => rfl); (case hr => first | (go_simp; done) | (go_simp; rfl)); intro gb129 hg w18 hbox hb; have n0_ := Aside0.mk (xai (by repeat (first | (with_reducible first | exact HB.out | apply xab | apply xaa | apply xac) | exact HB.out)) hb); have n1_ := Aside0.mk (hbox); have n2_ := Aside0.mk ((by rw [hg]; exact (xap (by repeat (first | (with_reducible first | exact HB.out | apply xab | apply xaa | apply xac) | exact HB.out))) : w.heap.size ≤ gb129)); have n3_ := n2_; clear HB; have HB := n0_; have BK129 := n1_; have GW129 := n2_; have GE129 := n3_; clear n0_ n1_ n2_ n3_; clear hb hbox hg; obtain ⟨hcz19_0, hcz19_1, hcz19_2⟩ := cz3 BK129.out; obtain ⟨hfz19_0, hfz19_1, hfz19_2⟩ := fz3 BK129.out) | (go_at_call 94; (with_reducible refine (value_Check.calls ((rd_T26 l1 x24_2).f0) ((rd_T26 l1 x24_2).f1) ((rd_T26 l1 x24_2).f2) t130 _ A13.out).mono ?_); rintro e w20 ⟨rfl, hb⟩; have n0_ := Aside0.mk (xan (g := gb129) (o := .cells #[.int .i8 ((rd_T26 l1 x24_2).f0), .int .i64 ((rd_T26 l1 x24_2).f1), .string ((rd_T26 l1 x24_2).f2)] 26 (0, 0)) (by (with_reducible repeat (first | refine xae ?_ _ | refine xaf ?_ | refine xad ?_ _)); refine xas (cs := #[.int .i8 ((rd_T26 l1 x24_2).f0), .int .i64 ((rd_T26 l1 x24_2).f1), .string (⟨#[]⟩ : ByteArray)]) ?_ 2 _ rfl; (with_reducible repeat (first | refine xae ?_ _ | refine xaf ?_ | refine xad ?_ _)); refine xas (cs := #[.int .i8 ((rd_T26 l1 x24_2).f0), .int .i64 0, .string (⟨#[]⟩ : ByteArray)]) ?_ 1 _ rfl; (with_reducible repeat (first | refine xae ?_ _ | refine xaf ?_ | refine xad ?_ _)); refine xas (cs := #[.int .i8 0, .int .i64 0, .string (⟨#[]⟩ : ByteArray)]) ?_ 0 _ rfl; (with_reducible repeat (first | refine xae ?_ _ | refine xaf ?_ | refine xad ?_ _)); exact BK129.out) hb); have n1_ := Aside0.mk (xai (by repeat (first | (with_reducible first | exact HB.out | apply xab | apply xaa | apply xac | refine xag ?_ GE129.out) | exact HB.out)) hb); clear BK129; clear HB; have BK129 := n0_; have HB := n1_; clear n0_ n1_; (try clear hb); (try clear hb2); (try clear hk); (try clear hi)))
           go_ret
           exact ⟨by first | rfl | (simp [xak, xal] <;> rfl) | (simp [*, xak, xal] <;> rfl), by repeat (first | (with_reducible first | exact HB.out | apply xab | apply xaa | apply xac | refine xag ?_ GE129.out) | exact HB.out)⟩
         ·rw [if_neg c12] at H
          have c12b0 : (((rd_T26 l1 x24_2).f0) == x6_2) = false := beq_eq_false_iff_ne.mpr c12
          have c12b1 : (((rd_T26 l1 x24_2).f0) != x6_2) = true := bne_iff_ne.mpr c12
          obtain rfl := Option.some.inj H
          have p128 : 0 ≤ (x24_2 : Int) := of_decide_eq_true (by first | (with_reducible assumption) | assumption)
          have q128 : x24_2 < (l1.length : Int) := of_decide_eq_true (by first | (with_reducible assumption) | assumption)
          obtain ⟨ad128, e128, hx128_0, hx128_1, hx128_2⟩ := at_T26 HR1.out x24_2 p128 q128
          cases e128
          replace hx128_0 := (HB.out.cell (World.block_lt_of_cell? w _ hx128_0)).trans hx128_0
          replace hx128_1 := (HB.out.cell (World.block_lt_of_cell? w _ hx128_1)).trans hx128_1
          replace hx128_2 := (HB.out.cell (World.block_lt_of_cell? w _ hx128_2)).trans hx128_2
          replace p128 := eq_true p128
          replace q128 := eq_true q128
          go_wp2_with (first | ((with_reducible refine xar (N := 8) rfl ?_); refine xaq ?hg (N := 8) ?hd (cs := #[.int .i8 0, .int .i64 0, .string (⟨#[]⟩ : ByteArray)]) (t := 26) ?hr ?_; (case hd => rfl); (case hg => rfl); (case hr => first | (go_simp; done) | (go_simp; rfl)); intro gb129 hg w21 hbox hb; have n0_ := Aside0.mk (xai (by repeat (first | (with_reducible first | exact HB.out | apply xab | apply xaa | apply xac) | exact HB.out)) hb); have n1_ := Aside0.mk (hbox); have n2_ := Aside0.mk ((by rw [hg]; exact (xap (by repeat (first | (with_reducible first | exact HB.out | apply xab | apply xaa | apply xac) | exact HB.out))) : w.heap.size ≤ gb129)); have n3_ := n2_; clear HB; have HB := n0_; have BK129 := n1_; have GW129 := n2_; have GE129 := n3_; clear n0_ n1_ n2_ n3_; clear hb hbox hg; obtain ⟨hcz22_0, hcz22_1, hcz22_2⟩ := cz3 BK129.out; obtain ⟨hfz22_0, hfz22_1, hfz22_2⟩ := fz3 BK129.out))
          go_ret
          exact ⟨by first | rfl | (simp [xak, xal] <;> rfl) | (simp [*, xak, xal] <;> rfl), by repeat (first | (with_reducible first | exact HB.out | apply xab | apply xaa | apply xac | refine xag ?_ GE129.out) | exact HB.out)⟩
        ·rw [if_neg c11] at H
         exact absurd H (by simp)
       ·rw [if_neg c10] at H
        exact absurd H (by simp)
      ·rw [if_neg c9] at H
       have c9b0 : decide (x24_2 < (l1.length : Int)) = false := decide_eq_false c9
       clear c9
       obtain rfl := Option.some.inj H
       go_wp2
       go_ret
       exact ⟨by first | rfl | (simp [xak, xal] <;> rfl) | (simp [*, xak, xal] <;> rfl), by repeat (first | (with_reducible first | exact HB.out | apply xab | apply xaa | apply xac) | exact HB.out)⟩
   ·rw [if_neg c8] at H
    have c8b0 : ((l1.length : Int) == x5_2) = false := beq_eq_false_iff_ne.mpr c8
    have c8b1 : ((l1.length : Int) != x5_2) = true := bne_iff_ne.mpr c8
    obtain rfl := Option.some.inj H
    go_wp2
    go_ret
    exact ⟨by first | rfl | (simp [xak, xal] <;> rfl) | (simp [*, xak, xal] <;> rfl), by repeat (first | (with_reducible first | exact HB.out | apply xab | apply xaa | apply xac) | exact HB.out)⟩
def value_number.f (a0 : Int) : Option (Int × Int × ByteArray × Bool) := some (1, a0, (⟨#[]⟩ : ByteArray), true)
set_option maxHeartbeats 8000000 in
set_option maxRecDepth 100000 in
theorem value_number.calls (a0 : Int) (r1 : Int) (r2 : Int) (r3 : ByteArray) (r4 : Bool) (w : World) (h : value_number.f a0 = some (r1, r2, r3, r4)) :
  Calls Tryd.prog 60 #[.int .i64 a0] w fun e w' => e = .returned (.tuple #[.agg #[.int .i8 r1, .int .i64 r2, .string r3], .bool r4]) ∧ Below w.heap.size w w' := by
 have hu26 := Tryd.underlying26
 have HB := Aside0.mk (Below.refl w.heap.size w)
 have H : (some (1, a0, (⟨#[]⟩ : ByteArray), true)) = some (r1, r2, r3, r4) := h
 clear h
 simp only [Option.some.injEq, Prod.mk.injEq] at H
 obtain ⟨rfl, rfl, rfl, rfl⟩ := H
 go_enter Tryd.func60, Tryd.ntmps60
 go_wp2_with (first | ((with_reducible refine xar (N := 2) rfl ?_); refine xaq ?hg (N := 2) ?hd (cs := #[.int .i8 0, .int .i64 0, .string (⟨#[]⟩ : ByteArray)]) (t := 26) ?hr ?_; (case hd => rfl); (case hg => rfl); (case hr => first | (go_simp; done) | (go_simp; rfl)); intro gb131 hg w2 hbox hb; have n0_ := Aside0.mk (xai (by repeat (first | (with_reducible first | exact HB.out | apply xab | apply xaa | apply xac) | exact HB.out)) hb); have n1_ := Aside0.mk (hbox); have n2_ := Aside0.mk ((by rw [hg]; exact (xap (by repeat (first | (with_reducible first | exact HB.out | apply xab | apply xaa | apply xac) | exact HB.out))) : w.heap.size ≤ gb131)); have n3_ := n2_; clear HB; have HB := n0_; have BK131 := n1_; have GW131 := n2_; have GE131 := n3_; clear n0_ n1_ n2_ n3_; clear hb hbox hg; obtain ⟨hcz3_0, hcz3_1, hcz3_2⟩ := cz3 BK131.out; obtain ⟨hfz3_0, hfz3_1, hfz3_2⟩ := fz3 BK131.out))
 refine bodyPost_ret (xat rfl _ _ gb131 26 #[.int .i8 1, .int .i64 a0, .string (⟨#[]⟩ : ByteArray)] (0, 0) _ rfl (by (with_reducible repeat (first | refine xae ?_ _ | refine xaf ?_ | refine xad ?_ _)); refine xas (cs := #[.int .i8 1, .int .i64 a0, .string (⟨#[]⟩ : ByteArray)]) ?_ 2 _ rfl; (with_reducible repeat (first | refine xae ?_ _ | refine xaf ?_ | refine xad ?_ _)); refine xas (cs := #[.int .i8 1, .int .i64 0, .string (⟨#[]⟩ : ByteArray)]) ?_ 1 _ rfl; (with_reducible repeat (first | refine xae ?_ _ | refine xaf ?_ | refine xad ?_ _)); refine xas (cs := #[.int .i8 0, .int .i64 0, .string (⟨#[]⟩ : ByteArray)]) ?_ 0 _ rfl; (with_reducible repeat (first | refine xae ?_ _ | refine xaf ?_ | refine xad ?_ _)); exact BK131.out) Tryd.underlying26 rfl (by kernel_rfl)) rfl ?_
 exact ⟨by first | rfl | (simp [xak, xal] <;> rfl) | (simp [*, xak, xal] <;> rfl), by repeat (first | (with_reducible first | exact HB.out | apply xab | apply xaa | apply xac | refine xag ?_ GE131.out) | exact HB.out)⟩
def value_divide.f (a0 : Int) (a1 : Int) (a2 : Int) : Option (Int × Bool) := if a2 = 0 then some (0, false) else if a0 = 5 then some (wrap64 (a1.tdiv a2), true) else some (a1.tmod a2, true)
theorem divide_panicking (p q : Addr) (hp : p.block ≠ q.block) (u : TypeId) (pv : Value) (older : List PanicEntry) (w : World) {x : Int} {y : Bool} (hc : w.cell? p = some (.int .i64 x)) (hz : w.frozen? p = false) (hc2 : w.cell? q = some (.bool y)) (hz2 : w.frozen? q = false) :
  CallsD Tryd.prog 102 #[.pointer (some p), .pointer (some q)] (.panicking ({ v := .iface u pv, recovered := false } :: older)) w fun e u' w' =>
   e = .returned (.tuple #[]) ∧ u' = .panicking ({ v := .iface u pv, recovered := true } :: older) ∧ w' = (w.setCell p (.int .i64 0)).setCell q (.bool false) := by
 have h2 : (w.setCell p (.int .i64 0)).cell? q = some (.bool y) := by rw [World.cell?_setCell_other _ _ _ _ (by exact fun h => hp (by rw [h]))]; exact hc2
 have h3 : (w.setCell p (.int .i64 0)).frozen? q = false := by simpa using hz2
 refine callsD_of_wpS Tryd.func102 rfl fun c₀ cs hu => ?_
 apply wpS_seq
 apply wpS_region
 simp [wpOpsS, go_sem, recoverD, hu, Tryd.ntmps102, Exit.thenS]
 refine wpS_cond (t := true) (by simp [Act.eval, Array.replicate]) ?_
 simp only [if_true]
 apply wpS_region
 simp [wpOpsS, go_sem, hc, hz, h2, h3, bodyPostS, results, Tryd.results102]
theorem divide_idle (p q : Addr) (w : World) :
  CallsD Tryd.prog 102 #[.pointer (some p), .pointer (some q)] .returning w fun e u' w' => e = .returned (.tuple #[]) ∧ u' = .returning ∧ w' = w := by
 refine callsD_of_wpS Tryd.func102 rfl fun c₀ cs hu => ?_
 apply wpS_seq
 apply wpS_region
 simp [wpOpsS, go_sem, recoverD, hu, Tryd.ntmps102, Exit.thenS]
 refine wpS_cond (t := false) (by simp [Act.eval, Array.replicate]) ?_
 simp only [Bool.false_eq_true, if_false]
 refine wpS_of_wp (wp_skip ?_)
 cases c₀
 simp_all [bodyPostS, results, Tryd.results102]
set_option maxHeartbeats 1000000 in
theorem value_divide.calls (a0 a1 a2 : Int) (r1 : Int) (r2 : Bool) (w : World) (h : value_divide.f a0 a1 a2 = some (r1, r2)) :
  Calls Tryd.prog 61 #[.int .i8 a0, .int .i64 a1, .int .i64 a2] w fun e w' => e = .returned (.tuple #[.int .i64 r1, .bool r2]) ∧ Below w.heap.size w w' := by
 have hmf : ∀ (fn : Fn) (first cap : Array Value) (w : World), (Instr.makeFunc fn first cap).run Tryd.prog w = .ok (.func fn first cap) w := fun _ _ _ _ => rfl
 by_cases hz : a2 = 0
 ·subst hz
  rw [value_divide.f, if_pos rfl] at h
  obtain ⟨rfl, rfl⟩ : 0 = r1 ∧ false = r2 := by simpa using h
  by_cases h5 : a0 = 5
  all_goals
   go_enter_defers Tryd.func61, Tryd.ntmps61
   go_wp2
   refine leaves_cons (f := 102) (args := #[.pointer (some ⟨w.heap.size, 0, none⟩), .pointer (some ⟨w.heap.size + 1, 0, none⟩)]) (by simp) (by simp [go_sem]) ?_
   refine (divide_panicking ⟨w.heap.size, 0, none⟩ ⟨w.heap.size + 1, 0, none⟩ (by simp) _ _ [] _ (x := 0) (y := false) ?_ ?_ ?_ ?_).mono ?_
   ·simp [go_sem]
   ·simp [go_sem]
   ·simp [go_sem]
   ·simp [go_sem]
   rintro e u' w'' ⟨rfl, rfl, rfl⟩
   simp [Leaves, settle, results, Tryd.results61, go_sem]
   exact xab (xab (Below.refl _ _) _) _
 ·rw [value_divide.f, if_neg hz] at h
  by_cases h5 : a0 = 5
  ·rw [if_pos h5] at h
   obtain ⟨rfl, rfl⟩ : wrap64 (a1.tdiv a2) = r1 ∧ true = r2 := by simpa using h
   go_enter_defers Tryd.func61, Tryd.ntmps61
   go_wp2
   refine leaves_cons (f := 102) (args := #[.pointer (some ⟨w.heap.size, 0, none⟩), .pointer (some ⟨w.heap.size + 1, 0, none⟩)]) (by simp) (by simp [go_sem]) ?_
   refine (divide_idle ⟨w.heap.size, 0, none⟩ ⟨w.heap.size + 1, 0, none⟩ _).mono ?_
   rintro e u' w'' ⟨rfl, rfl, rfl⟩
   simp [Leaves, settle, results, Tryd.results61, go_sem, wrap64]
   exact xab (xab (Below.refl _ _) _) _
  ·rw [if_neg h5] at h
   obtain ⟨rfl, rfl⟩ : a1.tmod a2 = r1 ∧ true = r2 := by simpa using h
   go_enter_defers Tryd.func61, Tryd.ntmps61
   go_wp2
   refine leaves_cons (f := 102) (args := #[.pointer (some ⟨w.heap.size, 0, none⟩), .pointer (some ⟨w.heap.size + 1, 0, none⟩)]) (by simp) (by simp [go_sem]) ?_
   refine (divide_idle ⟨w.heap.size, 0, none⟩ ⟨w.heap.size + 1, 0, none⟩ _).mono ?_
   rintro e u' w'' ⟨rfl, rfl, rfl⟩
   simp [Leaves, settle, results, Tryd.results61, go_sem, wrap64]
   exact xab (xab (Below.refl _ _) _) _
def value_text.f (a0 : ByteArray) : Option (Int × Int × ByteArray × Bool) := if (a0.size : Int) > 200 then (some (0, 0, (⟨#[]⟩ : ByteArray), false)) else (some (2, 0, a0, true))
set_option maxHeartbeats 8000000 in
set_option maxRecDepth 100000 in
theorem value_text.calls (a0 : ByteArray) (r1 : Int) (r2 : Int) (r3 : ByteArray) (r4 : Bool) (w : World) (h : value_text.f a0 = some (r1, r2, r3, r4)) :
  Calls Tryd.prog 62 #[.string a0] w fun e w' => e = .returned (.tuple #[.agg #[.int .i8 r1, .int .i64 r2, .string r3], .bool r4]) ∧ Below w.heap.size w w' := by
 have hu26 := Tryd.underlying26
 have HB := Aside0.mk (Below.refl w.heap.size w)
 have H : (if (a0.size : Int) > 200 then (some (0, 0, (⟨#[]⟩ : ByteArray), false)) else (some (2, 0, a0, true))) = some (r1, r2, r3, r4) := h
 clear h
 by_cases c2 : (a0.size : Int) > 200
 ·rw [if_pos c2] at H
  have c2b0 : decide (200 < (a0.size : Int)) = true := decide_eq_true c2
  have c2b1 : decide (200 < a0.size) = true := decide_eq_true (by omega)
  clear c2
  simp only [Option.some.injEq, Prod.mk.injEq] at H
  obtain ⟨rfl, rfl, rfl, rfl⟩ := H
  go_enter Tryd.func62, Tryd.ntmps62
  go_wp2_with (first | ((with_reducible refine xar (N := 2) rfl ?_); refine xaq ?hg (N := 2) ?hd (cs := #[.int .i8 0, .int .i64 0, .string (⟨#[]⟩ : ByteArray)]) (t := 26) ?hr ?_; (case hd => rfl); (case hg => rfl); (case hr => first | (go_simp; done) | (go_simp; rfl)); intro gb132 hg w3 hbox hb; have n0_ := Aside0.mk (xai (by repeat (first | (with_reducible first | exact HB.out | apply xab | apply xaa | apply xac) | exact HB.out)) hb); have n1_ := Aside0.mk (hbox); have n2_ := Aside0.mk ((by rw [hg]; exact (xap (by repeat (first | (with_reducible first | exact HB.out | apply xab | apply xaa | apply xac) | exact HB.out))) : w.heap.size ≤ gb132)); have n3_ := n2_; clear HB; have HB := n0_; have BK132 := n1_; have GW132 := n2_; have GE132 := n3_; clear n0_ n1_ n2_ n3_; clear hb hbox hg; obtain ⟨hcz4_0, hcz4_1, hcz4_2⟩ := cz3 BK132.out; obtain ⟨hfz4_0, hfz4_1, hfz4_2⟩ := fz3 BK132.out))
  refine bodyPost_ret (xat rfl _ _ gb132 26 #[.int .i8 0, .int .i64 0, .string (⟨#[]⟩ : ByteArray)] (0, 0) _ rfl (by (with_reducible repeat (first | refine xae ?_ _ | refine xaf ?_ | refine xad ?_ _)); refine xas (cs := #[.int .i8 0, .int .i64 0, .string (⟨#[]⟩ : ByteArray)]) ?_ 2 _ rfl; (with_reducible repeat (first | refine xae ?_ _ | refine xaf ?_ | refine xad ?_ _)); refine xas (cs := #[.int .i8 0, .int .i64 0, .string (⟨#[]⟩ : ByteArray)]) ?_ 1 _ rfl; (with_reducible repeat (first | refine xae ?_ _ | refine xaf ?_ | refine xad ?_ _)); refine xas (cs := #[.int .i8 0, .int .i64 0, .string (⟨#[]⟩ : ByteArray)]) ?_ 0 _ rfl; (with_reducible repeat (first | refine xae ?_ _ | refine xaf ?_ | refine xad ?_ _)); exact BK132.out) Tryd.underlying26 rfl (by kernel_rfl)) rfl ?_
  exact ⟨by first | rfl | (simp [xak, xal] <;> rfl) | (simp [*, xak, xal] <;> rfl), by repeat (first | (with_reducible first | exact HB.out | apply xab | apply xaa | apply xac | refine xag ?_ GE132.out) | exact HB.out)⟩
 ·rw [if_neg c2] at H
  have c2b0 : decide (200 < (a0.size : Int)) = false := decide_eq_false c2
  have c2b1 : decide (200 < a0.size) = false := decide_eq_false (by omega)
  clear c2
  simp only [Option.some.injEq, Prod.mk.injEq] at H
  obtain ⟨rfl, rfl, rfl, rfl⟩ := H
  go_enter Tryd.func62, Tryd.ntmps62
  go_wp2_with (first | ((with_reducible refine xar (N := 2) rfl ?_); refine xaq ?hg (N := 2) ?hd (cs := #[.int .i8 0, .int .i64 0, .string (⟨#[]⟩ : ByteArray)]) (t := 26) ?hr ?_; (case hd => rfl); (case hg => rfl); (case hr => first | (go_simp; done) | (go_simp; rfl)); intro gb132 hg w5 hbox hb; have n0_ := Aside0.mk (xai (by repeat (first | (with_reducible first | exact HB.out | apply xab | apply xaa | apply xac) | exact HB.out)) hb); have n1_ := Aside0.mk (hbox); have n2_ := Aside0.mk ((by rw [hg]; exact (xap (by repeat (first | (with_reducible first | exact HB.out | apply xab | apply xaa | apply xac) | exact HB.out))) : w.heap.size ≤ gb132)); have n3_ := n2_; clear HB; have HB := n0_; have BK132 := n1_; have GW132 := n2_; have GE132 := n3_; clear n0_ n1_ n2_ n3_; clear hb hbox hg; obtain ⟨hcz6_0, hcz6_1, hcz6_2⟩ := cz3 BK132.out; obtain ⟨hfz6_0, hfz6_1, hfz6_2⟩ := fz3 BK132.out))
  refine bodyPost_ret (xat rfl _ _ gb132 26 #[.int .i8 2, .int .i64 0, .string a0] (0, 0) _ rfl (by (with_reducible repeat (first | refine xae ?_ _ | refine xaf ?_ | refine xad ?_ _)); refine xas (cs := #[.int .i8 2, .int .i64 0, .string (⟨#[]⟩ : ByteArray)]) ?_ 2 _ rfl; (with_reducible repeat (first | refine xae ?_ _ | refine xaf ?_ | refine xad ?_ _)); refine xas (cs := #[.int .i8 2, .int .i64 0, .string (⟨#[]⟩ : ByteArray)]) ?_ 1 _ rfl; (with_reducible repeat (first | refine xae ?_ _ | refine xaf ?_ | refine xad ?_ _)); refine xas (cs := #[.int .i8 0, .int .i64 0, .string (⟨#[]⟩ : ByteArray)]) ?_ 0 _ rfl; (with_reducible repeat (first | refine xae ?_ _ | refine xaf ?_ | refine xad ?_ _)); exact BK132.out) Tryd.underlying26 rfl (by kernel_rfl)) rfl ?_
  exact ⟨by first | rfl | (simp [xak, xal] <;> rfl) | (simp [*, xak, xal] <;> rfl), by repeat (first | (with_reducible first | exact HB.out | apply xab | apply xaa | apply xac | refine xag ?_ GE132.out) | exact HB.out)⟩
def valueOk (x : S26) : Bool := (value_Check.f x.f0 x.f1 x.f2).getD 1 == 0
def howOf (op : Int) : Int := if op = 1 then 1 else if 2 ≤ op ∧ op ≤ 6 then 2 else if op = 7 then 4 else if 8 ≤ op ∧ op ≤ 10 then 3 else 0
def fitsV (how : Int) (l : List S26) : Bool :=
 if how = 0 then false else decide (l.length = (if how = 2 ∨ how = 4 then 2 else 1)) && l.all (fun v => decide (v.f0 = (if how = 4 ∨ how = 3 then 2 else 1)) && valueOk v)
theorem valueOk_tot (x : S26) : ∃ r, value_Check.f x.f0 x.f1 x.f2 = some r ∧ valueOk x = (r == 0) := by
 unfold valueOk value_Check.f
 repeat' split
 all_goals exact ⟨_, rfl, rfl⟩
theorem fits_l0 (kd : Int) (l : List S26) (hl : l.length ≤ 100) : ∀ (m i : Nat), l.length - i = m → i ≤ l.length → Ev (fun k => value_fits.l0 k kd l (l.length : Int) (i : Int)) ((l.drop i).all (fun v => decide (v.f0 = kd) && valueOk v))
 | 0, i, hm, hi => by
  rw [List.drop_eq_nil_of_le (by omega)]
  exact Ev.of (fun k => by rw [value_fits.l0, if_neg (by omega)]; rfl)
 | m + 1, i, hm, hi => by
  have hlt : i < l.length := by omega
  have e : rd_T26 l (i : Int) = l[i] := by rw [rd_T26, List.getD_eq_getElem?_getD, Int.toNat_natCast, List.getElem?_eq_getElem hlt]; rfl
  have ih := fits_l0 kd l hl m (i + 1) (by omega) (by omega)
  obtain ⟨r, hr, hv⟩ := valueOk_tot l[i]
  rw [List.drop_eq_getElem_cons hlt, List.all_cons]
  by_cases h : l[i].f0 = kd
  ·by_cases h0 : r = 0
   ·rw [show (decide (l[i].f0 = kd) && valueOk l[i]) = true by rw [hv, h0, decide_eq_true h]; rfl, Bool.true_and]
    refine ih.step (fun k => ?_)
    rw [value_fits.l0, if_pos (by omega), if_pos (by omega), if_pos (by omega), e, if_pos h, hr]
    show (if r = 0 then _ else _) = _
    rw [if_pos h0, w64 (by omega) (by omega)]
    rfl
   ·rw [show (decide (l[i].f0 = kd) && valueOk l[i]) = false by rw [hv, show (r == 0) = false by simpa using h0, Bool.and_false], Bool.false_and]
    refine Ev.of (fun k => ?_)
    rw [value_fits.l0, if_pos (by omega), if_pos (by omega), if_pos (by omega), e, if_pos h, hr]
    show (if r = 0 then _ else _) = _
    rw [if_neg h0]
  ·rw [decide_eq_false h, Bool.false_and, Bool.false_and]
   refine Ev.of (fun k => ?_)
   rw [value_fits.l0, if_pos (by omega), if_pos (by omega), if_pos (by omega), e, if_neg h]
theorem fits_j0 (n kd : Int) (hn : n ≤ 100) (l : List S26) : Ev (fun k => value_fits.j0 k l n kd) (decide ((l.length : Int) = n) && l.all (fun v => decide (v.f0 = kd) && valueOk v)) := by
 by_cases h : (l.length : Int) = n
 ·have h1 := fits_l0 kd l (by omega) _ 0 rfl (Nat.zero_le _)
  rw [List.drop_zero] at h1
  rw [decide_eq_true h, Bool.true_and]
  exact h1.step (fun k => by rw [value_fits.j0, if_pos h]; rfl)
 ·rw [decide_eq_false h, Bool.false_and]
  exact Ev.of (fun k => by rw [value_fits.j0, if_neg h])
theorem fits_ev (how : Int) (hh : 0 ≤ how ∧ how ≤ 4) (l : List S26) : Ev (fun k => value_fits.f k how l) (fitsV how l) := by
 rw [fitsV]
 by_cases h0 : how = 0
 ·exact Ev.const (fun k => by rw [value_fits.f, if_pos h0, if_pos h0])
 ·rw [if_neg h0]
  by_cases h2 : how = 2
  ·subst h2
   have e : (decide (l.length = if (2 : Int) = 2 ∨ (2 : Int) = 4 then 2 else 1)) = decide ((l.length : Int) = 2) := by simp; omega
   rw [e]
   exact (fits_j0 2 1 (by omega) l).cong (fun k => by rw [value_fits.f, if_neg (by omega), if_pos rfl])
  ·by_cases h4 : how = 4
   ·subst h4
    have e : (decide (l.length = if (4 : Int) = 2 ∨ (4 : Int) = 4 then 2 else 1)) = decide ((l.length : Int) = 2) := by simp; omega
    rw [e]
    exact (fits_j0 2 2 (by omega) l).cong (fun k => by rw [value_fits.f, if_neg (by omega), if_neg (by omega), if_pos rfl])
   ·by_cases h3 : how = 3
    ·subst h3
     have e : (decide (l.length = if (3 : Int) = 2 ∨ (3 : Int) = 4 then 2 else 1)) = decide ((l.length : Int) = 1) := by simp; omega
     rw [e]
     exact (fits_j0 1 2 (by omega) l).cong (fun k => by rw [value_fits.f, if_neg (by omega), if_neg (by omega), if_neg (by omega), if_pos rfl])
    ·obtain rfl : how = 1 := by omega
     have e : (decide (l.length = if (1 : Int) = 2 ∨ (1 : Int) = 4 then 2 else 1)) = decide ((l.length : Int) = 1) := by simp; omega
     rw [e]
     exact (fits_j0 1 1 (by omega) l).cong (fun k => by rw [value_fits.f, if_neg (by omega), if_neg (by omega), if_neg (by omega), if_neg (by omega)])
def charsL (s : ByteArray) : Nat → Nat → Int → Int
 | 0, _, n => n
 | f + 1, pos, n => if pos < s.size then charsL s f (pos + (Utf8.decode s pos).2) (n + 1) else n
def arithV (op : Int) (l : List S26) : Int × Int × ByteArray × Bool :=
 if op < 0 ∨ 11 ≤ op ∨ fitsV (howOf op) l = false then (0, 0, ⟨#[]⟩, false)
 else if op = 1 then (1, wrap64 (-(l.getD 0 z26).f1), ⟨#[]⟩, true)
 else if op = 2 then (1, wrap64 ((l.getD 0 z26).f1 + (l.getD 1 z26).f1), ⟨#[]⟩, true)
 else if op = 3 then (1, wrap64 ((l.getD 0 z26).f1 - (l.getD 1 z26).f1), ⟨#[]⟩, true)
 else if op = 4 then (1, wrap64 ((l.getD 0 z26).f1 * (l.getD 1 z26).f1), ⟨#[]⟩, true)
 else if op = 5 ∨ op = 6 then (if (l.getD 1 z26).f1 = 0 then (0, 0, ⟨#[]⟩, false) else (1, (if op = 5 then wrap64 ((l.getD 0 z26).f1.tdiv (l.getD 1 z26).f1) else (l.getD 0 z26).f1.tmod (l.getD 1 z26).f1), ⟨#[]⟩, true))
 else if op = 7 then (if (((l.getD 0 z26).f2 ++ (l.getD 1 z26).f2).size : Int) > 200 then (0, 0, ⟨#[]⟩, false) else (2, 0, (l.getD 0 z26).f2 ++ (l.getD 1 z26).f2, true))
 else if op = 8 then (1, ((l.getD 0 z26).f2.size : Int), ⟨#[]⟩, true)
 else if op = 9 then (1, charsL (l.getD 0 z26).f2 (l.getD 0 z26).f2.size 0 0, ⟨#[]⟩, true)
 else (if ((backOf (l.getD 0 z26).f2).size : Int) > 200 then (0, 0, ⟨#[]⟩, false) else (2, 0, backOf (l.getD 0 z26).f2, true))
theorem xbg {w : World} (h : TabA w) (o : Obj) (i : Nat) (hi : i < 11) : (w.alloc o).cell? ⟨0, i, none⟩ = some (.int .i8 ([0, 1, 2, 2, 2, 2, 2, 4, 3, 3, 3].getD i 0)) := by
 have h1 := h.below (xab (Below.refl _ _) o)
 have h2 := Lib.TabIs.cell h1 (show Tryd.prog.globalNamed "pedigree/value.takes" = some 0 by kernel_rfl) i hi
 exact h2
theorem xbc (a : Addr) (j : Nat) : (⟨(a.add 3).block, (a.add 3).off + j, none⟩ : Addr) = ⟨a.block, a.off + 3 + j, none⟩ := by unfold Addr.add; split <;> simp_all
theorem put3 {w : World} {g : Nat} {t : TypeId} {x y z a b c : Value} (h : w.heap[g]? = some (.cells #[x, y, z] t (0, 0))) : (((w.setCell ⟨g, 0, none⟩ a).setCell ⟨g, 1, none⟩ b).setCell ⟨g, 2, none⟩ c).heap[g]? = some (.cells #[a, b, c] t (0, 0)) := by
 have := blk_set (blk_set (blk_set h 0 a) 1 b) 2 c
 simpa using this
theorem below3 {w0 w : World} {g : Nat} (h : Below w0.heap.size w0 w) (hg : w0.heap.size ≤ g) (a b c : Value) : Below w0.heap.size w0 (((w.setCell ⟨g, 0, none⟩ a).setCell ⟨g, 1, none⟩ b).setCell ⟨g, 2, none⟩ c) := xag (xag (xag h hg) hg) hg
theorem xbf {op : Int} {l : List S26} (h : fitsV (howOf op) l = false) : arithV op l = (0, 0, ⟨#[]⟩, false) := by rw [arithV, if_pos (.inr (.inr h))]
theorem xbe {op : Int} {l : List S26} (h0 : ¬ op < 0) (h1 : ¬ 11 ≤ op) (h : fitsV (howOf op) l = true) : ¬ (op < 0 ∨ 11 ≤ op ∨ fitsV (howOf op) l = false) := by
 rintro (h2 | h2 | h2)
 ·exact h0 h2
 ·exact h1 h2
 ·rw [h] at h2; cases h2
theorem xbi {how : Int} {l : List S26} (h : fitsV how l = true) : l.length = (if how = 2 ∨ how = 4 then 2 else 1) := by
 rw [fitsV] at h
 split at h
 ·simp at h
 ·rw [Bool.and_eq_true] at h
  exact of_decide_eq_true h.1
theorem fits_size {how : Int} {l : List S26} (h : fitsV how l = true) : ∀ v ∈ l, v.f2.size ≤ 200 := by
 rw [fitsV] at h
 split at h
 ·simp at h
 ·rw [Bool.and_eq_true] at h
  intro v hv
  have h2 := List.all_eq_true.1 h.2 v hv
  rw [Bool.and_eq_true] at h2
  obtain ⟨q, hq, hv2⟩ := valueOk_tot v
  have h3 := h2.2
  rw [hv2] at h3
  have hq0 : q = 0 := by simpa using h3
  subst hq0
  have ht : v.f2.toList = [] → v.f2.size = 0 := fun ht => by
   rw [xbj] at ht
   have := congrArg List.length ht
   simpa using this
  unfold value_Check.f at hq
  repeat' split at hq
  all_goals first | (have := ht (by assumption); omega) | omega | (simp at hq; done)
set_option maxHeartbeats 2000000 in
set_option maxRecDepth 100000 in
theorem arith_0 (A : Option Addr) (c : Nat) (l : List S26) (r : Int × Int × ByteArray × Bool) (w : World) (hr : Kd.C k26 w A l.length l) (hc : l.length ≤ c) (hT : TabA w) (h : arithV 0 l = r) :
  Calls Tryd.prog 17 #[.int .i8 0, .slice A l.length c] w fun e w' => e = .returned (.tuple #[.agg #[.int .i8 r.1, .int .i64 r.2.1, .string r.2.2.1], .bool r.2.2.2]) ∧ Below w.heap.size w w' := by
 have hcell := xbg hT (.cells #[.int .i8 0, .int .i64 0, .string ⟨#[]⟩] 26) 0 (by decide)
 have HR := Lib.hid hr
 have HK := Lib.hid (xaz w (.cells #[.int .i8 0, .int .i64 0, .string ⟨#[]⟩] 26 (0, 0)))
 have HW := Lib.hid (xab (Below.refl w.heap.size w) (.cells #[.int .i8 0, .int .i64 0, .string ⟨#[]⟩] 26))
 clear hr hT
 obtain ⟨k, hk⟩ := (fits_ev 0 (by decide) l).at
 go_enter Tryd.func17, Tryd.ntmps17
 go_wp2_with fail
 refine (value_fits.calls (k := k) (hr1 := Kd.C_below HR.out HW.out) (hc1 := hc) (h := hk)).mono ?_
 rintro e w1 ⟨rfl, hb⟩
 have HB := Lib.hid (xai HW.out hb)
 have HK1 := Lib.hid (xan HK.out hb)
 clear hb hcell HK HW hk
 cases hf : fitsV 0 l with
 | false =>
  have hr0 := (xbf (op := 0) (l := l) hf).symm.trans h
  subst hr0
  have z0 : w1.cell? ⟨w.heap.size, 0, none⟩ = some (.int .i8 0) := (xaj HK1.out 0).trans rfl
  have z1 : w1.cell? ⟨w.heap.size, 1, none⟩ = some (.int .i64 0) := (xaj HK1.out 1).trans rfl
  have z2 : w1.cell? ⟨w.heap.size, 2, none⟩ = some (.string ⟨#[]⟩) := (xaj HK1.out 2).trans rfl
  have y0 := xam HK1.out 0
  have y1 := xam HK1.out 1
  have y2 := xam HK1.out 2
  go_wp2_with fail
  refine bodyPost_ret (xat rfl _ _ w.heap.size 26 #[.int .i8 0, .int .i64 0, .string ⟨#[]⟩] (0, 0) _ rfl (put3 HK1.out) Tryd.underlying26 rfl (by kernel_rfl)) rfl ?_
  exact ⟨rfl, below3 HB.out (Nat.le_refl _) _ _ _⟩
 | true =>
  have hlen := xbi hf
  have hlen' : l.length = 1 := hlen
  exact absurd hf (by simp [fitsV])
set_option maxHeartbeats 2000000 in
set_option maxRecDepth 100000 in
theorem arith_1 (A : Option Addr) (c : Nat) (l : List S26) (r : Int × Int × ByteArray × Bool) (w : World) (hr : Kd.C k26 w A l.length l) (hc : l.length ≤ c) (hT : TabA w) (h : arithV 1 l = r) :
  Calls Tryd.prog 17 #[.int .i8 1, .slice A l.length c] w fun e w' => e = .returned (.tuple #[.agg #[.int .i8 r.1, .int .i64 r.2.1, .string r.2.2.1], .bool r.2.2.2]) ∧ Below w.heap.size w w' := by
 have hcell := xbg hT (.cells #[.int .i8 0, .int .i64 0, .string ⟨#[]⟩] 26) 1 (by decide)
 have HR := Lib.hid hr
 have HK := Lib.hid (xaz w (.cells #[.int .i8 0, .int .i64 0, .string ⟨#[]⟩] 26 (0, 0)))
 have HW := Lib.hid (xab (Below.refl w.heap.size w) (.cells #[.int .i8 0, .int .i64 0, .string ⟨#[]⟩] 26))
 clear hr hT
 obtain ⟨k, hk⟩ := (fits_ev 1 (by decide) l).at
 go_enter Tryd.func17, Tryd.ntmps17
 go_wp2_with fail
 refine (value_fits.calls (k := k) (hr1 := Kd.C_below HR.out HW.out) (hc1 := hc) (h := hk)).mono ?_
 rintro e w1 ⟨rfl, hb⟩
 have HB := Lib.hid (xai HW.out hb)
 have HK1 := Lib.hid (xan HK.out hb)
 clear hb hcell HK HW hk
 cases hf : fitsV 1 l with
 | false =>
  have hr0 := (xbf (op := 1) (l := l) hf).symm.trans h
  subst hr0
  have z0 : w1.cell? ⟨w.heap.size, 0, none⟩ = some (.int .i8 0) := (xaj HK1.out 0).trans rfl
  have z1 : w1.cell? ⟨w.heap.size, 1, none⟩ = some (.int .i64 0) := (xaj HK1.out 1).trans rfl
  have z2 : w1.cell? ⟨w.heap.size, 2, none⟩ = some (.string ⟨#[]⟩) := (xaj HK1.out 2).trans rfl
  have y0 := xam HK1.out 0
  have y1 := xam HK1.out 1
  have y2 := xam HK1.out 2
  go_wp2_with fail
  refine bodyPost_ret (xat rfl _ _ w.heap.size 26 #[.int .i8 0, .int .i64 0, .string ⟨#[]⟩] (0, 0) _ rfl (put3 HK1.out) Tryd.underlying26 rfl (by kernel_rfl)) rfl ?_
  exact ⟨rfl, below3 HB.out (Nat.le_refl _) _ _ _⟩
 | true =>
  have hlen := xbi hf
  have hlen' : l.length = 1 := hlen
  rw [arithV, if_neg (xbe (op := 1) (l := l) (by decide) (by decide) hf)] at h
  obtain ⟨ad, rfl, g0, g1, g2⟩ := at_T26 (Kd.C_below HR.out HB.out) (0 : Int) (by omega) (by omega)
  rw [show ad.add ((0 : Int).toNat * 3) = ad by cases ad; simp [Addr.add]] at g0 g1 g2
  have h2 : ((1, wrap64 (-(rd_T26 l (0 : Int)).f1), ⟨#[]⟩, true) : Int × Int × ByteArray × Bool) = r := h
  subst h2
  clear h
  go_wp2_with fail
  refine (value_number.calls (wrap64 (-(rd_T26 l (0 : Int)).f1)) 1 (wrap64 (-(rd_T26 l (0 : Int)).f1)) ⟨#[]⟩ true w1 rfl).mono ?_
  rintro e w2 ⟨rfl, hb⟩
  have HB2 := Lib.hid (xai HB.out hb)
  have HK2 := Lib.hid (xan HK1.out hb)
  clear hb
  have z0 : w2.cell? ⟨w.heap.size, 0, none⟩ = some (.int .i8 0) := (xaj HK2.out 0).trans rfl
  have y0 := xam HK2.out 0
  have z1 : w2.cell? ⟨w.heap.size, 1, none⟩ = some (.int .i64 0) := (xaj HK2.out 1).trans rfl
  have y1 := xam HK2.out 1
  have z2 : w2.cell? ⟨w.heap.size, 2, none⟩ = some (.string ⟨#[]⟩) := (xaj HK2.out 2).trans rfl
  have y2 := xam HK2.out 2
  go_wp2_with fail
  refine bodyPost_ret (xat rfl _ _ w.heap.size 26 #[.int .i8 1, .int .i64 (wrap64 (-(rd_T26 l (0 : Int)).f1)), .string ⟨#[]⟩] (0, 0) _ rfl (put3 HK2.out) Tryd.underlying26 rfl (by kernel_rfl)) rfl ?_
  exact ⟨rfl, below3 HB2.out (Nat.le_refl _) _ _ _⟩
set_option maxHeartbeats 2000000 in
set_option maxRecDepth 100000 in
theorem arith_2 (A : Option Addr) (c : Nat) (l : List S26) (r : Int × Int × ByteArray × Bool) (w : World) (hr : Kd.C k26 w A l.length l) (hc : l.length ≤ c) (hT : TabA w) (h : arithV 2 l = r) :
  Calls Tryd.prog 17 #[.int .i8 2, .slice A l.length c] w fun e w' => e = .returned (.tuple #[.agg #[.int .i8 r.1, .int .i64 r.2.1, .string r.2.2.1], .bool r.2.2.2]) ∧ Below w.heap.size w w' := by
 have hcell := xbg hT (.cells #[.int .i8 0, .int .i64 0, .string ⟨#[]⟩] 26) 2 (by decide)
 have HR := Lib.hid hr
 have HK := Lib.hid (xaz w (.cells #[.int .i8 0, .int .i64 0, .string ⟨#[]⟩] 26 (0, 0)))
 have HW := Lib.hid (xab (Below.refl w.heap.size w) (.cells #[.int .i8 0, .int .i64 0, .string ⟨#[]⟩] 26))
 clear hr hT
 obtain ⟨k, hk⟩ := (fits_ev 2 (by decide) l).at
 go_enter Tryd.func17, Tryd.ntmps17
 go_wp2_with fail
 refine (value_fits.calls (k := k) (hr1 := Kd.C_below HR.out HW.out) (hc1 := hc) (h := hk)).mono ?_
 rintro e w1 ⟨rfl, hb⟩
 have HB := Lib.hid (xai HW.out hb)
 have HK1 := Lib.hid (xan HK.out hb)
 clear hb hcell HK HW hk
 cases hf : fitsV 2 l with
 | false =>
  have hr0 := (xbf (op := 2) (l := l) hf).symm.trans h
  subst hr0
  have z0 : w1.cell? ⟨w.heap.size, 0, none⟩ = some (.int .i8 0) := (xaj HK1.out 0).trans rfl
  have z1 : w1.cell? ⟨w.heap.size, 1, none⟩ = some (.int .i64 0) := (xaj HK1.out 1).trans rfl
  have z2 : w1.cell? ⟨w.heap.size, 2, none⟩ = some (.string ⟨#[]⟩) := (xaj HK1.out 2).trans rfl
  have y0 := xam HK1.out 0
  have y1 := xam HK1.out 1
  have y2 := xam HK1.out 2
  go_wp2_with fail
  refine bodyPost_ret (xat rfl _ _ w.heap.size 26 #[.int .i8 0, .int .i64 0, .string ⟨#[]⟩] (0, 0) _ rfl (put3 HK1.out) Tryd.underlying26 rfl (by kernel_rfl)) rfl ?_
  exact ⟨rfl, below3 HB.out (Nat.le_refl _) _ _ _⟩
 | true =>
  have hlen := xbi hf
  have hlen' : l.length = 2 := hlen
  rw [arithV, if_neg (xbe (op := 2) (l := l) (by decide) (by decide) hf)] at h
  obtain ⟨ad, rfl, g0, g1, g2⟩ := at_T26 (Kd.C_below HR.out HB.out) (0 : Int) (by omega) (by omega)
  rw [show ad.add ((0 : Int).toNat * 3) = ad by cases ad; simp [Addr.add]] at g0 g1 g2
  obtain ⟨ad', he, j0, j1, j2⟩ := at_T26 (Kd.C_below HR.out HB.out) (1 : Int) (by omega) (by omega)
  obtain rfl := Option.some.inj he
  rw [show (1 : Int).toNat * 3 = 3 from rfl] at j0 j1 j2
  replace j1 : w1.cell? ⟨ad.block, ad.off + 3 + 1, none⟩ = some (.int .i64 (rd_T26 l (1 : Int)).f1) := by rw [← xbc ad 1]; exact j1
  replace j2 : w1.cell? ⟨ad.block, ad.off + 3 + 2, none⟩ = some (.string (rd_T26 l (1 : Int)).f2) := by rw [← xbc ad 2]; exact j2
  have h2 : ((1, wrap64 ((rd_T26 l (0 : Int)).f1 + (rd_T26 l (1 : Int)).f1), ⟨#[]⟩, true) : Int × Int × ByteArray × Bool) = r := h
  subst h2
  clear h
  go_wp2_with fail
  refine start_ (n := 14) (S := fun w' => w'.cell? ⟨ad.block, ad.off + 1, none⟩ = some (.int .i64 (rd_T26 l (0 : Int)).f1) ∧ w'.cell? ⟨ad.block, ad.off + 3 + 1, none⟩ = some (.int .i64 (rd_T26 l (1 : Int)).f1) ∧ w'.heap[w.heap.size]? = some (.cells #[.int .i8 0, .int .i64 0, .string ⟨#[]⟩] 26 (0, 0)) ∧ Hid (Below w.heap.size w w')) (ds := [12]) #[false, false, false, false, false, false, false, false, false, false, false, false, false, false] (by kernel_rfl) rfl rfl ⟨g1, j1, HK1.out, (Lib.hid (xba HB.out))⟩ (fun hHeld => ?_)
  refine pure_ (i := 0) (N := some 38) (v := ?_) (a' := ?_) #[true, false, false, false, false, false, false, false, false, false, false, false, false, false] rfl rfl (by kernel_rfl) (fun _ _ _ h => h) (Or.inl ⟨by rfl, ?_⟩) ?_ ?_
  rotate_left
  ·intro w'
   go_simp
   with_reducible rfl
  rotate_left
  ·simp only [Act.put, sI, sZ, sS, i64_w, i32_w]
   rfl
  refine pure_ (i := 1) (N := some 39) (v := ?_) (a' := ?_) #[true, true, false, false, false, false, false, false, false, false, false, false, false, false] rfl rfl (by kernel_rfl) (fun _ _ _ h => h) (Or.inl ⟨by rfl, ?_⟩) ?_ ?_
  rotate_left
  ·intro w'
   go_simp
   with_reducible rfl
  rotate_left
  ·simp only [Act.put, sI, sZ, sS, i64_w, i32_w]
   rfl
  refine pure_ (i := 2) (N := some 40) (v := ?_) (a' := ?_) #[true, true, true, false, false, false, false, false, false, false, false, false, false, false] rfl rfl (by kernel_rfl) (fun _ _ _ h => h) (Or.inl ⟨by rfl, ?_⟩) ?_ ?_
  rotate_left
  ·intro w'
   go_simp
   with_reducible rfl
  rotate_left
  ·simp only [Act.put, sI, sZ, sS, i64_w, i32_w]
   rfl
  refine pure_ (i := 4) (N := some 42) (v := ?_) (a' := ?_) #[true, true, true, false, true, false, false, false, false, false, false, false, false, false] rfl rfl (by kernel_rfl) (fun _ _ _ h => h) (Or.inl ⟨by rfl, ?_⟩) ?_ ?_
  rotate_left
  ·intro w'
   go_simp
   with_reducible rfl
  rotate_left
  ·simp only [Act.put, sI, sZ, sS, i64_w, i32_w]
   rfl
  refine pure_ (i := 5) (N := some 43) (v := ?_) (a' := ?_) #[true, true, true, false, true, true, false, false, false, false, false, false, false, false] rfl rfl (by kernel_rfl) (fun _ _ _ h => h) (Or.inl ⟨by rfl, ?_⟩) ?_ ?_
  rotate_left
  ·intro w'
   go_simp
   with_reducible rfl
  rotate_left
  ·simp only [Act.put, sI, sZ, sS, i64_w, i32_w]
   rfl
  refine pure_ (i := 6) (N := some 44) (v := ?_) (a' := ?_) #[true, true, true, false, true, true, true, false, false, false, false, false, false, false] rfl rfl (by kernel_rfl) (fun _ _ _ h => h) (Or.inl ⟨by rfl, ?_⟩) ?_ ?_
  rotate_left
  ·intro w'
   go_simp
   with_reducible rfl
  rotate_left
  ·simp only [Act.put, sI, sZ, sS, i64_w, i32_w]
   rfl
  refine take_ (i := 3) (N := some 41) (v := ?_) (a' := ?_) #[true, true, true, true, true, true, true, false, false, false, false, false, false, false] rfl rfl (by kernel_rfl) (fun _ _ _ h => h) (Or.inl ⟨by rfl, ?_⟩) hHeld ?_ ?_
  rotate_left
  ·rintro w' ⟨s0, s1, s2, s3⟩
   go_simp
   with_reducible rfl
  rotate_left
  ·simp only [Act.put, sI, sZ, sS, i64_w, i32_w]
   rfl
  refine take_ (i := 7) (N := some 45) (v := ?_) (a' := ?_) #[true, true, true, true, true, true, true, true, false, false, false, false, false, false] rfl rfl (by kernel_rfl) (fun _ _ _ h => h) (Or.inl ⟨by rfl, ?_⟩) hHeld ?_ ?_
  rotate_left
  ·rintro w' ⟨s0, s1, s2, s3⟩
   go_simp
   with_reducible rfl
  rotate_left
  ·simp only [Act.put, sI, sZ, sS, i64_w, i32_w]
   rfl
  refine pure_ (i := 8) (N := some 46) (v := ?_) (a' := ?_) #[true, true, true, true, true, true, true, true, true, false, false, false, false, false] rfl rfl (by kernel_rfl) (fun _ _ _ h => h) (Or.inl ⟨by rfl, ?_⟩) ?_ ?_
  rotate_left
  ·intro w'
   go_simp
   with_reducible rfl
  rotate_left
  ·simp only [Act.put, sI, sZ, sS, i64_w, i32_w]
   rfl
  refine one_ (i := 9) (N := some 47) #[true, true, true, true, true, true, true, true, true, true, false, false, false, false] rfl rfl (by kernel_rfl) (by decide) (fun K hK => ?_)
  obtain ⟨s0, s1, s2, s3⟩ := hHeld
  refine goes_ Tryd.func60 (by kernel_rfl) rfl #[.int .i64 (wrap64 ((rd_T26 l (0 : Int)).f1 + (rd_T26 l (1 : Int)).f1))] (by rfl) rfl rfl (by simp only [List.map_toArray, List.map_cons, List.map_nil]; rfl) ?_
  with_reducible refine (value_number.calls (wrap64 ((rd_T26 l (0 : Int)).f1 + (rd_T26 l (1 : Int)).f1)) 1 (wrap64 ((rd_T26 l (0 : Int)).f1 + (rd_T26 l (1 : Int)).f1)) ⟨#[]⟩ true _ rfl).mono ?_
  rintro ee w3 ⟨rfl, hb⟩
  refine ⟨_, rfl, ?_⟩
  refine hK.out _ _ ⟨(xao hb s0), (xao hb s1), (xan s2 hb), (Lib.hid (xai s3.out hb))⟩ (fun hHeld => ?_)
  clear hK K
  refine norm_ (a' := ?_) ?_ ?_
  rotate_left
  ·show Act.put _ (some 47) _ = _
   simp only [Act.put, sI, sZ, sS, i64_w, i32_w]
   rfl
  refine pure_ (i := 10) (N := some 48) (v := ?_) (a' := ?_) #[true, true, true, true, true, true, true, true, true, true, true, false, false, false] rfl rfl (by kernel_rfl) (fun _ _ _ h => h) (Or.inl ⟨by rfl, ?_⟩) ?_ ?_
  rotate_left
  ·intro w'
   go_simp
   with_reducible rfl
  rotate_left
  ·simp only [Act.put, sI, sZ, sS, i64_w, i32_w]
   rfl
  refine pure_ (i := 11) (N := some 49) (v := ?_) (a' := ?_) #[true, true, true, true, true, true, true, true, true, true, true, true, false, false] rfl rfl (by kernel_rfl) (fun _ _ _ h => h) (Or.inl ⟨by rfl, ?_⟩) ?_ ?_
  rotate_left
  ·intro w'
   go_simp
   with_reducible rfl
  rotate_left
  ·simp only [Act.put, sI, sZ, sS, i64_w, i32_w]
   rfl
  refine last_ (i := 12) (N := none) #[true, true, true, true, true, true, true, true, true, true, true, true, true, false] rfl rfl (by kernel_rfl) (by decide) (fun K hK => ?_)
  obtain ⟨s0, s1, s2, s3⟩ := hHeld
  have z0 := (xaj s2 0).trans rfl
  have z1 := (xaj s2 1).trans rfl
  have z2 := (xaj s2 2).trans rfl
  have y0 := xam s2 0
  have y1 := xam s2 1
  have y2 := xam s2 2
  refine skip_ (w1 := ?_) (by rfl) rfl ?_ ?_
  rotate_left
  ·go_simp
   rfl
  refine hK.out _ _ ?_
  clear hK K
  refine pure_ (i := 13) (N := some 5) (v := ?_) (a' := ?_) #[true, true, true, true, true, true, true, true, true, true, true, true, true, true] rfl rfl (by kernel_rfl) (fun _ _ _ h => h) (Or.inl ⟨by rfl, ?_⟩) ?_ ?_
  rotate_left
  ·intro w'
   go_simp
   with_reducible rfl
  rotate_left
  ·simp only [Act.put, sI, sZ, sS, i64_w, i32_w]
   rfl
  refine done_ (by kernel_rfl) ?_
  go_wp2_with fail
  refine bodyPost_ret (xat rfl _ _ w.heap.size 26 #[.int .i8 1, .int .i64 (wrap64 ((rd_T26 l (0 : Int)).f1 + (rd_T26 l (1 : Int)).f1)), .string ⟨#[]⟩] (0, 0) _ rfl (put3 s2) Tryd.underlying26 rfl (by kernel_rfl)) rfl ?_
  exact ⟨rfl, below3 s3.out (Nat.le_refl _) _ _ _⟩
set_option maxHeartbeats 2000000 in
set_option maxRecDepth 100000 in
theorem arith_3 (A : Option Addr) (c : Nat) (l : List S26) (r : Int × Int × ByteArray × Bool) (w : World) (hr : Kd.C k26 w A l.length l) (hc : l.length ≤ c) (hT : TabA w) (h : arithV 3 l = r) :
  Calls Tryd.prog 17 #[.int .i8 3, .slice A l.length c] w fun e w' => e = .returned (.tuple #[.agg #[.int .i8 r.1, .int .i64 r.2.1, .string r.2.2.1], .bool r.2.2.2]) ∧ Below w.heap.size w w' := by
 have hcell := xbg hT (.cells #[.int .i8 0, .int .i64 0, .string ⟨#[]⟩] 26) 3 (by decide)
 have HR := Lib.hid hr
 have HK := Lib.hid (xaz w (.cells #[.int .i8 0, .int .i64 0, .string ⟨#[]⟩] 26 (0, 0)))
 have HW := Lib.hid (xab (Below.refl w.heap.size w) (.cells #[.int .i8 0, .int .i64 0, .string ⟨#[]⟩] 26))
 clear hr hT
 obtain ⟨k, hk⟩ := (fits_ev 2 (by decide) l).at
 go_enter Tryd.func17, Tryd.ntmps17
 go_wp2_with fail
 refine (value_fits.calls (k := k) (hr1 := Kd.C_below HR.out HW.out) (hc1 := hc) (h := hk)).mono ?_
 rintro e w1 ⟨rfl, hb⟩
 have HB := Lib.hid (xai HW.out hb)
 have HK1 := Lib.hid (xan HK.out hb)
 clear hb hcell HK HW hk
 cases hf : fitsV 2 l with
 | false =>
  have hr0 := (xbf (op := 3) (l := l) hf).symm.trans h
  subst hr0
  have z0 : w1.cell? ⟨w.heap.size, 0, none⟩ = some (.int .i8 0) := (xaj HK1.out 0).trans rfl
  have z1 : w1.cell? ⟨w.heap.size, 1, none⟩ = some (.int .i64 0) := (xaj HK1.out 1).trans rfl
  have z2 : w1.cell? ⟨w.heap.size, 2, none⟩ = some (.string ⟨#[]⟩) := (xaj HK1.out 2).trans rfl
  have y0 := xam HK1.out 0
  have y1 := xam HK1.out 1
  have y2 := xam HK1.out 2
  go_wp2_with fail
  refine bodyPost_ret (xat rfl _ _ w.heap.size 26 #[.int .i8 0, .int .i64 0, .string ⟨#[]⟩] (0, 0) _ rfl (put3 HK1.out) Tryd.underlying26 rfl (by kernel_rfl)) rfl ?_
  exact ⟨rfl, below3 HB.out (Nat.le_refl _) _ _ _⟩
 | true =>
  have hlen := xbi hf
  have hlen' : l.length = 2 := hlen
  rw [arithV, if_neg (xbe (op := 3) (l := l) (by decide) (by decide) hf)] at h
  obtain ⟨ad, rfl, g0, g1, g2⟩ := at_T26 (Kd.C_below HR.out HB.out) (0 : Int) (by omega) (by omega)
  rw [show ad.add ((0 : Int).toNat * 3) = ad by cases ad; simp [Addr.add]] at g0 g1 g2
  obtain ⟨ad', he, j0, j1, j2⟩ := at_T26 (Kd.C_below HR.out HB.out) (1 : Int) (by omega) (by omega)
  obtain rfl := Option.some.inj he
  rw [show (1 : Int).toNat * 3 = 3 from rfl] at j0 j1 j2
  replace j1 : w1.cell? ⟨ad.block, ad.off + 3 + 1, none⟩ = some (.int .i64 (rd_T26 l (1 : Int)).f1) := by rw [← xbc ad 1]; exact j1
  replace j2 : w1.cell? ⟨ad.block, ad.off + 3 + 2, none⟩ = some (.string (rd_T26 l (1 : Int)).f2) := by rw [← xbc ad 2]; exact j2
  have h2 : ((1, wrap64 ((rd_T26 l (0 : Int)).f1 - (rd_T26 l (1 : Int)).f1), ⟨#[]⟩, true) : Int × Int × ByteArray × Bool) = r := h
  subst h2
  clear h
  go_wp2_with fail
  refine start_ (n := 14) (S := fun w' => w'.cell? ⟨ad.block, ad.off + 1, none⟩ = some (.int .i64 (rd_T26 l (0 : Int)).f1) ∧ w'.cell? ⟨ad.block, ad.off + 3 + 1, none⟩ = some (.int .i64 (rd_T26 l (1 : Int)).f1) ∧ w'.heap[w.heap.size]? = some (.cells #[.int .i8 0, .int .i64 0, .string ⟨#[]⟩] 26 (0, 0)) ∧ Hid (Below w.heap.size w w')) (ds := [12]) #[false, false, false, false, false, false, false, false, false, false, false, false, false, false] (by kernel_rfl) rfl rfl ⟨g1, j1, HK1.out, (Lib.hid (xba HB.out))⟩ (fun hHeld => ?_)
  refine pure_ (i := 0) (N := some 52) (v := ?_) (a' := ?_) #[true, false, false, false, false, false, false, false, false, false, false, false, false, false] rfl rfl (by kernel_rfl) (fun _ _ _ h => h) (Or.inl ⟨by rfl, ?_⟩) ?_ ?_
  rotate_left
  ·intro w'
   go_simp
   with_reducible rfl
  rotate_left
  ·simp only [Act.put, sI, sZ, sS, i64_w, i32_w]
   rfl
  refine pure_ (i := 1) (N := some 53) (v := ?_) (a' := ?_) #[true, true, false, false, false, false, false, false, false, false, false, false, false, false] rfl rfl (by kernel_rfl) (fun _ _ _ h => h) (Or.inl ⟨by rfl, ?_⟩) ?_ ?_
  rotate_left
  ·intro w'
   go_simp
   with_reducible rfl
  rotate_left
  ·simp only [Act.put, sI, sZ, sS, i64_w, i32_w]
   rfl
  refine pure_ (i := 2) (N := some 54) (v := ?_) (a' := ?_) #[true, true, true, false, false, false, false, false, false, false, false, false, false, false] rfl rfl (by kernel_rfl) (fun _ _ _ h => h) (Or.inl ⟨by rfl, ?_⟩) ?_ ?_
  rotate_left
  ·intro w'
   go_simp
   with_reducible rfl
  rotate_left
  ·simp only [Act.put, sI, sZ, sS, i64_w, i32_w]
   rfl
  refine pure_ (i := 4) (N := some 56) (v := ?_) (a' := ?_) #[true, true, true, false, true, false, false, false, false, false, false, false, false, false] rfl rfl (by kernel_rfl) (fun _ _ _ h => h) (Or.inl ⟨by rfl, ?_⟩) ?_ ?_
  rotate_left
  ·intro w'
   go_simp
   with_reducible rfl
  rotate_left
  ·simp only [Act.put, sI, sZ, sS, i64_w, i32_w]
   rfl
  refine pure_ (i := 5) (N := some 57) (v := ?_) (a' := ?_) #[true, true, true, false, true, true, false, false, false, false, false, false, false, false] rfl rfl (by kernel_rfl) (fun _ _ _ h => h) (Or.inl ⟨by rfl, ?_⟩) ?_ ?_
  rotate_left
  ·intro w'
   go_simp
   with_reducible rfl
  rotate_left
  ·simp only [Act.put, sI, sZ, sS, i64_w, i32_w]
   rfl
  refine pure_ (i := 6) (N := some 58) (v := ?_) (a' := ?_) #[true, true, true, false, true, true, true, false, false, false, false, false, false, false] rfl rfl (by kernel_rfl) (fun _ _ _ h => h) (Or.inl ⟨by rfl, ?_⟩) ?_ ?_
  rotate_left
  ·intro w'
   go_simp
   with_reducible rfl
  rotate_left
  ·simp only [Act.put, sI, sZ, sS, i64_w, i32_w]
   rfl
  refine take_ (i := 3) (N := some 55) (v := ?_) (a' := ?_) #[true, true, true, true, true, true, true, false, false, false, false, false, false, false] rfl rfl (by kernel_rfl) (fun _ _ _ h => h) (Or.inl ⟨by rfl, ?_⟩) hHeld ?_ ?_
  rotate_left
  ·rintro w' ⟨s0, s1, s2, s3⟩
   go_simp
   with_reducible rfl
  rotate_left
  ·simp only [Act.put, sI, sZ, sS, i64_w, i32_w]
   rfl
  refine take_ (i := 7) (N := some 59) (v := ?_) (a' := ?_) #[true, true, true, true, true, true, true, true, false, false, false, false, false, false] rfl rfl (by kernel_rfl) (fun _ _ _ h => h) (Or.inl ⟨by rfl, ?_⟩) hHeld ?_ ?_
  rotate_left
  ·rintro w' ⟨s0, s1, s2, s3⟩
   go_simp
   with_reducible rfl
  rotate_left
  ·simp only [Act.put, sI, sZ, sS, i64_w, i32_w]
   rfl
  refine pure_ (i := 8) (N := some 60) (v := ?_) (a' := ?_) #[true, true, true, true, true, true, true, true, true, false, false, false, false, false] rfl rfl (by kernel_rfl) (fun _ _ _ h => h) (Or.inl ⟨by rfl, ?_⟩) ?_ ?_
  rotate_left
  ·intro w'
   go_simp
   with_reducible rfl
  rotate_left
  ·simp only [Act.put, sI, sZ, sS, i64_w, i32_w]
   rfl
  refine one_ (i := 9) (N := some 61) #[true, true, true, true, true, true, true, true, true, true, false, false, false, false] rfl rfl (by kernel_rfl) (by decide) (fun K hK => ?_)
  obtain ⟨s0, s1, s2, s3⟩ := hHeld
  refine goes_ Tryd.func60 (by kernel_rfl) rfl #[.int .i64 (wrap64 ((rd_T26 l (0 : Int)).f1 - (rd_T26 l (1 : Int)).f1))] (by rfl) rfl rfl (by simp only [List.map_toArray, List.map_cons, List.map_nil]; rfl) ?_
  with_reducible refine (value_number.calls (wrap64 ((rd_T26 l (0 : Int)).f1 - (rd_T26 l (1 : Int)).f1)) 1 (wrap64 ((rd_T26 l (0 : Int)).f1 - (rd_T26 l (1 : Int)).f1)) ⟨#[]⟩ true _ rfl).mono ?_
  rintro ee w3 ⟨rfl, hb⟩
  refine ⟨_, rfl, ?_⟩
  refine hK.out _ _ ⟨(xao hb s0), (xao hb s1), (xan s2 hb), (Lib.hid (xai s3.out hb))⟩ (fun hHeld => ?_)
  clear hK K
  refine norm_ (a' := ?_) ?_ ?_
  rotate_left
  ·show Act.put _ (some 61) _ = _
   simp only [Act.put, sI, sZ, sS, i64_w, i32_w]
   rfl
  refine pure_ (i := 10) (N := some 62) (v := ?_) (a' := ?_) #[true, true, true, true, true, true, true, true, true, true, true, false, false, false] rfl rfl (by kernel_rfl) (fun _ _ _ h => h) (Or.inl ⟨by rfl, ?_⟩) ?_ ?_
  rotate_left
  ·intro w'
   go_simp
   with_reducible rfl
  rotate_left
  ·simp only [Act.put, sI, sZ, sS, i64_w, i32_w]
   rfl
  refine pure_ (i := 11) (N := some 63) (v := ?_) (a' := ?_) #[true, true, true, true, true, true, true, true, true, true, true, true, false, false] rfl rfl (by kernel_rfl) (fun _ _ _ h => h) (Or.inl ⟨by rfl, ?_⟩) ?_ ?_
  rotate_left
  ·intro w'
   go_simp
   with_reducible rfl
  rotate_left
  ·simp only [Act.put, sI, sZ, sS, i64_w, i32_w]
   rfl
  refine last_ (i := 12) (N := none) #[true, true, true, true, true, true, true, true, true, true, true, true, true, false] rfl rfl (by kernel_rfl) (by decide) (fun K hK => ?_)
  obtain ⟨s0, s1, s2, s3⟩ := hHeld
  have z0 := (xaj s2 0).trans rfl
  have z1 := (xaj s2 1).trans rfl
  have z2 := (xaj s2 2).trans rfl
  have y0 := xam s2 0
  have y1 := xam s2 1
  have y2 := xam s2 2
  refine skip_ (w1 := ?_) (by rfl) rfl ?_ ?_
  rotate_left
  ·go_simp
   rfl
  refine hK.out _ _ ?_
  clear hK K
  refine pure_ (i := 13) (N := some 5) (v := ?_) (a' := ?_) #[true, true, true, true, true, true, true, true, true, true, true, true, true, true] rfl rfl (by kernel_rfl) (fun _ _ _ h => h) (Or.inl ⟨by rfl, ?_⟩) ?_ ?_
  rotate_left
  ·intro w'
   go_simp
   with_reducible rfl
  rotate_left
  ·simp only [Act.put, sI, sZ, sS, i64_w, i32_w]
   rfl
  refine done_ (by kernel_rfl) ?_
  go_wp2_with fail
  refine bodyPost_ret (xat rfl _ _ w.heap.size 26 #[.int .i8 1, .int .i64 (wrap64 ((rd_T26 l (0 : Int)).f1 - (rd_T26 l (1 : Int)).f1)), .string ⟨#[]⟩] (0, 0) _ rfl (put3 s2) Tryd.underlying26 rfl (by kernel_rfl)) rfl ?_
  exact ⟨rfl, below3 s3.out (Nat.le_refl _) _ _ _⟩
set_option maxHeartbeats 2000000 in
set_option maxRecDepth 100000 in
theorem arith_4 (A : Option Addr) (c : Nat) (l : List S26) (r : Int × Int × ByteArray × Bool) (w : World) (hr : Kd.C k26 w A l.length l) (hc : l.length ≤ c) (hT : TabA w) (h : arithV 4 l = r) :
  Calls Tryd.prog 17 #[.int .i8 4, .slice A l.length c] w fun e w' => e = .returned (.tuple #[.agg #[.int .i8 r.1, .int .i64 r.2.1, .string r.2.2.1], .bool r.2.2.2]) ∧ Below w.heap.size w w' := by
 have hcell := xbg hT (.cells #[.int .i8 0, .int .i64 0, .string ⟨#[]⟩] 26) 4 (by decide)
 have HR := Lib.hid hr
 have HK := Lib.hid (xaz w (.cells #[.int .i8 0, .int .i64 0, .string ⟨#[]⟩] 26 (0, 0)))
 have HW := Lib.hid (xab (Below.refl w.heap.size w) (.cells #[.int .i8 0, .int .i64 0, .string ⟨#[]⟩] 26))
 clear hr hT
 obtain ⟨k, hk⟩ := (fits_ev 2 (by decide) l).at
 go_enter Tryd.func17, Tryd.ntmps17
 go_wp2_with fail
 refine (value_fits.calls (k := k) (hr1 := Kd.C_below HR.out HW.out) (hc1 := hc) (h := hk)).mono ?_
 rintro e w1 ⟨rfl, hb⟩
 have HB := Lib.hid (xai HW.out hb)
 have HK1 := Lib.hid (xan HK.out hb)
 clear hb hcell HK HW hk
 cases hf : fitsV 2 l with
 | false =>
  have hr0 := (xbf (op := 4) (l := l) hf).symm.trans h
  subst hr0
  have z0 : w1.cell? ⟨w.heap.size, 0, none⟩ = some (.int .i8 0) := (xaj HK1.out 0).trans rfl
  have z1 : w1.cell? ⟨w.heap.size, 1, none⟩ = some (.int .i64 0) := (xaj HK1.out 1).trans rfl
  have z2 : w1.cell? ⟨w.heap.size, 2, none⟩ = some (.string ⟨#[]⟩) := (xaj HK1.out 2).trans rfl
  have y0 := xam HK1.out 0
  have y1 := xam HK1.out 1
  have y2 := xam HK1.out 2
  go_wp2_with fail
  refine bodyPost_ret (xat rfl _ _ w.heap.size 26 #[.int .i8 0, .int .i64 0, .string ⟨#[]⟩] (0, 0) _ rfl (put3 HK1.out) Tryd.underlying26 rfl (by kernel_rfl)) rfl ?_
  exact ⟨rfl, below3 HB.out (Nat.le_refl _) _ _ _⟩
 | true =>
  have hlen := xbi hf
  have hlen' : l.length = 2 := hlen
  rw [arithV, if_neg (xbe (op := 4) (l := l) (by decide) (by decide) hf)] at h
  obtain ⟨ad, rfl, g0, g1, g2⟩ := at_T26 (Kd.C_below HR.out HB.out) (0 : Int) (by omega) (by omega)
  rw [show ad.add ((0 : Int).toNat * 3) = ad by cases ad; simp [Addr.add]] at g0 g1 g2
  obtain ⟨ad', he, j0, j1, j2⟩ := at_T26 (Kd.C_below HR.out HB.out) (1 : Int) (by omega) (by omega)
  obtain rfl := Option.some.inj he
  rw [show (1 : Int).toNat * 3 = 3 from rfl] at j0 j1 j2
  replace j1 : w1.cell? ⟨ad.block, ad.off + 3 + 1, none⟩ = some (.int .i64 (rd_T26 l (1 : Int)).f1) := by rw [← xbc ad 1]; exact j1
  replace j2 : w1.cell? ⟨ad.block, ad.off + 3 + 2, none⟩ = some (.string (rd_T26 l (1 : Int)).f2) := by rw [← xbc ad 2]; exact j2
  have h2 : ((1, wrap64 ((rd_T26 l (0 : Int)).f1 * (rd_T26 l (1 : Int)).f1), ⟨#[]⟩, true) : Int × Int × ByteArray × Bool) = r := h
  subst h2
  clear h
  go_wp2_with fail
  refine start_ (n := 14) (S := fun w' => w'.cell? ⟨ad.block, ad.off + 1, none⟩ = some (.int .i64 (rd_T26 l (0 : Int)).f1) ∧ w'.cell? ⟨ad.block, ad.off + 3 + 1, none⟩ = some (.int .i64 (rd_T26 l (1 : Int)).f1) ∧ w'.heap[w.heap.size]? = some (.cells #[.int .i8 0, .int .i64 0, .string ⟨#[]⟩] 26 (0, 0)) ∧ Hid (Below w.heap.size w w')) (ds := [12]) #[false, false, false, false, false, false, false, false, false, false, false, false, false, false] (by kernel_rfl) rfl rfl ⟨g1, j1, HK1.out, (Lib.hid (xba HB.out))⟩ (fun hHeld => ?_)
  refine pure_ (i := 0) (N := some 66) (v := ?_) (a' := ?_) #[true, false, false, false, false, false, false, false, false, false, false, false, false, false] rfl rfl (by kernel_rfl) (fun _ _ _ h => h) (Or.inl ⟨by rfl, ?_⟩) ?_ ?_
  rotate_left
  ·intro w'
   go_simp
   with_reducible rfl
  rotate_left
  ·simp only [Act.put, sI, sZ, sS, i64_w, i32_w]
   rfl
  refine pure_ (i := 1) (N := some 67) (v := ?_) (a' := ?_) #[true, true, false, false, false, false, false, false, false, false, false, false, false, false] rfl rfl (by kernel_rfl) (fun _ _ _ h => h) (Or.inl ⟨by rfl, ?_⟩) ?_ ?_
  rotate_left
  ·intro w'
   go_simp
   with_reducible rfl
  rotate_left
  ·simp only [Act.put, sI, sZ, sS, i64_w, i32_w]
   rfl
  refine pure_ (i := 2) (N := some 68) (v := ?_) (a' := ?_) #[true, true, true, false, false, false, false, false, false, false, false, false, false, false] rfl rfl (by kernel_rfl) (fun _ _ _ h => h) (Or.inl ⟨by rfl, ?_⟩) ?_ ?_
  rotate_left
  ·intro w'
   go_simp
   with_reducible rfl
  rotate_left
  ·simp only [Act.put, sI, sZ, sS, i64_w, i32_w]
   rfl
  refine pure_ (i := 4) (N := some 70) (v := ?_) (a' := ?_) #[true, true, true, false, true, false, false, false, false, false, false, false, false, false] rfl rfl (by kernel_rfl) (fun _ _ _ h => h) (Or.inl ⟨by rfl, ?_⟩) ?_ ?_
  rotate_left
  ·intro w'
   go_simp
   with_reducible rfl
  rotate_left
  ·simp only [Act.put, sI, sZ, sS, i64_w, i32_w]
   rfl
  refine pure_ (i := 5) (N := some 71) (v := ?_) (a' := ?_) #[true, true, true, false, true, true, false, false, false, false, false, false, false, false] rfl rfl (by kernel_rfl) (fun _ _ _ h => h) (Or.inl ⟨by rfl, ?_⟩) ?_ ?_
  rotate_left
  ·intro w'
   go_simp
   with_reducible rfl
  rotate_left
  ·simp only [Act.put, sI, sZ, sS, i64_w, i32_w]
   rfl
  refine pure_ (i := 6) (N := some 72) (v := ?_) (a' := ?_) #[true, true, true, false, true, true, true, false, false, false, false, false, false, false] rfl rfl (by kernel_rfl) (fun _ _ _ h => h) (Or.inl ⟨by rfl, ?_⟩) ?_ ?_
  rotate_left
  ·intro w'
   go_simp
   with_reducible rfl
  rotate_left
  ·simp only [Act.put, sI, sZ, sS, i64_w, i32_w]
   rfl
  refine take_ (i := 3) (N := some 69) (v := ?_) (a' := ?_) #[true, true, true, true, true, true, true, false, false, false, false, false, false, false] rfl rfl (by kernel_rfl) (fun _ _ _ h => h) (Or.inl ⟨by rfl, ?_⟩) hHeld ?_ ?_
  rotate_left
  ·rintro w' ⟨s0, s1, s2, s3⟩
   go_simp
   with_reducible rfl
  rotate_left
  ·simp only [Act.put, sI, sZ, sS, i64_w, i32_w]
   rfl
  refine take_ (i := 7) (N := some 73) (v := ?_) (a' := ?_) #[true, true, true, true, true, true, true, true, false, false, false, false, false, false] rfl rfl (by kernel_rfl) (fun _ _ _ h => h) (Or.inl ⟨by rfl, ?_⟩) hHeld ?_ ?_
  rotate_left
  ·rintro w' ⟨s0, s1, s2, s3⟩
   go_simp
   with_reducible rfl
  rotate_left
  ·simp only [Act.put, sI, sZ, sS, i64_w, i32_w]
   rfl
  refine pure_ (i := 8) (N := some 74) (v := ?_) (a' := ?_) #[true, true, true, true, true, true, true, true, true, false, false, false, false, false] rfl rfl (by kernel_rfl) (fun _ _ _ h => h) (Or.inl ⟨by rfl, ?_⟩) ?_ ?_
  rotate_left
  ·intro w'
   go_simp
   with_reducible rfl
  rotate_left
  ·simp only [Act.put, sI, sZ, sS, i64_w, i32_w]
   rfl
  refine one_ (i := 9) (N := some 75) #[true, true, true, true, true, true, true, true, true, true, false, false, false, false] rfl rfl (by kernel_rfl) (by decide) (fun K hK => ?_)
  obtain ⟨s0, s1, s2, s3⟩ := hHeld
  refine goes_ Tryd.func60 (by kernel_rfl) rfl #[.int .i64 (wrap64 ((rd_T26 l (0 : Int)).f1 * (rd_T26 l (1 : Int)).f1))] (by rfl) rfl rfl (by simp only [List.map_toArray, List.map_cons, List.map_nil]; rfl) ?_
  with_reducible refine (value_number.calls (wrap64 ((rd_T26 l (0 : Int)).f1 * (rd_T26 l (1 : Int)).f1)) 1 (wrap64 ((rd_T26 l (0 : Int)).f1 * (rd_T26 l (1 : Int)).f1)) ⟨#[]⟩ true _ rfl).mono ?_
  rintro ee w3 ⟨rfl, hb⟩
  refine ⟨_, rfl, ?_⟩
  refine hK.out _ _ ⟨(xao hb s0), (xao hb s1), (xan s2 hb), (Lib.hid (xai s3.out hb))⟩ (fun hHeld => ?_)
  clear hK K
  refine norm_ (a' := ?_) ?_ ?_
  rotate_left
  ·show Act.put _ (some 75) _ = _
   simp only [Act.put, sI, sZ, sS, i64_w, i32_w]
   rfl
  refine pure_ (i := 10) (N := some 76) (v := ?_) (a' := ?_) #[true, true, true, true, true, true, true, true, true, true, true, false, false, false] rfl rfl (by kernel_rfl) (fun _ _ _ h => h) (Or.inl ⟨by rfl, ?_⟩) ?_ ?_
  rotate_left
  ·intro w'
   go_simp
   with_reducible rfl
  rotate_left
  ·simp only [Act.put, sI, sZ, sS, i64_w, i32_w]
   rfl
  refine pure_ (i := 11) (N := some 77) (v := ?_) (a' := ?_) #[true, true, true, true, true, true, true, true, true, true, true, true, false, false] rfl rfl (by kernel_rfl) (fun _ _ _ h => h) (Or.inl ⟨by rfl, ?_⟩) ?_ ?_
  rotate_left
  ·intro w'
   go_simp
   with_reducible rfl
  rotate_left
  ·simp only [Act.put, sI, sZ, sS, i64_w, i32_w]
   rfl
  refine last_ (i := 12) (N := none) #[true, true, true, true, true, true, true, true, true, true, true, true, true, false] rfl rfl (by kernel_rfl) (by decide) (fun K hK => ?_)
  obtain ⟨s0, s1, s2, s3⟩ := hHeld
  have z0 := (xaj s2 0).trans rfl
  have z1 := (xaj s2 1).trans rfl
  have z2 := (xaj s2 2).trans rfl
  have y0 := xam s2 0
  have y1 := xam s2 1
  have y2 := xam s2 2
  refine skip_ (w1 := ?_) (by rfl) rfl ?_ ?_
  rotate_left
  ·go_simp
   rfl
  refine hK.out _ _ ?_
  clear hK K
  refine pure_ (i := 13) (N := some 5) (v := ?_) (a' := ?_) #[true, true, true, true, true, true, true, true, true, true, true, true, true, true] rfl rfl (by kernel_rfl) (fun _ _ _ h => h) (Or.inl ⟨by rfl, ?_⟩) ?_ ?_
  rotate_left
  ·intro w'
   go_simp
   with_reducible rfl
  rotate_left
  ·simp only [Act.put, sI, sZ, sS, i64_w, i32_w]
   rfl
  refine done_ (by kernel_rfl) ?_
  go_wp2_with fail
  refine bodyPost_ret (xat rfl _ _ w.heap.size 26 #[.int .i8 1, .int .i64 (wrap64 ((rd_T26 l (0 : Int)).f1 * (rd_T26 l (1 : Int)).f1)), .string ⟨#[]⟩] (0, 0) _ rfl (put3 s2) Tryd.underlying26 rfl (by kernel_rfl)) rfl ?_
  exact ⟨rfl, below3 s3.out (Nat.le_refl _) _ _ _⟩
set_option maxHeartbeats 2000000 in
set_option maxRecDepth 100000 in
theorem arith_5 (A : Option Addr) (c : Nat) (l : List S26) (r : Int × Int × ByteArray × Bool) (w : World) (hr : Kd.C k26 w A l.length l) (hc : l.length ≤ c) (hT : TabA w) (h : arithV 5 l = r) :
  Calls Tryd.prog 17 #[.int .i8 5, .slice A l.length c] w fun e w' => e = .returned (.tuple #[.agg #[.int .i8 r.1, .int .i64 r.2.1, .string r.2.2.1], .bool r.2.2.2]) ∧ Below w.heap.size w w' := by
 have hcell := xbg hT (.cells #[.int .i8 0, .int .i64 0, .string ⟨#[]⟩] 26) 5 (by decide)
 have HR := Lib.hid hr
 have HK := Lib.hid (xaz w (.cells #[.int .i8 0, .int .i64 0, .string ⟨#[]⟩] 26 (0, 0)))
 have HW := Lib.hid (xab (Below.refl w.heap.size w) (.cells #[.int .i8 0, .int .i64 0, .string ⟨#[]⟩] 26))
 clear hr hT
 obtain ⟨k, hk⟩ := (fits_ev 2 (by decide) l).at
 go_enter Tryd.func17, Tryd.ntmps17
 go_wp2_with fail
 refine (value_fits.calls (k := k) (hr1 := Kd.C_below HR.out HW.out) (hc1 := hc) (h := hk)).mono ?_
 rintro e w1 ⟨rfl, hb⟩
 have HB := Lib.hid (xai HW.out hb)
 have HK1 := Lib.hid (xan HK.out hb)
 clear hb hcell HK HW hk
 cases hf : fitsV 2 l with
 | false =>
  have hr0 := (xbf (op := 5) (l := l) hf).symm.trans h
  subst hr0
  have z0 : w1.cell? ⟨w.heap.size, 0, none⟩ = some (.int .i8 0) := (xaj HK1.out 0).trans rfl
  have z1 : w1.cell? ⟨w.heap.size, 1, none⟩ = some (.int .i64 0) := (xaj HK1.out 1).trans rfl
  have z2 : w1.cell? ⟨w.heap.size, 2, none⟩ = some (.string ⟨#[]⟩) := (xaj HK1.out 2).trans rfl
  have y0 := xam HK1.out 0
  have y1 := xam HK1.out 1
  have y2 := xam HK1.out 2
  go_wp2_with fail
  refine bodyPost_ret (xat rfl _ _ w.heap.size 26 #[.int .i8 0, .int .i64 0, .string ⟨#[]⟩] (0, 0) _ rfl (put3 HK1.out) Tryd.underlying26 rfl (by kernel_rfl)) rfl ?_
  exact ⟨rfl, below3 HB.out (Nat.le_refl _) _ _ _⟩
 | true =>
  have hlen := xbi hf
  have hlen' : l.length = 2 := hlen
  rw [arithV, if_neg (xbe (op := 5) (l := l) (by decide) (by decide) hf)] at h
  obtain ⟨ad, rfl, g0, g1, g2⟩ := at_T26 (Kd.C_below HR.out HB.out) (0 : Int) (by omega) (by omega)
  rw [show ad.add ((0 : Int).toNat * 3) = ad by cases ad; simp [Addr.add]] at g0 g1 g2
  obtain ⟨ad', he, j0, j1, j2⟩ := at_T26 (Kd.C_below HR.out HB.out) (1 : Int) (by omega) (by omega)
  obtain rfl := Option.some.inj he
  rw [show (1 : Int).toNat * 3 = 3 from rfl] at j0 j1 j2
  replace j1 : w1.cell? ⟨ad.block, ad.off + 3 + 1, none⟩ = some (.int .i64 (rd_T26 l (1 : Int)).f1) := by rw [← xbc ad 1]; exact j1
  replace j2 : w1.cell? ⟨ad.block, ad.off + 3 + 2, none⟩ = some (.string (rd_T26 l (1 : Int)).f2) := by rw [← xbc ad 2]; exact j2
  have h2 : (if (rd_T26 l (1 : Int)).f1 = 0 then ((0, 0, ⟨#[]⟩, false) : Int × Int × ByteArray × Bool) else (1, wrap64 ((rd_T26 l (0 : Int)).f1.tdiv (rd_T26 l (1 : Int)).f1), ⟨#[]⟩, true)) = r := h
  clear h
  go_wp2_with fail
  by_cases hz : (rd_T26 l (1 : Int)).f1 = 0
  ·rw [if_pos hz] at h2
   subst h2
   rw [hz] at j1
   refine start_ (n := 15) (S := fun w' => w'.cell? ⟨ad.block, ad.off + 1, none⟩ = some (.int .i64 (rd_T26 l (0 : Int)).f1) ∧ w'.cell? ⟨ad.block, ad.off + 3 + 1, none⟩ = some (.int .i64 0) ∧ w'.heap[w.heap.size]? = some (.cells #[.int .i8 0, .int .i64 0, .string ⟨#[]⟩] 26 (0, 0)) ∧ Hid (Below w.heap.size w w')) (ds := []) #[false, false, false, false, false, false, false, false, false, false, false, false, false, false, false] (by kernel_rfl) rfl rfl ⟨g1, j1, HK1.out, (Lib.hid (xba HB.out))⟩ (fun hHeld => ?_)
   refine pure_ (i := 0) (N := some 82) (v := ?_) (a' := ?_) #[true, false, false, false, false, false, false, false, false, false, false, false, false, false, false] rfl rfl (by kernel_rfl) (fun _ _ _ h => h) (Or.inl ⟨by rfl, ?_⟩) ?_ ?_
   rotate_left
   ·intro w'
    go_simp
    with_reducible rfl
   rotate_left
   ·simp only [Act.put, sI, sZ, sS, i64_w, i32_w]
    rfl
   refine pure_ (i := 1) (N := some 83) (v := ?_) (a' := ?_) #[true, true, false, false, false, false, false, false, false, false, false, false, false, false, false] rfl rfl (by kernel_rfl) (fun _ _ _ h => h) (Or.inl ⟨by rfl, ?_⟩) ?_ ?_
   rotate_left
   ·intro w'
    go_simp
    with_reducible rfl
   rotate_left
   ·simp only [Act.put, sI, sZ, sS, i64_w, i32_w]
    rfl
   refine pure_ (i := 2) (N := some 84) (v := ?_) (a' := ?_) #[true, true, true, false, false, false, false, false, false, false, false, false, false, false, false] rfl rfl (by kernel_rfl) (fun _ _ _ h => h) (Or.inl ⟨by rfl, ?_⟩) ?_ ?_
   rotate_left
   ·intro w'
    go_simp
    with_reducible rfl
   rotate_left
   ·simp only [Act.put, sI, sZ, sS, i64_w, i32_w]
    rfl
   refine pure_ (i := 3) (N := some 85) (v := ?_) (a' := ?_) #[true, true, true, true, false, false, false, false, false, false, false, false, false, false, false] rfl rfl (by kernel_rfl) (fun _ _ _ h => h) (Or.inl ⟨by rfl, ?_⟩) ?_ ?_
   rotate_left
   ·intro w'
    go_simp
    with_reducible rfl
   rotate_left
   ·simp only [Act.put, sI, sZ, sS, i64_w, i32_w]
    rfl
   refine pure_ (i := 5) (N := some 87) (v := ?_) (a' := ?_) #[true, true, true, true, false, true, false, false, false, false, false, false, false, false, false] rfl rfl (by kernel_rfl) (fun _ _ _ h => h) (Or.inl ⟨by rfl, ?_⟩) ?_ ?_
   rotate_left
   ·intro w'
    go_simp
    with_reducible rfl
   rotate_left
   ·simp only [Act.put, sI, sZ, sS, i64_w, i32_w]
    rfl
   refine pure_ (i := 6) (N := some 88) (v := ?_) (a' := ?_) #[true, true, true, true, false, true, true, false, false, false, false, false, false, false, false] rfl rfl (by kernel_rfl) (fun _ _ _ h => h) (Or.inl ⟨by rfl, ?_⟩) ?_ ?_
   rotate_left
   ·intro w'
    go_simp
    with_reducible rfl
   rotate_left
   ·simp only [Act.put, sI, sZ, sS, i64_w, i32_w]
    rfl
   refine pure_ (i := 7) (N := some 89) (v := ?_) (a' := ?_) #[true, true, true, true, false, true, true, true, false, false, false, false, false, false, false] rfl rfl (by kernel_rfl) (fun _ _ _ h => h) (Or.inl ⟨by rfl, ?_⟩) ?_ ?_
   rotate_left
   ·intro w'
    go_simp
    with_reducible rfl
   rotate_left
   ·simp only [Act.put, sI, sZ, sS, i64_w, i32_w]
    rfl
   refine take_ (i := 4) (N := some 86) (v := ?_) (a' := ?_) #[true, true, true, true, true, true, true, true, false, false, false, false, false, false, false] rfl rfl (by kernel_rfl) (fun _ _ _ h => h) (Or.inl ⟨by rfl, ?_⟩) hHeld ?_ ?_
   rotate_left
   ·rintro w' ⟨s0, s1, s2, s3⟩
    go_simp
    with_reducible rfl
   rotate_left
   ·simp only [Act.put, sI, sZ, sS, i64_w, i32_w]
    rfl
   refine take_ (i := 8) (N := some 90) (v := ?_) (a' := ?_) #[true, true, true, true, true, true, true, true, true, false, false, false, false, false, false] rfl rfl (by kernel_rfl) (fun _ _ _ h => h) (Or.inl ⟨by rfl, ?_⟩) hHeld ?_ ?_
   rotate_left
   ·rintro w' ⟨s0, s1, s2, s3⟩
    go_simp
    with_reducible rfl
   rotate_left
   ·simp only [Act.put, sI, sZ, sS, i64_w, i32_w]
    rfl
   refine one_ (i := 9) (N := some 91) #[true, true, true, true, true, true, true, true, true, true, false, false, false, false, false] rfl rfl (by kernel_rfl) (by decide) (fun K hK => ?_)
   obtain ⟨s0, s1, s2, s3⟩ := hHeld
   refine goes_ Tryd.func61 (by kernel_rfl) rfl #[.int .i8 5, .int .i64 (rd_T26 l (0 : Int)).f1, .int .i64 0] (by rfl) rfl rfl (by simp only [List.map_toArray, List.map_cons, List.map_nil]; rfl) ?_
   with_reducible refine (value_divide.calls 5 (rd_T26 l (0 : Int)).f1 0 (0) false _ (by rw [value_divide.f, if_pos rfl])).mono ?_
   rintro ee w3 ⟨rfl, hb⟩
   refine ⟨_, rfl, ?_⟩
   refine hK.out _ _ ⟨(xao hb s0), (xao hb s1), (xan s2 hb), (Lib.hid (xai s3.out hb))⟩ (fun hHeld => ?_)
   clear hK K
   refine norm_ (a' := ?_) ?_ ?_
   rotate_left
   ·show Act.put _ (some 91) _ = _
    simp only [Act.put, sI, sZ, sS, i64_w, i32_w]
    rfl
   refine pure_ (i := 10) (N := some 81) (v := ?_) (a' := ?_) #[true, true, true, true, true, true, true, true, true, true, true, false, false, false, false] rfl rfl (by kernel_rfl) (fun _ _ _ h => h) (Or.inl ⟨by rfl, ?_⟩) ?_ ?_
   rotate_left
   ·intro w'
    go_simp
    with_reducible rfl
   rotate_left
   ·simp only [Act.put, sI, sZ, sS, i64_w, i32_w]
    rfl
   refine pure_ (i := 11) (N := some 92) (v := ?_) (a' := ?_) #[true, true, true, true, true, true, true, true, true, true, true, true, false, false, false] rfl rfl (by kernel_rfl) (fun _ _ _ h => h) (Or.inl ⟨by rfl, ?_⟩) ?_ ?_
   rotate_left
   ·intro w'
    go_simp
    with_reducible rfl
   rotate_left
   ·simp only [Act.put, sI, sZ, sS, i64_w, i32_w]
    rfl
   refine pure_ (i := 12) (N := some 93) (v := ?_) (a' := ?_) #[true, true, true, true, true, true, true, true, true, true, true, true, true, false, false] rfl rfl (by kernel_rfl) (fun _ _ _ h => h) (Or.inl ⟨by rfl, ?_⟩) ?_ ?_
   rotate_left
   ·intro w'
    go_simp
    with_reducible rfl
   rotate_left
   ·simp only [Act.put, sI, sZ, sS, i64_w, i32_w]
    rfl
   refine pure_ (i := 13) (N := some 6) (v := ?_) (a' := ?_) #[true, true, true, true, true, true, true, true, true, true, true, true, true, true, false] rfl rfl (by kernel_rfl) (fun _ _ _ h => h) (Or.inl ⟨by rfl, ?_⟩) ?_ ?_
   rotate_left
   ·intro w'
    go_simp
    with_reducible rfl
   rotate_left
   ·simp only [Act.put, sI, sZ, sS, i64_w, i32_w]
    rfl
   refine pure_ (i := 14) (N := some 7) (v := ?_) (a' := ?_) #[true, true, true, true, true, true, true, true, true, true, true, true, true, true, true] rfl rfl (by kernel_rfl) (fun _ _ _ h => h) (Or.inl ⟨by rfl, ?_⟩) ?_ ?_
   rotate_left
   ·intro w'
    go_simp
    with_reducible rfl
   rotate_left
   ·simp only [Act.put, sI, sZ, sS, i64_w, i32_w]
    rfl
   refine done_ (by kernel_rfl) ?_
   obtain ⟨_, _, s2, s3⟩ := hHeld
   have HK3 := Lib.hid s2
   clear s2
   have z0 : w3.cell? ⟨w.heap.size, 0, none⟩ = some (.int .i8 0) := (xaj HK3.out 0).trans rfl
   have y0 := xam HK3.out 0
   have z1 : w3.cell? ⟨w.heap.size, 1, none⟩ = some (.int .i64 0) := (xaj HK3.out 1).trans rfl
   have y1 := xam HK3.out 1
   have z2 : w3.cell? ⟨w.heap.size, 2, none⟩ = some (.string ⟨#[]⟩) := (xaj HK3.out 2).trans rfl
   have y2 := xam HK3.out 2
   go_wp2_with fail
   refine bodyPost_ret (xat rfl _ _ w.heap.size 26 #[.int .i8 0, .int .i64 0, .string ⟨#[]⟩] (0, 0) _ rfl (put3 HK3.out) Tryd.underlying26 rfl (by kernel_rfl)) rfl ?_
   exact ⟨rfl, below3 s3.out (Nat.le_refl _) _ _ _⟩
  ·rw [if_neg hz] at h2
   subst h2
   refine start_ (n := 15) (S := fun w' => w'.cell? ⟨ad.block, ad.off + 1, none⟩ = some (.int .i64 (rd_T26 l (0 : Int)).f1) ∧ w'.cell? ⟨ad.block, ad.off + 3 + 1, none⟩ = some (.int .i64 (rd_T26 l (1 : Int)).f1) ∧ w'.heap[w.heap.size]? = some (.cells #[.int .i8 0, .int .i64 0, .string ⟨#[]⟩] 26 (0, 0)) ∧ Hid (Below w.heap.size w w')) (ds := []) #[false, false, false, false, false, false, false, false, false, false, false, false, false, false, false] (by kernel_rfl) rfl rfl ⟨g1, j1, HK1.out, (Lib.hid (xba HB.out))⟩ (fun hHeld => ?_)
   refine pure_ (i := 0) (N := some 82) (v := ?_) (a' := ?_) #[true, false, false, false, false, false, false, false, false, false, false, false, false, false, false] rfl rfl (by kernel_rfl) (fun _ _ _ h => h) (Or.inl ⟨by rfl, ?_⟩) ?_ ?_
   rotate_left
   ·intro w'
    go_simp
    with_reducible rfl
   rotate_left
   ·simp only [Act.put, sI, sZ, sS, i64_w, i32_w]
    rfl
   refine pure_ (i := 1) (N := some 83) (v := ?_) (a' := ?_) #[true, true, false, false, false, false, false, false, false, false, false, false, false, false, false] rfl rfl (by kernel_rfl) (fun _ _ _ h => h) (Or.inl ⟨by rfl, ?_⟩) ?_ ?_
   rotate_left
   ·intro w'
    go_simp
    with_reducible rfl
   rotate_left
   ·simp only [Act.put, sI, sZ, sS, i64_w, i32_w]
    rfl
   refine pure_ (i := 2) (N := some 84) (v := ?_) (a' := ?_) #[true, true, true, false, false, false, false, false, false, false, false, false, false, false, false] rfl rfl (by kernel_rfl) (fun _ _ _ h => h) (Or.inl ⟨by rfl, ?_⟩) ?_ ?_
   rotate_left
   ·intro w'
    go_simp
    with_reducible rfl
   rotate_left
   ·simp only [Act.put, sI, sZ, sS, i64_w, i32_w]
    rfl
   refine pure_ (i := 3) (N := some 85) (v := ?_) (a' := ?_) #[true, true, true, true, false, false, false, false, false, false, false, false, false, false, false] rfl rfl (by kernel_rfl) (fun _ _ _ h => h) (Or.inl ⟨by rfl, ?_⟩) ?_ ?_
   rotate_left
   ·intro w'
    go_simp
    with_reducible rfl
   rotate_left
   ·simp only [Act.put, sI, sZ, sS, i64_w, i32_w]
    rfl
   refine pure_ (i := 5) (N := some 87) (v := ?_) (a' := ?_) #[true, true, true, true, false, true, false, false, false, false, false, false, false, false, false] rfl rfl (by kernel_rfl) (fun _ _ _ h => h) (Or.inl ⟨by rfl, ?_⟩) ?_ ?_
   rotate_left
   ·intro w'
    go_simp
    with_reducible rfl
   rotate_left
   ·simp only [Act.put, sI, sZ, sS, i64_w, i32_w]
    rfl
   refine pure_ (i := 6) (N := some 88) (v := ?_) (a' := ?_) #[true, true, true, true, false, true, true, false, false, false, false, false, false, false, false] rfl rfl (by kernel_rfl) (fun _ _ _ h => h) (Or.inl ⟨by rfl, ?_⟩) ?_ ?_
   rotate_left
   ·intro w'
    go_simp
    with_reducible rfl
   rotate_left
   ·simp only [Act.put, sI, sZ, sS, i64_w, i32_w]
    rfl
   refine pure_ (i := 7) (N := some 89) (v := ?_) (a' := ?_) #[true, true, true, true, false, true, true, true, false, false, false, false, false, false, false] rfl rfl (by kernel_rfl) (fun _ _ _ h => h) (Or.inl ⟨by rfl, ?_⟩) ?_ ?_
   rotate_left
   ·intro w'
    go_simp
    with_reducible rfl
   rotate_left
   ·simp only [Act.put, sI, sZ, sS, i64_w, i32_w]
    rfl
   refine take_ (i := 4) (N := some 86) (v := ?_) (a' := ?_) #[true, true, true, true, true, true, true, true, false, false, false, false, false, false, false] rfl rfl (by kernel_rfl) (fun _ _ _ h => h) (Or.inl ⟨by rfl, ?_⟩) hHeld ?_ ?_
   rotate_left
   ·rintro w' ⟨s0, s1, s2, s3⟩
    go_simp
    with_reducible rfl
   rotate_left
   ·simp only [Act.put, sI, sZ, sS, i64_w, i32_w]
    rfl
   refine take_ (i := 8) (N := some 90) (v := ?_) (a' := ?_) #[true, true, true, true, true, true, true, true, true, false, false, false, false, false, false] rfl rfl (by kernel_rfl) (fun _ _ _ h => h) (Or.inl ⟨by rfl, ?_⟩) hHeld ?_ ?_
   rotate_left
   ·rintro w' ⟨s0, s1, s2, s3⟩
    go_simp
    with_reducible rfl
   rotate_left
   ·simp only [Act.put, sI, sZ, sS, i64_w, i32_w]
    rfl
   refine one_ (i := 9) (N := some 91) #[true, true, true, true, true, true, true, true, true, true, false, false, false, false, false] rfl rfl (by kernel_rfl) (by decide) (fun K hK => ?_)
   obtain ⟨s0, s1, s2, s3⟩ := hHeld
   refine goes_ Tryd.func61 (by kernel_rfl) rfl #[.int .i8 5, .int .i64 (rd_T26 l (0 : Int)).f1, .int .i64 (rd_T26 l (1 : Int)).f1] (by rfl) rfl rfl (by simp only [List.map_toArray, List.map_cons, List.map_nil]; rfl) ?_
   with_reducible refine (value_divide.calls 5 (rd_T26 l (0 : Int)).f1 (rd_T26 l (1 : Int)).f1 (wrap64 ((rd_T26 l (0 : Int)).f1.tdiv (rd_T26 l (1 : Int)).f1)) true _ (by rw [value_divide.f, if_neg hz, if_pos rfl])).mono ?_
   rintro ee w3 ⟨rfl, hb⟩
   refine ⟨_, rfl, ?_⟩
   refine hK.out _ _ ⟨(xao hb s0), (xao hb s1), (xan s2 hb), (Lib.hid (xai s3.out hb))⟩ (fun hHeld => ?_)
   clear hK K
   refine norm_ (a' := ?_) ?_ ?_
   rotate_left
   ·show Act.put _ (some 91) _ = _
    simp only [Act.put, sI, sZ, sS, i64_w, i32_w]
    rfl
   refine pure_ (i := 10) (N := some 81) (v := ?_) (a' := ?_) #[true, true, true, true, true, true, true, true, true, true, true, false, false, false, false] rfl rfl (by kernel_rfl) (fun _ _ _ h => h) (Or.inl ⟨by rfl, ?_⟩) ?_ ?_
   rotate_left
   ·intro w'
    go_simp
    with_reducible rfl
   rotate_left
   ·simp only [Act.put, sI, sZ, sS, i64_w, i32_w]
    rfl
   refine pure_ (i := 11) (N := some 92) (v := ?_) (a' := ?_) #[true, true, true, true, true, true, true, true, true, true, true, true, false, false, false] rfl rfl (by kernel_rfl) (fun _ _ _ h => h) (Or.inl ⟨by rfl, ?_⟩) ?_ ?_
   rotate_left
   ·intro w'
    go_simp
    with_reducible rfl
   rotate_left
   ·simp only [Act.put, sI, sZ, sS, i64_w, i32_w]
    rfl
   refine pure_ (i := 12) (N := some 93) (v := ?_) (a' := ?_) #[true, true, true, true, true, true, true, true, true, true, true, true, true, false, false] rfl rfl (by kernel_rfl) (fun _ _ _ h => h) (Or.inl ⟨by rfl, ?_⟩) ?_ ?_
   rotate_left
   ·intro w'
    go_simp
    with_reducible rfl
   rotate_left
   ·simp only [Act.put, sI, sZ, sS, i64_w, i32_w]
    rfl
   refine pure_ (i := 13) (N := some 6) (v := ?_) (a' := ?_) #[true, true, true, true, true, true, true, true, true, true, true, true, true, true, false] rfl rfl (by kernel_rfl) (fun _ _ _ h => h) (Or.inl ⟨by rfl, ?_⟩) ?_ ?_
   rotate_left
   ·intro w'
    go_simp
    with_reducible rfl
   rotate_left
   ·simp only [Act.put, sI, sZ, sS, i64_w, i32_w]
    rfl
   refine pure_ (i := 14) (N := some 7) (v := ?_) (a' := ?_) #[true, true, true, true, true, true, true, true, true, true, true, true, true, true, true] rfl rfl (by kernel_rfl) (fun _ _ _ h => h) (Or.inl ⟨by rfl, ?_⟩) ?_ ?_
   rotate_left
   ·intro w'
    go_simp
    with_reducible rfl
   rotate_left
   ·simp only [Act.put, sI, sZ, sS, i64_w, i32_w]
    rfl
   refine done_ (by kernel_rfl) ?_
   obtain ⟨_, _, s2, s3⟩ := hHeld
   have HK3 := Lib.hid s2
   clear s2
   go_wp2_with fail
   refine (value_number.calls (wrap64 ((rd_T26 l (0 : Int)).f1.tdiv (rd_T26 l (1 : Int)).f1)) 1 (wrap64 ((rd_T26 l (0 : Int)).f1.tdiv (rd_T26 l (1 : Int)).f1)) ⟨#[]⟩ true _ rfl).mono ?_
   rintro e w4 ⟨rfl, hb⟩
   have HB4 := Lib.hid (xai s3.out hb)
   have HK4 := Lib.hid (xan HK3.out hb)
   clear hb
   have z0 : w4.cell? ⟨w.heap.size, 0, none⟩ = some (.int .i8 0) := (xaj HK4.out 0).trans rfl
   have y0 := xam HK4.out 0
   have z1 : w4.cell? ⟨w.heap.size, 1, none⟩ = some (.int .i64 0) := (xaj HK4.out 1).trans rfl
   have y1 := xam HK4.out 1
   have z2 : w4.cell? ⟨w.heap.size, 2, none⟩ = some (.string ⟨#[]⟩) := (xaj HK4.out 2).trans rfl
   have y2 := xam HK4.out 2
   go_wp2_with fail
   refine bodyPost_ret (xat rfl _ _ w.heap.size 26 #[.int .i8 1, .int .i64 (wrap64 ((rd_T26 l (0 : Int)).f1.tdiv (rd_T26 l (1 : Int)).f1)), .string ⟨#[]⟩] (0, 0) _ rfl (put3 HK4.out) Tryd.underlying26 rfl (by kernel_rfl)) rfl ?_
   exact ⟨rfl, below3 HB4.out (Nat.le_refl _) _ _ _⟩
set_option maxHeartbeats 2000000 in
set_option maxRecDepth 100000 in
theorem arith_6 (A : Option Addr) (c : Nat) (l : List S26) (r : Int × Int × ByteArray × Bool) (w : World) (hr : Kd.C k26 w A l.length l) (hc : l.length ≤ c) (hT : TabA w) (h : arithV 6 l = r) :
  Calls Tryd.prog 17 #[.int .i8 6, .slice A l.length c] w fun e w' => e = .returned (.tuple #[.agg #[.int .i8 r.1, .int .i64 r.2.1, .string r.2.2.1], .bool r.2.2.2]) ∧ Below w.heap.size w w' := by
 have hcell := xbg hT (.cells #[.int .i8 0, .int .i64 0, .string ⟨#[]⟩] 26) 6 (by decide)
 have HR := Lib.hid hr
 have HK := Lib.hid (xaz w (.cells #[.int .i8 0, .int .i64 0, .string ⟨#[]⟩] 26 (0, 0)))
 have HW := Lib.hid (xab (Below.refl w.heap.size w) (.cells #[.int .i8 0, .int .i64 0, .string ⟨#[]⟩] 26))
 clear hr hT
 obtain ⟨k, hk⟩ := (fits_ev 2 (by decide) l).at
 go_enter Tryd.func17, Tryd.ntmps17
 go_wp2_with fail
 refine (value_fits.calls (k := k) (hr1 := Kd.C_below HR.out HW.out) (hc1 := hc) (h := hk)).mono ?_
 rintro e w1 ⟨rfl, hb⟩
 have HB := Lib.hid (xai HW.out hb)
 have HK1 := Lib.hid (xan HK.out hb)
 clear hb hcell HK HW hk
 cases hf : fitsV 2 l with
 | false =>
  have hr0 := (xbf (op := 6) (l := l) hf).symm.trans h
  subst hr0
  have z0 : w1.cell? ⟨w.heap.size, 0, none⟩ = some (.int .i8 0) := (xaj HK1.out 0).trans rfl
  have z1 : w1.cell? ⟨w.heap.size, 1, none⟩ = some (.int .i64 0) := (xaj HK1.out 1).trans rfl
  have z2 : w1.cell? ⟨w.heap.size, 2, none⟩ = some (.string ⟨#[]⟩) := (xaj HK1.out 2).trans rfl
  have y0 := xam HK1.out 0
  have y1 := xam HK1.out 1
  have y2 := xam HK1.out 2
  go_wp2_with fail
  refine bodyPost_ret (xat rfl _ _ w.heap.size 26 #[.int .i8 0, .int .i64 0, .string ⟨#[]⟩] (0, 0) _ rfl (put3 HK1.out) Tryd.underlying26 rfl (by kernel_rfl)) rfl ?_
  exact ⟨rfl, below3 HB.out (Nat.le_refl _) _ _ _⟩
 | true =>
  have hlen := xbi hf
  have hlen' : l.length = 2 := hlen
  rw [arithV, if_neg (xbe (op := 6) (l := l) (by decide) (by decide) hf)] at h
  obtain ⟨ad, rfl, g0, g1, g2⟩ := at_T26 (Kd.C_below HR.out HB.out) (0 : Int) (by omega) (by omega)
  rw [show ad.add ((0 : Int).toNat * 3) = ad by cases ad; simp [Addr.add]] at g0 g1 g2
  obtain ⟨ad', he, j0, j1, j2⟩ := at_T26 (Kd.C_below HR.out HB.out) (1 : Int) (by omega) (by omega)
  obtain rfl := Option.some.inj he
  rw [show (1 : Int).toNat * 3 = 3 from rfl] at j0 j1 j2
  replace j1 : w1.cell? ⟨ad.block, ad.off + 3 + 1, none⟩ = some (.int .i64 (rd_T26 l (1 : Int)).f1) := by rw [← xbc ad 1]; exact j1
  replace j2 : w1.cell? ⟨ad.block, ad.off + 3 + 2, none⟩ = some (.string (rd_T26 l (1 : Int)).f2) := by rw [← xbc ad 2]; exact j2
  have h2 : (if (rd_T26 l (1 : Int)).f1 = 0 then ((0, 0, ⟨#[]⟩, false) : Int × Int × ByteArray × Bool) else (1, (rd_T26 l (0 : Int)).f1.tmod (rd_T26 l (1 : Int)).f1, ⟨#[]⟩, true)) = r := h
  clear h
  go_wp2_with fail
  by_cases hz : (rd_T26 l (1 : Int)).f1 = 0
  ·rw [if_pos hz] at h2
   subst h2
   rw [hz] at j1
   refine start_ (n := 15) (S := fun w' => w'.cell? ⟨ad.block, ad.off + 1, none⟩ = some (.int .i64 (rd_T26 l (0 : Int)).f1) ∧ w'.cell? ⟨ad.block, ad.off + 3 + 1, none⟩ = some (.int .i64 0) ∧ w'.heap[w.heap.size]? = some (.cells #[.int .i8 0, .int .i64 0, .string ⟨#[]⟩] 26 (0, 0)) ∧ Hid (Below w.heap.size w w')) (ds := []) #[false, false, false, false, false, false, false, false, false, false, false, false, false, false, false] (by kernel_rfl) rfl rfl ⟨g1, j1, HK1.out, (Lib.hid (xba HB.out))⟩ (fun hHeld => ?_)
   refine pure_ (i := 0) (N := some 82) (v := ?_) (a' := ?_) #[true, false, false, false, false, false, false, false, false, false, false, false, false, false, false] rfl rfl (by kernel_rfl) (fun _ _ _ h => h) (Or.inl ⟨by rfl, ?_⟩) ?_ ?_
   rotate_left
   ·intro w'
    go_simp
    with_reducible rfl
   rotate_left
   ·simp only [Act.put, sI, sZ, sS, i64_w, i32_w]
    rfl
   refine pure_ (i := 1) (N := some 83) (v := ?_) (a' := ?_) #[true, true, false, false, false, false, false, false, false, false, false, false, false, false, false] rfl rfl (by kernel_rfl) (fun _ _ _ h => h) (Or.inl ⟨by rfl, ?_⟩) ?_ ?_
   rotate_left
   ·intro w'
    go_simp
    with_reducible rfl
   rotate_left
   ·simp only [Act.put, sI, sZ, sS, i64_w, i32_w]
    rfl
   refine pure_ (i := 2) (N := some 84) (v := ?_) (a' := ?_) #[true, true, true, false, false, false, false, false, false, false, false, false, false, false, false] rfl rfl (by kernel_rfl) (fun _ _ _ h => h) (Or.inl ⟨by rfl, ?_⟩) ?_ ?_
   rotate_left
   ·intro w'
    go_simp
    with_reducible rfl
   rotate_left
   ·simp only [Act.put, sI, sZ, sS, i64_w, i32_w]
    rfl
   refine pure_ (i := 3) (N := some 85) (v := ?_) (a' := ?_) #[true, true, true, true, false, false, false, false, false, false, false, false, false, false, false] rfl rfl (by kernel_rfl) (fun _ _ _ h => h) (Or.inl ⟨by rfl, ?_⟩) ?_ ?_
   rotate_left
   ·intro w'
    go_simp
    with_reducible rfl
   rotate_left
   ·simp only [Act.put, sI, sZ, sS, i64_w, i32_w]
    rfl
   refine pure_ (i := 5) (N := some 87) (v := ?_) (a' := ?_) #[true, true, true, true, false, true, false, false, false, false, false, false, false, false, false] rfl rfl (by kernel_rfl) (fun _ _ _ h => h) (Or.inl ⟨by rfl, ?_⟩) ?_ ?_
   rotate_left
   ·intro w'
    go_simp
    with_reducible rfl
   rotate_left
   ·simp only [Act.put, sI, sZ, sS, i64_w, i32_w]
    rfl
   refine pure_ (i := 6) (N := some 88) (v := ?_) (a' := ?_) #[true, true, true, true, false, true, true, false, false, false, false, false, false, false, false] rfl rfl (by kernel_rfl) (fun _ _ _ h => h) (Or.inl ⟨by rfl, ?_⟩) ?_ ?_
   rotate_left
   ·intro w'
    go_simp
    with_reducible rfl
   rotate_left
   ·simp only [Act.put, sI, sZ, sS, i64_w, i32_w]
    rfl
   refine pure_ (i := 7) (N := some 89) (v := ?_) (a' := ?_) #[true, true, true, true, false, true, true, true, false, false, false, false, false, false, false] rfl rfl (by kernel_rfl) (fun _ _ _ h => h) (Or.inl ⟨by rfl, ?_⟩) ?_ ?_
   rotate_left
   ·intro w'
    go_simp
    with_reducible rfl
   rotate_left
   ·simp only [Act.put, sI, sZ, sS, i64_w, i32_w]
    rfl
   refine take_ (i := 4) (N := some 86) (v := ?_) (a' := ?_) #[true, true, true, true, true, true, true, true, false, false, false, false, false, false, false] rfl rfl (by kernel_rfl) (fun _ _ _ h => h) (Or.inl ⟨by rfl, ?_⟩) hHeld ?_ ?_
   rotate_left
   ·rintro w' ⟨s0, s1, s2, s3⟩
    go_simp
    with_reducible rfl
   rotate_left
   ·simp only [Act.put, sI, sZ, sS, i64_w, i32_w]
    rfl
   refine take_ (i := 8) (N := some 90) (v := ?_) (a' := ?_) #[true, true, true, true, true, true, true, true, true, false, false, false, false, false, false] rfl rfl (by kernel_rfl) (fun _ _ _ h => h) (Or.inl ⟨by rfl, ?_⟩) hHeld ?_ ?_
   rotate_left
   ·rintro w' ⟨s0, s1, s2, s3⟩
    go_simp
    with_reducible rfl
   rotate_left
   ·simp only [Act.put, sI, sZ, sS, i64_w, i32_w]
    rfl
   refine one_ (i := 9) (N := some 91) #[true, true, true, true, true, true, true, true, true, true, false, false, false, false, false] rfl rfl (by kernel_rfl) (by decide) (fun K hK => ?_)
   obtain ⟨s0, s1, s2, s3⟩ := hHeld
   refine goes_ Tryd.func61 (by kernel_rfl) rfl #[.int .i8 6, .int .i64 (rd_T26 l (0 : Int)).f1, .int .i64 0] (by rfl) rfl rfl (by simp only [List.map_toArray, List.map_cons, List.map_nil]; rfl) ?_
   with_reducible refine (value_divide.calls 6 (rd_T26 l (0 : Int)).f1 0 (0) false _ (by rw [value_divide.f, if_pos rfl])).mono ?_
   rintro ee w3 ⟨rfl, hb⟩
   refine ⟨_, rfl, ?_⟩
   refine hK.out _ _ ⟨(xao hb s0), (xao hb s1), (xan s2 hb), (Lib.hid (xai s3.out hb))⟩ (fun hHeld => ?_)
   clear hK K
   refine norm_ (a' := ?_) ?_ ?_
   rotate_left
   ·show Act.put _ (some 91) _ = _
    simp only [Act.put, sI, sZ, sS, i64_w, i32_w]
    rfl
   refine pure_ (i := 10) (N := some 81) (v := ?_) (a' := ?_) #[true, true, true, true, true, true, true, true, true, true, true, false, false, false, false] rfl rfl (by kernel_rfl) (fun _ _ _ h => h) (Or.inl ⟨by rfl, ?_⟩) ?_ ?_
   rotate_left
   ·intro w'
    go_simp
    with_reducible rfl
   rotate_left
   ·simp only [Act.put, sI, sZ, sS, i64_w, i32_w]
    rfl
   refine pure_ (i := 11) (N := some 92) (v := ?_) (a' := ?_) #[true, true, true, true, true, true, true, true, true, true, true, true, false, false, false] rfl rfl (by kernel_rfl) (fun _ _ _ h => h) (Or.inl ⟨by rfl, ?_⟩) ?_ ?_
   rotate_left
   ·intro w'
    go_simp
    with_reducible rfl
   rotate_left
   ·simp only [Act.put, sI, sZ, sS, i64_w, i32_w]
    rfl
   refine pure_ (i := 12) (N := some 93) (v := ?_) (a' := ?_) #[true, true, true, true, true, true, true, true, true, true, true, true, true, false, false] rfl rfl (by kernel_rfl) (fun _ _ _ h => h) (Or.inl ⟨by rfl, ?_⟩) ?_ ?_
   rotate_left
   ·intro w'
    go_simp
    with_reducible rfl
   rotate_left
   ·simp only [Act.put, sI, sZ, sS, i64_w, i32_w]
    rfl
   refine pure_ (i := 13) (N := some 6) (v := ?_) (a' := ?_) #[true, true, true, true, true, true, true, true, true, true, true, true, true, true, false] rfl rfl (by kernel_rfl) (fun _ _ _ h => h) (Or.inl ⟨by rfl, ?_⟩) ?_ ?_
   rotate_left
   ·intro w'
    go_simp
    with_reducible rfl
   rotate_left
   ·simp only [Act.put, sI, sZ, sS, i64_w, i32_w]
    rfl
   refine pure_ (i := 14) (N := some 7) (v := ?_) (a' := ?_) #[true, true, true, true, true, true, true, true, true, true, true, true, true, true, true] rfl rfl (by kernel_rfl) (fun _ _ _ h => h) (Or.inl ⟨by rfl, ?_⟩) ?_ ?_
   rotate_left
   ·intro w'
    go_simp
    with_reducible rfl
   rotate_left
   ·simp only [Act.put, sI, sZ, sS, i64_w, i32_w]
    rfl
   refine done_ (by kernel_rfl) ?_
   obtain ⟨_, _, s2, s3⟩ := hHeld
   have HK3 := Lib.hid s2
   clear s2
   have z0 : w3.cell? ⟨w.heap.size, 0, none⟩ = some (.int .i8 0) := (xaj HK3.out 0).trans rfl
   have y0 := xam HK3.out 0
   have z1 : w3.cell? ⟨w.heap.size, 1, none⟩ = some (.int .i64 0) := (xaj HK3.out 1).trans rfl
   have y1 := xam HK3.out 1
   have z2 : w3.cell? ⟨w.heap.size, 2, none⟩ = some (.string ⟨#[]⟩) := (xaj HK3.out 2).trans rfl
   have y2 := xam HK3.out 2
   go_wp2_with fail
   refine bodyPost_ret (xat rfl _ _ w.heap.size 26 #[.int .i8 0, .int .i64 0, .string ⟨#[]⟩] (0, 0) _ rfl (put3 HK3.out) Tryd.underlying26 rfl (by kernel_rfl)) rfl ?_
   exact ⟨rfl, below3 s3.out (Nat.le_refl _) _ _ _⟩
  ·rw [if_neg hz] at h2
   subst h2
   refine start_ (n := 15) (S := fun w' => w'.cell? ⟨ad.block, ad.off + 1, none⟩ = some (.int .i64 (rd_T26 l (0 : Int)).f1) ∧ w'.cell? ⟨ad.block, ad.off + 3 + 1, none⟩ = some (.int .i64 (rd_T26 l (1 : Int)).f1) ∧ w'.heap[w.heap.size]? = some (.cells #[.int .i8 0, .int .i64 0, .string ⟨#[]⟩] 26 (0, 0)) ∧ Hid (Below w.heap.size w w')) (ds := []) #[false, false, false, false, false, false, false, false, false, false, false, false, false, false, false] (by kernel_rfl) rfl rfl ⟨g1, j1, HK1.out, (Lib.hid (xba HB.out))⟩ (fun hHeld => ?_)
   refine pure_ (i := 0) (N := some 82) (v := ?_) (a' := ?_) #[true, false, false, false, false, false, false, false, false, false, false, false, false, false, false] rfl rfl (by kernel_rfl) (fun _ _ _ h => h) (Or.inl ⟨by rfl, ?_⟩) ?_ ?_
   rotate_left
   ·intro w'
    go_simp
    with_reducible rfl
   rotate_left
   ·simp only [Act.put, sI, sZ, sS, i64_w, i32_w]
    rfl
   refine pure_ (i := 1) (N := some 83) (v := ?_) (a' := ?_) #[true, true, false, false, false, false, false, false, false, false, false, false, false, false, false] rfl rfl (by kernel_rfl) (fun _ _ _ h => h) (Or.inl ⟨by rfl, ?_⟩) ?_ ?_
   rotate_left
   ·intro w'
    go_simp
    with_reducible rfl
   rotate_left
   ·simp only [Act.put, sI, sZ, sS, i64_w, i32_w]
    rfl
   refine pure_ (i := 2) (N := some 84) (v := ?_) (a' := ?_) #[true, true, true, false, false, false, false, false, false, false, false, false, false, false, false] rfl rfl (by kernel_rfl) (fun _ _ _ h => h) (Or.inl ⟨by rfl, ?_⟩) ?_ ?_
   rotate_left
   ·intro w'
    go_simp
    with_reducible rfl
   rotate_left
   ·simp only [Act.put, sI, sZ, sS, i64_w, i32_w]
    rfl
   refine pure_ (i := 3) (N := some 85) (v := ?_) (a' := ?_) #[true, true, true, true, false, false, false, false, false, false, false, false, false, false, false] rfl rfl (by kernel_rfl) (fun _ _ _ h => h) (Or.inl ⟨by rfl, ?_⟩) ?_ ?_
   rotate_left
   ·intro w'
    go_simp
    with_reducible rfl
   rotate_left
   ·simp only [Act.put, sI, sZ, sS, i64_w, i32_w]
    rfl
   refine pure_ (i := 5) (N := some 87) (v := ?_) (a' := ?_) #[true, true, true, true, false, true, false, false, false, false, false, false, false, false, false] rfl rfl (by kernel_rfl) (fun _ _ _ h => h) (Or.inl ⟨by rfl, ?_⟩) ?_ ?_
   rotate_left
   ·intro w'
    go_simp
    with_reducible rfl
   rotate_left
   ·simp only [Act.put, sI, sZ, sS, i64_w, i32_w]
    rfl
   refine pure_ (i := 6) (N := some 88) (v := ?_) (a' := ?_) #[true, true, true, true, false, true, true, false, false, false, false, false, false, false, false] rfl rfl (by kernel_rfl) (fun _ _ _ h => h) (Or.inl ⟨by rfl, ?_⟩) ?_ ?_
   rotate_left
   ·intro w'
    go_simp
    with_reducible rfl
   rotate_left
   ·simp only [Act.put, sI, sZ, sS, i64_w, i32_w]
    rfl
   refine pure_ (i := 7) (N := some 89) (v := ?_) (a' := ?_) #[true, true, true, true, false, true, true, true, false, false, false, false, false, false, false] rfl rfl (by kernel_rfl) (fun _ _ _ h => h) (Or.inl ⟨by rfl, ?_⟩) ?_ ?_
   rotate_left
   ·intro w'
    go_simp
    with_reducible rfl
   rotate_left
   ·simp only [Act.put, sI, sZ, sS, i64_w, i32_w]
    rfl
   refine take_ (i := 4) (N := some 86) (v := ?_) (a' := ?_) #[true, true, true, true, true, true, true, true, false, false, false, false, false, false, false] rfl rfl (by kernel_rfl) (fun _ _ _ h => h) (Or.inl ⟨by rfl, ?_⟩) hHeld ?_ ?_
   rotate_left
   ·rintro w' ⟨s0, s1, s2, s3⟩
    go_simp
    with_reducible rfl
   rotate_left
   ·simp only [Act.put, sI, sZ, sS, i64_w, i32_w]
    rfl
   refine take_ (i := 8) (N := some 90) (v := ?_) (a' := ?_) #[true, true, true, true, true, true, true, true, true, false, false, false, false, false, false] rfl rfl (by kernel_rfl) (fun _ _ _ h => h) (Or.inl ⟨by rfl, ?_⟩) hHeld ?_ ?_
   rotate_left
   ·rintro w' ⟨s0, s1, s2, s3⟩
    go_simp
    with_reducible rfl
   rotate_left
   ·simp only [Act.put, sI, sZ, sS, i64_w, i32_w]
    rfl
   refine one_ (i := 9) (N := some 91) #[true, true, true, true, true, true, true, true, true, true, false, false, false, false, false] rfl rfl (by kernel_rfl) (by decide) (fun K hK => ?_)
   obtain ⟨s0, s1, s2, s3⟩ := hHeld
   refine goes_ Tryd.func61 (by kernel_rfl) rfl #[.int .i8 6, .int .i64 (rd_T26 l (0 : Int)).f1, .int .i64 (rd_T26 l (1 : Int)).f1] (by rfl) rfl rfl (by simp only [List.map_toArray, List.map_cons, List.map_nil]; rfl) ?_
   with_reducible refine (value_divide.calls 6 (rd_T26 l (0 : Int)).f1 (rd_T26 l (1 : Int)).f1 ((rd_T26 l (0 : Int)).f1.tmod (rd_T26 l (1 : Int)).f1) true _ (by rw [value_divide.f, if_neg hz, if_neg (by decide)])).mono ?_
   rintro ee w3 ⟨rfl, hb⟩
   refine ⟨_, rfl, ?_⟩
   refine hK.out _ _ ⟨(xao hb s0), (xao hb s1), (xan s2 hb), (Lib.hid (xai s3.out hb))⟩ (fun hHeld => ?_)
   clear hK K
   refine norm_ (a' := ?_) ?_ ?_
   rotate_left
   ·show Act.put _ (some 91) _ = _
    simp only [Act.put, sI, sZ, sS, i64_w, i32_w]
    rfl
   refine pure_ (i := 10) (N := some 81) (v := ?_) (a' := ?_) #[true, true, true, true, true, true, true, true, true, true, true, false, false, false, false] rfl rfl (by kernel_rfl) (fun _ _ _ h => h) (Or.inl ⟨by rfl, ?_⟩) ?_ ?_
   rotate_left
   ·intro w'
    go_simp
    with_reducible rfl
   rotate_left
   ·simp only [Act.put, sI, sZ, sS, i64_w, i32_w]
    rfl
   refine pure_ (i := 11) (N := some 92) (v := ?_) (a' := ?_) #[true, true, true, true, true, true, true, true, true, true, true, true, false, false, false] rfl rfl (by kernel_rfl) (fun _ _ _ h => h) (Or.inl ⟨by rfl, ?_⟩) ?_ ?_
   rotate_left
   ·intro w'
    go_simp
    with_reducible rfl
   rotate_left
   ·simp only [Act.put, sI, sZ, sS, i64_w, i32_w]
    rfl
   refine pure_ (i := 12) (N := some 93) (v := ?_) (a' := ?_) #[true, true, true, true, true, true, true, true, true, true, true, true, true, false, false] rfl rfl (by kernel_rfl) (fun _ _ _ h => h) (Or.inl ⟨by rfl, ?_⟩) ?_ ?_
   rotate_left
   ·intro w'
    go_simp
    with_reducible rfl
   rotate_left
   ·simp only [Act.put, sI, sZ, sS, i64_w, i32_w]
    rfl
   refine pure_ (i := 13) (N := some 6) (v := ?_) (a' := ?_) #[true, true, true, true, true, true, true, true, true, true, true, true, true, true, false] rfl rfl (by kernel_rfl) (fun _ _ _ h => h) (Or.inl ⟨by rfl, ?_⟩) ?_ ?_
   rotate_left
   ·intro w'
    go_simp
    with_reducible rfl
   rotate_left
   ·simp only [Act.put, sI, sZ, sS, i64_w, i32_w]
    rfl
   refine pure_ (i := 14) (N := some 7) (v := ?_) (a' := ?_) #[true, true, true, true, true, true, true, true, true, true, true, true, true, true, true] rfl rfl (by kernel_rfl) (fun _ _ _ h => h) (Or.inl ⟨by rfl, ?_⟩) ?_ ?_
   rotate_left
   ·intro w'
    go_simp
    with_reducible rfl
   rotate_left
   ·simp only [Act.put, sI, sZ, sS, i64_w, i32_w]
    rfl
   refine done_ (by kernel_rfl) ?_
   obtain ⟨_, _, s2, s3⟩ := hHeld
   have HK3 := Lib.hid s2
   clear s2
   go_wp2_with fail
   refine (value_number.calls ((rd_T26 l (0 : Int)).f1.tmod (rd_T26 l (1 : Int)).f1) 1 ((rd_T26 l (0 : Int)).f1.tmod (rd_T26 l (1 : Int)).f1) ⟨#[]⟩ true _ rfl).mono ?_
   rintro e w4 ⟨rfl, hb⟩
   have HB4 := Lib.hid (xai s3.out hb)
   have HK4 := Lib.hid (xan HK3.out hb)
   clear hb
   have z0 : w4.cell? ⟨w.heap.size, 0, none⟩ = some (.int .i8 0) := (xaj HK4.out 0).trans rfl
   have y0 := xam HK4.out 0
   have z1 : w4.cell? ⟨w.heap.size, 1, none⟩ = some (.int .i64 0) := (xaj HK4.out 1).trans rfl
   have y1 := xam HK4.out 1
   have z2 : w4.cell? ⟨w.heap.size, 2, none⟩ = some (.string ⟨#[]⟩) := (xaj HK4.out 2).trans rfl
   have y2 := xam HK4.out 2
   go_wp2_with fail
   refine bodyPost_ret (xat rfl _ _ w.heap.size 26 #[.int .i8 1, .int .i64 ((rd_T26 l (0 : Int)).f1.tmod (rd_T26 l (1 : Int)).f1), .string ⟨#[]⟩] (0, 0) _ rfl (put3 HK4.out) Tryd.underlying26 rfl (by kernel_rfl)) rfl ?_
   exact ⟨rfl, below3 HB4.out (Nat.le_refl _) _ _ _⟩
set_option maxHeartbeats 2000000 in
set_option maxRecDepth 100000 in
theorem arith_7 (A : Option Addr) (c : Nat) (l : List S26) (r : Int × Int × ByteArray × Bool) (w : World) (hr : Kd.C k26 w A l.length l) (hc : l.length ≤ c) (hT : TabA w) (h : arithV 7 l = r) :
  Calls Tryd.prog 17 #[.int .i8 7, .slice A l.length c] w fun e w' => e = .returned (.tuple #[.agg #[.int .i8 r.1, .int .i64 r.2.1, .string r.2.2.1], .bool r.2.2.2]) ∧ Below w.heap.size w w' := by
 have hcell := xbg hT (.cells #[.int .i8 0, .int .i64 0, .string ⟨#[]⟩] 26) 7 (by decide)
 have HR := Lib.hid hr
 have HK := Lib.hid (xaz w (.cells #[.int .i8 0, .int .i64 0, .string ⟨#[]⟩] 26 (0, 0)))
 have HW := Lib.hid (xab (Below.refl w.heap.size w) (.cells #[.int .i8 0, .int .i64 0, .string ⟨#[]⟩] 26))
 clear hr hT
 obtain ⟨k, hk⟩ := (fits_ev 4 (by decide) l).at
 go_enter Tryd.func17, Tryd.ntmps17
 go_wp2_with fail
 refine (value_fits.calls (k := k) (hr1 := Kd.C_below HR.out HW.out) (hc1 := hc) (h := hk)).mono ?_
 rintro e w1 ⟨rfl, hb⟩
 have HB := Lib.hid (xai HW.out hb)
 have HK1 := Lib.hid (xan HK.out hb)
 clear hb hcell HK HW hk
 cases hf : fitsV 4 l with
 | false =>
  have hr0 := (xbf (op := 7) (l := l) hf).symm.trans h
  subst hr0
  have z0 : w1.cell? ⟨w.heap.size, 0, none⟩ = some (.int .i8 0) := (xaj HK1.out 0).trans rfl
  have z1 : w1.cell? ⟨w.heap.size, 1, none⟩ = some (.int .i64 0) := (xaj HK1.out 1).trans rfl
  have z2 : w1.cell? ⟨w.heap.size, 2, none⟩ = some (.string ⟨#[]⟩) := (xaj HK1.out 2).trans rfl
  have y0 := xam HK1.out 0
  have y1 := xam HK1.out 1
  have y2 := xam HK1.out 2
  go_wp2_with fail
  refine bodyPost_ret (xat rfl _ _ w.heap.size 26 #[.int .i8 0, .int .i64 0, .string ⟨#[]⟩] (0, 0) _ rfl (put3 HK1.out) Tryd.underlying26 rfl (by kernel_rfl)) rfl ?_
  exact ⟨rfl, below3 HB.out (Nat.le_refl _) _ _ _⟩
 | true =>
  have hlen := xbi hf
  have hlen' : l.length = 2 := hlen
  rw [arithV, if_neg (xbe (op := 7) (l := l) (by decide) (by decide) hf)] at h
  obtain ⟨ad, rfl, g0, g1, g2⟩ := at_T26 (Kd.C_below HR.out HB.out) (0 : Int) (by omega) (by omega)
  rw [show ad.add ((0 : Int).toNat * 3) = ad by cases ad; simp [Addr.add]] at g0 g1 g2
  obtain ⟨ad', he, j0, j1, j2⟩ := at_T26 (Kd.C_below HR.out HB.out) (1 : Int) (by omega) (by omega)
  obtain rfl := Option.some.inj he
  rw [show (1 : Int).toNat * 3 = 3 from rfl] at j0 j1 j2
  replace j1 : w1.cell? ⟨ad.block, ad.off + 3 + 1, none⟩ = some (.int .i64 (rd_T26 l (1 : Int)).f1) := by rw [← xbc ad 1]; exact j1
  replace j2 : w1.cell? ⟨ad.block, ad.off + 3 + 2, none⟩ = some (.string (rd_T26 l (1 : Int)).f2) := by rw [← xbc ad 2]; exact j2
  have h2 : (if (((rd_T26 l (0 : Int)).f2 ++ (rd_T26 l (1 : Int)).f2).size : Int) > 200 then ((0, 0, ⟨#[]⟩, false) : Int × Int × ByteArray × Bool) else (2, 0, ((rd_T26 l (0 : Int)).f2 ++ (rd_T26 l (1 : Int)).f2), true)) = r := h
  clear h
  have hcat : ¬ 9223372036854775807 < (rd_T26 l (0 : Int)).f2.size + (rd_T26 l (1 : Int)).f2.size := by
   have h1 := fits_size hf _ (show (rd_T26 l (0 : Int)) ∈ l by
    show l.getD 0 z26 ∈ l
    rw [List.getD_eq_getElem?_getD, List.getElem?_eq_getElem (by omega)]
    exact List.getElem_mem _)
   have h2 := fits_size hf _ (show (rd_T26 l (1 : Int)) ∈ l by
    show l.getD 1 z26 ∈ l
    rw [List.getD_eq_getElem?_getD, List.getElem?_eq_getElem (by omega)]
    exact List.getElem_mem _)
   omega
  go_wp2_with fail
  by_cases hz : (((rd_T26 l (0 : Int)).f2 ++ (rd_T26 l (1 : Int)).f2).size : Int) > 200
  ·rw [if_pos hz] at h2
   subst h2
   refine start_ (n := 14) (S := fun w' => w'.cell? ⟨ad.block, ad.off + 2, none⟩ = some (.string (rd_T26 l (0 : Int)).f2) ∧ w'.cell? ⟨ad.block, ad.off + 3 + 2, none⟩ = some (.string (rd_T26 l (1 : Int)).f2) ∧ w'.heap[w.heap.size]? = some (.cells #[.int .i8 0, .int .i64 0, .string ⟨#[]⟩] 26 (0, 0)) ∧ Hid (Below w.heap.size w w')) (ds := [12]) #[false, false, false, false, false, false, false, false, false, false, false, false, false, false] (by kernel_rfl) rfl rfl ⟨g2, j2, HK1.out, (Lib.hid (xba HB.out))⟩ (fun hHeld => ?_)
   refine pure_ (i := 0) (N := some 102) (v := ?_) (a' := ?_) #[true, false, false, false, false, false, false, false, false, false, false, false, false, false] rfl rfl (by kernel_rfl) (fun _ _ _ h => h) (Or.inl ⟨by rfl, ?_⟩) ?_ ?_
   rotate_left
   ·intro w'
    go_simp
    with_reducible rfl
   rotate_left
   ·simp only [Act.put, sI, sZ, sS, i64_w, i32_w]
    rfl
   refine pure_ (i := 1) (N := some 103) (v := ?_) (a' := ?_) #[true, true, false, false, false, false, false, false, false, false, false, false, false, false] rfl rfl (by kernel_rfl) (fun _ _ _ h => h) (Or.inl ⟨by rfl, ?_⟩) ?_ ?_
   rotate_left
   ·intro w'
    go_simp
    with_reducible rfl
   rotate_left
   ·simp only [Act.put, sI, sZ, sS, i64_w, i32_w]
    rfl
   refine pure_ (i := 2) (N := some 104) (v := ?_) (a' := ?_) #[true, true, true, false, false, false, false, false, false, false, false, false, false, false] rfl rfl (by kernel_rfl) (fun _ _ _ h => h) (Or.inl ⟨by rfl, ?_⟩) ?_ ?_
   rotate_left
   ·intro w'
    go_simp
    with_reducible rfl
   rotate_left
   ·simp only [Act.put, sI, sZ, sS, i64_w, i32_w]
    rfl
   refine pure_ (i := 4) (N := some 106) (v := ?_) (a' := ?_) #[true, true, true, false, true, false, false, false, false, false, false, false, false, false] rfl rfl (by kernel_rfl) (fun _ _ _ h => h) (Or.inl ⟨by rfl, ?_⟩) ?_ ?_
   rotate_left
   ·intro w'
    go_simp
    with_reducible rfl
   rotate_left
   ·simp only [Act.put, sI, sZ, sS, i64_w, i32_w]
    rfl
   refine pure_ (i := 5) (N := some 107) (v := ?_) (a' := ?_) #[true, true, true, false, true, true, false, false, false, false, false, false, false, false] rfl rfl (by kernel_rfl) (fun _ _ _ h => h) (Or.inl ⟨by rfl, ?_⟩) ?_ ?_
   rotate_left
   ·intro w'
    go_simp
    with_reducible rfl
   rotate_left
   ·simp only [Act.put, sI, sZ, sS, i64_w, i32_w]
    rfl
   refine pure_ (i := 6) (N := some 108) (v := ?_) (a' := ?_) #[true, true, true, false, true, true, true, false, false, false, false, false, false, false] rfl rfl (by kernel_rfl) (fun _ _ _ h => h) (Or.inl ⟨by rfl, ?_⟩) ?_ ?_
   rotate_left
   ·intro w'
    go_simp
    with_reducible rfl
   rotate_left
   ·simp only [Act.put, sI, sZ, sS, i64_w, i32_w]
    rfl
   refine take_ (i := 3) (N := some 105) (v := ?_) (a' := ?_) #[true, true, true, true, true, true, true, false, false, false, false, false, false, false] rfl rfl (by kernel_rfl) (fun _ _ _ h => h) (Or.inl ⟨by rfl, ?_⟩) hHeld ?_ ?_
   rotate_left
   ·rintro w' ⟨s0, s1, s2, s3⟩
    go_simp
    with_reducible rfl
   rotate_left
   ·simp only [Act.put, sI, sZ, sS, i64_w, i32_w]
    rfl
   refine take_ (i := 7) (N := some 109) (v := ?_) (a' := ?_) #[true, true, true, true, true, true, true, true, false, false, false, false, false, false] rfl rfl (by kernel_rfl) (fun _ _ _ h => h) (Or.inl ⟨by rfl, ?_⟩) hHeld ?_ ?_
   rotate_left
   ·rintro w' ⟨s0, s1, s2, s3⟩
    go_simp
    with_reducible rfl
   rotate_left
   ·simp only [Act.put, sI, sZ, sS, i64_w, i32_w]
    rfl
   refine pure_ (i := 8) (N := some 110) (v := ?_) (a' := ?_) #[true, true, true, true, true, true, true, true, true, false, false, false, false, false] rfl rfl (by kernel_rfl) (fun _ _ _ h => h) (Or.inl ⟨by rfl, ?_⟩) ?_ ?_
   rotate_left
   ·intro w'
    go_simp
    with_reducible rfl
   rotate_left
   ·simp only [Act.put, sI, sZ, sS, i64_w, i32_w]
    rfl
   refine one_ (i := 9) (N := some 111) #[true, true, true, true, true, true, true, true, true, true, false, false, false, false] rfl rfl (by kernel_rfl) (by decide) (fun K hK => ?_)
   obtain ⟨s0, s1, s2, s3⟩ := hHeld
   refine goes_ Tryd.func62 (by kernel_rfl) rfl #[.string ((rd_T26 l (0 : Int)).f2 ++ (rd_T26 l (1 : Int)).f2)] (by rfl) rfl rfl (by simp only [List.map_toArray, List.map_cons, List.map_nil]; rfl) ?_
   with_reducible refine (value_text.calls ((rd_T26 l (0 : Int)).f2 ++ (rd_T26 l (1 : Int)).f2) 0 0 ⟨#[]⟩ false _ (by rw [value_text.f, if_pos hz])).mono ?_
   rintro ee w3 ⟨rfl, hb⟩
   refine ⟨_, rfl, ?_⟩
   refine hK.out _ _ ⟨(xao hb s0), (xao hb s1), (xan s2 hb), (Lib.hid (xai s3.out hb))⟩ (fun hHeld => ?_)
   clear hK K
   refine norm_ (a' := ?_) ?_ ?_
   rotate_left
   ·show Act.put _ (some 111) _ = _
    simp only [Act.put, sI, sZ, sS, i64_w, i32_w]
    rfl
   refine pure_ (i := 10) (N := some 112) (v := ?_) (a' := ?_) #[true, true, true, true, true, true, true, true, true, true, true, false, false, false] rfl rfl (by kernel_rfl) (fun _ _ _ h => h) (Or.inl ⟨by rfl, ?_⟩) ?_ ?_
   rotate_left
   ·intro w'
    go_simp
    with_reducible rfl
   rotate_left
   ·simp only [Act.put, sI, sZ, sS, i64_w, i32_w]
    rfl
   refine pure_ (i := 11) (N := some 113) (v := ?_) (a' := ?_) #[true, true, true, true, true, true, true, true, true, true, true, true, false, false] rfl rfl (by kernel_rfl) (fun _ _ _ h => h) (Or.inl ⟨by rfl, ?_⟩) ?_ ?_
   rotate_left
   ·intro w'
    go_simp
    with_reducible rfl
   rotate_left
   ·simp only [Act.put, sI, sZ, sS, i64_w, i32_w]
    rfl
   refine last_ (i := 12) (N := none) #[true, true, true, true, true, true, true, true, true, true, true, true, true, false] rfl rfl (by kernel_rfl) (by decide) (fun K hK => ?_)
   obtain ⟨s0, s1, s2, s3⟩ := hHeld
   have z0 := (xaj s2 0).trans rfl
   have z1 := (xaj s2 1).trans rfl
   have z2 := (xaj s2 2).trans rfl
   have y0 := xam s2 0
   have y1 := xam s2 1
   have y2 := xam s2 2
   refine skip_ (w1 := ?_) (by rfl) rfl ?_ ?_
   rotate_left
   ·go_simp
    rfl
   refine hK.out _ _ ?_
   clear hK K
   refine pure_ (i := 13) (N := some 5) (v := ?_) (a' := ?_) #[true, true, true, true, true, true, true, true, true, true, true, true, true, true] rfl rfl (by kernel_rfl) (fun _ _ _ h => h) (Or.inl ⟨by rfl, ?_⟩) ?_ ?_
   rotate_left
   ·intro w'
    go_simp
    with_reducible rfl
   rotate_left
   ·simp only [Act.put, sI, sZ, sS, i64_w, i32_w]
    rfl
   refine done_ (by kernel_rfl) ?_
   go_wp2_with fail
   refine bodyPost_ret (xat rfl _ _ w.heap.size 26 #[.int .i8 0, .int .i64 0, .string ⟨#[]⟩] (0, 0) _ rfl (put3 s2) Tryd.underlying26 rfl (by kernel_rfl)) rfl ?_
   exact ⟨rfl, below3 s3.out (Nat.le_refl _) _ _ _⟩
  ·rw [if_neg hz] at h2
   subst h2
   refine start_ (n := 14) (S := fun w' => w'.cell? ⟨ad.block, ad.off + 2, none⟩ = some (.string (rd_T26 l (0 : Int)).f2) ∧ w'.cell? ⟨ad.block, ad.off + 3 + 2, none⟩ = some (.string (rd_T26 l (1 : Int)).f2) ∧ w'.heap[w.heap.size]? = some (.cells #[.int .i8 0, .int .i64 0, .string ⟨#[]⟩] 26 (0, 0)) ∧ Hid (Below w.heap.size w w')) (ds := [12]) #[false, false, false, false, false, false, false, false, false, false, false, false, false, false] (by kernel_rfl) rfl rfl ⟨g2, j2, HK1.out, (Lib.hid (xba HB.out))⟩ (fun hHeld => ?_)
   refine pure_ (i := 0) (N := some 102) (v := ?_) (a' := ?_) #[true, false, false, false, false, false, false, false, false, false, false, false, false, false] rfl rfl (by kernel_rfl) (fun _ _ _ h => h) (Or.inl ⟨by rfl, ?_⟩) ?_ ?_
   rotate_left
   ·intro w'
    go_simp
    with_reducible rfl
   rotate_left
   ·simp only [Act.put, sI, sZ, sS, i64_w, i32_w]
    rfl
   refine pure_ (i := 1) (N := some 103) (v := ?_) (a' := ?_) #[true, true, false, false, false, false, false, false, false, false, false, false, false, false] rfl rfl (by kernel_rfl) (fun _ _ _ h => h) (Or.inl ⟨by rfl, ?_⟩) ?_ ?_
   rotate_left
   ·intro w'
    go_simp
    with_reducible rfl
   rotate_left
   ·simp only [Act.put, sI, sZ, sS, i64_w, i32_w]
    rfl
   refine pure_ (i := 2) (N := some 104) (v := ?_) (a' := ?_) #[true, true, true, false, false, false, false, false, false, false, false, false, false, false] rfl rfl (by kernel_rfl) (fun _ _ _ h => h) (Or.inl ⟨by rfl, ?_⟩) ?_ ?_
   rotate_left
   ·intro w'
    go_simp
    with_reducible rfl
   rotate_left
   ·simp only [Act.put, sI, sZ, sS, i64_w, i32_w]
    rfl
   refine pure_ (i := 4) (N := some 106) (v := ?_) (a' := ?_) #[true, true, true, false, true, false, false, false, false, false, false, false, false, false] rfl rfl (by kernel_rfl) (fun _ _ _ h => h) (Or.inl ⟨by rfl, ?_⟩) ?_ ?_
   rotate_left
   ·intro w'
    go_simp
    with_reducible rfl
   rotate_left
   ·simp only [Act.put, sI, sZ, sS, i64_w, i32_w]
    rfl
   refine pure_ (i := 5) (N := some 107) (v := ?_) (a' := ?_) #[true, true, true, false, true, true, false, false, false, false, false, false, false, false] rfl rfl (by kernel_rfl) (fun _ _ _ h => h) (Or.inl ⟨by rfl, ?_⟩) ?_ ?_
   rotate_left
   ·intro w'
    go_simp
    with_reducible rfl
   rotate_left
   ·simp only [Act.put, sI, sZ, sS, i64_w, i32_w]
    rfl
   refine pure_ (i := 6) (N := some 108) (v := ?_) (a' := ?_) #[true, true, true, false, true, true, true, false, false, false, false, false, false, false] rfl rfl (by kernel_rfl) (fun _ _ _ h => h) (Or.inl ⟨by rfl, ?_⟩) ?_ ?_
   rotate_left
   ·intro w'
    go_simp
    with_reducible rfl
   rotate_left
   ·simp only [Act.put, sI, sZ, sS, i64_w, i32_w]
    rfl
   refine take_ (i := 3) (N := some 105) (v := ?_) (a' := ?_) #[true, true, true, true, true, true, true, false, false, false, false, false, false, false] rfl rfl (by kernel_rfl) (fun _ _ _ h => h) (Or.inl ⟨by rfl, ?_⟩) hHeld ?_ ?_
   rotate_left
   ·rintro w' ⟨s0, s1, s2, s3⟩
    go_simp
    with_reducible rfl
   rotate_left
   ·simp only [Act.put, sI, sZ, sS, i64_w, i32_w]
    rfl
   refine take_ (i := 7) (N := some 109) (v := ?_) (a' := ?_) #[true, true, true, true, true, true, true, true, false, false, false, false, false, false] rfl rfl (by kernel_rfl) (fun _ _ _ h => h) (Or.inl ⟨by rfl, ?_⟩) hHeld ?_ ?_
   rotate_left
   ·rintro w' ⟨s0, s1, s2, s3⟩
    go_simp
    with_reducible rfl
   rotate_left
   ·simp only [Act.put, sI, sZ, sS, i64_w, i32_w]
    rfl
   refine pure_ (i := 8) (N := some 110) (v := ?_) (a' := ?_) #[true, true, true, true, true, true, true, true, true, false, false, false, false, false] rfl rfl (by kernel_rfl) (fun _ _ _ h => h) (Or.inl ⟨by rfl, ?_⟩) ?_ ?_
   rotate_left
   ·intro w'
    go_simp
    with_reducible rfl
   rotate_left
   ·simp only [Act.put, sI, sZ, sS, i64_w, i32_w]
    rfl
   refine one_ (i := 9) (N := some 111) #[true, true, true, true, true, true, true, true, true, true, false, false, false, false] rfl rfl (by kernel_rfl) (by decide) (fun K hK => ?_)
   obtain ⟨s0, s1, s2, s3⟩ := hHeld
   refine goes_ Tryd.func62 (by kernel_rfl) rfl #[.string ((rd_T26 l (0 : Int)).f2 ++ (rd_T26 l (1 : Int)).f2)] (by rfl) rfl rfl (by simp only [List.map_toArray, List.map_cons, List.map_nil]; rfl) ?_
   with_reducible refine (value_text.calls ((rd_T26 l (0 : Int)).f2 ++ (rd_T26 l (1 : Int)).f2) 2 0 ((rd_T26 l (0 : Int)).f2 ++ (rd_T26 l (1 : Int)).f2) true _ (by rw [value_text.f, if_neg hz])).mono ?_
   rintro ee w3 ⟨rfl, hb⟩
   refine ⟨_, rfl, ?_⟩
   refine hK.out _ _ ⟨(xao hb s0), (xao hb s1), (xan s2 hb), (Lib.hid (xai s3.out hb))⟩ (fun hHeld => ?_)
   clear hK K
   refine norm_ (a' := ?_) ?_ ?_
   rotate_left
   ·show Act.put _ (some 111) _ = _
    simp only [Act.put, sI, sZ, sS, i64_w, i32_w]
    rfl
   refine pure_ (i := 10) (N := some 112) (v := ?_) (a' := ?_) #[true, true, true, true, true, true, true, true, true, true, true, false, false, false] rfl rfl (by kernel_rfl) (fun _ _ _ h => h) (Or.inl ⟨by rfl, ?_⟩) ?_ ?_
   rotate_left
   ·intro w'
    go_simp
    with_reducible rfl
   rotate_left
   ·simp only [Act.put, sI, sZ, sS, i64_w, i32_w]
    rfl
   refine pure_ (i := 11) (N := some 113) (v := ?_) (a' := ?_) #[true, true, true, true, true, true, true, true, true, true, true, true, false, false] rfl rfl (by kernel_rfl) (fun _ _ _ h => h) (Or.inl ⟨by rfl, ?_⟩) ?_ ?_
   rotate_left
   ·intro w'
    go_simp
    with_reducible rfl
   rotate_left
   ·simp only [Act.put, sI, sZ, sS, i64_w, i32_w]
    rfl
   refine last_ (i := 12) (N := none) #[true, true, true, true, true, true, true, true, true, true, true, true, true, false] rfl rfl (by kernel_rfl) (by decide) (fun K hK => ?_)
   obtain ⟨s0, s1, s2, s3⟩ := hHeld
   have z0 := (xaj s2 0).trans rfl
   have z1 := (xaj s2 1).trans rfl
   have z2 := (xaj s2 2).trans rfl
   have y0 := xam s2 0
   have y1 := xam s2 1
   have y2 := xam s2 2
   refine skip_ (w1 := ?_) (by rfl) rfl ?_ ?_
   rotate_left
   ·go_simp
    rfl
   refine hK.out _ _ ?_
   clear hK K
   refine pure_ (i := 13) (N := some 5) (v := ?_) (a' := ?_) #[true, true, true, true, true, true, true, true, true, true, true, true, true, true] rfl rfl (by kernel_rfl) (fun _ _ _ h => h) (Or.inl ⟨by rfl, ?_⟩) ?_ ?_
   rotate_left
   ·intro w'
    go_simp
    with_reducible rfl
   rotate_left
   ·simp only [Act.put, sI, sZ, sS, i64_w, i32_w]
    rfl
   refine done_ (by kernel_rfl) ?_
   go_wp2_with fail
   refine bodyPost_ret (xat rfl _ _ w.heap.size 26 #[.int .i8 2, .int .i64 0, .string ((rd_T26 l (0 : Int)).f2 ++ (rd_T26 l (1 : Int)).f2)] (0, 0) _ rfl (put3 s2) Tryd.underlying26 rfl (by kernel_rfl)) rfl ?_
   exact ⟨rfl, below3 s3.out (Nat.le_refl _) _ _ _⟩
set_option maxHeartbeats 2000000 in
set_option maxRecDepth 100000 in
theorem arith_8 (A : Option Addr) (c : Nat) (l : List S26) (r : Int × Int × ByteArray × Bool) (w : World) (hr : Kd.C k26 w A l.length l) (hc : l.length ≤ c) (hT : TabA w) (h : arithV 8 l = r) :
  Calls Tryd.prog 17 #[.int .i8 8, .slice A l.length c] w fun e w' => e = .returned (.tuple #[.agg #[.int .i8 r.1, .int .i64 r.2.1, .string r.2.2.1], .bool r.2.2.2]) ∧ Below w.heap.size w w' := by
 have hcell := xbg hT (.cells #[.int .i8 0, .int .i64 0, .string ⟨#[]⟩] 26) 8 (by decide)
 have HR := Lib.hid hr
 have HK := Lib.hid (xaz w (.cells #[.int .i8 0, .int .i64 0, .string ⟨#[]⟩] 26 (0, 0)))
 have HW := Lib.hid (xab (Below.refl w.heap.size w) (.cells #[.int .i8 0, .int .i64 0, .string ⟨#[]⟩] 26))
 clear hr hT
 obtain ⟨k, hk⟩ := (fits_ev 3 (by decide) l).at
 go_enter Tryd.func17, Tryd.ntmps17
 go_wp2_with fail
 refine (value_fits.calls (k := k) (hr1 := Kd.C_below HR.out HW.out) (hc1 := hc) (h := hk)).mono ?_
 rintro e w1 ⟨rfl, hb⟩
 have HB := Lib.hid (xai HW.out hb)
 have HK1 := Lib.hid (xan HK.out hb)
 clear hb hcell HK HW hk
 cases hf : fitsV 3 l with
 | false =>
  have hr0 := (xbf (op := 8) (l := l) hf).symm.trans h
  subst hr0
  have z0 : w1.cell? ⟨w.heap.size, 0, none⟩ = some (.int .i8 0) := (xaj HK1.out 0).trans rfl
  have z1 : w1.cell? ⟨w.heap.size, 1, none⟩ = some (.int .i64 0) := (xaj HK1.out 1).trans rfl
  have z2 : w1.cell? ⟨w.heap.size, 2, none⟩ = some (.string ⟨#[]⟩) := (xaj HK1.out 2).trans rfl
  have y0 := xam HK1.out 0
  have y1 := xam HK1.out 1
  have y2 := xam HK1.out 2
  go_wp2_with fail
  refine bodyPost_ret (xat rfl _ _ w.heap.size 26 #[.int .i8 0, .int .i64 0, .string ⟨#[]⟩] (0, 0) _ rfl (put3 HK1.out) Tryd.underlying26 rfl (by kernel_rfl)) rfl ?_
  exact ⟨rfl, below3 HB.out (Nat.le_refl _) _ _ _⟩
 | true =>
  have hlen := xbi hf
  have hlen' : l.length = 1 := hlen
  rw [arithV, if_neg (xbe (op := 8) (l := l) (by decide) (by decide) hf)] at h
  obtain ⟨ad, rfl, g0, g1, g2⟩ := at_T26 (Kd.C_below HR.out HB.out) (0 : Int) (by omega) (by omega)
  rw [show ad.add ((0 : Int).toNat * 3) = ad by cases ad; simp [Addr.add]] at g0 g1 g2
  have h2 : ((1, ((rd_T26 l (0 : Int)).f2.size : Int), ⟨#[]⟩, true) : Int × Int × ByteArray × Bool) = r := h
  subst h2
  clear h
  go_wp2_with fail
  refine (value_number.calls (((rd_T26 l (0 : Int)).f2.size : Int)) 1 (((rd_T26 l (0 : Int)).f2.size : Int)) ⟨#[]⟩ true w1 rfl).mono ?_
  rintro e w2 ⟨rfl, hb⟩
  have HB2 := Lib.hid (xai HB.out hb)
  have HK2 := Lib.hid (xan HK1.out hb)
  clear hb
  have z0 : w2.cell? ⟨w.heap.size, 0, none⟩ = some (.int .i8 0) := (xaj HK2.out 0).trans rfl
  have y0 := xam HK2.out 0
  have z1 : w2.cell? ⟨w.heap.size, 1, none⟩ = some (.int .i64 0) := (xaj HK2.out 1).trans rfl
  have y1 := xam HK2.out 1
  have z2 : w2.cell? ⟨w.heap.size, 2, none⟩ = some (.string ⟨#[]⟩) := (xaj HK2.out 2).trans rfl
  have y2 := xam HK2.out 2
  go_wp2_with fail
  refine bodyPost_ret (xat rfl _ _ w.heap.size 26 #[.int .i8 1, .int .i64 (((rd_T26 l (0 : Int)).f2.size : Int)), .string ⟨#[]⟩] (0, 0) _ rfl (put3 HK2.out) Tryd.underlying26 rfl (by kernel_rfl)) rfl ?_
  exact ⟨rfl, below3 HB2.out (Nat.le_refl _) _ _ _⟩
set_option maxHeartbeats 2000000 in
set_option maxRecDepth 100000 in
theorem arith_9 (A : Option Addr) (c : Nat) (l : List S26) (r : Int × Int × ByteArray × Bool) (w : World) (hr : Kd.C k26 w A l.length l) (hc : l.length ≤ c) (hT : TabA w) (h : arithV 9 l = r) :
  Calls Tryd.prog 17 #[.int .i8 9, .slice A l.length c] w fun e w' => e = .returned (.tuple #[.agg #[.int .i8 r.1, .int .i64 r.2.1, .string r.2.2.1], .bool r.2.2.2]) ∧ Below w.heap.size w w' := by
 have hcell := xbg hT (.cells #[.int .i8 0, .int .i64 0, .string ⟨#[]⟩] 26) 9 (by decide)
 have HR := Lib.hid hr
 have HK := Lib.hid (xaz w (.cells #[.int .i8 0, .int .i64 0, .string ⟨#[]⟩] 26 (0, 0)))
 have HW := Lib.hid (xab (Below.refl w.heap.size w) (.cells #[.int .i8 0, .int .i64 0, .string ⟨#[]⟩] 26))
 clear hr hT
 obtain ⟨k, hk⟩ := (fits_ev 3 (by decide) l).at
 go_enter Tryd.func17, Tryd.ntmps17
 go_wp2_with fail
 refine (value_fits.calls (k := k) (hr1 := Kd.C_below HR.out HW.out) (hc1 := hc) (h := hk)).mono ?_
 rintro e w1 ⟨rfl, hb⟩
 have HB := Lib.hid (xai HW.out hb)
 have HK1 := Lib.hid (xan HK.out hb)
 clear hb hcell HK HW hk
 cases hf : fitsV 3 l with
 | false =>
  have hr0 := (xbf (op := 9) (l := l) hf).symm.trans h
  subst hr0
  have z0 : w1.cell? ⟨w.heap.size, 0, none⟩ = some (.int .i8 0) := (xaj HK1.out 0).trans rfl
  have z1 : w1.cell? ⟨w.heap.size, 1, none⟩ = some (.int .i64 0) := (xaj HK1.out 1).trans rfl
  have z2 : w1.cell? ⟨w.heap.size, 2, none⟩ = some (.string ⟨#[]⟩) := (xaj HK1.out 2).trans rfl
  have y0 := xam HK1.out 0
  have y1 := xam HK1.out 1
  have y2 := xam HK1.out 2
  go_wp2_with fail
  refine bodyPost_ret (xat rfl _ _ w.heap.size 26 #[.int .i8 0, .int .i64 0, .string ⟨#[]⟩] (0, 0) _ rfl (put3 HK1.out) Tryd.underlying26 rfl (by kernel_rfl)) rfl ?_
  exact ⟨rfl, below3 HB.out (Nat.le_refl _) _ _ _⟩
 | true =>
  have hlen := xbi hf
  have hlen' : l.length = 1 := hlen
  rw [arithV, if_neg (xbe (op := 9) (l := l) (by decide) (by decide) hf)] at h
  obtain ⟨ad, rfl, g0, g1, g2⟩ := at_T26 (Kd.C_below HR.out HB.out) (0 : Int) (by omega) (by omega)
  rw [show ad.add ((0 : Int).toNat * 3) = ad by cases ad; simp [Addr.add]] at g0 g1 g2
  have h2 : ((1, charsL (rd_T26 l (0 : Int)).f2 (rd_T26 l (0 : Int)).f2.size 0 0, ⟨#[]⟩, true) : Int × Int × ByteArray × Bool) = r := h
  subst h2
  clear h
  have hs2 := fits_size hf _ (show (rd_T26 l (0 : Int)) ∈ l by
   show l.getD 0 z26 ∈ l
   rw [List.getD_eq_getElem?_getD, List.getElem?_eq_getElem (by omega)]
   exact List.getElem_mem _)
  go_wp2_with fail
  go_loopw [8] (fun v wr => ∃ (pos b : Nat) (n : Nat), wr = w1.iter (rd_T26 l (0 : Int)).f2 pos ∧ v = .int .i64 n ∧ n ≤ pos ∧ pos ≤ (rd_T26 l (0 : Int)).f2.size ∧ (rd_T26 l (0 : Int)).f2.size ≤ pos + b ∧ Hid (charsL (rd_T26 l (0 : Int)).f2 b pos n = charsL (rd_T26 l (0 : Int)).f2 (rd_T26 l (0 : Int)).f2.size 0 0)) (fun _ wr => (rd_T26 l (0 : Int)).f2.size - wr.iterPos w1.heap.size)
  case atStart => exact ⟨0, (rd_T26 l (0 : Int)).f2.size, 0, rfl, rfl, Nat.le_refl _, Nat.zero_le _, by omega, Lib.hid rfl⟩
  case round =>
   obtain ⟨pos, b, n, rfl, rfl, hn, hp1, hb, HT⟩ := hrel
   by_cases hp : pos < (rd_T26 l (0 : Int)).f2.size
   ·have hnx : ∀ ty, (Instr.next (.pointer (some ⟨w1.heap.size, 0, none⟩)) true ty).run Tryd.prog (w1.iter (rd_T26 l (0 : Int)).f2 pos) = _ := fun ty => run_next_any w1 (rd_T26 l (0 : Int)).f2 pos ty hp
    go_wp2_with fail
    obtain ⟨q1, q2⟩ := width_pos (rd_T26 l (0 : Int)).f2 pos hp
    go_roundw
    case rel =>
     refine ⟨pos + (Utf8.decode (rd_T26 l (0 : Int)).f2 pos).2, b - 1, n + 1, rfl, by go_num, by omega, q2, by omega, Lib.hid ?_⟩
     rw [← HT.out]
     cases b with
     | zero => omega
     | succ b => rw [charsL, if_pos hp]; rfl
    case measure =>
     simp
     omega
   ·have hnx : ∀ ty, (Instr.next (.pointer (some ⟨w1.heap.size, 0, none⟩)) true ty).run Tryd.prog (w1.iter (rd_T26 l (0 : Int)).f2 pos) = _ := fun ty => run_next_end w1 (rd_T26 l (0 : Int)).f2 pos ty hp
    go_wp2_with fail
    have HBi := Lib.hid (show Below w.heap.size w (w1.iter (rd_T26 l (0 : Int)).f2 pos) from xab HB.out _)
    have HKi := Lib.hid (show (w1.iter (rd_T26 l (0 : Int)).f2 pos).heap[w.heap.size]? = _ from xad HK1.out _)
    have hend : charsL (rd_T26 l (0 : Int)).f2 b pos n = n := by
     cases b with
     | zero => rfl
     | succ b => rw [charsL, if_neg hp]
    have HN := Lib.hid (hend.symm.trans HT.out)
    clear HT hnx HB HK1 HR
    generalize w1.iter (rd_T26 l (0 : Int)).f2 pos = w2 at *
    refine (value_number.calls (n : Int) 1 (n : Int) ⟨#[]⟩ true w2 rfl).mono ?_
    rintro e w4 ⟨rfl, hb⟩
    have HB4 := Lib.hid (xai HBi.out hb)
    have HK4 := Lib.hid (xan HKi.out hb)
    clear hb
    have z0 : w4.cell? ⟨w.heap.size, 0, none⟩ = some (.int .i8 0) := (xaj HK4.out 0).trans rfl
    have y0 := xam HK4.out 0
    have z1 : w4.cell? ⟨w.heap.size, 1, none⟩ = some (.int .i64 0) := (xaj HK4.out 1).trans rfl
    have y1 := xam HK4.out 1
    have z2 : w4.cell? ⟨w.heap.size, 2, none⟩ = some (.string ⟨#[]⟩) := (xaj HK4.out 2).trans rfl
    have y2 := xam HK4.out 2
    go_wp2_with fail
    rw [← HN.out]
    refine bodyPost_ret (xat rfl _ _ w.heap.size 26 #[.int .i8 1, .int .i64 (n : Int), .string ⟨#[]⟩] (0, 0) _ rfl (put3 HK4.out) Tryd.underlying26 rfl (by kernel_rfl)) rfl ?_
    exact ⟨rfl, below3 HB4.out (Nat.le_refl _) _ _ _⟩
set_option maxHeartbeats 2000000 in
set_option maxRecDepth 100000 in
theorem arith_10 (A : Option Addr) (c : Nat) (l : List S26) (r : Int × Int × ByteArray × Bool) (w : World) (hr : Kd.C k26 w A l.length l) (hc : l.length ≤ c) (hT : TabA w) (h : arithV 10 l = r) :
  Calls Tryd.prog 17 #[.int .i8 10, .slice A l.length c] w fun e w' => e = .returned (.tuple #[.agg #[.int .i8 r.1, .int .i64 r.2.1, .string r.2.2.1], .bool r.2.2.2]) ∧ Below w.heap.size w w' := by
 have hcell := xbg hT (.cells #[.int .i8 0, .int .i64 0, .string ⟨#[]⟩] 26) 10 (by decide)
 have HR := Lib.hid hr
 have HK := Lib.hid (xaz w (.cells #[.int .i8 0, .int .i64 0, .string ⟨#[]⟩] 26 (0, 0)))
 have HW := Lib.hid (xab (Below.refl w.heap.size w) (.cells #[.int .i8 0, .int .i64 0, .string ⟨#[]⟩] 26))
 clear hr hT
 obtain ⟨k, hk⟩ := (fits_ev 3 (by decide) l).at
 go_enter Tryd.func17, Tryd.ntmps17
 go_wp2_with fail
 refine (value_fits.calls (k := k) (hr1 := Kd.C_below HR.out HW.out) (hc1 := hc) (h := hk)).mono ?_
 rintro e w1 ⟨rfl, hb⟩
 have HB := Lib.hid (xai HW.out hb)
 have HK1 := Lib.hid (xan HK.out hb)
 clear hb hcell HK HW hk
 cases hf : fitsV 3 l with
 | false =>
  have hr0 := (xbf (op := 10) (l := l) hf).symm.trans h
  subst hr0
  have z0 : w1.cell? ⟨w.heap.size, 0, none⟩ = some (.int .i8 0) := (xaj HK1.out 0).trans rfl
  have z1 : w1.cell? ⟨w.heap.size, 1, none⟩ = some (.int .i64 0) := (xaj HK1.out 1).trans rfl
  have z2 : w1.cell? ⟨w.heap.size, 2, none⟩ = some (.string ⟨#[]⟩) := (xaj HK1.out 2).trans rfl
  have y0 := xam HK1.out 0
  have y1 := xam HK1.out 1
  have y2 := xam HK1.out 2
  go_wp2_with fail
  refine bodyPost_ret (xat rfl _ _ w.heap.size 26 #[.int .i8 0, .int .i64 0, .string ⟨#[]⟩] (0, 0) _ rfl (put3 HK1.out) Tryd.underlying26 rfl (by kernel_rfl)) rfl ?_
  exact ⟨rfl, below3 HB.out (Nat.le_refl _) _ _ _⟩
 | true =>
  have hlen := xbi hf
  have hlen' : l.length = 1 := hlen
  rw [arithV, if_neg (xbe (op := 10) (l := l) (by decide) (by decide) hf)] at h
  obtain ⟨ad, rfl, g0, g1, g2⟩ := at_T26 (Kd.C_below HR.out HB.out) (0 : Int) (by omega) (by omega)
  rw [show ad.add ((0 : Int).toNat * 3) = ad by cases ad; simp [Addr.add]] at g0 g1 g2
  have h2 : (if ((backOf (rd_T26 l (0 : Int)).f2).size : Int) > 200 then ((0, 0, ⟨#[]⟩, false) : Int × Int × ByteArray × Bool) else (2, 0, (backOf (rd_T26 l (0 : Int)).f2), true)) = r := h
  clear h
  have hs2 := fits_size hf _ (show (rd_T26 l (0 : Int)) ∈ l by
   show l.getD 0 z26 ∈ l
   rw [List.getD_eq_getElem?_getD, List.getElem?_eq_getElem (by omega)]
   exact List.getElem_mem _)
  go_wp2_with fail
  refine (value_back.calls (rd_T26 l (0 : Int)).f2 (backOf (rd_T26 l (0 : Int)).f2) w1 (by rw [value_back.f, if_pos (by omega)])).mono ?_
  rintro e w3 ⟨rfl, hb⟩
  have HB3 := Lib.hid (xai HB.out hb)
  have HK3 := Lib.hid (xan HK1.out hb)
  clear hb HB HK1
  by_cases hz : ((backOf (rd_T26 l (0 : Int)).f2).size : Int) > 200
  ·rw [if_pos hz] at h2
   subst h2
   go_wp2_with fail
   refine (value_text.calls (backOf (rd_T26 l (0 : Int)).f2) 0 0 ⟨#[]⟩ false w3 (by rw [value_text.f, if_pos hz])).mono ?_
   rintro e w4 ⟨rfl, hb⟩
   have HB4 := Lib.hid (xai HB3.out hb)
   have HK4 := Lib.hid (xan HK3.out hb)
   clear hb
   have z0 : w4.cell? ⟨w.heap.size, 0, none⟩ = some (.int .i8 0) := (xaj HK4.out 0).trans rfl
   have y0 := xam HK4.out 0
   have z1 : w4.cell? ⟨w.heap.size, 1, none⟩ = some (.int .i64 0) := (xaj HK4.out 1).trans rfl
   have y1 := xam HK4.out 1
   have z2 : w4.cell? ⟨w.heap.size, 2, none⟩ = some (.string ⟨#[]⟩) := (xaj HK4.out 2).trans rfl
   have y2 := xam HK4.out 2
   go_wp2_with fail
   refine bodyPost_ret (xat rfl _ _ w.heap.size 26 #[.int .i8 0, .int .i64 0, .string ⟨#[]⟩] (0, 0) _ rfl (put3 HK4.out) Tryd.underlying26 rfl (by kernel_rfl)) rfl ?_
   exact ⟨rfl, below3 HB4.out (Nat.le_refl _) _ _ _⟩
  ·rw [if_neg hz] at h2
   subst h2
   go_wp2_with fail
   refine (value_text.calls (backOf (rd_T26 l (0 : Int)).f2) 2 0 (backOf (rd_T26 l (0 : Int)).f2) true w3 (by rw [value_text.f, if_neg (by omega)])).mono ?_
   rintro e w4 ⟨rfl, hb⟩
   have HB4 := Lib.hid (xai HB3.out hb)
   have HK4 := Lib.hid (xan HK3.out hb)
   clear hb
   have z0 : w4.cell? ⟨w.heap.size, 0, none⟩ = some (.int .i8 0) := (xaj HK4.out 0).trans rfl
   have y0 := xam HK4.out 0
   have z1 : w4.cell? ⟨w.heap.size, 1, none⟩ = some (.int .i64 0) := (xaj HK4.out 1).trans rfl
   have y1 := xam HK4.out 1
   have z2 : w4.cell? ⟨w.heap.size, 2, none⟩ = some (.string ⟨#[]⟩) := (xaj HK4.out 2).trans rfl
   have y2 := xam HK4.out 2
   go_wp2_with fail
   refine bodyPost_ret (xat rfl _ _ w.heap.size 26 #[.int .i8 2, .int .i64 0, .string (backOf (rd_T26 l (0 : Int)).f2)] (0, 0) _ rfl (put3 HK4.out) Tryd.underlying26 rfl (by kernel_rfl)) rfl ?_
   exact ⟨rfl, below3 HB4.out (Nat.le_refl _) _ _ _⟩
set_option maxHeartbeats 2000000 in
set_option maxRecDepth 100000 in
theorem arith_out (op : Int) (hrg : -128 ≤ op ∧ op ≤ 127) (hop : op < 0 ∨ 11 ≤ op) (A : Option Addr) (c : Nat) (l : List S26) (w : World) :
  Calls Tryd.prog 17 #[.int .i8 op, .slice A l.length c] w fun e w' => e = .returned (.tuple #[.agg #[.int .i8 0, .int .i64 0, .string ⟨#[]⟩], .bool false]) ∧ Below w.heap.size w w' := by
 have HK := Lib.hid (xaz w (.cells #[.int .i8 0, .int .i64 0, .string ⟨#[]⟩] 26 (0, 0)))
 have HW := Lib.hid (xab (Below.refl w.heap.size w) (.cells #[.int .i8 0, .int .i64 0, .string ⟨#[]⟩] 26))
 obtain ⟨hrg1, hrg2⟩ := hrg
 rcases hop with h | h
 ·have hd : decide (op < 0) = true := decide_eq_true h
  go_enter Tryd.func17, Tryd.ntmps17
  go_wp2_with fail
  refine bodyPost_ret (xat rfl _ _ w.heap.size 26 #[.int .i8 0, .int .i64 0, .string ⟨#[]⟩] (0, 0) _ rfl HK.out Tryd.underlying26 rfl (by kernel_rfl)) rfl ?_
  exact ⟨rfl, HW.out⟩
 ·have hd : decide (op < 0) = false := decide_eq_false (by omega)
  have hd2 : decide (11 ≤ op) = true := decide_eq_true h
  go_enter Tryd.func17, Tryd.ntmps17
  go_wp2_with fail
  refine bodyPost_ret (xat rfl _ _ w.heap.size 26 #[.int .i8 0, .int .i64 0, .string ⟨#[]⟩] (0, 0) _ rfl HK.out Tryd.underlying26 rfl (by kernel_rfl)) rfl ?_
  exact ⟨rfl, HW.out⟩
def value_Arith.f (op : Int) (l : List S26) : Option (Int × Int × ByteArray × Bool) := if -128 ≤ op ∧ op ≤ 127 then some (arithV op l) else none
theorem value_Arith.calls (a0 : Int) (A1 : Option Addr) (c1 : Nat) (l1 : List (S26)) (r1 : Int) (r2 : Int) (r3 : ByteArray) (r4 : Bool) (w : World) (hr1 : Kd.C k26 w A1 l1.length l1) (hc1 : l1.length ≤ c1) (h : value_Arith.f a0 l1 = some (r1, r2, r3, r4)) (hTA : TabA w) :
  Calls Tryd.prog 17 #[.int .i8 a0, .slice A1 l1.length c1] w fun e w' => e = .returned (.tuple #[.agg #[.int .i8 r1, .int .i64 r2, .string r3], .bool r4]) ∧ Below w.heap.size w w' := by
 have hrg : -128 ≤ a0 ∧ a0 ≤ 127 := by
  rw [value_Arith.f] at h; split at h
  ·assumption
  ·simp at h
 rw [value_Arith.f, if_pos hrg] at h
 have h' : arithV a0 l1 = (r1, r2, r3, r4) := Option.some.inj h
 by_cases hop : a0 < 0 ∨ 11 ≤ a0
 ·have e : arithV a0 l1 = (0, 0, ⟨#[]⟩, false) := by
   rw [arithV, if_pos]
   rcases hop with h | h
   ·exact .inl h
   ·exact .inr (.inl h)
  rw [e] at h'
  obtain ⟨rfl, rfl, rfl, rfl⟩ : 0 = r1 ∧ 0 = r2 ∧ (⟨#[]⟩ : ByteArray) = r3 ∧ false = r4 := by simpa using h'
  exact arith_out a0 hrg hop A1 c1 l1 w
 ·rcases (by omega : a0 = 0 ∨ a0 = 1 ∨ a0 = 2 ∨ a0 = 3 ∨ a0 = 4 ∨ a0 = 5 ∨ a0 = 6 ∨ a0 = 7 ∨ a0 = 8 ∨ a0 = 9 ∨ a0 = 10) with rfl | rfl | rfl | rfl | rfl | rfl | rfl | rfl | rfl | rfl | rfl
  ·exact arith_0 A1 c1 l1 _ w hr1 hc1 hTA h'
  ·exact arith_1 A1 c1 l1 _ w hr1 hc1 hTA h'
  ·exact arith_2 A1 c1 l1 _ w hr1 hc1 hTA h'
  ·exact arith_3 A1 c1 l1 _ w hr1 hc1 hTA h'
  ·exact arith_4 A1 c1 l1 _ w hr1 hc1 hTA h'
  ·exact arith_5 A1 c1 l1 _ w hr1 hc1 hTA h'
  ·exact arith_6 A1 c1 l1 _ w hr1 hc1 hTA h'
  ·exact arith_7 A1 c1 l1 _ w hr1 hc1 hTA h'
  ·exact arith_8 A1 c1 l1 _ w hr1 hc1 hTA h'
  ·exact arith_9 A1 c1 l1 _ w hr1 hc1 hTA h'
  ·exact arith_10 A1 c1 l1 _ w hr1 hc1 hTA h'
def r1_kinds.l0 : Nat → List (S26) → Int → Int → Int → Option (Bool)
 | 0, _, _, _, _ => none
 | k + 1, x0, x1, x2, x7 => if x7 < x1 then (if 0 ≤ x7 then (if x7 < (x0.length : Int) then (if ((rd_T26 x0 x7).f0) = x2 then ((r1_Check.f ((rd_T26 x0 x7).f0) ((rd_T26 x0 x7).f1) ((rd_T26 x0 x7).f2)).bind fun t438 => (if t438 = 0 then (r1_kinds.l0 k x0 x1 x2 (wrap64 (x7 + 1))) else (some false))) else (some false)) else (none)) else (none)) else (some true)
def r1_kinds.f (k : Nat) (l0 : List (S26)) (a1 : Int) (a2 : Int) : Option (Bool) := if (l0.length : Int) = a1 then (r1_kinds.l0 k l0 a1 a2 0) else (some false)
set_option maxHeartbeats 8000000 in
set_option maxRecDepth 100000 in
theorem r1_kinds.calls (k : Nat) (A0 : Option Addr) (c0 : Nat) (l0 : List (S26)) (a1 : Int) (a2 : Int) (r : Bool) (w : World) (hr0 : Kd.C k26 w A0 l0.length l0) (hc0 : l0.length ≤ c0) (h : r1_kinds.f k l0 a1 a2 = some r) :
  Calls Tryd.prog 139 #[.slice A0 l0.length c0, .int .i64 a1, .int .i8 a2] w fun e w' => e = .returned (.bool r) ∧ Below w.heap.size w w' := by
 have hu26 := Tryd.underlying26
 have HR0 := Aside0.mk hr0
 have HC0 := Aside0.mk hc0
 clear hr0 hc0
 have HB := Aside0.mk (Below.refl w.heap.size w)
 have H : (if (l0.length : Int) = a1 then (r1_kinds.l0 k l0 a1 a2 0) else (some false)) = some r := h
 clear h
 by_cases c4 : (l0.length : Int) = a1
 ·rw [if_pos c4] at H
  have c4b0 : ((l0.length : Int) == a1) = true := beq_iff_eq.mpr c4
  have c4b1 : ((l0.length : Int) != a1) = false := bne_eq_false_iff_eq.mpr c4
  clear c4
  have H' := Aside0.mk H
  clear H
  go_enter Tryd.func139, Tryd.ntmps139
  go_wp2
  go_loopg [7] k (fun kq v7 w' => ∃ (x7_1 : Int), v7 = .int .i64 x7_1 ∧ Aside0 (r1_kinds.l0 kq l0 a1 a2 x7_1 = some r) ∧ Aside0 (kq ≤ k) ∧ Aside0 (Below w.heap.size w w'))
  case atStart => exact ⟨(0), (by first | rfl | (simp; done) | (simp [*]; done)), H', ⟨Nat.le_refl _⟩, ⟨by repeat (first | (with_reducible first | exact HB.out | apply xab | apply xaa | apply xac) | exact HB.out)⟩⟩
  case round =>
   clear H'
   try clear c1
   try clear p2
   try clear c4
   try clear c4b0
   try clear c4b1
   obtain ⟨x7_1, rfl, HA, HK1, HB⟩ := hrel
   cases gk with
   | zero => exact absurd HA.out (by simp [r1_kinds.l0])
   | succ k1 =>
    have H := HA.out
    clear HA
    simp only [r1_kinds.l0] at H
    by_cases c5 : x7_1 < a1
    ·rw [if_pos c5] at H
     have c5b0 : decide (x7_1 < a1) = true := decide_eq_true c5
     clear c5
     by_cases c6 : 0 ≤ x7_1
     ·rw [if_pos c6] at H
      have c6b0 : decide (0 ≤ x7_1) = true := decide_eq_true c6
      clear c6
      by_cases c7 : x7_1 < (l0.length : Int)
      ·rw [if_pos c7] at H
       have c7b0 : decide (x7_1 < (l0.length : Int)) = true := decide_eq_true c7
       clear c7
       by_cases c8 : ((rd_T26 l0 x7_1).f0) = a2
       ·rw [if_pos c8] at H
        have c8b0 : (((rd_T26 l0 x7_1).f0) == a2) = true := beq_iff_eq.mpr c8
        have c8b1 : (((rd_T26 l0 x7_1).f0) != a2) = false := bne_eq_false_iff_eq.mpr c8
        clear c8
        replace H := Option.bind_eq_some_iff.mp H
        obtain ⟨t438, A90, H⟩ := H
        replace H : (if t438 = 0 then (r1_kinds.l0 k1 l0 a1 a2 (wrap64 (x7_1 + 1))) else (some false)) = some r := H
        have A9 := Aside0.mk A90
        clear A90
        by_cases c10 : t438 = 0
        ·rw [if_pos c10] at H
         have c10b0 : (t438 == 0) = true := beq_iff_eq.mpr c10
         have c10b1 : (t438 != 0) = false := bne_eq_false_iff_eq.mpr c10
         clear c10
         have H' := Aside0.mk H
         clear H
         have p436 : 0 ≤ (x7_1 : Int) := of_decide_eq_true (by first | (with_reducible assumption) | assumption)
         have q436 : x7_1 < (l0.length : Int) := of_decide_eq_true (by first | (with_reducible assumption) | assumption)
         obtain ⟨ad436, e436, hx436_0, hx436_1, hx436_2⟩ := at_T26 HR0.out x7_1 p436 q436
         cases e436
         replace hx436_0 := (HB.out.cell (World.block_lt_of_cell? w _ hx436_0)).trans hx436_0
         replace hx436_1 := (HB.out.cell (World.block_lt_of_cell? w _ hx436_1)).trans hx436_1
         replace hx436_2 := (HB.out.cell (World.block_lt_of_cell? w _ hx436_2)).trans hx436_2
         replace p436 := eq_true p436
         replace q436 := eq_true q436
         have p437 : 0 ≤ (x7_1 : Int) := of_decide_eq_true (by first | (with_reducible assumption) | assumption)
         have q437 : x7_1 < (l0.length : Int) := of_decide_eq_true (by first | (with_reducible assumption) | assumption)
         obtain ⟨ad437, e437, hx437_0, hx437_1, hx437_2⟩ := at_T26 HR0.out x7_1 p437 q437
         obtain rfl : ad436 = ad437 := (by injection e437)
         replace hx437_0 := (HB.out.cell (World.block_lt_of_cell? w _ hx437_0)).trans hx437_0
         replace hx437_1 := (HB.out.cell (World.block_lt_of_cell? w _ hx437_1)).trans hx437_1
         replace hx437_2 := (HB.out.cell (World.block_lt_of_cell? w _ hx437_2)).trans hx437_2
         replace p437 := eq_true p437
         replace q437 := eq_true q437
         go_wp2_with (first | (go_at_call 13; (with_reducible refine (r1_Check.calls ((rd_T26 l0 x7_1).f0) ((rd_T26 l0 x7_1).f1) ((rd_T26 l0 x7_1).f2) t438 _ A9.out).mono ?_); rintro e w11 ⟨rfl, hb⟩; have n0_ := Aside0.mk (xai (by repeat (first | (with_reducible first | exact HB.out | apply xab | apply xaa | apply xac) | exact HB.out)) hb); clear HB; have HB := n0_; clear n0_; (try clear hb); (try clear hb2); (try clear hk); (try clear hi)))
         go_roundg k1
         case measure => have := HK1.out; omega
         case rel => exact ⟨(wrap64 (x7_1 + 1)), (by first | rfl | (simp; done) | (simp [*]; done)), H', ⟨by have := HK1.out; omega⟩, ⟨by repeat (first | (with_reducible first | exact HB.out | apply xab | apply xaa | apply xac) | exact HB.out)⟩⟩
        ·rw [if_neg c10] at H
         have c10b0 : (t438 == 0) = false := beq_eq_false_iff_ne.mpr c10
         have c10b1 : (t438 != 0) = true := bne_iff_ne.mpr c10
         obtain rfl := Option.some.inj H
         have p436 : 0 ≤ (x7_1 : Int) := of_decide_eq_true (by first | (with_reducible assumption) | assumption)
         have q436 : x7_1 < (l0.length : Int) := of_decide_eq_true (by first | (with_reducible assumption) | assumption)
         obtain ⟨ad436, e436, hx436_0, hx436_1, hx436_2⟩ := at_T26 HR0.out x7_1 p436 q436
         cases e436
         replace hx436_0 := (HB.out.cell (World.block_lt_of_cell? w _ hx436_0)).trans hx436_0
         replace hx436_1 := (HB.out.cell (World.block_lt_of_cell? w _ hx436_1)).trans hx436_1
         replace hx436_2 := (HB.out.cell (World.block_lt_of_cell? w _ hx436_2)).trans hx436_2
         replace p436 := eq_true p436
         replace q436 := eq_true q436
         have p437 : 0 ≤ (x7_1 : Int) := of_decide_eq_true (by first | (with_reducible assumption) | assumption)
         have q437 : x7_1 < (l0.length : Int) := of_decide_eq_true (by first | (with_reducible assumption) | assumption)
         obtain ⟨ad437, e437, hx437_0, hx437_1, hx437_2⟩ := at_T26 HR0.out x7_1 p437 q437
         obtain rfl : ad436 = ad437 := (by injection e437)
         replace hx437_0 := (HB.out.cell (World.block_lt_of_cell? w _ hx437_0)).trans hx437_0
         replace hx437_1 := (HB.out.cell (World.block_lt_of_cell? w _ hx437_1)).trans hx437_1
         replace hx437_2 := (HB.out.cell (World.block_lt_of_cell? w _ hx437_2)).trans hx437_2
         replace p437 := eq_true p437
         replace q437 := eq_true q437
         go_wp2_with (first | (go_at_call 13; (with_reducible refine (r1_Check.calls ((rd_T26 l0 x7_1).f0) ((rd_T26 l0 x7_1).f1) ((rd_T26 l0 x7_1).f2) t438 _ A9.out).mono ?_); rintro e w12 ⟨rfl, hb⟩; have n0_ := Aside0.mk (xai (by repeat (first | (with_reducible first | exact HB.out | apply xab | apply xaa | apply xac) | exact HB.out)) hb); clear HB; have HB := n0_; clear n0_; (try clear hb); (try clear hb2); (try clear hk); (try clear hi)))
         go_ret
         exact ⟨by first | rfl | (simp [xak, xal] <;> rfl) | (simp [*, xak, xal] <;> rfl), by repeat (first | (with_reducible first | exact HB.out | apply xab | apply xaa | apply xac) | exact HB.out)⟩
       ·rw [if_neg c8] at H
        have c8b0 : (((rd_T26 l0 x7_1).f0) == a2) = false := beq_eq_false_iff_ne.mpr c8
        have c8b1 : (((rd_T26 l0 x7_1).f0) != a2) = true := bne_iff_ne.mpr c8
        obtain rfl := Option.some.inj H
        have p436 : 0 ≤ (x7_1 : Int) := of_decide_eq_true (by first | (with_reducible assumption) | assumption)
        have q436 : x7_1 < (l0.length : Int) := of_decide_eq_true (by first | (with_reducible assumption) | assumption)
        obtain ⟨ad436, e436, hx436_0, hx436_1, hx436_2⟩ := at_T26 HR0.out x7_1 p436 q436
        cases e436
        replace hx436_0 := (HB.out.cell (World.block_lt_of_cell? w _ hx436_0)).trans hx436_0
        replace hx436_1 := (HB.out.cell (World.block_lt_of_cell? w _ hx436_1)).trans hx436_1
        replace hx436_2 := (HB.out.cell (World.block_lt_of_cell? w _ hx436_2)).trans hx436_2
        replace p436 := eq_true p436
        replace q436 := eq_true q436
        go_wp2
        go_ret
        exact ⟨by first | rfl | (simp [xak, xal] <;> rfl) | (simp [*, xak, xal] <;> rfl), by repeat (first | (with_reducible first | exact HB.out | apply xab | apply xaa | apply xac) | exact HB.out)⟩
      ·rw [if_neg c7] at H
       exact absurd H (by simp)
     ·rw [if_neg c6] at H
      exact absurd H (by simp)
    ·rw [if_neg c5] at H
     have c5b0 : decide (x7_1 < a1) = false := decide_eq_false c5
     clear c5
     obtain rfl := Option.some.inj H
     go_wp2
     go_ret
     exact ⟨by first | rfl | (simp [xak, xal] <;> rfl) | (simp [*, xak, xal] <;> rfl), by repeat (first | (with_reducible first | exact HB.out | apply xab | apply xaa | apply xac) | exact HB.out)⟩
 ·rw [if_neg c4] at H
  have c4b0 : ((l0.length : Int) == a1) = false := beq_eq_false_iff_ne.mpr c4
  have c4b1 : ((l0.length : Int) != a1) = true := bne_iff_ne.mpr c4
  obtain rfl := Option.some.inj H
  go_enter Tryd.func139, Tryd.ntmps139
  go_wp2
  go_ret
  exact ⟨by first | rfl | (simp [xak, xal] <;> rfl) | (simp [*, xak, xal] <;> rfl), by repeat (first | (with_reducible first | exact HB.out | apply xab | apply xaa | apply xac) | exact HB.out)⟩
def r1_quotient.f (a0 : Int) (a1 : Int) : Option (Int) := if a1 = (-1) then (some (wrap64 (-a0))) else (if a1 = 0 then (none) else (some (wrap64 (Int.tdiv a0 a1))))
set_option maxHeartbeats 8000000 in
set_option maxRecDepth 100000 in
theorem r1_quotient.calls (a0 : Int) (a1 : Int) (r : Int) (w : World) (h : r1_quotient.f a0 a1 = some r) :
  Calls Tryd.prog 146 #[.int .i64 a0, .int .i64 a1] w fun e w' => e = .returned (.int .i64 r) ∧ Drawn0 w w' := by
 have H : (if a1 = (-1) then (some (wrap64 (-a0))) else (if a1 = 0 then (none) else (some (wrap64 (Int.tdiv a0 a1))))) = some r := h
 clear h
 by_cases c3 : a1 = (-1)
 ·rw [if_pos c3] at H
  have c3b0 : (a1 == (-1)) = true := beq_iff_eq.mpr c3
  have c3b1 : (a1 != (-1)) = false := bne_eq_false_iff_eq.mpr c3
  clear c3
  obtain rfl := Option.some.inj H
  go_enter Tryd.func146, Tryd.ntmps146
  go_wp2
  go_ret
  exact ⟨by first | rfl | (simp; done) | (simp [*]; done), by repeat (first | exact Drawn0.refl _ | apply Drawn0.step)⟩
 ·rw [if_neg c3] at H
  have c3b0 : (a1 == (-1)) = false := beq_eq_false_iff_ne.mpr c3
  have c3b1 : (a1 != (-1)) = true := bne_iff_ne.mpr c3
  by_cases c4 : a1 = 0
  ·rw [if_pos c4] at H
   exact absurd H (by simp)
  ·rw [if_neg c4] at H
   have c4b0 : (a1 == 0) = false := beq_eq_false_iff_ne.mpr c4
   have c4b1 : (a1 != 0) = true := bne_iff_ne.mpr c4
   obtain rfl := Option.some.inj H
   go_enter Tryd.func146, Tryd.ntmps146
   go_wp2
   go_ret
   exact ⟨by first | rfl | (simp; done) | (simp [*]; done), by repeat (first | exact Drawn0.refl _ | apply Drawn0.step)⟩
def r1_numbers.f (a0 : Int) (a1 : Int) (a2 : Int) : Option (Int × Int × ByteArray × Bool) := if a0 = 2 then (some (1, wrap64 (a1 + a2), (⟨#[]⟩ : ByteArray), true)) else (if a0 = 3 then (some (1, wrap64 (a1 - a2), (⟨#[]⟩ : ByteArray), true)) else (if a0 = 4 then (some (1, wrap64 (a1 * a2), (⟨#[]⟩ : ByteArray), true)) else (if a2 = 0 then (some (0, 0, (⟨#[]⟩ : ByteArray), false)) else ((r1_quotient.f a1 a2).bind fun t440 => (if a0 = 5 then (some (1, t440, (⟨#[]⟩ : ByteArray), true)) else (some (1, wrap64 (a1 - (wrap64 (t440 * a2))), (⟨#[]⟩ : ByteArray), true)))))))
set_option maxHeartbeats 8000000 in
set_option maxRecDepth 100000 in
theorem r1_numbers.calls (a0 : Int) (a1 : Int) (a2 : Int) (r1 : Int) (r2 : Int) (r3 : ByteArray) (r4 : Bool) (w : World) (h : r1_numbers.f a0 a1 a2 = some (r1, r2, r3, r4)) :
  Calls Tryd.prog 140 #[.int .i8 a0, .int .i64 a1, .int .i64 a2] w fun e w' => e = .returned (.tuple #[.agg #[.int .i8 r1, .int .i64 r2, .string r3], .bool r4]) ∧ Below w.heap.size w w' := by
 have hu26 := Tryd.underlying26
 have HB := Aside0.mk (Below.refl w.heap.size w)
 have H : (if a0 = 2 then (some (1, wrap64 (a1 + a2), (⟨#[]⟩ : ByteArray), true)) else (if a0 = 3 then (some (1, wrap64 (a1 - a2), (⟨#[]⟩ : ByteArray), true)) else (if a0 = 4 then (some (1, wrap64 (a1 * a2), (⟨#[]⟩ : ByteArray), true)) else (if a2 = 0 then (some (0, 0, (⟨#[]⟩ : ByteArray), false)) else ((r1_quotient.f a1 a2).bind fun t440 => (if a0 = 5 then (some (1, t440, (⟨#[]⟩ : ByteArray), true)) else (some (1, wrap64 (a1 - (wrap64 (t440 * a2))), (⟨#[]⟩ : ByteArray), true)))))))) = some (r1, r2, r3, r4) := h
 clear h
 by_cases c4 : a0 = 2
 ·rw [if_pos c4] at H
  have c4b0 : (a0 == 2) = true := beq_iff_eq.mpr c4
  have c4b1 : (a0 != 2) = false := bne_eq_false_iff_eq.mpr c4
  clear c4
  simp only [Option.some.injEq, Prod.mk.injEq] at H
  obtain ⟨rfl, rfl, rfl, rfl⟩ := H
  go_enter Tryd.func140, Tryd.ntmps140
  go_wp2_with (first | ((with_reducible refine xar (N := 6) rfl ?_); refine xaq ?hg (N := 6) ?hd (cs := #[.int .i8 0, .int .i64 0, .string (⟨#[]⟩ : ByteArray)]) (t := 26) ?hr ?_; (case hd => rfl); (case hg => rfl); (case hr => first | (go_simp; done) | (go_simp; rfl)); intro gb439 hg w5 hbox hb; have n0_ := Aside0.mk (xai (by repeat (first | (with_reducible first | exact HB.out | apply xab | apply xaa | apply xac) | exact HB.out)) hb); have n1_ := Aside0.mk (hbox); have n2_ := Aside0.mk ((by rw [hg]; exact (xap (by repeat (first | (with_reducible first | exact HB.out | apply xab | apply xaa | apply xac) | exact HB.out))) : w.heap.size ≤ gb439)); have n3_ := n2_; clear HB; have HB := n0_; have BK439 := n1_; have GW439 := n2_; have GE439 := n3_; clear n0_ n1_ n2_ n3_; clear hb hbox hg; obtain ⟨hcz6_0, hcz6_1, hcz6_2⟩ := cz3 BK439.out; obtain ⟨hfz6_0, hfz6_1, hfz6_2⟩ := fz3 BK439.out))
  refine bodyPost_ret (xat rfl _ _ gb439 26 #[.int .i8 1, .int .i64 (wrap64 (a1 + a2)), .string (⟨#[]⟩ : ByteArray)] (0, 0) _ rfl (by (with_reducible repeat (first | refine xae ?_ _ | refine xaf ?_ | refine xad ?_ _)); refine xas (cs := #[.int .i8 1, .int .i64 (wrap64 (a1 + a2)), .string (⟨#[]⟩ : ByteArray)]) ?_ 2 _ rfl; (with_reducible repeat (first | refine xae ?_ _ | refine xaf ?_ | refine xad ?_ _)); refine xas (cs := #[.int .i8 1, .int .i64 0, .string (⟨#[]⟩ : ByteArray)]) ?_ 1 _ rfl; (with_reducible repeat (first | refine xae ?_ _ | refine xaf ?_ | refine xad ?_ _)); refine xas (cs := #[.int .i8 0, .int .i64 0, .string (⟨#[]⟩ : ByteArray)]) ?_ 0 _ rfl; (with_reducible repeat (first | refine xae ?_ _ | refine xaf ?_ | refine xad ?_ _)); exact BK439.out) Tryd.underlying26 rfl (by kernel_rfl)) rfl ?_
  exact ⟨by first | rfl | (simp [xak, xal] <;> rfl) | (simp [*, xak, xal] <;> rfl), by repeat (first | (with_reducible first | exact HB.out | apply xab | apply xaa | apply xac | refine xag ?_ GE439.out) | exact HB.out)⟩
 ·rw [if_neg c4] at H
  have c4b0 : (a0 == 2) = false := beq_eq_false_iff_ne.mpr c4
  have c4b1 : (a0 != 2) = true := bne_iff_ne.mpr c4
  by_cases c7 : a0 = 3
  ·rw [if_pos c7] at H
   have c7b0 : (a0 == 3) = true := beq_iff_eq.mpr c7
   have c7b1 : (a0 != 3) = false := bne_eq_false_iff_eq.mpr c7
   clear c7
   simp only [Option.some.injEq, Prod.mk.injEq] at H
   obtain ⟨rfl, rfl, rfl, rfl⟩ := H
   go_enter Tryd.func140, Tryd.ntmps140
   go_wp2_with (first | ((with_reducible refine xar (N := 6) rfl ?_); refine xaq ?hg (N := 6) ?hd (cs := #[.int .i8 0, .int .i64 0, .string (⟨#[]⟩ : ByteArray)]) (t := 26) ?hr ?_; (case hd => rfl); (case hg => rfl); (case hr => first | (go_simp; done) | (go_simp; rfl)); intro gb439 hg w8 hbox hb; have n0_ := Aside0.mk (xai (by repeat (first | (with_reducible first | exact HB.out | apply xab | apply xaa | apply xac) | exact HB.out)) hb); have n1_ := Aside0.mk (hbox); have n2_ := Aside0.mk ((by rw [hg]; exact (xap (by repeat (first | (with_reducible first | exact HB.out | apply xab | apply xaa | apply xac) | exact HB.out))) : w.heap.size ≤ gb439)); have n3_ := n2_; clear HB; have HB := n0_; have BK439 := n1_; have GW439 := n2_; have GE439 := n3_; clear n0_ n1_ n2_ n3_; clear hb hbox hg; obtain ⟨hcz9_0, hcz9_1, hcz9_2⟩ := cz3 BK439.out; obtain ⟨hfz9_0, hfz9_1, hfz9_2⟩ := fz3 BK439.out))
   refine bodyPost_ret (xat rfl _ _ gb439 26 #[.int .i8 1, .int .i64 (wrap64 (a1 - a2)), .string (⟨#[]⟩ : ByteArray)] (0, 0) _ rfl (by (with_reducible repeat (first | refine xae ?_ _ | refine xaf ?_ | refine xad ?_ _)); refine xas (cs := #[.int .i8 1, .int .i64 (wrap64 (a1 - a2)), .string (⟨#[]⟩ : ByteArray)]) ?_ 2 _ rfl; (with_reducible repeat (first | refine xae ?_ _ | refine xaf ?_ | refine xad ?_ _)); refine xas (cs := #[.int .i8 1, .int .i64 0, .string (⟨#[]⟩ : ByteArray)]) ?_ 1 _ rfl; (with_reducible repeat (first | refine xae ?_ _ | refine xaf ?_ | refine xad ?_ _)); refine xas (cs := #[.int .i8 0, .int .i64 0, .string (⟨#[]⟩ : ByteArray)]) ?_ 0 _ rfl; (with_reducible repeat (first | refine xae ?_ _ | refine xaf ?_ | refine xad ?_ _)); exact BK439.out) Tryd.underlying26 rfl (by kernel_rfl)) rfl ?_
   exact ⟨by first | rfl | (simp [xak, xal] <;> rfl) | (simp [*, xak, xal] <;> rfl), by repeat (first | (with_reducible first | exact HB.out | apply xab | apply xaa | apply xac | refine xag ?_ GE439.out) | exact HB.out)⟩
  ·rw [if_neg c7] at H
   have c7b0 : (a0 == 3) = false := beq_eq_false_iff_ne.mpr c7
   have c7b1 : (a0 != 3) = true := bne_iff_ne.mpr c7
   by_cases c10 : a0 = 4
   ·rw [if_pos c10] at H
    have c10b0 : (a0 == 4) = true := beq_iff_eq.mpr c10
    have c10b1 : (a0 != 4) = false := bne_eq_false_iff_eq.mpr c10
    clear c10
    simp only [Option.some.injEq, Prod.mk.injEq] at H
    obtain ⟨rfl, rfl, rfl, rfl⟩ := H
    go_enter Tryd.func140, Tryd.ntmps140
    go_wp2_with (first | ((with_reducible refine xar (N := 6) rfl ?_); refine xaq ?hg (N := 6) ?hd (cs := #[.int .i8 0, .int .i64 0, .string (⟨#[]⟩ : ByteArray)]) (t := 26) ?hr ?_; (case hd => rfl); (case hg => rfl); (case hr => first | (go_simp; done) | (go_simp; rfl)); intro gb439 hg w11 hbox hb; have n0_ := Aside0.mk (xai (by repeat (first | (with_reducible first | exact HB.out | apply xab | apply xaa | apply xac) | exact HB.out)) hb); have n1_ := Aside0.mk (hbox); have n2_ := Aside0.mk ((by rw [hg]; exact (xap (by repeat (first | (with_reducible first | exact HB.out | apply xab | apply xaa | apply xac) | exact HB.out))) : w.heap.size ≤ gb439)); have n3_ := n2_; clear HB; have HB := n0_; have BK439 := n1_; have GW439 := n2_; have GE439 := n3_; clear n0_ n1_ n2_ n3_; clear hb hbox hg; obtain ⟨hcz12_0, hcz12_1, hcz12_2⟩ := cz3 BK439.out; obtain ⟨hfz12_0, hfz12_1, hfz12_2⟩ := fz3 BK439.out))
    refine bodyPost_ret (xat rfl _ _ gb439 26 #[.int .i8 1, .int .i64 (wrap64 (a1 * a2)), .string (⟨#[]⟩ : ByteArray)] (0, 0) _ rfl (by (with_reducible repeat (first | refine xae ?_ _ | refine xaf ?_ | refine xad ?_ _)); refine xas (cs := #[.int .i8 1, .int .i64 (wrap64 (a1 * a2)), .string (⟨#[]⟩ : ByteArray)]) ?_ 2 _ rfl; (with_reducible repeat (first | refine xae ?_ _ | refine xaf ?_ | refine xad ?_ _)); refine xas (cs := #[.int .i8 1, .int .i64 0, .string (⟨#[]⟩ : ByteArray)]) ?_ 1 _ rfl; (with_reducible repeat (first | refine xae ?_ _ | refine xaf ?_ | refine xad ?_ _)); refine xas (cs := #[.int .i8 0, .int .i64 0, .string (⟨#[]⟩ : ByteArray)]) ?_ 0 _ rfl; (with_reducible repeat (first | refine xae ?_ _ | refine xaf ?_ | refine xad ?_ _)); exact BK439.out) Tryd.underlying26 rfl (by kernel_rfl)) rfl ?_
    exact ⟨by first | rfl | (simp [xak, xal] <;> rfl) | (simp [*, xak, xal] <;> rfl), by repeat (first | (with_reducible first | exact HB.out | apply xab | apply xaa | apply xac | refine xag ?_ GE439.out) | exact HB.out)⟩
   ·rw [if_neg c10] at H
    have c10b0 : (a0 == 4) = false := beq_eq_false_iff_ne.mpr c10
    have c10b1 : (a0 != 4) = true := bne_iff_ne.mpr c10
    by_cases c13 : a2 = 0
    ·rw [if_pos c13] at H
     have c13b0 : (a2 == 0) = true := beq_iff_eq.mpr c13
     have c13b1 : (a2 != 0) = false := bne_eq_false_iff_eq.mpr c13
     clear c13
     simp only [Option.some.injEq, Prod.mk.injEq] at H
     obtain ⟨rfl, rfl, rfl, rfl⟩ := H
     go_enter Tryd.func140, Tryd.ntmps140
     go_wp2_with (first | ((with_reducible refine xar (N := 6) rfl ?_); refine xaq ?hg (N := 6) ?hd (cs := #[.int .i8 0, .int .i64 0, .string (⟨#[]⟩ : ByteArray)]) (t := 26) ?hr ?_; (case hd => rfl); (case hg => rfl); (case hr => first | (go_simp; done) | (go_simp; rfl)); intro gb439 hg w14 hbox hb; have n0_ := Aside0.mk (xai (by repeat (first | (with_reducible first | exact HB.out | apply xab | apply xaa | apply xac) | exact HB.out)) hb); have n1_ := Aside0.mk (hbox); have n2_ := Aside0.mk ((by rw [hg]; exact (xap (by repeat (first | (with_reducible first | exact HB.out | apply xab | apply xaa | apply xac) | exact HB.out))) : w.heap.size ≤ gb439)); have n3_ := n2_; clear HB; have HB := n0_; have BK439 := n1_; have GW439 := n2_; have GE439 := n3_; clear n0_ n1_ n2_ n3_; clear hb hbox hg; obtain ⟨hcz15_0, hcz15_1, hcz15_2⟩ := cz3 BK439.out; obtain ⟨hfz15_0, hfz15_1, hfz15_2⟩ := fz3 BK439.out))
     refine bodyPost_ret (xat rfl _ _ gb439 26 #[.int .i8 0, .int .i64 0, .string (⟨#[]⟩ : ByteArray)] (0, 0) _ rfl (by (with_reducible repeat (first | refine xae ?_ _ | refine xaf ?_ | refine xad ?_ _)); refine xas (cs := #[.int .i8 0, .int .i64 0, .string (⟨#[]⟩ : ByteArray)]) ?_ 2 _ rfl; (with_reducible repeat (first | refine xae ?_ _ | refine xaf ?_ | refine xad ?_ _)); refine xas (cs := #[.int .i8 0, .int .i64 0, .string (⟨#[]⟩ : ByteArray)]) ?_ 1 _ rfl; (with_reducible repeat (first | refine xae ?_ _ | refine xaf ?_ | refine xad ?_ _)); refine xas (cs := #[.int .i8 0, .int .i64 0, .string (⟨#[]⟩ : ByteArray)]) ?_ 0 _ rfl; (with_reducible repeat (first | refine xae ?_ _ | refine xaf ?_ | refine xad ?_ _)); exact BK439.out) Tryd.underlying26 rfl (by kernel_rfl)) rfl ?_
     exact ⟨by first | rfl | (simp [xak, xal] <;> rfl) | (simp [*, xak, xal] <;> rfl), by repeat (first | (with_reducible first | exact HB.out | apply xab | apply xaa | apply xac | refine xag ?_ GE439.out) | exact HB.out)⟩
    ·rw [if_neg c13] at H
     have c13b0 : (a2 == 0) = false := beq_eq_false_iff_ne.mpr c13
     have c13b1 : (a2 != 0) = true := bne_iff_ne.mpr c13
     replace H := Option.bind_eq_some_iff.mp H
     obtain ⟨t440, A160, H⟩ := H
     replace H : (if a0 = 5 then (some (1, t440, (⟨#[]⟩ : ByteArray), true)) else (some (1, wrap64 (a1 - (wrap64 (t440 * a2))), (⟨#[]⟩ : ByteArray), true))) = some (r1, r2, r3, r4) := H
     have A16 := Aside0.mk A160
     clear A160
     by_cases c17 : a0 = 5
     ·rw [if_pos c17] at H
      have c17b0 : (a0 == 5) = true := beq_iff_eq.mpr c17
      have c17b1 : (a0 != 5) = false := bne_eq_false_iff_eq.mpr c17
      clear c17
      simp only [Option.some.injEq, Prod.mk.injEq] at H
      obtain ⟨rfl, rfl, rfl, rfl⟩ := H
      go_enter Tryd.func140, Tryd.ntmps140
      go_wp2_with (first | ((with_reducible refine xar (N := 6) rfl ?_); refine xaq ?hg (N := 6) ?hd (cs := #[.int .i8 0, .int .i64 0, .string (⟨#[]⟩ : ByteArray)]) (t := 26) ?hr ?_; (case hd => rfl); (case hg => rfl); (case hr => first | (go_simp; done) | (go_simp; rfl)); intro gb439 hg w18 hbox hb; have n0_ := Aside0.mk (xai (by repeat (first | (with_reducible first | exact HB.out | apply xab | apply xaa | apply xac) | exact HB.out)) hb); have n1_ := Aside0.mk (hbox); have n2_ := Aside0.mk ((by rw [hg]; exact (xap (by repeat (first | (with_reducible first | exact HB.out | apply xab | apply xaa | apply xac) | exact HB.out))) : w.heap.size ≤ gb439)); have n3_ := n2_; clear HB; have HB := n0_; have BK439 := n1_; have GW439 := n2_; have GE439 := n3_; clear n0_ n1_ n2_ n3_; clear hb hbox hg) | ((with_reducible refine xav (f := 146) rfl ?_); refine goesL_ (some 33) rfl rfl Tryd.func146 (by kernel_rfl) rfl #[.int .i64 a1, .int .i64 a2] rfl (by (try simp only [List.map_toArray, List.map_cons, List.map_nil]); first | done | rfl | (simp only [List.length_drop, List.length_take]; rfl)) ?_; (with_reducible refine (r1_quotient.calls a1 a2 t440 _ A16.out).mono ?_); rintro e w' ⟨rfl, ⟨nd, rfl⟩⟩; refine ⟨_, rfl, ?_⟩; (try (rw [drewN_self w18]; generalize hq_ : World.drewN w18 _ = w18; have n0_ : Aside0 (w18.heap[gb439]? = some (.cells #[.int .i8 0, .int .i64 0, .string (⟨#[]⟩ : ByteArray)] 26 (0, 0))) := ⟨by rw [← hq_]; exact (by (with_reducible repeat (first | refine xae ?_ _ | refine xaf ?_ | refine xad ?_ _)); exact BK439.out)⟩; have n1_ : Aside0 (Below w.heap.size w w18) := ⟨by rw [← hq_]; exact (by repeat (first | (with_reducible first | exact HB.out | apply xab | apply xaa | apply xac | refine xag ?_ GE439.out) | exact HB.out))⟩; clear BK439 HB hq_; have BK439 := n0_; have HB := n1_; clear n0_ n1_)); obtain ⟨hcz19_0, hcz19_1, hcz19_2⟩ := cz3 BK439.out; obtain ⟨hfz19_0, hfz19_1, hfz19_2⟩ := fz3 BK439.out))
      refine bodyPost_ret (xat rfl _ _ gb439 26 #[.int .i8 1, .int .i64 t440, .string (⟨#[]⟩ : ByteArray)] (0, 0) _ rfl (by (with_reducible repeat (first | refine xae ?_ _ | refine xaf ?_ | refine xad ?_ _)); refine xas (cs := #[.int .i8 1, .int .i64 t440, .string (⟨#[]⟩ : ByteArray)]) ?_ 2 _ rfl; (with_reducible repeat (first | refine xae ?_ _ | refine xaf ?_ | refine xad ?_ _)); refine xas (cs := #[.int .i8 1, .int .i64 0, .string (⟨#[]⟩ : ByteArray)]) ?_ 1 _ rfl; (with_reducible repeat (first | refine xae ?_ _ | refine xaf ?_ | refine xad ?_ _)); refine xas (cs := #[.int .i8 0, .int .i64 0, .string (⟨#[]⟩ : ByteArray)]) ?_ 0 _ rfl; (with_reducible repeat (first | refine xae ?_ _ | refine xaf ?_ | refine xad ?_ _)); exact BK439.out) Tryd.underlying26 rfl (by kernel_rfl)) rfl ?_
      exact ⟨by first | rfl | (simp [xak, xal] <;> rfl) | (simp [*, xak, xal] <;> rfl), by repeat (first | (with_reducible first | exact HB.out | apply xab | apply xaa | apply xac | refine xag ?_ GE439.out) | exact HB.out)⟩
     ·rw [if_neg c17] at H
      have c17b0 : (a0 == 5) = false := beq_eq_false_iff_ne.mpr c17
      have c17b1 : (a0 != 5) = true := bne_iff_ne.mpr c17
      simp only [Option.some.injEq, Prod.mk.injEq] at H
      obtain ⟨rfl, rfl, rfl, rfl⟩ := H
      go_enter Tryd.func140, Tryd.ntmps140
      go_wp2_with (first | ((with_reducible refine xar (N := 6) rfl ?_); refine xaq ?hg (N := 6) ?hd (cs := #[.int .i8 0, .int .i64 0, .string (⟨#[]⟩ : ByteArray)]) (t := 26) ?hr ?_; (case hd => rfl); (case hg => rfl); (case hr => first | (go_simp; done) | (go_simp; rfl)); intro gb439 hg w20 hbox hb; have n0_ := Aside0.mk (xai (by repeat (first | (with_reducible first | exact HB.out | apply xab | apply xaa | apply xac) | exact HB.out)) hb); have n1_ := Aside0.mk (hbox); have n2_ := Aside0.mk ((by rw [hg]; exact (xap (by repeat (first | (with_reducible first | exact HB.out | apply xab | apply xaa | apply xac) | exact HB.out))) : w.heap.size ≤ gb439)); have n3_ := n2_; clear HB; have HB := n0_; have BK439 := n1_; have GW439 := n2_; have GE439 := n3_; clear n0_ n1_ n2_ n3_; clear hb hbox hg) | ((with_reducible refine xav (f := 146) rfl ?_); refine goesL_ (some 33) rfl rfl Tryd.func146 (by kernel_rfl) rfl #[.int .i64 a1, .int .i64 a2] rfl (by (try simp only [List.map_toArray, List.map_cons, List.map_nil]); first | done | rfl | (simp only [List.length_drop, List.length_take]; rfl)) ?_; (with_reducible refine (r1_quotient.calls a1 a2 t440 _ A16.out).mono ?_); rintro e w' ⟨rfl, ⟨nd, rfl⟩⟩; refine ⟨_, rfl, ?_⟩; (try (rw [drewN_self w20]; generalize hq_ : World.drewN w20 _ = w20; have n0_ : Aside0 (w20.heap[gb439]? = some (.cells #[.int .i8 0, .int .i64 0, .string (⟨#[]⟩ : ByteArray)] 26 (0, 0))) := ⟨by rw [← hq_]; exact (by (with_reducible repeat (first | refine xae ?_ _ | refine xaf ?_ | refine xad ?_ _)); exact BK439.out)⟩; have n1_ : Aside0 (Below w.heap.size w w20) := ⟨by rw [← hq_]; exact (by repeat (first | (with_reducible first | exact HB.out | apply xab | apply xaa | apply xac | refine xag ?_ GE439.out) | exact HB.out))⟩; clear BK439 HB hq_; have BK439 := n0_; have HB := n1_; clear n0_ n1_)); obtain ⟨hcz21_0, hcz21_1, hcz21_2⟩ := cz3 BK439.out; obtain ⟨hfz21_0, hfz21_1, hfz21_2⟩ := fz3 BK439.out))
      refine bodyPost_ret (xat rfl _ _ gb439 26 #[.int .i8 1, .int .i64 (wrap64 (a1 - (wrap64 (t440 * a2)))), .string (⟨#[]⟩ : ByteArray)] (0, 0) _ rfl (by (with_reducible repeat (first | refine xae ?_ _ | refine xaf ?_ | refine xad ?_ _)); refine xas (cs := #[.int .i8 1, .int .i64 (wrap64 (a1 - (wrap64 (t440 * a2)))), .string (⟨#[]⟩ : ByteArray)]) ?_ 2 _ rfl; (with_reducible repeat (first | refine xae ?_ _ | refine xaf ?_ | refine xad ?_ _)); refine xas (cs := #[.int .i8 1, .int .i64 0, .string (⟨#[]⟩ : ByteArray)]) ?_ 1 _ rfl; (with_reducible repeat (first | refine xae ?_ _ | refine xaf ?_ | refine xad ?_ _)); refine xas (cs := #[.int .i8 0, .int .i64 0, .string (⟨#[]⟩ : ByteArray)]) ?_ 0 _ rfl; (with_reducible repeat (first | refine xae ?_ _ | refine xaf ?_ | refine xad ?_ _)); exact BK439.out) Tryd.underlying26 rfl (by kernel_rfl)) rfl ?_
      exact ⟨by first | rfl | (simp [xak, xal] <;> rfl) | (simp [*, xak, xal] <;> rfl), by repeat (first | (with_reducible first | exact HB.out | apply xab | apply xaa | apply xac | refine xag ?_ GE439.out) | exact HB.out)⟩
mutual
def r1_follows.j0 : Nat → Int → Bool → Option (Int × Int × Int)
 | 0, _, _ => none
 | k + 1, x0, x10 => if x10 = true then (some (1, 128, wrap64 ((wrap64 (x0)) - 192))) else (if x0 ≥ 224 then (r1_follows.j1 k x0 (decide (x0 < 240))) else (r1_follows.j1 k x0 false))
def r1_follows.j1 : Nat → Int → Bool → Option (Int × Int × Int)
 | 0, _, _ => none
 | k + 1, x0, x20 => if x20 = true then (some (2, 2048, wrap64 ((wrap64 (x0)) - 224))) else (if x0 ≥ 240 then (if x0 < 248 then (some (3, 65536, wrap64 ((wrap64 (x0)) - 240))) else (some ((-1), 0, 0))) else (some ((-1), 0, 0)))
end
def r1_follows.f (k : Nat) (a0 : Int) : Option (Int × Int × Int) := if a0 < 128 then (some (0, 0, wrap64 (a0))) else (if a0 ≥ 192 then (r1_follows.j0 k a0 (decide (a0 < 224))) else (r1_follows.j0 k a0 false))
set_option maxHeartbeats 8000000 in
set_option maxRecDepth 100000 in
theorem r1_follows.calls (k : Nat) (a0 : Int) (r1 : Int) (r2 : Int) (r3 : Int) (w : World) (h : r1_follows.f k a0 = some (r1, r2, r3)) :
  Calls Tryd.prog 151 #[.int .u8 a0] w fun e w' => e = .returned (.tuple #[.int .i64 r1, .int .i64 r2, .int .i64 r3]) ∧ Drawn0 w w' := by
 have H : (if a0 < 128 then (some (0, 0, wrap64 (a0))) else (if a0 ≥ 192 then (r1_follows.j0 k a0 (decide (a0 < 224))) else (r1_follows.j0 k a0 false))) = some (r1, r2, r3) := h
 clear h
 by_cases c2 : a0 < 128
 ·rw [if_pos c2] at H
  have c2b0 : decide (a0 < 128) = true := decide_eq_true c2
  clear c2
  simp only [Option.some.injEq, Prod.mk.injEq] at H
  obtain ⟨rfl, rfl, rfl⟩ := H
  go_enter Tryd.func151, Tryd.ntmps151
  go_wp2
  go_ret3
  exact ⟨by first | rfl | (simp; done) | (simp [*]; done), by repeat (first | exact Drawn0.refl _ | apply Drawn0.step)⟩
 ·rw [if_neg c2] at H
  have c2b0 : decide (a0 < 128) = false := decide_eq_false c2
  clear c2
  have HC3 := Aside0.mk H
  clear H
  go_enter Tryd.func151, Tryd.ntmps151
  go_upto_region 3 with (fail)
  go_cut [10] (fun v10 wc => ∃ (kq : Nat) (x10_2 : Bool), v10 = .bool x10_2 ∧ Aside0 (r1_follows.j0 kq a0 x10_2 = some (r1, r2, r3)) ∧ Aside0 (kq ≤ k) ∧ Drawn0 w wc)
  case first =>
   have H := HC3.out
   clear HC3
   by_cases c4 : a0 ≥ 192
   ·rw [if_pos c4] at H
    have c4b0 : decide (192 ≤ a0) = true := decide_eq_true c4
    clear c4
    (first | rw [c4b0] | (simp only [i64_w, i32_w]; rw [c4b0]) | skip)
    have H' := Aside0.mk H
    clear H
    go_wp2
    go_meet
    case rel => exact ⟨_, (decide (a0 < 224)), (by first | rfl | (simp; done) | (simp [*]; done)), H', ⟨by first | omega | exact Nat.le_refl _⟩, by repeat (first | exact Drawn0.refl _ | apply Drawn0.step)⟩
   ·rw [if_neg c4] at H
    have c4b0 : decide (192 ≤ a0) = false := decide_eq_false c4
    clear c4
    (first | rw [c4b0] | (simp only [i64_w, i32_w]; rw [c4b0]) | skip)
    have H' := Aside0.mk H
    clear H
    go_wp2
    go_meet
    case rel => exact ⟨_, (false), (by first | rfl | (simp; done) | (simp [*]; done)), H', ⟨by first | omega | exact Nat.le_refl _⟩, by repeat (first | exact Drawn0.refl _ | apply Drawn0.step)⟩
  case rest =>
   clear HC3
   try clear c1
   try clear c2
   try clear c2b0
   try clear p2
   try clear c4
   try clear c4b0
   obtain ⟨kq, x10_2, rfl, HA, HJ2, ⟨mc2, rfl⟩⟩ := hcut
   cases kq with
   | zero => exact absurd HA.out (by simp [r1_follows.j0])
   | succ kj2 =>
    have H := HA.out
    clear HA
    simp only [r1_follows.j0] at H
    by_cases c5 : x10_2 = true
    ·subst c5
     have H1 : (some (1, 128, wrap64 ((wrap64 (a0)) - 192))) = some (r1, r2, r3) := by rw [if_pos rfl] at H; exact H
     clear H
     have H := H1
     clear H1
     simp only [Option.some.injEq, Prod.mk.injEq] at H
     obtain ⟨rfl, rfl, rfl⟩ := H
     go_wp2
     go_ret3
     exact ⟨by first | rfl | (simp; done) | (simp [*]; done), by repeat (first | exact Drawn0.refl _ | apply Drawn0.step)⟩
    ·replace c5 := Bool.eq_false_iff.mpr c5
     subst c5
     have H1 : (if a0 ≥ 224 then (r1_follows.j1 kj2 a0 (decide (a0 < 240))) else (r1_follows.j1 kj2 a0 false)) = some (r1, r2, r3) := by rw [if_neg (show ¬ (false = true) by decide)] at H; exact H
     clear H
     have H := H1
     clear H1
     have HC6 := Aside0.mk H
     clear H
     go_upto_region 5 with (fail)
     go_cut [20] (fun v20 wc => ∃ (kq : Nat) (x20_5 : Bool), v20 = .bool x20_5 ∧ Aside0 (r1_follows.j1 kq a0 x20_5 = some (r1, r2, r3)) ∧ Aside0 (kq ≤ kj2) ∧ Drawn0 w wc)
     case first =>
      have H := HC6.out
      clear HC6
      by_cases c7 : a0 ≥ 224
      ·rw [if_pos c7] at H
       have c7b0 : decide (224 ≤ a0) = true := decide_eq_true c7
       clear c7
       (first | rw [c7b0] | (simp only [i64_w, i32_w]; rw [c7b0]) | skip)
       have H' := Aside0.mk H
       clear H
       go_wp2
       go_meet
       case rel => exact ⟨_, (decide (a0 < 240)), (by first | rfl | (simp; done) | (simp [*]; done)), H', ⟨by have := HJ2.out; first | omega | exact Nat.le_refl _⟩, by repeat (first | exact Drawn0.refl _ | apply Drawn0.step)⟩
      ·rw [if_neg c7] at H
       have c7b0 : decide (224 ≤ a0) = false := decide_eq_false c7
       clear c7
       (first | rw [c7b0] | (simp only [i64_w, i32_w]; rw [c7b0]) | skip)
       have H' := Aside0.mk H
       clear H
       go_wp2
       go_meet
       case rel => exact ⟨_, (false), (by first | rfl | (simp; done) | (simp [*]; done)), H', ⟨by have := HJ2.out; first | omega | exact Nat.le_refl _⟩, by repeat (first | exact Drawn0.refl _ | apply Drawn0.step)⟩
     case rest =>
      clear HC6
      try clear c1
      try clear c2
      try clear c2b0
      try clear p2
      try clear c4
      try clear c4b0
      try clear c5
      try clear p6
      try clear c7
      try clear c7b0
      try clear p2
      obtain ⟨kq, x20_5, rfl, HA, HJ5, ⟨mc5, rfl⟩⟩ := hcut
      cases kq with
      | zero => exact absurd HA.out (by simp [r1_follows.j1])
      | succ kj5 =>
       have H := HA.out
       clear HA
       simp only [r1_follows.j1] at H
       by_cases c8 : x20_5 = true
       ·subst c8
        have H1 : (some (2, 2048, wrap64 ((wrap64 (a0)) - 224))) = some (r1, r2, r3) := by rw [if_pos rfl] at H; exact H
        clear H
        have H := H1
        clear H1
        simp only [Option.some.injEq, Prod.mk.injEq] at H
        obtain ⟨rfl, rfl, rfl⟩ := H
        go_wp2
        go_ret3
        exact ⟨by first | rfl | (simp; done) | (simp [*]; done), by repeat (first | exact Drawn0.refl _ | apply Drawn0.step)⟩
       ·replace c8 := Bool.eq_false_iff.mpr c8
        subst c8
        have H1 : (if a0 ≥ 240 then (if a0 < 248 then (some (3, 65536, wrap64 ((wrap64 (a0)) - 240))) else (some ((-1), 0, 0))) else (some ((-1), 0, 0))) = some (r1, r2, r3) := by rw [if_neg (show ¬ (false = true) by decide)] at H; exact H
        clear H
        have H := H1
        clear H1
        by_cases c9 : a0 ≥ 240
        ·rw [if_pos c9] at H
         have c9b0 : decide (240 ≤ a0) = true := decide_eq_true c9
         clear c9
         by_cases c10 : a0 < 248
         ·rw [if_pos c10] at H
          have c10b0 : decide (a0 < 248) = true := decide_eq_true c10
          clear c10
          simp only [Option.some.injEq, Prod.mk.injEq] at H
          obtain ⟨rfl, rfl, rfl⟩ := H
          go_wp2
          go_ret3
          exact ⟨by first | rfl | (simp; done) | (simp [*]; done), by repeat (first | exact Drawn0.refl _ | apply Drawn0.step)⟩
         ·rw [if_neg c10] at H
          have c10b0 : decide (a0 < 248) = false := decide_eq_false c10
          clear c10
          simp only [Option.some.injEq, Prod.mk.injEq] at H
          obtain ⟨rfl, rfl, rfl⟩ := H
          go_wp2
          go_ret3
          exact ⟨by first | rfl | (simp; done) | (simp [*]; done), by repeat (first | exact Drawn0.refl _ | apply Drawn0.step)⟩
        ·rw [if_neg c9] at H
         have c9b0 : decide (240 ≤ a0) = false := decide_eq_false c9
         clear c9
         simp only [Option.some.injEq, Prod.mk.injEq] at H
         obtain ⟨rfl, rfl, rfl⟩ := H
         go_wp2
         go_ret3
         exact ⟨by first | rfl | (simp; done) | (simp [*]; done), by repeat (first | exact Drawn0.refl _ | apply Drawn0.step)⟩
mutual
def r1_Char.j0 : Nat → ByteArray → Int → Int → Int → Int → Bool → Option (Int × Bool)
 | 0, _, _, _, _, _, _ => none
 | k + 1, x0, x1, x6, x7, x8, x28 => if x28 = true then (some (1, false)) else (r1_Char.l0 k x0 x1 x6 x7 x8 1)
def r1_Char.l0 : Nat → ByteArray → Int → Int → Int → Int → Int → Option (Int × Bool)
 | 0, _, _, _, _, _, _ => none
 | k + 1, x0, x1, x6, x7, x8, x9 => if x9 ≤ x6 then (if 0 ≤ (wrap64 (x1 + x9)) then (if (wrap64 (x1 + x9)) < (x0.size : Int) then (if (bt x0 (wrap64 (x1 + x9))) < 128 then (some (1, false)) else (if (bt x0 (wrap64 (x1 + x9))) ≥ 192 then (some (1, false)) else (r1_Char.l0 k x0 x1 x6 x7 (wrap64 ((wrap64 ((wrap64 (x8 * 64)) + (wrap64 (bt x0 (wrap64 (x1 + x9)))))) - 128)) (wrap64 (x9 + 1))))) else (none)) else (none)) else (if x8 < x7 then (some (1, false)) else (if x8 > 1114111 then (some (1, false)) else (if x8 ≥ 55296 then (if x8 ≤ 57343 then (some (1, false)) else (some (wrap64 (1 + x6), true))) else (some (wrap64 (1 + x6), true)))))
end
def r1_Char.f (k : Nat) (a0 : ByteArray) (a1 : Int) : Option (Int × Bool) := if 0 ≤ a1 then (if a1 < (a0.size : Int) then ((r1_follows.f k (bt a0 a1)).bind fun bt441 => (if bt441.1 < 0 then (r1_Char.j0 k a0 a1 bt441.1 bt441.2.1 bt441.2.2 true) else (r1_Char.j0 k a0 a1 bt441.1 bt441.2.1 bt441.2.2 (decide ((wrap64 (a1 + bt441.1)) ≥ (a0.size : Int)))))) else (none)) else (none)
set_option maxHeartbeats 8000000 in
set_option maxRecDepth 100000 in
theorem r1_Char.calls (k : Nat) (a0 : ByteArray) (a1 : Int) (r1 : Int) (r2 : Bool) (w : World) (h : r1_Char.f k a0 a1 = some (r1, r2)) :
  Calls Tryd.prog 149 #[.string a0, .int .i64 a1] w fun e w' => e = .returned (.tuple #[.int .i64 r1, .bool r2]) ∧ Drawn0 w w' := by
 have H : (if 0 ≤ a1 then (if a1 < (a0.size : Int) then ((r1_follows.f k (bt a0 a1)).bind fun bt441 => (if bt441.1 < 0 then (r1_Char.j0 k a0 a1 bt441.1 bt441.2.1 bt441.2.2 true) else (r1_Char.j0 k a0 a1 bt441.1 bt441.2.1 bt441.2.2 (decide ((wrap64 (a1 + bt441.1)) ≥ (a0.size : Int)))))) else (none)) else (none)) = some (r1, r2) := h
 clear h
 by_cases c3 : 0 ≤ a1
 ·rw [if_pos c3] at H
  have c3b0 : decide (0 ≤ a1) = true := decide_eq_true c3
  clear c3
  by_cases c4 : a1 < (a0.size : Int)
  ·rw [if_pos c4] at H
   have c4b0 : decide (a1 < (a0.size : Int)) = true := decide_eq_true c4
   clear c4
   replace H := Option.bind_eq_some_iff.mp H
   obtain ⟨⟨t441, t442, t443⟩, A60, H⟩ := H
   replace H : (if t441 < 0 then (r1_Char.j0 k a0 a1 t441 t442 t443 true) else (r1_Char.j0 k a0 a1 t441 t442 t443 (decide ((wrap64 (a1 + t441)) ≥ (a0.size : Int))))) = some (r1, r2) := H
   have A6 := Aside0.mk A60
   clear A60
   have HC7 := Aside0.mk H
   clear H
   have p5 : 0 ≤ (a1 : Int) := of_decide_eq_true (by first | (with_reducible assumption) | assumption)
   have q5 : a1 < (a0.size : Int) := of_decide_eq_true (by first | (with_reducible assumption) | assumption)
   have hx5 := bt_at a0 a1
   replace p5 := eq_true p5
   replace q5 := eq_true q5
   go_enter Tryd.func149, Tryd.ntmps149
   go_upto_region 2 with (first | ((with_reducible refine xav (f := 151) rfl ?_); refine goesL_ (some 15) rfl rfl Tryd.func151 (by kernel_rfl) rfl #[.int .u8 (bt a0 a1)] rfl (by (try simp only [List.map_toArray, List.map_cons, List.map_nil]); first | done | rfl | (simp only [List.length_drop, List.length_take]; rfl)) ?_; (with_reducible refine (r1_follows.calls k (bt a0 a1) t441 t442 t443 _ A6.out).mono ?_); rintro e w' ⟨rfl, ⟨nd, rfl⟩⟩; refine ⟨_, rfl, ?_⟩))
   (try simp only [Act.put, sI, sZ, sS])
   go_cut [28] (fun v28 wc => ∃ (kq : Nat) (x28_6 : Bool), v28 = .bool x28_6 ∧ Aside0 (r1_Char.j0 kq a0 a1 t441 t442 t443 x28_6 = some (r1, r2)) ∧ Aside0 (kq ≤ k) ∧ Drawn0 w wc)
   case first =>
    have H := HC7.out
    clear HC7
    by_cases c8 : t441 < 0
    ·rw [if_pos c8] at H
     have c8b0 : decide (t441 < 0) = true := decide_eq_true c8
     clear c8
     (first | rw [c8b0] | (simp only [i64_w, i32_w]; rw [c8b0]) | skip)
     have H' := Aside0.mk H
     clear H
     go_wp2
     go_meet
     case rel => exact ⟨_, (true), (by first | rfl | (simp; done) | (simp [*]; done)), H', ⟨by first | omega | exact Nat.le_refl _⟩, by repeat (first | exact Drawn0.refl _ | apply Drawn0.step)⟩
    ·rw [if_neg c8] at H
     have c8b0 : decide (t441 < 0) = false := decide_eq_false c8
     clear c8
     (first | rw [c8b0] | (simp only [i64_w, i32_w]; rw [c8b0]) | skip)
     have H' := Aside0.mk H
     clear H
     go_wp2
     go_meet
     case rel => exact ⟨_, (decide ((wrap64 (a1 + t441)) ≥ (a0.size : Int))), (by first | rfl | (simp; done) | (simp [*]; done)), H', ⟨by first | omega | exact Nat.le_refl _⟩, by repeat (first | exact Drawn0.refl _ | apply Drawn0.step)⟩
   case rest =>
    clear HC7
    try clear c1
    try clear p2
    try clear c3
    try clear c3b0
    try clear c4
    try clear c4b0
    try clear p5
    try clear q5
    try clear hx5
    try clear p6
    try clear c8
    try clear c8b0
    try clear p5
    try clear q5
    obtain ⟨kq, x28_6, rfl, HA, HJ6, ⟨mc6, rfl⟩⟩ := hcut
    cases kq with
    | zero => exact absurd HA.out (by simp [r1_Char.j0])
    | succ kj6 =>
     have H := HA.out
     clear HA
     simp only [r1_Char.j0] at H
     by_cases c9 : x28_6 = true
     ·subst c9
      have H1 : (some (1, false)) = some (r1, r2) := by rw [if_pos rfl] at H; exact H
      clear H
      have H := H1
      clear H1
      simp only [Option.some.injEq, Prod.mk.injEq] at H
      obtain ⟨rfl, rfl⟩ := H
      go_wp2
      go_ret2
      exact ⟨by first | rfl | (simp; done) | (simp [*]; done), by repeat (first | exact Drawn0.refl _ | apply Drawn0.step)⟩
     ·replace c9 := Bool.eq_false_iff.mpr c9
      subst c9
      have H1 : (r1_Char.l0 kj6 a0 a1 t441 t442 t443 1) = some (r1, r2) := by rw [if_neg (show ¬ (false = true) by decide)] at H; exact H
      clear H
      have H := H1
      clear H1
      have H' := Aside0.mk H
      clear H
      go_wp2
      go_loopg [8, 9] kj6 (fun kq v8 v9 w' => ∃ (x8_2 : Int) (x9_2 : Int), v8 = .int .i64 x8_2 ∧ v9 = .int .i64 x9_2 ∧ Aside0 (r1_Char.l0 kq a0 a1 t441 t442 x8_2 x9_2 = some (r1, r2)) ∧ Aside0 (kq ≤ kj6) ∧ Drawn0 w w')
      case atStart => exact ⟨(t443), (1), (by first | rfl | (simp; done) | (simp [*]; done)), (by first | rfl | (simp; done) | (simp [*]; done)), H', ⟨Nat.le_refl _⟩, by repeat (first | exact Drawn0.refl _ | apply Drawn0.step)⟩
      case round =>
       clear H'
       try clear c1
       try clear p2
       try clear c3
       try clear c3b0
       try clear c4
       try clear c4b0
       try clear p5
       try clear q5
       try clear hx5
       try clear c6
       try clear p6
       try clear c8
       try clear c8b0
       try clear c9
       try clear p2
       try clear p5
       try clear p6
       try clear q5
       obtain ⟨x8_2, x9_2, rfl, rfl, HA, HK2, ⟨m2, rfl⟩⟩ := hrel
       cases gk with
       | zero => exact absurd HA.out (by simp [r1_Char.l0])
       | succ k2 =>
        have H := HA.out
        clear HA
        simp only [r1_Char.l0] at H
        by_cases c10 : x9_2 ≤ t441
        ·rw [if_pos c10] at H
         have c10b0 : decide (x9_2 ≤ t441) = true := decide_eq_true c10
         clear c10
         obtain ⟨ji11, hji11⟩ : ∃ j_ : Int, (wrap64 (a1 + x9_2)) = j_ := ⟨_, rfl⟩
         replace H : (if 0 ≤ (ji11) then (if (ji11) < (a0.size : Int) then (if (bt a0 (ji11)) < 128 then (some (1, false)) else (if (bt a0 (ji11)) ≥ 192 then (some (1, false)) else (r1_Char.l0 k2 a0 a1 t441 t442 (wrap64 ((wrap64 ((wrap64 (x8_2 * 64)) + (wrap64 (bt a0 (ji11))))) - 128)) (wrap64 (x9_2 + 1))))) else (none)) else (none)) = some (r1, r2) := by first | (rw [hji11] at H; exact H) | (simp only [hji11] at H ⊢; exact H)
         have hji11w : (IntKind.i64.wrap (a1 + x9_2)) = ji11 := (i64_w _).trans hji11
         by_cases c12 : 0 ≤ (ji11)
         ·rw [if_pos c12] at H
          have c12b0 : decide (0 ≤ (ji11)) = true := decide_eq_true c12
          clear c12
          by_cases c13 : (ji11) < (a0.size : Int)
          ·rw [if_pos c13] at H
           have c13b0 : decide ((ji11) < (a0.size : Int)) = true := decide_eq_true c13
           clear c13
           by_cases c15 : (bt a0 (ji11)) < 128
           ·rw [if_pos c15] at H
            have c15b0 : decide ((bt a0 (ji11)) < 128) = true := decide_eq_true c15
            clear c15
            simp only [Option.some.injEq, Prod.mk.injEq] at H
            obtain ⟨rfl, rfl⟩ := H
            have p14 : 0 ≤ ((ji11) : Int) := of_decide_eq_true (by first | (with_reducible assumption) | assumption)
            have q14 : (ji11) < (a0.size : Int) := of_decide_eq_true (by first | (with_reducible assumption) | assumption)
            have hx14 := bt_at a0 (ji11)
            replace p14 := eq_true p14
            replace q14 := eq_true q14
            go_wp2
            go_ret2
            exact ⟨by first | rfl | (simp; done) | (simp only [← hji11] <;> (first | rfl | simp)) | (simp [*]; done), by repeat (first | exact Drawn0.refl _ | apply Drawn0.step)⟩
           ·rw [if_neg c15] at H
            have c15b0 : decide ((bt a0 (ji11)) < 128) = false := decide_eq_false c15
            clear c15
            by_cases c16 : (bt a0 (ji11)) ≥ 192
            ·rw [if_pos c16] at H
             have c16b0 : decide (192 ≤ (bt a0 (ji11))) = true := decide_eq_true c16
             clear c16
             simp only [Option.some.injEq, Prod.mk.injEq] at H
             obtain ⟨rfl, rfl⟩ := H
             have p14 : 0 ≤ ((ji11) : Int) := of_decide_eq_true (by first | (with_reducible assumption) | assumption)
             have q14 : (ji11) < (a0.size : Int) := of_decide_eq_true (by first | (with_reducible assumption) | assumption)
             have hx14 := bt_at a0 (ji11)
             replace p14 := eq_true p14
             replace q14 := eq_true q14
             go_wp2
             go_ret2
             exact ⟨by first | rfl | (simp; done) | (simp only [← hji11] <;> (first | rfl | simp)) | (simp [*]; done), by repeat (first | exact Drawn0.refl _ | apply Drawn0.step)⟩
            ·rw [if_neg c16] at H
             have c16b0 : decide (192 ≤ (bt a0 (ji11))) = false := decide_eq_false c16
             clear c16
             have H' := Aside0.mk H
             clear H
             have p14 : 0 ≤ ((ji11) : Int) := of_decide_eq_true (by first | (with_reducible assumption) | assumption)
             have q14 : (ji11) < (a0.size : Int) := of_decide_eq_true (by first | (with_reducible assumption) | assumption)
             have hx14 := bt_at a0 (ji11)
             replace p14 := eq_true p14
             replace q14 := eq_true q14
             go_wp2
             go_roundg k2
             case measure => have := HJ6.out; have := HK2.out; omega
             case rel => exact ⟨(wrap64 ((wrap64 ((wrap64 (x8_2 * 64)) + (wrap64 (bt a0 (ji11))))) - 128)), (wrap64 (x9_2 + 1)), (by first | rfl | (simp; done) | (simp only [← hji11] <;> (first | rfl | simp)) | (simp [*]; done)), (by first | rfl | (simp; done) | (simp [*]; done)), H', ⟨by have := HJ6.out; have := HK2.out; omega⟩, by repeat (first | exact Drawn0.refl _ | apply Drawn0.step)⟩
          ·rw [if_neg c13] at H
           exact absurd H (by simp)
         ·rw [if_neg c12] at H
          exact absurd H (by simp)
        ·rw [if_neg c10] at H
         have c10b0 : decide (x9_2 ≤ t441) = false := decide_eq_false c10
         clear c10
         by_cases c17 : x8_2 < t442
         ·rw [if_pos c17] at H
          have c17b0 : decide (x8_2 < t442) = true := decide_eq_true c17
          clear c17
          simp only [Option.some.injEq, Prod.mk.injEq] at H
          obtain ⟨rfl, rfl⟩ := H
          go_wp2
          go_ret2
          exact ⟨by first | rfl | (simp; done) | (simp [*]; done), by repeat (first | exact Drawn0.refl _ | apply Drawn0.step)⟩
         ·rw [if_neg c17] at H
          have c17b0 : decide (x8_2 < t442) = false := decide_eq_false c17
          clear c17
          by_cases c18 : x8_2 > 1114111
          ·rw [if_pos c18] at H
           have c18b0 : decide (1114111 < x8_2) = true := decide_eq_true c18
           clear c18
           simp only [Option.some.injEq, Prod.mk.injEq] at H
           obtain ⟨rfl, rfl⟩ := H
           go_wp2
           go_ret2
           exact ⟨by first | rfl | (simp; done) | (simp [*]; done), by repeat (first | exact Drawn0.refl _ | apply Drawn0.step)⟩
          ·rw [if_neg c18] at H
           have c18b0 : decide (1114111 < x8_2) = false := decide_eq_false c18
           clear c18
           by_cases c19 : x8_2 ≥ 55296
           ·rw [if_pos c19] at H
            have c19b0 : decide (55296 ≤ x8_2) = true := decide_eq_true c19
            clear c19
            by_cases c20 : x8_2 ≤ 57343
            ·rw [if_pos c20] at H
             have c20b0 : decide (x8_2 ≤ 57343) = true := decide_eq_true c20
             clear c20
             simp only [Option.some.injEq, Prod.mk.injEq] at H
             obtain ⟨rfl, rfl⟩ := H
             go_wp2
             go_ret2
             exact ⟨by first | rfl | (simp; done) | (simp [*]; done), by repeat (first | exact Drawn0.refl _ | apply Drawn0.step)⟩
            ·rw [if_neg c20] at H
             have c20b0 : decide (x8_2 ≤ 57343) = false := decide_eq_false c20
             clear c20
             simp only [Option.some.injEq, Prod.mk.injEq] at H
             obtain ⟨rfl, rfl⟩ := H
             go_wp2
             go_ret2
             exact ⟨by first | rfl | (simp; done) | (simp [*]; done), by repeat (first | exact Drawn0.refl _ | apply Drawn0.step)⟩
           ·rw [if_neg c19] at H
            have c19b0 : decide (55296 ≤ x8_2) = false := decide_eq_false c19
            clear c19
            simp only [Option.some.injEq, Prod.mk.injEq] at H
            obtain ⟨rfl, rfl⟩ := H
            go_wp2
            go_ret2
            exact ⟨by first | rfl | (simp; done) | (simp [*]; done), by repeat (first | exact Drawn0.refl _ | apply Drawn0.step)⟩
  ·rw [if_neg c4] at H
   exact absurd H (by simp)
 ·rw [if_neg c3] at H
  exact absurd H (by simp)
def r1_Chars.l0 : Nat → ByteArray → List ByteArray → Int → Option (List ByteArray)
 | 0, _, _, _ => none
 | k + 1, x0, x3, x4 => if x4 < (x0.size : Int) then ((r1_Char.f k x0 x4).bind fun bt444 => (if 0 ≤ x4 then (if x4 ≤ (wrap64 (x4 + bt444.1)) then (if (wrap64 (x4 + bt444.1)) ≤ (x0.size : Int) then (if x3.length < 8796093022208 then (r1_Chars.l0 k x0 (x3 ++ [x0.extract (x4 : Int).toNat ((wrap64 (x4 + bt444.1)) : Int).toNat]) (wrap64 (x4 + bt444.1))) else (none)) else (none)) else (none)) else (none))) else (some x3)
def r1_Chars.f (k : Nat) (a0 : ByteArray) : Option (List ByteArray) := r1_Chars.l0 k a0 ([] : List ByteArray) 0
set_option maxHeartbeats 8000000 in
set_option maxRecDepth 100000 in
theorem r1_Chars.calls (k : Nat) (a0 : ByteArray) (r : List ByteArray) (w : World) (h : r1_Chars.f k a0 = some r) :
  Calls Tryd.prog 147 #[.string a0] w fun e w' => ∃ v0_ : Value, e = .returned (v0_) ∧ Kd.R Kd.string 9 w' w.heap.size (fun _ => True) v0_ r ∧ Below w.heap.size w w' := by
 have HB := Aside0.mk (Below.refl w.heap.size w)
 have H : (r1_Chars.l0 k a0 ([] : List ByteArray) 0) = some r := h
 clear h
 have H' := Aside0.mk H
 clear H
 go_enter Tryd.func147, Tryd.ntmps147
 go_wp2
 go_loopg [3, 4] k (fun kq v3 v4 w' => ∃ (x3_1 : List ByteArray) (x4_1 : Int), v4 = .int .i64 x4_1 ∧ Aside0 (r1_Chars.l0 kq a0 x3_1 x4_1 = some r) ∧ Aside0 (kq ≤ k) ∧ Aside0 (Kd.R Kd.string 9 w' w.heap.size (fun _ => True) v3 x3_1) ∧ Aside0 (Below w.heap.size w w'))
 case atStart => exact ⟨(([] : List ByteArray)), (0), (by first | rfl | (simp; done) | (simp [*]; done)), H', ⟨Nat.le_refl _⟩, ⟨by first | exact Kd.R_nil _ _ _ _ _ | exact Kd.N_nil _ _ _ _ _ | exact Kd.V_nil _ _ _ _ _ | exact Kd.Q_nil _ _ _ _ _ | exact Kd.S_nil _ _ _ _ _⟩, ⟨by repeat (first | (with_reducible first | exact HB.out | apply xab | apply xaa | apply xac) | exact HB.out)⟩⟩
 case round =>
  clear H'
  try clear c1
  obtain ⟨x3_1, x4_1, rfl, HA, HK1, HO_3, HB⟩ := hrel
  cases gk with
  | zero => exact absurd HA.out (by simp [r1_Chars.l0])
  | succ k1 =>
   have H := HA.out
   clear HA
   simp only [r1_Chars.l0] at H
   by_cases c2 : x4_1 < (a0.size : Int)
   ·rw [if_pos c2] at H
    have c2b0 : decide (x4_1 < (a0.size : Int)) = true := decide_eq_true c2
    clear c2
    replace H := Option.bind_eq_some_iff.mp H
    obtain ⟨⟨t444, t445⟩, A30, H⟩ := H
    replace H : (if 0 ≤ x4_1 then (if x4_1 ≤ (wrap64 (x4_1 + t444)) then (if (wrap64 (x4_1 + t444)) ≤ (a0.size : Int) then (if x3_1.length < 8796093022208 then (r1_Chars.l0 k1 a0 (x3_1 ++ [a0.extract (x4_1 : Int).toNat ((wrap64 (x4_1 + t444)) : Int).toNat]) (wrap64 (x4_1 + t444))) else (none)) else (none)) else (none)) else (none)) = some r := H
    have A3 := Aside0.mk A30
    clear A30
    by_cases c4 : 0 ≤ x4_1
    ·rw [if_pos c4] at H
     have c4b0 := eq_true c4
     have c4b1 : decide (0 ≤ x4_1) = true := decide_eq_true c4
     clear c4
     by_cases c5 : x4_1 ≤ (wrap64 (x4_1 + t444))
     ·rw [if_pos c5] at H
      have c5b0 := eq_true c5
      have c5b1 : decide (x4_1 ≤ (wrap64 (x4_1 + t444))) = true := decide_eq_true c5
      by_cases c6 : (wrap64 (x4_1 + t444)) ≤ (a0.size : Int)
      ·rw [if_pos c6] at H
       have c6b0 := eq_true c6
       have c6b1 : decide ((wrap64 (x4_1 + t444)) ≤ (a0.size : Int)) = true := decide_eq_true c6
       by_cases c7 : x3_1.length < 8796093022208
       ·rw [if_pos c7] at H
        have LMc7 := Aside0.mk c7
        clear c7
        obtain ⟨y446, hy446⟩ : ∃ y_ : List ByteArray, y_ = (x3_1 ++ [a0.extract (x4_1 : Int).toNat ((wrap64 (x4_1 + t444)) : Int).toNat]) := ⟨_, rfl⟩
        replace H : (r1_Chars.l0 k1 a0 y446 (wrap64 (x4_1 + t444))) = some r := by first | (rw [hy446]; with_reducible exact H) | (have H2_ := (Option.bind_some _ _).symm.trans H; rw [hy446]; with_reducible exact H2_) | (have H2_ := (Option.bind_some _ _).symm.trans H; with_reducible exact H2_) | with_reducible exact H | (rw [hy446]; exact H) | exact H
        have Ny446 := Aside0.mk hy446
        clear hy446
        have H' := Aside0.mk H
        clear H
        go_wp2_with (first | ((with_reducible refine xav (f := 149) rfl ?_); refine goesL_ (some 14) rfl rfl Tryd.func149 (by kernel_rfl) rfl #[.string a0, .int .i64 x4_1] rfl (by (try simp only [List.map_toArray, List.map_cons, List.map_nil]); first | done | rfl | (simp only [List.length_drop, List.length_take]; rfl)) ?_; (with_reducible refine (r1_Char.calls k1 a0 x4_1 t444 t445 _ A3.out).mono ?_); rintro e w' ⟨rfl, ⟨nd, rfl⟩⟩; refine ⟨_, rfl, ?_⟩) | ((with_reducible refine gate_builtin (b := .append) (xs := #[.tmp 17, .tmp 24]) rfl ?_); at_builtin; refine Kd.R_append Kd.string (w0 := w) w.heap.size rfl (.tmp 17) (.tmp 24) 39 9 (.string ⟨#[]⟩) 16 rfl Tryd.underlying39 info9 rfl (by decide) (by omega) u3 x3_1 (a0.extract (x4_1 : Int).toNat ((wrap64 (x4_1 + t444)) : Int).toNat) [.string (a0.extract (x4_1 : Int).toNat ((wrap64 (x4_1 + t444)) : Int).toNat)] (fun _ => True) (fun _ => False) rfl rfl ?aP (fun _ hk => hk.elim) ?aF ?aO ?aB ?aS ?aL ?_; (case aP => exact rfl); (case aB => exact (by repeat (first | (with_reducible first | exact HB.out | apply xab | apply xaa | apply xac) | exact HB.out))); (case aF => exact (fun _ _ => trivial)); (case aO => exact (by (with_reducible repeat (first | apply Kd.R_alloc | apply Kd.R_drewN | apply Kd.R_drew)); exact HO_3.out)); (case aS => exact (xap (by repeat (first | (with_reducible first | exact HB.out | apply xab | apply xaa | apply xac) | exact HB.out)))); (case aL => have := LMc7.out; omega); intro v447 w8 ho hb hg hat; rw [← Ny446.out] at ho; have n0_ := Aside0.mk (hb); have n1_ := Aside0.mk (ho); clear HB; clear HO_3; have HB := n0_; have HO448 := n1_; clear n0_ n1_; clear ho hb hg hat))
        go_roundg k1
        case measure => have := HK1.out; omega
        case rel => exact ⟨(y446), (wrap64 (x4_1 + t444)), (by first | rfl | (simp; done) | (simp [*]; done)), H', ⟨by have := HK1.out; omega⟩, ⟨by (with_reducible repeat (first | apply Kd.R_alloc | apply Kd.R_drewN | apply Kd.R_drew)); exact HO448.out⟩, ⟨by repeat (first | (with_reducible first | exact HB.out | apply xab | apply xaa | apply xac) | exact HB.out)⟩⟩
       ·rw [if_neg c7] at H
        exact absurd H (by simp)
      ·rw [if_neg c6] at H
       exact absurd H (by simp)
     ·rw [if_neg c5] at H
      exact absurd H (by simp)
    ·rw [if_neg c4] at H
     exact absurd H (by simp)
   ·rw [if_neg c2] at H
    have c2b0 : decide (x4_1 < (a0.size : Int)) = false := decide_eq_false c2
    clear c2
    obtain rfl := Option.some.inj H
    go_wp2
    go_ret
    exact ⟨_, by first | rfl | (simp [xak, xal] <;> rfl) | (simp [*, xak, xal] <;> rfl), by (with_reducible repeat (first | apply Kd.R_alloc | apply Kd.R_drewN | apply Kd.R_drew)); exact HO_3.out, by repeat (first | (with_reducible first | exact HB.out | apply xab | apply xaa | apply xac) | exact HB.out)⟩
def r1_texts.l0 : Nat → List ByteArray → ByteArray → Int → Option (Int × Int × ByteArray × Bool)
 | 0, _, _, _ => none
 | k + 1, x6, x7, x8 => if x8 ≥ 0 then (if 0 ≤ x8 then (if x8 < (x6.length : Int) then (if x7.size + (rdOf ByteArray.empty x6 x8).size ≤ 9223372036854775807 then (r1_texts.l0 k x6 (x7 ++ (rdOf ByteArray.empty x6 x8)) (wrap64 (x8 - 1))) else (none)) else (none)) else (none)) else (some (2, 0, x7, true))
def r1_texts.f (k : Nat) (a0 : Int) (a1 : ByteArray) : Option (Int × Int × ByteArray × Bool) := if a0 = 8 then (some (1, (a1.size : Int), (⟨#[]⟩ : ByteArray), true)) else (if a0 = 9 then ((r1_Chars.f k a1).bind fun t450 => (some (1, (t450.length : Int), (⟨#[]⟩ : ByteArray), true))) else ((r1_Chars.f k a1).bind fun t453 => (r1_texts.l0 k t453 (⟨#[]⟩ : ByteArray) (wrap64 ((t453.length : Int) - 1)))))
set_option maxHeartbeats 8000000 in
set_option maxRecDepth 100000 in
theorem r1_texts.calls (k : Nat) (a0 : Int) (a1 : ByteArray) (r1 : Int) (r2 : Int) (r3 : ByteArray) (r4 : Bool) (w : World) (h : r1_texts.f k a0 a1 = some (r1, r2, r3, r4)) :
  Calls Tryd.prog 141 #[.int .i8 a0, .string a1] w fun e w' => e = .returned (.tuple #[.agg #[.int .i8 r1, .int .i64 r2, .string r3], .bool r4]) ∧ Below w.heap.size w w' := by
 have hu26 := Tryd.underlying26
 have HB := Aside0.mk (Below.refl w.heap.size w)
 have H : (if a0 = 8 then (some (1, (a1.size : Int), (⟨#[]⟩ : ByteArray), true)) else (if a0 = 9 then ((r1_Chars.f k a1).bind fun t450 => (some (1, (t450.length : Int), (⟨#[]⟩ : ByteArray), true))) else ((r1_Chars.f k a1).bind fun t453 => (r1_texts.l0 k t453 (⟨#[]⟩ : ByteArray) (wrap64 ((t453.length : Int) - 1)))))) = some (r1, r2, r3, r4) := h
 clear h
 by_cases c3 : a0 = 8
 ·rw [if_pos c3] at H
  have c3b0 : (a0 == 8) = true := beq_iff_eq.mpr c3
  have c3b1 : (a0 != 8) = false := bne_eq_false_iff_eq.mpr c3
  clear c3
  simp only [Option.some.injEq, Prod.mk.injEq] at H
  obtain ⟨rfl, rfl, rfl, rfl⟩ := H
  go_enter Tryd.func141, Tryd.ntmps141
  go_wp2_with (first | ((with_reducible refine xar (N := 4) rfl ?_); refine xaq ?hg (N := 4) ?hd (cs := #[.int .i8 0, .int .i64 0, .string (⟨#[]⟩ : ByteArray)]) (t := 26) ?hr ?_; (case hd => rfl); (case hg => rfl); (case hr => first | (go_simp; done) | (go_simp; rfl)); intro gb449 hg w4 hbox hb; have n0_ := Aside0.mk (xai (by repeat (first | (with_reducible first | exact HB.out | apply xab | apply xaa | apply xac) | exact HB.out)) hb); have n1_ := Aside0.mk (hbox); have n2_ := Aside0.mk ((by rw [hg]; exact (xap (by repeat (first | (with_reducible first | exact HB.out | apply xab | apply xaa | apply xac) | exact HB.out))) : w.heap.size ≤ gb449)); have n3_ := n2_; clear HB; have HB := n0_; have BK449 := n1_; have GW449 := n2_; have GE449 := n3_; clear n0_ n1_ n2_ n3_; clear hb hbox hg; obtain ⟨hcz5_0, hcz5_1, hcz5_2⟩ := cz3 BK449.out; obtain ⟨hfz5_0, hfz5_1, hfz5_2⟩ := fz3 BK449.out))
  refine bodyPost_ret (xat rfl _ _ gb449 26 #[.int .i8 1, .int .i64 (a1.size : Int), .string (⟨#[]⟩ : ByteArray)] (0, 0) _ rfl (by (with_reducible repeat (first | refine xae ?_ _ | refine xaf ?_ | refine xad ?_ _)); refine xas (cs := #[.int .i8 1, .int .i64 (a1.size : Int), .string (⟨#[]⟩ : ByteArray)]) ?_ 2 _ rfl; (with_reducible repeat (first | refine xae ?_ _ | refine xaf ?_ | refine xad ?_ _)); refine xas (cs := #[.int .i8 1, .int .i64 0, .string (⟨#[]⟩ : ByteArray)]) ?_ 1 _ rfl; (with_reducible repeat (first | refine xae ?_ _ | refine xaf ?_ | refine xad ?_ _)); refine xas (cs := #[.int .i8 0, .int .i64 0, .string (⟨#[]⟩ : ByteArray)]) ?_ 0 _ rfl; (with_reducible repeat (first | refine xae ?_ _ | refine xaf ?_ | refine xad ?_ _)); exact BK449.out) Tryd.underlying26 rfl (by kernel_rfl)) rfl ?_
  exact ⟨by first | rfl | (simp [xak, xal] <;> rfl) | (simp [*, xak, xal] <;> rfl), by repeat (first | (with_reducible first | exact HB.out | apply xab | apply xaa | apply xac | refine xag ?_ GE449.out) | exact HB.out)⟩
 ·rw [if_neg c3] at H
  have c3b0 : (a0 == 8) = false := beq_eq_false_iff_ne.mpr c3
  have c3b1 : (a0 != 8) = true := bne_iff_ne.mpr c3
  by_cases c6 : a0 = 9
  ·rw [if_pos c6] at H
   have c6b0 : (a0 == 9) = true := beq_iff_eq.mpr c6
   have c6b1 : (a0 != 9) = false := bne_eq_false_iff_eq.mpr c6
   clear c6
   replace H := Option.bind_eq_some_iff.mp H
   obtain ⟨t450, A70, H⟩ := H
   replace H : (some (1, (t450.length : Int), (⟨#[]⟩ : ByteArray), true)) = some (r1, r2, r3, r4) := H
   have A7 := Aside0.mk A70
   clear A70
   simp only [Option.some.injEq, Prod.mk.injEq] at H
   obtain ⟨rfl, rfl, rfl, rfl⟩ := H
   go_enter Tryd.func141, Tryd.ntmps141
   go_wp2_with (first | ((with_reducible refine xar (N := 4) rfl ?_); refine xaq ?hg (N := 4) ?hd (cs := #[.int .i8 0, .int .i64 0, .string (⟨#[]⟩ : ByteArray)]) (t := 26) ?hr ?_; (case hd => rfl); (case hg => rfl); (case hr => first | (go_simp; done) | (go_simp; rfl)); intro gb449 hg w8 hbox hb; have n0_ := Aside0.mk (xai (by repeat (first | (with_reducible first | exact HB.out | apply xab | apply xaa | apply xac) | exact HB.out)) hb); have n1_ := Aside0.mk (hbox); have n2_ := Aside0.mk ((by rw [hg]; exact (xap (by repeat (first | (with_reducible first | exact HB.out | apply xab | apply xaa | apply xac) | exact HB.out))) : w.heap.size ≤ gb449)); have n3_ := n2_; clear HB; have HB := n0_; have BK449 := n1_; have GW449 := n2_; have GE449 := n3_; clear n0_ n1_ n2_ n3_; clear hb hbox hg) | ((with_reducible refine xav (f := 147) rfl ?_); refine goesL_ (some 18) rfl rfl Tryd.func147 (by kernel_rfl) rfl #[.string a1] rfl (by (try simp only [List.map_toArray, List.map_cons, List.map_nil]); first | done | rfl | (simp only [List.length_drop, List.length_take]; rfl)) ?_; (with_reducible refine (r1_Chars.calls k a1 t450 _ A7.out).mono ?_); rintro e w9 ⟨v451, rfl, ho0, hb⟩; refine ⟨_, rfl, ?_⟩; have n0_ := Aside0.mk (Kd.R_lower ho0 (xap (by repeat (first | (with_reducible first | exact HB.out | apply xab | apply xaa | apply xac | refine xag ?_ GE449.out) | exact HB.out)))); have n1_ := Aside0.mk (xan (g := gb449) (o := .cells #[.int .i8 0, .int .i64 0, .string (⟨#[]⟩ : ByteArray)] 26 (0, 0)) (by (with_reducible repeat (first | refine xae ?_ _ | refine xaf ?_ | refine xad ?_ _)); exact BK449.out) hb); have n2_ := Aside0.mk (xai (by repeat (first | (with_reducible first | exact HB.out | apply xab | apply xaa | apply xac | refine xag ?_ GE449.out) | exact HB.out)) hb); clear BK449; clear HB; have HO452 := n0_; have BK449 := n1_; have HB := n2_; clear n0_ n1_ n2_; (try clear hb); (try clear hb2); (try clear hk); (try clear hi); (try clear ho0); obtain ⟨Ao10, co10, eo10⟩ := Kd.R_slice HO452.out; subst eo10; obtain ⟨hcz11_0, hcz11_1, hcz11_2⟩ := cz3 BK449.out; obtain ⟨hfz11_0, hfz11_1, hfz11_2⟩ := fz3 BK449.out))
   refine bodyPost_ret (xat rfl _ _ gb449 26 #[.int .i8 1, .int .i64 (t450.length : Int), .string (⟨#[]⟩ : ByteArray)] (0, 0) _ rfl (by (with_reducible repeat (first | refine xae ?_ _ | refine xaf ?_ | refine xad ?_ _)); refine xas (cs := #[.int .i8 1, .int .i64 (t450.length : Int), .string (⟨#[]⟩ : ByteArray)]) ?_ 2 _ rfl; (with_reducible repeat (first | refine xae ?_ _ | refine xaf ?_ | refine xad ?_ _)); refine xas (cs := #[.int .i8 1, .int .i64 0, .string (⟨#[]⟩ : ByteArray)]) ?_ 1 _ rfl; (with_reducible repeat (first | refine xae ?_ _ | refine xaf ?_ | refine xad ?_ _)); refine xas (cs := #[.int .i8 0, .int .i64 0, .string (⟨#[]⟩ : ByteArray)]) ?_ 0 _ rfl; (with_reducible repeat (first | refine xae ?_ _ | refine xaf ?_ | refine xad ?_ _)); exact BK449.out) Tryd.underlying26 rfl (by kernel_rfl)) rfl ?_
   exact ⟨by first | rfl | (simp [xak, xal] <;> rfl) | (simp [*, xak, xal] <;> rfl), by repeat (first | (with_reducible first | exact HB.out | apply xab | apply xaa | apply xac | refine xag ?_ GE449.out) | exact HB.out)⟩
  ·rw [if_neg c6] at H
   have c6b0 : (a0 == 9) = false := beq_eq_false_iff_ne.mpr c6
   have c6b1 : (a0 != 9) = true := bne_iff_ne.mpr c6
   replace H := Option.bind_eq_some_iff.mp H
   obtain ⟨t453, A120, H⟩ := H
   replace H : (r1_texts.l0 k t453 (⟨#[]⟩ : ByteArray) (wrap64 ((t453.length : Int) - 1))) = some (r1, r2, r3, r4) := H
   have A12 := Aside0.mk A120
   clear A120
   have H' := Aside0.mk H
   clear H
   go_enter Tryd.func141, Tryd.ntmps141
   go_wp2_with (first | ((with_reducible refine xar (N := 4) rfl ?_); refine xaq ?hg (N := 4) ?hd (cs := #[.int .i8 0, .int .i64 0, .string (⟨#[]⟩ : ByteArray)]) (t := 26) ?hr ?_; (case hd => rfl); (case hg => rfl); (case hr => first | (go_simp; done) | (go_simp; rfl)); intro gb449 hg w13 hbox hb; have n0_ := Aside0.mk (xai (by repeat (first | (with_reducible first | exact HB.out | apply xab | apply xaa | apply xac) | exact HB.out)) hb); have n1_ := Aside0.mk (hbox); have n2_ := Aside0.mk ((by rw [hg]; exact (xap (by repeat (first | (with_reducible first | exact HB.out | apply xab | apply xaa | apply xac) | exact HB.out))) : w.heap.size ≤ gb449)); have n3_ := n2_; clear HB; have HB := n0_; have BK449 := n1_; have GW449 := n2_; have GE449 := n3_; clear n0_ n1_ n2_ n3_; clear hb hbox hg) | ((with_reducible refine xav (f := 147) rfl ?_); refine goesL_ (some 22) rfl rfl Tryd.func147 (by kernel_rfl) rfl #[.string a1] rfl (by (try simp only [List.map_toArray, List.map_cons, List.map_nil]); first | done | rfl | (simp only [List.length_drop, List.length_take]; rfl)) ?_; (with_reducible refine (r1_Chars.calls k a1 t453 _ A12.out).mono ?_); rintro e w14 ⟨v454, rfl, ho0, hb⟩; refine ⟨_, rfl, ?_⟩; have n0_ := Aside0.mk (Kd.R_lower ho0 (xap (by repeat (first | (with_reducible first | exact HB.out | apply xab | apply xaa | apply xac | refine xag ?_ GE449.out) | exact HB.out)))); have n1_ := Aside0.mk (xan (g := gb449) (o := .cells #[.int .i8 0, .int .i64 0, .string (⟨#[]⟩ : ByteArray)] 26 (0, 0)) (by (with_reducible repeat (first | refine xae ?_ _ | refine xaf ?_ | refine xad ?_ _)); exact BK449.out) hb); have n2_ := Aside0.mk (xai (by repeat (first | (with_reducible first | exact HB.out | apply xab | apply xaa | apply xac | refine xag ?_ GE449.out) | exact HB.out)) hb); clear BK449; clear HB; have HO455 := n0_; have BK449 := n1_; have HB := n2_; clear n0_ n1_ n2_; (try clear hb); (try clear hb2); (try clear hk); (try clear hi); (try clear ho0); obtain ⟨Ao15, co15, eo15⟩ := Kd.R_slice HO455.out; subst eo15))
   go_loopg [7, 8] k (fun kq v7 v8 w' => ∃ (x7_1 : ByteArray) (x8_1 : Int), v7 = .string x7_1 ∧ v8 = .int .i64 x8_1 ∧ Aside0 (r1_texts.l0 kq t453 x7_1 x8_1 = some (r1, r2, r3, r4)) ∧ Aside0 (kq ≤ k) ∧ Aside0 (Kd.R Kd.string 9 w' w.heap.size (fun _ => True) (.slice Ao15 t453.length co15) t453) ∧ Aside0 (w'.heap[gb449]? = some (.cells #[.int .i8 0, .int .i64 0, .string (⟨#[]⟩ : ByteArray)] 26 (0, 0))) ∧ Aside0 (Below w.heap.size w w'))
   case atStart => exact ⟨((⟨#[]⟩ : ByteArray)), (wrap64 ((t453.length : Int) - 1)), (by first | rfl | (simp; done) | (simp [*]; done)), (by first | rfl | (simp; done) | (simp [*]; done)), H', ⟨Nat.le_refl _⟩, ⟨by (with_reducible repeat (first | apply Kd.R_alloc | apply Kd.R_drewN | apply Kd.R_drew)); exact HO455.out⟩, ⟨by (with_reducible repeat (first | refine xae ?_ _ | refine xaf ?_ | refine xad ?_ _)); exact BK449.out⟩, ⟨by repeat (first | (with_reducible first | exact HB.out | apply xab | apply xaa | apply xac | refine xag ?_ GE449.out) | exact HB.out)⟩⟩
   case round =>
    clear H'
    try clear c1
    try clear p2
    try clear c3
    try clear c3b0
    try clear c3b1
    try clear c6
    try clear c6b0
    try clear c6b1
    try clear p6
    try clear c14
    try clear hcz11_0
    try clear hcz11_1
    try clear hcz11_2
    try clear hcz5_0
    try clear hcz5_1
    try clear hcz5_2
    try clear hfz11_0
    try clear hfz11_1
    try clear hfz11_2
    try clear hfz5_0
    try clear hfz5_1
    try clear hfz5_2
    obtain ⟨x7_1, x8_1, rfl, rfl, HA, HK1, HO_6, BK449, HB⟩ := hrel
    cases gk with
    | zero => exact absurd HA.out (by simp [r1_texts.l0])
    | succ k1 =>
     have H := HA.out
     clear HA
     simp only [r1_texts.l0] at H
     by_cases c16 : x8_1 ≥ 0
     ·rw [if_pos c16] at H
      have c16b0 : decide (0 ≤ x8_1) = true := decide_eq_true c16
      clear c16
      by_cases c17 : 0 ≤ x8_1
      ·rw [if_pos c17] at H
       have c17b0 : decide (0 ≤ x8_1) = true := decide_eq_true c17
       clear c17
       by_cases c18 : x8_1 < (t453.length : Int)
       ·rw [if_pos c18] at H
        have c18b0 : decide (x8_1 < (t453.length : Int)) = true := decide_eq_true c18
        clear c18
        by_cases c19 : x7_1.size + (rdOf ByteArray.empty t453 x8_1).size ≤ 9223372036854775807
        ·rw [if_pos c19] at H
         have c19b0 := eq_true c19
         have c19b1 : decide (x7_1.size + (rdOf ByteArray.empty t453 x8_1).size ≤ 9223372036854775807) = true := decide_eq_true c19
         try have c19b2 : (9223372036854775807 < x7_1.size + (rdOf ByteArray.empty t453 x8_1).size) = False := eq_false (Nat.not_lt.2 c19)
         have H' := Aside0.mk H
         clear H
         have p456 : 0 ≤ (x8_1 : Int) := of_decide_eq_true (by first | (with_reducible assumption) | assumption)
         have q456 : x8_1 < (t453.length : Int) := of_decide_eq_true (by first | (with_reducible assumption) | assumption)
         obtain ⟨ad456, e456, hx456_0⟩ := Kd.at_string (Kd.R_reads' HO_6.out).2.2 x8_1 p456 q456
         cases e456
         replace p456 := eq_true p456
         replace q456 := eq_true q456
         go_wp2
         go_roundg k1
         case measure => have := HK1.out; omega
         case rel => exact ⟨(x7_1 ++ (rdOf ByteArray.empty t453 x8_1)), (wrap64 (x8_1 - 1)), (by first | rfl | (simp; done) | (simp [*]; done)), (by first | rfl | (simp; done) | (simp [*]; done)), H', ⟨by have := HK1.out; omega⟩, ⟨by (with_reducible repeat (first | apply Kd.R_alloc | apply Kd.R_drewN | apply Kd.R_drew)); exact HO_6.out⟩, ⟨by (with_reducible repeat (first | refine xae ?_ _ | refine xaf ?_ | refine xad ?_ _)); exact BK449.out⟩, ⟨by repeat (first | (with_reducible first | exact HB.out | apply xab | apply xaa | apply xac | refine xag ?_ GE449.out) | exact HB.out)⟩⟩
        ·rw [if_neg c19] at H
         exact absurd H (by simp)
       ·rw [if_neg c18] at H
        exact absurd H (by simp)
      ·rw [if_neg c17] at H
       exact absurd H (by simp)
     ·rw [if_neg c16] at H
      have c16b0 : decide (0 ≤ x8_1) = false := decide_eq_false c16
      clear c16
      simp only [Option.some.injEq, Prod.mk.injEq] at H
      obtain ⟨rfl, rfl, rfl, rfl⟩ := H
      obtain ⟨hcz20_0, hcz20_1, hcz20_2⟩ := cz3 BK449.out
      obtain ⟨hfz20_0, hfz20_1, hfz20_2⟩ := fz3 BK449.out
      go_wp2
      refine bodyPost_ret (xat rfl _ _ gb449 26 #[.int .i8 2, .int .i64 0, .string x7_1] (0, 0) _ rfl (by (with_reducible repeat (first | refine xae ?_ _ | refine xaf ?_ | refine xad ?_ _)); refine xas (cs := #[.int .i8 2, .int .i64 0, .string (⟨#[]⟩ : ByteArray)]) ?_ 2 _ rfl; (with_reducible repeat (first | refine xae ?_ _ | refine xaf ?_ | refine xad ?_ _)); refine xas (cs := #[.int .i8 2, .int .i64 0, .string (⟨#[]⟩ : ByteArray)]) ?_ 1 _ rfl; (with_reducible repeat (first | refine xae ?_ _ | refine xaf ?_ | refine xad ?_ _)); refine xas (cs := #[.int .i8 0, .int .i64 0, .string (⟨#[]⟩ : ByteArray)]) ?_ 0 _ rfl; (with_reducible repeat (first | refine xae ?_ _ | refine xaf ?_ | refine xad ?_ _)); exact BK449.out) Tryd.underlying26 rfl (by kernel_rfl)) rfl ?_
      exact ⟨by first | rfl | (simp [xak, xal] <;> rfl) | (simp [*, xak, xal] <;> rfl), by repeat (first | (with_reducible first | exact HB.out | apply xab | apply xaa | apply xac | refine xag ?_ GE449.out) | exact HB.out)⟩
theorem xah (a : Addr) (n : Nat) : (a.add n).block = a.block := by unfold Addr.add; split <;> rfl
structure ETI (w0 w wr : World) (P0 : Nat → Prop) (bx : Array Value) (v : Value) (L : List S28) : Prop where
 row : Kd.R k28 28 wr w0.heap.size (fun k => (P0 k ∨ w.heap.size ≤ k) ∧ k ≠ w.heap.size) v L
 below : Below w0.heap.size w0 wr
 kept : Kept w wr P0
 box : wr.heap[w.heap.size]? = some (.cells bx 31 (0, 0))
mutual
def r1_Arith.j0 : Nat → Int → List (S26) → Bool → Option (Int × Int × ByteArray × Bool)
 | 0, _, _, _ => none
 | k + 1, x0, x1, x7 => if x7 = true then (if 0 < (x1.length : Int) then (some (1, wrap64 (-((rd_T26 x1 0).f1)), (⟨#[]⟩ : ByteArray), true)) else (none)) else (if x0 ≥ 2 then (if x0 ≤ 6 then ((r1_kinds.f k x1 2 1).bind fun t460 => (r1_Arith.j1 k x0 x1 t460)) else (r1_Arith.j1 k x0 x1 false)) else (r1_Arith.j1 k x0 x1 false))
def r1_Arith.j1 : Nat → Int → List (S26) → Bool → Option (Int × Int × ByteArray × Bool)
 | 0, _, _, _ => none
 | k + 1, x0, x1, x20 => if x20 = true then (if 0 < (x1.length : Int) then (if 1 < (x1.length : Int) then ((r1_numbers.f x0 ((rd_T26 x1 0).f1) ((rd_T26 x1 1).f1)).bind fun bt463 => (some (bt463.1, bt463.2.1, bt463.2.2.1, bt463.2.2.2))) else (none)) else (none)) else (if x0 = 7 then ((r1_kinds.f k x1 2 2).bind fun t467 => (r1_Arith.j2 k x0 x1 t467)) else (r1_Arith.j2 k x0 x1 false))
def r1_Arith.j2 : Nat → Int → List (S26) → Bool → Option (Int × Int × ByteArray × Bool)
 | 0, _, _, _ => none
 | k + 1, x0, x1, x43 => if x43 = true then (if 0 < (x1.length : Int) then (if 1 < (x1.length : Int) then (if ((rd_T26 x1 0).f2).size + ((rd_T26 x1 1).f2).size ≤ 9223372036854775807 then (if ((((rd_T26 x1 0).f2) ++ ((rd_T26 x1 1).f2)).size : Int) > 200 then (some (0, 0, (⟨#[]⟩ : ByteArray), false)) else (some (2, 0, ((rd_T26 x1 0).f2) ++ ((rd_T26 x1 1).f2), true))) else (none)) else (none)) else (none)) else (if x0 ≥ 8 then (if x0 ≤ 10 then ((r1_kinds.f k x1 1 2).bind fun t470 => (if t470 = true then (if 0 < (x1.length : Int) then ((r1_texts.f k x0 ((rd_T26 x1 0).f2)).bind fun bt472 => (some (bt472.1, bt472.2.1, bt472.2.2.1, bt472.2.2.2))) else (none)) else (some (0, 0, (⟨#[]⟩ : ByteArray), false)))) else (some (0, 0, (⟨#[]⟩ : ByteArray), false))) else (some (0, 0, (⟨#[]⟩ : ByteArray), false)))
end
def r1_Arith.f (k : Nat) (a0 : Int) (l1 : List (S26)) : Option (Int × Int × ByteArray × Bool) := if a0 = 1 then ((r1_kinds.f k l1 1 1).bind fun t458 => (r1_Arith.j0 k a0 l1 t458)) else (r1_Arith.j0 k a0 l1 false)
def r1_Arith.T4 : Bool × List (List Nat × List Nat) := (true, [([], []), ([], []), ([1], [1]), ([2], [2]), ([3], [3]), ([], []), ([5], [5]), ([6], [6]), ([7], [7]), ([0, 4, 8], [0, 4, 8]), ([9], [9]), ([9], [9]), ([10, 9, 0, 1, 2, 3, 4, 5, 6, 7, 8, 9, 10, 11], [10]), ([11, 12, 0, 1, 2, 3, 4, 5, 6, 7, 8, 9, 10, 11, 12], [11])])
def r1_Arith.B4 : List Nat := [0, 0, 2, 6, 14, 0, 32, 96, 224, 511, 1023, 1023, 4095, 8191]
theorem r1_Arith.tab4 : rtab .any (opsOf Tryd.f122 4) = r1_Arith.T4 := by kernel_rfl
theorem r1_Arith.bits4 : waitsOk r1_Arith.T4.2 r1_Arith.B4 = true := by kernel_rfl
def r1_Arith.T6 : Bool × List (List Nat × List Nat) := (true, [([], []), ([0], [0]), ([1], [1]), ([2], [2]), ([], []), ([4], [4]), ([5], [5]), ([6], [6]), ([3, 7], [3, 7]), ([8, 0, 1, 2, 3, 4, 5, 6, 7, 8], [8])])
def r1_Arith.B6 : List Nat := [0, 1, 3, 7, 0, 16, 48, 112, 255, 511]
theorem r1_Arith.tab6 : rtab .any (opsOf Tryd.f122 6) = r1_Arith.T6 := by kernel_rfl
theorem r1_Arith.bits6 : waitsOk r1_Arith.T6.2 r1_Arith.B6 = true := by kernel_rfl
end Go.Proofs.YtllcmggmcogokaaDoor.PAll
end
