-- Written by programs of this work and by hand, joined by a program. Lean checks it.
import Derived.Laws.CopyOwn
import Derived.RangeFuncNested
import Derived.RangeFuncBound
import Derived.RangeFuncCalls
import Derived.RangeFuncLeaves
import Derived.Shelf.Abstract
import Derived.Shelf.RegionOpen
import Derived.OwnWalkIn
import Derived.TacticsInMore
import Derived.LoopNIn
import Derived.LoopIn
import Derived.Maps.OwnIn
import Derived.Lib.LaidTab
import Derived.WalkSmall
import Derived.Shelf.Strconv.Itoa1
import Derived.Shelf.Strconv.Itoa0
import Derived.Shelf.LaysM
import Derived.Shelf.Strconv.Itoa2
import Derived.Shelf.Strconv.Itoa3
import Derived.Test.YtllcmggmcogokaaDoorProg
import Derived.Deep.DeepAppendWide
import Derived.Test.YtllcmggmcogokaaDoorMeaA3
set_option linter.unusedVariables false
set_option linter.unusedSimpArgs false
section
namespace Go.Proofs.YtllcmggmcogokaaDoor.PAll
open Go.RowKit Go.Proofs.YtllcmggmcogokaaDoorW.PrintWords Go.Proofs.YtllcmggmcogokaaDoorW.PrintLast Go.Proofs.YtllcmggmcogokaaDoorW.PrintMore
attribute [local go_sem] max2_int min2_int max_two min_two max_three min_three max_four min_four
set_option maxHeartbeats 4000000 in
set_option maxRecDepth 100000 in
theorem eval_term (bs : List S41) (n : Nat) (x : S31) (hx : ReadyE (n + 1) x) (h0 : x.f0 = 0) : EvalC bs (n + 1) x := by
 intro A c w b N hr hc hM hT
 obtain ⟨hsz, _, _, _, _⟩ := hx
 have hd : (x.f0 == 0) = true := by simp [h0]
 have HH := Lib.hid h0
 clear h0
 have HM := Lib.hid hM
 have HBX := fun cs : Array Value => xab (xab (Below.refl w.heap.size w) (.cells #[.int .i8 x.f0, .string x.f1.f0, .int .i8 x.f1.f1.f0, .int .i64 x.f1.f1.f1, .string x.f1.f1.f2, .slice A x.f2.length c] 31 (0, 0))) (.cells cs 26 (0, 0))
 have HKX : ∀ cs : Array Value, ((w.alloc (.cells #[.int .i8 x.f0, .string x.f1.f0, .int .i8 x.f1.f1.f0, .int .i64 x.f1.f1.f1, .string x.f1.f1.f2, .slice A x.f2.length c] 31 (0, 0))).alloc (.cells cs 26 (0, 0))).heap[w.heap.size + 1]? = some (.cells cs 26 (0, 0)) := by
  intro cs
  have := xau (w.alloc (.cells #[.int .i8 x.f0, .string x.f1.f0, .int .i8 x.f1.f1.f0, .int .i64 x.f1.f1.f1, .string x.f1.f1.f2, .slice A x.f2.length c] 31 (0, 0))) (.cells cs 26 (0, 0))
  simpa using this
 have HBY := Lib.hid HBX
 have HKY := Lib.hid HKX
 clear HBX HKX hM hr hT
 by_cases h1 : x.f1.f0.toList = []
 ·have hres : evalN bs (n + 1) x = (x.f1.f1.f0, x.f1.f1.f1, x.f1.f1.f2, true) := by rw [evalN, if_pos HH.out, if_pos h1]
  rw [hres]
  have hd1 : decide (x.f1.f0.toList = []) = true := decide_eq_true h1
  go_enter Tryd.func53, Tryd.ntmps53
  go_wp2_with fail
  refine bodyPost_ret (xar rfl _ _ (w.heap.size + 1) 26 #[.int .i8 x.f1.f1.f0, .int .i64 x.f1.f1.f1, .string x.f1.f1.f2] (0, 0) _ rfl (HKY.out _) Tryd.underlying26 rfl (by kernel_rfl)) rfl ?_
  exact ⟨rfl, HBY.out _⟩
 ·have hd1 : decide (x.f1.f0.toList = []) = false := decide_eq_false h1
  have hd2 : (x.f1.f0.toList == []) = false := by simpa using h1
  have hres : evalN bs (n + 1) x = (if valueOk (boundV bs x.f1.f0) then ((boundV bs x.f1.f0).f0, (boundV bs x.f1.f0).f1, (boundV bs x.f1.f0).f2, true) else (0, 0, ⟨#[]⟩, false)) := by rw [evalN, if_pos HH.out, if_neg h1]
  generalize hrs : evalN bs (n + 1) x = res at *
  have HRS := Lib.hid hres
  clear hres hrs
  obtain ⟨q, hq, hv⟩ := valueOk_tot (boundV bs x.f1.f0)
  have HQ := Lib.hid hq
  have HV := Lib.hid hv
  have hlook := SMap.look (t := 99) (e := 26) (SMap.below HM.out (HBY.out #[.int .i8 0, .int .i64 0, .string ⟨#[]⟩])) Tryd.underlying9 (by kernel_rfl) (zero_value _) x.f1.f0 (by unfold maxLen; omega)
  rw [lookV_get, cellsV] at hlook
  generalize boundV bs x.f1.f0 = v at *
  have HLK := Lib.hid hlook
  clear hq hv
  go_enter Tryd.func53, Tryd.ntmps53
  have HC1 := Lib.hid (xad (HKY.out #[.int .i8 0, .int .i64 0, .string ⟨#[]⟩]) (.cells #[.int .i8 v.f0, .int .i64 v.f1, .string v.f2] 26 (0, 0)))
  have HC2 := Lib.hid (show (((w.alloc (.cells #[.int .i8 x.f0, .string x.f1.f0, .int .i8 x.f1.f1.f0, .int .i64 x.f1.f1.f1, .string x.f1.f1.f2, .slice A x.f2.length c] 31 (0, 0))).alloc (.cells #[.int .i8 0, .int .i64 0, .string ⟨#[]⟩] 26 (0, 0))).alloc (.cells #[.int .i8 v.f0, .int .i64 v.f1, .string v.f2] 26 (0, 0))).heap[w.heap.size + 2]? = some (.cells #[.int .i8 v.f0, .int .i64 v.f1, .string v.f2] 26 (0, 0)) by
   have := xau ((w.alloc (.cells #[.int .i8 x.f0, .string x.f1.f0, .int .i8 x.f1.f1.f0, .int .i64 x.f1.f1.f1, .string x.f1.f1.f2, .slice A x.f2.length c] 31 (0, 0))).alloc (.cells #[.int .i8 0, .int .i64 0, .string ⟨#[]⟩] 26 (0, 0))) (.cells #[.int .i8 v.f0, .int .i64 v.f1, .string v.f2] 26 (0, 0))
   simpa [Nat.add_assoc] using this)
  have HCB := Lib.hid (xab (HBY.out #[.int .i8 0, .int .i64 0, .string ⟨#[]⟩]) (.cells #[.int .i8 v.f0, .int .i64 v.f1, .string v.f2] 26 (0, 0)))
  go_wp2_with fail
  simp only [Nat.add_assoc, Nat.reduceAdd]
  clear HKY HBY HLK hlook
  generalize ((w.alloc (.cells #[.int .i8 x.f0, .string x.f1.f0, .int .i8 x.f1.f1.f0, .int .i64 x.f1.f1.f1, .string x.f1.f1.f2, .slice A x.f2.length c] 31 (0, 0))).alloc (.cells #[.int .i8 0, .int .i64 0, .string ⟨#[]⟩] 26 (0, 0))).alloc (.cells #[.int .i8 v.f0, .int .i64 v.f1, .string v.f2] 26 (0, 0)) = wc at *
  refine (value_Check.calls v.f0 v.f1 v.f2 q wc HQ.out).mono ?_
  rintro e w2 ⟨rfl, hb⟩
  have HB2 := Lib.hid (xae HCB.out hb)
  have HC3 := Lib.hid (xak HC1.out hb)
  have HC4 := Lib.hid (xak HC2.out hb)
  clear hb HC1 HC2 HCB
  by_cases hq0 : q = 0
  ·have hq1 : (q == 0) = true := by simp [hq0]
   have HRE := Lib.hid (HRS.out.trans (if_pos (by rw [HV.out]; exact hq1)))
   subst hq0
   have z0 : w2.cell? ⟨w.heap.size + 1, 0, none⟩ = some (.int .i8 0) := (xag HC3.out 0).trans rfl
   have zf0 := xal HC3.out 0
   have z1 : w2.cell? ⟨w.heap.size + 1, 1, none⟩ = some (.int .i64 0) := (xag HC3.out 1).trans rfl
   have zf1 := xal HC3.out 1
   have z2 : w2.cell? ⟨w.heap.size + 1, 2, none⟩ = some (.string ⟨#[]⟩) := (xag HC3.out 2).trans rfl
   have zf2 := xal HC3.out 2
   have y0 : w2.cell? ⟨w.heap.size + 2, 0, none⟩ = some (.int .i8 v.f0) := (xag HC4.out 0).trans rfl
   have yf0 := xal HC4.out 0
   have y1 : w2.cell? ⟨w.heap.size + 2, 1, none⟩ = some (.int .i64 v.f1) := (xag HC4.out 1).trans rfl
   have yf1 := xal HC4.out 1
   have y2 : w2.cell? ⟨w.heap.size + 2, 2, none⟩ = some (.string v.f2) := (xag HC4.out 2).trans rfl
   have yf2 := xal HC4.out 2
   go_wp2_with fail
   refine bodyPost_ret (xar rfl _ _ (w.heap.size + 1) 26 #[.int .i8 v.f0, .int .i64 v.f1, .string v.f2] (0, 0) _ rfl (put3 HC3.out) Tryd.underlying26 rfl (by kernel_rfl)) rfl ?_
   exact ⟨by rw [HRE.out]; rfl, below3 HB2.out (Nat.le_succ _) _ _ _⟩
  ·have hq1 : (q == 0) = false := by simpa using hq0
   have HRE := Lib.hid (HRS.out.trans (if_neg (by rw [HV.out, hq1]; simp)))
   have z0 : w2.cell? ⟨w.heap.size + 1, 0, none⟩ = some (.int .i8 0) := (xag HC3.out 0).trans rfl
   have zf0 := xal HC3.out 0
   have z1 : w2.cell? ⟨w.heap.size + 1, 1, none⟩ = some (.int .i64 0) := (xag HC3.out 1).trans rfl
   have zf1 := xal HC3.out 1
   have z2 : w2.cell? ⟨w.heap.size + 1, 2, none⟩ = some (.string ⟨#[]⟩) := (xag HC3.out 2).trans rfl
   have zf2 := xal HC3.out 2
   go_wp2_with fail
   refine bodyPost_ret (xar rfl _ _ (w.heap.size + 1) 26 #[.int .i8 0, .int .i64 0, .string ⟨#[]⟩] (0, 0) _ rfl (put3 HC3.out) Tryd.underlying26 rfl (by kernel_rfl)) rfl ?_
   exact ⟨by rw [HRE.out]; rfl, below3 HB2.out (Nat.le_succ _) _ _ _⟩
theorem kE_eval {bs : List S41} {n : Nat} {x : S31} (hC : EvalC bs n x) {w : World} {cs : Array Value} {b N : Nat} (h : k31.K w x cs.toList) (hM : SMap Tryd.prog 9 w b N (lookV bs)) (hT : TabA w) :
  Calls Tryd.prog 53 #[.agg cs, .map (some b)] w fun e w' => e = .returned (.tuple #[.agg #[.int .i8 (evalN bs n x).1, .int .i64 (evalN bs n x).2.1, .string (evalN bs n x).2.2.1], .bool (evalN bs n x).2.2.2]) ∧ Below w.heap.size w w' := by
 obtain ⟨B, d, he, hd, hD⟩ := k31_open h
 obtain rfl : cs = _ := by rw [← Array.toArray_toList (xs := cs), he]
 exact hC B d w b N hD hd hM hT
theorem all_snd {α : Type} (p : α → Bool) (l : List α) (z : α) (k : Nat) (hk : k < l.length) : (l.take (k + 1)).all p = ((l.take k).all p && p (l.getD k z)) := by
 rw [List.take_add_one, List.getElem?_eq_getElem hk, List.all_append]
 simp [List.getD_eq_getElem?_getD, List.getElem?_eq_getElem hk]
theorem map_snd {α β : Type} (p : α → β) (l : List α) (z : α) (k : Nat) (hk : k < l.length) : (l.take (k + 1)).map p = (l.take k).map p ++ [p (l.getD k z)] := by
 rw [List.take_add_one, List.getElem?_eq_getElem hk, List.map_append]
 simp [List.getD_eq_getElem?_getD, List.getElem?_eq_getElem hk]
theorem all_not {α : Type} (p : α → Bool) (l : List α) (z : α) (k : Nat) (hk : k < l.length) (h : p (l.getD k z) = false) : l.all p = false := by
 have h2 : p l[k] = false := by rw [← h]; simp [List.getD_eq_getElem?_getD, List.getElem?_eq_getElem hk]
 exact List.all_eq_false.2 ⟨l[k], List.getElem_mem hk, by rw [h2]; simp⟩
set_option maxHeartbeats 4000000 in
set_option maxRecDepth 100000 in
theorem eval_op (bs : List S41) (n : Nat) (x : S31) (hx : ReadyE (n + 1) x) (h0 : x.f0 ≠ 0) (hC : Hid (∀ k, k < x.f2.length → EvalC bs n (x.f2.getD k z31))) : EvalC bs (n + 1) x := by
 intro A c w b N hr hc hM hT
 obtain ⟨_, hr1, hr2, hlen, _⟩ := hx
 have hd : (x.f0 == 0) = false := by simpa using h0
 have HE := Lib.hid (show evalN bs (n + 1) x = (if x.f2.all (fun k => (evalN bs n k).2.2.2) then arithV x.f0 (x.f2.map (fun k => asV (evalN bs n k))) else (0, 0, ⟨#[]⟩, false)) by rw [evalN, if_neg h0])
 have hm : x.f2.length ≤ 9223372036854775807 := hr.2.1
 have HRG := Lib.hid (And.intro hr1 hr2)
 clear h0 hr1 hr2
 have HBa := Lib.hid (xab (xab (Below.refl w.heap.size w) (.cells #[.int .i8 x.f0, .string x.f1.f0, .int .i8 x.f1.f1.f0, .int .i64 x.f1.f1.f1, .string x.f1.f1.f2, .slice A x.f2.length c] 31 (0, 0))) (.cells #[.int .i8 0, .int .i64 0, .string ⟨#[]⟩] 26 (0, 0)))
 have HKB := Lib.hid (xak (xau w (.cells #[.int .i8 x.f0, .string x.f1.f0, .int .i8 x.f1.f1.f0, .int .i64 x.f1.f1.f1, .string x.f1.f1.f2, .slice A x.f2.length c] 31 (0, 0))) (xab (Below.refl _ _) (.cells #[.int .i8 0, .int .i64 0, .string ⟨#[]⟩] 26 (0, 0))))
 have HKZ := Lib.hid (show ((w.alloc (.cells #[.int .i8 x.f0, .string x.f1.f0, .int .i8 x.f1.f1.f0, .int .i64 x.f1.f1.f1, .string x.f1.f1.f2, .slice A x.f2.length c] 31 (0, 0))).alloc (.cells #[.int .i8 0, .int .i64 0, .string ⟨#[]⟩] 26 (0, 0))).heap[w.heap.size + 1]? = some (.cells #[.int .i8 0, .int .i64 0, .string ⟨#[]⟩] 26 (0, 0)) by
  have := xau (w.alloc (.cells #[.int .i8 x.f0, .string x.f1.f0, .int .i8 x.f1.f1.f0, .int .i64 x.f1.f1.f1, .string x.f1.f1.f2, .slice A x.f2.length c] 31 (0, 0))) (.cells #[.int .i8 0, .int .i64 0, .string ⟨#[]⟩] 26 (0, 0))
  simpa using this)
 have HR := Lib.hid (Kd.C_below hr HBa.out)
 have HM := Lib.hid (SMap.below hM HBa.out)
 have HT := Lib.hid (hT.below HBa.out)
 generalize hres : evalN bs (n + 1) x = res at *
 clear hres
 clear hr hM hT
 have hi1 : (Tryd.prog.info? 31).map (·.size) = some 6 := by kernel_rfl
 go_enter Tryd.func53, Tryd.ntmps53
 go_wp2_with fail
 generalize (w.alloc (.cells #[.int .i8 x.f0, .string x.f1.f0, .int .i8 x.f1.f1.f0, .int .i64 x.f1.f1.f1, .string x.f1.f1.f2, .slice A x.f2.length c] 31 (0, 0))).alloc (.cells #[.int .i8 0, .int .i64 0, .string ⟨#[]⟩] 26 (0, 0)) = wa at *
 go_loopw [7, 35] (fun v i wr => ∃ k : Nat, k ≤ x.f2.length ∧ i = .int .i64 k ∧ Hid ((x.f2.take k).all (fun q => (evalN bs n q).2.2.2) = true) ∧ Hid (Kd.R k26 26 wr wa.heap.size (fun _ => True) v ((x.f2.take k).map (fun q => asV (evalN bs n q)))) ∧ Hid (Below wa.heap.size wa wr)) (fun _ i _ => x.f2.length - (intOf i).toNat)
 case atStart => exact ⟨0, Nat.zero_le _, rfl, Lib.hid rfl, Lib.hid (Kd.R_nil _ _ _ _ _), Lib.hid (Below.refl _ _)⟩
 case round =>
  obtain ⟨k, hk, rfl, HP, HO, HB⟩ := hrel
  by_cases hlt : k < x.f2.length
  ·obtain ⟨ad, cs, e0, hsz, hK, hcell⟩ := C_row (Kd.C_below HR.out HB.out) z31 k hlt
   subst e0
   have HKE := Lib.hid hK
   have HCELL := Lib.hid hcell
   have hsz' : cs.size = 6 := hsz
   have hix : (Tryd.prog.info? 31).map (·.size) = some cs.size := by rw [hsz']; exact hi1
   have hone := K_ones hK
   have HCK := Lib.hid (hC.out k hlt)
   have HS := Lib.hid (all_snd (fun q => (evalN bs n q).2.2.2) x.f2 z31 k hlt)
   have HMS := Lib.hid (map_snd (fun q => asV (evalN bs n q)) x.f2 z31 k hlt)
   have HNA := Lib.hid (all_not (fun q => (evalN bs n q).2.2.2) x.f2 z31 k hlt)
   clear hK hcell
   generalize x.f2.getD k z31 = y at *
   have HVL := Lib.hid (show ((x.f2.take k).map (fun q => asV (evalN bs n q))).length ≤ 2 by rw [List.length_map, List.length_take]; omega)
   generalize (x.f2.take k).map (fun q => asV (evalN bs n q)) = vals at *
   have HZ := Lib.hid (xau wr (.cells #[.int .i8 0, .string ⟨#[]⟩, .int .i8 0, .int .i64 0, .string ⟨#[]⟩, .slice none 0 0] 31 (0, 0)))
   have HZ2 := Lib.hid (row_new wr #[.int .i8 0, .string ⟨#[]⟩, .int .i8 0, .int .i64 0, .string ⟨#[]⟩, .slice none 0 0] cs 31)
   have HZ3 := Lib.hid (below_row wr #[.int .i8 0, .string ⟨#[]⟩, .int .i8 0, .int .i64 0, .string ⟨#[]⟩, .slice none 0 0] cs 31)
   go_wp2_with first | ((with_reducible refine xap (N := 38) rfl ?_); (refine xbm rfl 31 (.tmp 37) rfl (ad.add (k * 6)) rfl cs _ HCELL.out Tryd.underlying31 rfl hix ?_)) | ((with_reducible refine xbj (t := 31) (p := 9) rfl ?_); (refine wpList_store_row rfl 31 (.tmp 9) (.tmp 38) rfl wr.heap.size cs rfl rfl 31 #[.int .i8 0, .string ⟨#[]⟩, .int .i8 0, .int .i64 0, .string ⟨#[]⟩, .slice none 0 0] HZ.out hix (by rw [hsz']; rfl) hone ?_)) | ((with_reducible refine xap (N := 40) rfl ?_); (refine wpList_load_row rfl 31 (.tmp 9) rfl wr.heap.size rfl 31 cs (0, 0) _ HZ2.out Tryd.underlying31 rfl hix ?_))
   generalize ((wr.alloc (.cells #[.int .i8 0, .string ⟨#[]⟩, .int .i8 0, .int .i64 0, .string ⟨#[]⟩, .slice none 0 0] 31 (0, 0))).setRow wr.heap.size cs) = w2 at *
   clear HZ HZ2
   have HB2 := Lib.hid (xae HB.out HZ3.out)
   refine (kE_eval HCK.out (k31.K_below HZ3.out HKE.out) (SMap.below HM.out HB2.out) (HT.out.below HB2.out)).mono ?_
   rintro e w3 ⟨rfl, hb⟩
   have HB3 := Lib.hid (xae HB2.out hb)
   have HO3 := Lib.hid (Kd.R_below HO.out (xae HZ3.out hb))
   obtain ⟨Av, cv, hv⟩ := Kd.R_slice HO.out
   subst hv
   clear hb HO HB2 HZ3
   have HO4 := Lib.hid (Kd.R_alloc HO3.out (.cells #[.int .i8 (evalN bs n y).1, .int .i64 (evalN bs n y).2.1, .string (evalN bs n y).2.2.1] 26 (0, 0)))
   have HB4 := Lib.hid (xab HB3.out (.cells #[.int .i8 (evalN bs n y).1, .int .i64 (evalN bs n y).2.1, .string (evalN bs n y).2.2.1] 26 (0, 0)))
   have HSZ := Lib.hid (show (w3.alloc (.cells #[.int .i8 (evalN bs n y).1, .int .i64 (evalN bs n y).2.1, .string (evalN bs n y).2.2.1] 26 (0, 0))).heap.size = w3.heap.size + 1 by simp)
   cases hok : (evalN bs n y).2.2.2 with
   | false =>
    have HRE := Lib.hid (show res = (0, 0, ⟨#[]⟩, false) by rw [HE.out, if_neg (by rw [HNA.out hok]; simp)])
    have HKD := Lib.hid (xak HKZ.out HB4.out)
    have z0 : (w3.alloc (.cells #[.int .i8 (evalN bs n y).1, .int .i64 (evalN bs n y).2.1, .string (evalN bs n y).2.2.1] 26 (0, 0))).cell? ⟨w.heap.size + 1, 0, none⟩ = some (.int .i8 0) := (xag HKD.out 0).trans rfl
    have zf0 := xal HKD.out 0
    have z1 : (w3.alloc (.cells #[.int .i8 (evalN bs n y).1, .int .i64 (evalN bs n y).2.1, .string (evalN bs n y).2.2.1] 26 (0, 0))).cell? ⟨w.heap.size + 1, 1, none⟩ = some (.int .i64 0) := (xag HKD.out 1).trans rfl
    have zf1 := xal HKD.out 1
    have z2 : (w3.alloc (.cells #[.int .i8 (evalN bs n y).1, .int .i64 (evalN bs n y).2.1, .string (evalN bs n y).2.2.1] 26 (0, 0))).cell? ⟨w.heap.size + 1, 2, none⟩ = some (.string ⟨#[]⟩) := (xag HKD.out 2).trans rfl
    have zf2 := xal HKD.out 2
    go_wp2_with fail
    refine bodyPost_ret (xar rfl _ _ (w.heap.size + 1) 26 #[.int .i8 0, .int .i64 0, .string ⟨#[]⟩] (0, 0) _ rfl (put3 HKD.out) Tryd.underlying26 rfl (by kernel_rfl)) rfl ?_
    exact ⟨by rw [HRE.out]; rfl, below3 (xae HBa.out HB4.out) (Nat.le_succ _) _ _ _⟩
   | true =>
    have HP1 := Lib.hid (show (x.f2.take (k + 1)).all (fun q => (evalN bs n q).2.2.2) = true by rw [HS.out, HP.out, hok]; rfl)
    go_wp2_with (at_builtin; go_loud (refine Kd.R_append k26 (w0 := wa) (W := (w3.alloc (.cells #[.int .i8 (evalN bs n y).1, .int .i64 (evalN bs n y).2.1, .string (evalN bs n y).2.2.1] 26 (0, 0)))) wa.heap.size rfl (.tmp 48) (.tmp 50) 47 26 (.agg #[.int .i8 0, .int .i64 0, .string ⟨#[]⟩]) 32 rfl Tryd.underlying47 info26 rfl (by decide) (by decide) (.slice Av vals.length cv) vals (asV (evalN bs n y)) [.int .i8 (evalN bs n y).1, .int .i64 (evalN bs n y).2.1, .string (evalN bs n y).2.2.1] (fun _ => True) (fun _ => False) rfl (by rw [HSZ.out]; rfl) (k26_mkM _ _ _ (asV (evalN bs n y))) (fun _ h => h.elim) (fun _ _ => trivial) HO4.out HB4.out HB4.out.size (by have := HVL.out; omega) ?_); intro v1 w4 hR hB1 hG _; have HO5 := Lib.hid hR; have HB5 := Lib.hid hB1; clear hR hB1 hG)
    go_roundw
    case rel => exact ⟨k + 1, by omega, by go_num, HP1, Lib.hid (by rw [HMS.out]; exact HO5.out), HB5⟩
    case measure => simp [intOf]; omega
  ·have hall := HP.out
   rw [List.take_of_length_le (by omega)] at hall
   have hO := HO.out
   rw [List.take_of_length_le (by omega)] at hO
   have HRE := Lib.hid (show res = arithV x.f0 (x.f2.map (fun q => asV (evalN bs n q))) by rw [HE.out, if_pos hall])
   generalize x.f2.map (fun q => asV (evalN bs n q)) = vals at *
   obtain ⟨Av, cv, hv, hcv, hCv⟩ := Kd.R_reads hO
   subst hv
   have HKw := Lib.hid (xak HKB.out HB.out)
   have HKz := Lib.hid (xak HKZ.out HB.out)
   have b0 : wr.cell? ⟨w.heap.size, 0, none⟩ = some (.int .i8 x.f0) := (xag HKw.out 0).trans rfl
   have HCV := Lib.hid hCv
   clear hall hO hCv HP HO
   go_wp2_with fail
   obtain ⟨r1, r2, r3, r4⟩ := res
   refine (value_Arith.calls x.f0 Av cv vals r1 r2 r3 r4 wr HCV.out hcv (by rw [value_Arith.f, if_pos HRG.out, ← HRE.out]) (HT.out.below HB.out)).mono ?_
   rintro e w3 ⟨rfl, hb⟩
   have HB3 := Lib.hid (xae HB.out hb)
   have HK3 := Lib.hid (xak HKz.out hb)
   clear hb b0
   have z0 : w3.cell? ⟨w.heap.size + 1, 0, none⟩ = some (.int .i8 0) := (xag HK3.out 0).trans rfl
   have zf0 := xal HK3.out 0
   have z1 : w3.cell? ⟨w.heap.size + 1, 1, none⟩ = some (.int .i64 0) := (xag HK3.out 1).trans rfl
   have zf1 := xal HK3.out 1
   have z2 : w3.cell? ⟨w.heap.size + 1, 2, none⟩ = some (.string ⟨#[]⟩) := (xag HK3.out 2).trans rfl
   have zf2 := xal HK3.out 2
   go_wp2_with fail
   refine bodyPost_ret (xar rfl _ _ (w.heap.size + 1) 26 #[.int .i8 r1, .int .i64 r2, .string r3] (0, 0) _ rfl (put3 HK3.out) Tryd.underlying26 rfl (by kernel_rfl)) rfl ?_
   exact ⟨rfl, below3 (xae HBa.out HB3.out) (Nat.le_succ _) _ _ _⟩
theorem eval_all (bs : List S41) : ∀ (n : Nat) (x : S31), ReadyE n x → EvalC bs n x
 | 0, x, h => h.elim
 | n + 1, x, h => by
  by_cases h0 : x.f0 = 0
  ·exact eval_term bs n x h h0
  ·refine eval_op bs n x h h0 (Lib.hid (fun k hk => eval_all bs n _ (h.2.2.2.2 _ ?_)))
   simp [List.getD_eq_getElem?_getD, List.getElem?_eq_getElem hk]
end Go.Proofs.YtllcmggmcogokaaDoor.PAll
end
section
namespace Go.Proofs.YtllcmggmcogokaaDoor.PAll
open Go.RowKit Go.Proofs.YtllcmggmcogokaaDoorW.PrintWords Go.Proofs.YtllcmggmcogokaaDoorW.PrintLast Go.Proofs.YtllcmggmcogokaaDoorW.PrintMore
attribute [local go_sem] max2_int min2_int max_two min_two max_three min_three max_four min_four
attribute [local go_sem] Oper.semAt_some
abbrev BindOk := { x : Int × S41 // x.2.f0.size ≤ maxLen }
abbrev encB (x : BindOk) : Array Value := #[.int .i64 x.1.1, .agg #[.string x.1.2.f0, .int .i8 x.1.2.f1.f0, .int .i64 x.1.2.f1.f1, .string x.1.2.f1.f2]]
def uptoB (f : Nat → BindOk) (k : Nat) : List BindOk := (List.range k).map f
theorem uptoB_succ (f : Nat → BindOk) (k : Nat) : uptoB f (k + 1) = uptoB f k ++ [f k] := by simp [uptoB, List.range_succ]
theorem uptoB_length (f : Nat → BindOk) (k : Nat) : (uptoB f k).length = k := by simp [uptoB]
def backB (ls : List S41) (hall : ∀ i, (ls.getD i z41).f0.size ≤ maxLen) (k : Nat) : BindOk := ⟨(((ls.length - 1 - k : Nat) : Int), ls.getD (ls.length - 1 - k) z41), hall _⟩
set_option maxRecDepth 100000 in
set_option maxHeartbeats 2000000 in
theorem back1_in (F : Fence) (n : Nat) (hF : F.fn 99) (hro : F.round = none) (hn : 1 ≤ n) (l Bs : Nat) (ls : List S41) (A : Option Addr) (c : Nat) (hall : ∀ i, (ls.getD i z41).f0.size ≤ maxLen) (w0 : World) (hC0 : Kd.C k41 w0 A ls.length ls)
  (J Jx : List BindOk → World → Prop)
  (hY : ∀ pre x W, J pre W → pre.length < ls.length → YieldAt F (n - 1) Tryd.prog l (encB x) W fun e W' =>
   (e = .returned (.bool true) ∧ J (pre ++ [x]) W' ∧ (Below w0.heap.size W W' ∧ W'.heap[Bs]? = W.heap[Bs]?)) ∨ (e = .returned (.bool false) ∧ Jx (pre ++ [x]) W'))
  (W : World) (hBW : Below w0.heap.size w0 W) (hBs : W.heap[Bs]? = some (.cells #[.slice A ls.length c] 32 (0, 0))) (h0 : J [] W) :
  CallsIn F n Tryd.prog 99 #[.func (.yield l) #[] #[], .pointer (some ⟨Bs, 0, none⟩)] W fun e W' => (∃ v, e = .returned v) ∧
   ((∃ ys, ys = uptoB (backB ls hall) ls.length ∧ J ys W') ∨ (∃ pre, (∃ k, k ≤ ls.length ∧ pre = uptoB (backB ls hall) k) ∧ Jx pre W')) := by
 have hm : ls.length ≤ 9223372036854775807 := hC0.2.1
 have hbs : W.cell? ⟨Bs, 0, none⟩ = some (.slice A ls.length c) := (xag hBs 0).trans rfl
 have HC := Lib.hid hC0
 have HBS := Lib.hid hBs
 clear hC0 hBs
 refine callsIn_of_wp Tryd.func99 rfl hF ?_ hro
 simp only [Tryd.ntmps99, List.size_toArray, List.length_cons, List.length_nil, Nat.reduceAdd, Nat.reduceSub, Array.replicate_succ, Array.replicate_zero, List.push_toArray, List.append_toArray, List.nil_append, List.cons_append]
 gi_wp2
 gi_loopw [3] (fun i wr => ∃ m : Nat, m ≤ ls.length ∧ i = .int .i64 ((m : Int) - 1) ∧ J (uptoB (backB ls hall) (ls.length - m)) wr ∧ Hid (Below w0.heap.size w0 wr) ∧ Hid (wr.heap[Bs]? = some (.cells #[.slice A ls.length c] 32 (0, 0)))) (fun i _ => (intOf i + 1).toNat)
 case atStart => exact ⟨ls.length, Nat.le_refl _, rfl, by rw [Nat.sub_self]; exact h0, Lib.hid hBW, HBS⟩
 case round =>
  clear HBS hbs hBW h0
  obtain ⟨m, hmk, rfl, hJs, HB, HBS⟩ := hrel
  have hbs : wr.cell? ⟨Bs, 0, none⟩ = some (.slice A ls.length c) := (xag HBS.out 0).trans rfl
  cases m with
  | zero =>
   gi_wp2
   go_end0
   exact ⟨⟨_, rfl⟩, .inl ⟨_, rfl, hJs⟩⟩
  | succ j =>
   rw [show (((j + 1 : Nat) : Int) - 1) = (j : Int) by omega]
   obtain ⟨ad, rfl, g0, g1, g2, g3⟩ := at_T41 (Kd.C_below HC.out HB.out) (j : Int) (by omega) (by omega)
   rw [Int.toNat_natCast] at g0 g1 g2 g3
   have hx : encB (backB ls hall (ls.length - (j + 1))) = #[.int .i64 (j : Int), .agg #[.string (rd_T41 ls (j : Int)).f0, .int .i8 (rd_T41 ls (j : Int)).f1.f0, .int .i64 (rd_T41 ls (j : Int)).f1.f1, .string (rd_T41 ls (j : Int)).f1.f2]] := by
    have e : ls.length - 1 - (ls.length - (j + 1)) = j := by omega
    simp only [encB, backB, e, rd_T41, Int.toNat_natCast]
   obtain ⟨fn, tmps, assign, body, hy, hR⟩ := hY _ (backB ls hall (ls.length - (j + 1))) wr hJs (by rw [uptoB_length]; omega)
   rw [hx] at hy
   gi_wp2
   refine hR.mono ?_
   rintro e W3 (⟨rfl, hJ3, hk3, hk4⟩ | ⟨rfl, hJx3⟩)
   ·have HB3 := Lib.hid (HB.out.trans hk3)
    have HBS3 := Lib.hid (hk4.trans HBS.out)
    gi_wp2
    go_roundw
    case rel => exact ⟨j, by omega, by simp, by rw [show ls.length - j = ls.length - (j + 1) + 1 by omega, uptoB_succ]; exact hJ3, HB3, HBS3⟩
    case measure => simp [intOf]
   ·gi_wp2
    refine bodyPost_ret (results_none rfl _ _ _) rfl ?_
    exact ⟨⟨_, rfl⟩, .inr ⟨_, ⟨ls.length - (j + 1) + 1, by omega, (uptoB_succ _ _).symm⟩, hJx3⟩⟩
theorem back_stops (F : Fence) (n : Nat) (hF : F.fn 99) (hro : F.round = none) (hn : 1 ≤ n) (Bs : Nat) (ls : List S41) (A : Option Addr) (c : Nat) (hall : ∀ i, (ls.getD i z41).f0.size ≤ maxLen) (w0 : World) (hC0 : Kd.C k41 w0 A ls.length ls)
  (w : World) (hBW : Below w0.heap.size w0 w) (hBs : w.heap[Bs]? = some (.cells #[.slice A ls.length c] 32 (0, 0))) :
  SeqStopsK F n Tryd.prog 99 #[.pointer (some ⟨Bs, 0, none⟩)] encB (fun W W' => Below w0.heap.size W W' ∧ W'.heap[Bs]? = W.heap[Bs]?)
   (fun ys => ys = uptoB (backB ls hall) ls.length) (fun pre => ∃ k, k ≤ ls.length ∧ pre = uptoB (backB ls hall) k) ls.length w := fun l J Jx W hW _ _ hY h0 =>
 back1_in F n hF hro hn l Bs ls A c hall w0 hC0 J Jx hY W (xae hBW hW) (by rw [hW.block Bs (blk_lt hBs)]; exact hBs) h0
def putsV (pre : List BindOk) : List UInt8 → Option Value := pre.foldl (fun f x => fun q => if q = x.1.2.f0.data.toList then some (cellsV x.1.2.f1) else f q) (fun _ => none)
theorem putsV_snoc (pre : List BindOk) (x : BindOk) : putsV (pre ++ [x]) = fun q => if q = x.1.2.f0.data.toList then some (cellsV x.1.2.f1) else putsV pre q := by simp [putsV]
theorem putsV_back (ls : List S41) (hall : ∀ i, (ls.getD i z41).f0.size ≤ maxLen) : ∀ k, k ≤ ls.length → putsV (uptoB (backB ls hall) k) = lookV (ls.drop (ls.length - k))
 | 0, _ => by rw [Nat.sub_zero, List.drop_eq_nil_of_le (Nat.le_refl _)]; rfl
 | k + 1, h => by
  have hlt : ls.length - (k + 1) < ls.length := by omega
  rw [uptoB_succ, putsV_snoc, putsV_back ls hall k (by omega), List.drop_eq_getElem_cons hlt, show ls.length - (k + 1) + 1 = ls.length - k by omega]
  funext q
  have e : (backB ls hall k).1.2 = ls[ls.length - (k + 1)] := by
   show ls.getD (ls.length - 1 - k) z41 = _
   rw [show ls.length - 1 - k = ls.length - (k + 1) by omega, List.getD_eq_getElem?_getD, List.getElem?_eq_getElem hlt]
   rfl
  rw [e]
  unfold lookV
  rw [List.find?_cons]
  by_cases hq : q = ls[ls.length - (k + 1)].f0.data.toList
  ·rw [if_pos hq]
   have : (ls[ls.length - (k + 1)].f0.data.toList == q) = true := by simp [hq]
   rw [this]
   rfl
  ·rw [if_neg hq]
   have : (ls[ls.length - (k + 1)].f0.data.toList == q) = false := by simpa using fun h => hq h.symm
   rw [this]
set_option maxHeartbeats 1000000 in
theorem back_in (F : Fence) (n : Nat) (hF : F.fn 52) (hro : F.round = none) (a : Option Addr) (len cap : Nat) (w : World) :
  CallsIn F n Tryd.prog 52 #[.slice a len cap] w fun e w' => e = .returned (.func (.func 99) #[] #[.pointer (some ⟨w.heap.size, 0, none⟩)]) ∧ w' = w.alloc (.cells #[.slice a len cap] 32) := by
 have hmf : ∀ (fn : Fn) (first cap : Array Value) (w : World), (Instr.makeFunc fn first cap).run Tryd.prog w = .ok (.func fn first cap) w := fun _ _ _ _ => rfl
 refine callsIn_of_wp Tryd.func52 rfl hF ?_ hro
 simp only [Tryd.ntmps52, List.size_toArray, List.length_cons, List.length_nil, Nat.reduceAdd, Nat.reduceSub, Array.replicate_succ, Array.replicate_zero, List.push_toArray, List.append_toArray, List.nil_append, List.cons_append]
 gi_wp2
 go_ret
 exact ⟨rfl, rfl⟩
def evalTop (bs : List S41) (x : S31) : Int × Int × ByteArray × Bool := if deepB 8 x then evalN bs 8 x else (0, 0, ⟨#[]⟩, false)
set_option maxRecDepth 100000 in
set_option maxHeartbeats 2000000 in
theorem Eval_walk (x : S31) (bs : List S41) (hall : ∀ i, (bs.getD i z41).f0.size ≤ maxLen) (hrd : Hid (deepB 8 x = true → ReadyE 8 x)) (A1 : Option Addr) (c1 : Nat) (A2 : Option Addr) (c2 : Nat) (w : World) (hr1 : Kd.C k31 w A1 x.f2.length x.f2) (hc1 : x.f2.length ≤ c1) (hr2 : Kd.C k41 w A2 bs.length bs) (hc2 : bs.length ≤ c2) (hT : TabA w)
  (res : Int × Int × ByteArray × Bool) (HR : Hid (evalTop bs x = res)) :
  Calls Tryd.prog 10 #[.agg #[.int .i8 x.f0, .string x.f1.f0, .int .i8 x.f1.f1.f0, .int .i64 x.f1.f1.f1, .string x.f1.f1.f2, .slice A1 x.f2.length c1], .slice A2 bs.length c2] w fun e w' => e = .returned (.tuple #[.agg #[.int .i8 res.1, .int .i64 res.2.1, .string res.2.2.1], .bool res.2.2.2]) ∧ Below w.heap.size w w' := by
 have hmm := @run_makeMap Tryd.prog
 have HX1 := Lib.hid hr1
 have HX2 := Lib.hid hr2
 have HT := Lib.hid hT
 clear hr1 hr2 hT
 have HBa := Lib.hid (xab (xab (Below.refl w.heap.size w) (.cells #[.int .i8 x.f0, .string x.f1.f0, .int .i8 x.f1.f1.f0, .int .i64 x.f1.f1.f1, .string x.f1.f1.f2, .slice A1 x.f2.length c1] 31 (0, 0))) (.cells #[.int .i8 0, .int .i64 0, .string ⟨#[]⟩] 26 (0, 0)))
 have HKB := Lib.hid (xak (xau w (.cells #[.int .i8 x.f0, .string x.f1.f0, .int .i8 x.f1.f1.f0, .int .i64 x.f1.f1.f1, .string x.f1.f1.f2, .slice A1 x.f2.length c1] 31 (0, 0))) (xab (Below.refl _ _) (.cells #[.int .i8 0, .int .i64 0, .string ⟨#[]⟩] 26 (0, 0))))
 have HKZ := Lib.hid (show ((w.alloc (.cells #[.int .i8 x.f0, .string x.f1.f0, .int .i8 x.f1.f1.f0, .int .i64 x.f1.f1.f1, .string x.f1.f1.f2, .slice A1 x.f2.length c1] 31 (0, 0))).alloc (.cells #[.int .i8 0, .int .i64 0, .string ⟨#[]⟩] 26 (0, 0))).heap[w.heap.size + 1]? = some (.cells #[.int .i8 0, .int .i64 0, .string ⟨#[]⟩] 26 (0, 0)) by
  have := xau (w.alloc (.cells #[.int .i8 x.f0, .string x.f1.f0, .int .i8 x.f1.f1.f0, .int .i64 x.f1.f1.f1, .string x.f1.f1.f2, .slice A1 x.f2.length c1] 31 (0, 0))) (.cells #[.int .i8 0, .int .i64 0, .string ⟨#[]⟩] 26 (0, 0))
  simpa using this)
 refine (callsIn_wide (n := 5)).1 ?_
 refine callsIn_of_wp_marks Tryd.func10 rfl trivial ?_ rfl
 simp only [Tryd.ntmps10, List.size_toArray, List.length_cons, List.length_nil, Nat.reduceAdd, Nat.reduceSub, Array.replicate_succ, Array.replicate_zero, List.push_toArray, List.append_toArray, List.nil_append, List.cons_append]
 cases hd8 : deepB 8 x with
 | false =>
  have HDP := Lib.hid (show term_CheckExpr.f x.f0 x.f1.f0 x.f1.f1.f0 x.f1.f1.f1 x.f1.f1.f2 x.f2 = some 40 by rw [checkExpr_eq x, hd8]; rfl)
  have HRE := Lib.hid (show res = (0, 0, ⟨#[]⟩, false) by rw [← HR.out, evalTop, hd8]; rfl)
  clear hd8
  gi_wp2_with (refine ⟨trivial, ?_⟩; gi_at_call 51; refine (callsIn_wide.2 (term_CheckExpr.calls (r := 40) (hr0_5 := Kd.C_below HX1.out HBa.out) (hc0_5 := hc1) (h := HDP.out))).mono ?_; rintro e w1 ⟨rfl, hb⟩; have hk := xak HKZ.out hb; have z0 := (xag hk 0).trans rfl; have z1 := (xag hk 1).trans rfl; have z2 := (xag hk 2).trans rfl; have y0 := xal hk 0; have y1 := xal hk 1; have y2 := xal hk 2; have HK1 := Lib.hid hk; have HB1 := Lib.hid (xae HBa.out hb); clear hk hb)
  exact ⟨_, xar rfl _ _ (w.heap.size + 1) 26 #[.int .i8 0, .int .i64 0, .string ⟨#[]⟩] (0, 0) _ rfl (put3 HK1.out) Tryd.underlying26 rfl (by kernel_rfl), by rw [HRE.out]; rfl, below3 HB1.out (Nat.le_succ _) _ _ _⟩
 | true =>
  have HDP := Lib.hid (show term_CheckExpr.f x.f0 x.f1.f0 x.f1.f1.f0 x.f1.f1.f1 x.f1.f1.f2 x.f2 = some 0 by rw [checkExpr_eq x, hd8]; rfl)
  have HRE := Lib.hid (show res = evalN bs 8 x by rw [← HR.out, evalTop, hd8]; rfl)
  have HRD := Lib.hid (hrd.out hd8)
  clear hd8
  gi_wp2_with first | (refine ⟨trivial, ?_⟩; gi_at_call 51; refine (callsIn_wide.2 (term_CheckExpr.calls (r := 0) (hr0_5 := Kd.C_below HX1.out HBa.out) (hc0_5 := hc1) (h := HDP.out))).mono ?_; rintro e w1 ⟨rfl, hb⟩) | (refine ⟨trivial, ?_⟩; gi_at_call 52; refine (back_in Fence.wide _ trivial rfl _ _ _ _).mono ?_; rintro e w2 ⟨rfl, rfl⟩)
  have HB1 := Lib.hid (xae HBa.out hb)
  have HKB1 := Lib.hid (xak HKB.out hb)
  have HKZ1 := Lib.hid (xak HKZ.out hb)
  clear hb HBa HKB HKZ
  have HBl := Lib.hid (xab (xab (xab HB1.out (.map #[] 0)) (.cells #[.map (some w1.heap.size)] 99 (0, 0))) (.cells #[.slice A2 bs.length c2] 32 (0, 0)))
  have HKBl := Lib.hid (xad (xad (xad HKB1.out (.map #[] 0)) (.cells #[.map (some w1.heap.size)] 99 (0, 0))) (.cells #[.slice A2 bs.length c2] 32 (0, 0)))
  have HKZl := Lib.hid (xad (xad (xad HKZ1.out (.map #[] 0)) (.cells #[.map (some w1.heap.size)] 99 (0, 0))) (.cells #[.slice A2 bs.length c2] 32 (0, 0)))
  have HS0 := Lib.hid (((SMap.made Tryd.prog 9 w1).kept (World.grownBy_alloc _ (.cells #[.map (some w1.heap.size)] 99 (0, 0)) none) (by simp)).kept (World.grownBy_alloc _ (.cells #[.slice A2 bs.length c2] 32 (0, 0)) none) (by simp))
  have HC6 := Lib.hid (show (((w1.alloc (.map #[] 0)).alloc (.cells #[.map (some w1.heap.size)] 99 (0, 0))).alloc (.cells #[.slice A2 bs.length c2] 32 (0, 0))).heap[w1.heap.size + 1]? = some (.cells #[.map (some w1.heap.size)] 99 (0, 0)) by
   have := xad (xau (w1.alloc (.map #[] 0)) (.cells #[.map (some w1.heap.size)] 99 (0, 0))) (.cells #[.slice A2 bs.length c2] 32 (0, 0))
   simpa using this)
  have HBS := Lib.hid (show (((w1.alloc (.map #[] 0)).alloc (.cells #[.map (some w1.heap.size)] 99 (0, 0))).alloc (.cells #[.slice A2 bs.length c2] 32 (0, 0))).heap[w1.heap.size + 2]? = some (.cells #[.slice A2 bs.length c2] 32 (0, 0)) by
   have := xau ((w1.alloc (.map #[] 0)).alloc (.cells #[.map (some w1.heap.size)] 99 (0, 0))) (.cells #[.slice A2 bs.length c2] 32 (0, 0))
   simpa [Nat.add_assoc] using this)
  have hsz : (((w1.alloc (.map #[] 0)).alloc (.cells #[.map (some w1.heap.size)] 99 (0, 0))).alloc (.cells #[.slice A2 bs.length c2] 32 (0, 0))).heap.size = w1.heap.size + 3 := by simp
  have hle1 : w.heap.size + 2 ≤ w1.heap.size := Nat.lt_of_lt_of_le (blk_lt HKZ1.out) (Nat.le_refl _)
  simp only [Nat.add_assoc, Nat.reduceAdd]
  generalize (((w1.alloc (.map #[] 0)).alloc (.cells #[.map (some w1.heap.size)] 99 (0, 0))).alloc (.cells #[.slice A2 bs.length c2] 32 (0, 0))) = wl at *
  generalize hm : w1.heap.size = m at *
  have hI : OwnFrom wl.heap.size (fun (pre : List BindOk) W => (SMap Tryd.prog 9 W m pre.length (putsV pre) ∧ W.heap[m + 1]? = some (.cells #[.map (some m)] 99 (0, 0)) ∧ W.heap[w.heap.size]? = some (.cells #[.int .i8 x.f0, .string x.f1.f0, .int .i8 x.f1.f1.f0, .int .i64 x.f1.f1.f1, .string x.f1.f1.f2, .slice A1 x.f2.length c1] 31 (0, 0)) ∧ W.heap[w.heap.size + 1]? = some (.cells #[.int .i8 0, .int .i64 0, .string ⟨#[]⟩] 26 (0, 0)) ∧ m + 3 ≤ W.heap.size) ∧ Below w.heap.size w W) := by
   intro s X Y row hs hg hr
   have hne : ∀ k, k < m + 3 → some k ≠ row := fun k hk e => by have := (hr k e.symm).1; omega
   exact ⟨⟨hs.1.1.kept hg (hne m (by omega)), xba hs.1.2.1 hg (hne _ (by omega)), xba hs.1.2.2.1 hg (hne _ (by omega)), xba hs.1.2.2.2.1 hg (hne _ (by omega)), Nat.le_trans hs.1.2.2.2.2 hg.size⟩, hs.2.grown hg hs.2.size (fun k e => by have := (hr k e).1; omega)⟩
  refine wpIn_rangeFunc_ownH (w := wl) rfl (by omega) (gf := 99) (lb := #[.pointer (some ⟨m + 2, 0, none⟩)]) rfl trivial (enters_of Tryd.func99 (by kernel_rfl) rfl)
   (back_stops Fence.wide _ trivial rfl (by omega) (m + 2) bs A2 c2 hall w HX2.out wl HBl.out HBS.out)
   (fun h k => ⟨h.1.trans k.1, k.2.trans h.2⟩)
   (fun W l o o' hl h hc hw => ⟨belowK_b (w := wl) (by omega) W l o o' hl h hc hw, World.putObj_heap_other (by omega)⟩)
   (Below.refl _ _) (fun _ => rfl)
   (fun (pre : List BindOk) W => (SMap Tryd.prog 9 W m pre.length (putsV pre) ∧ W.heap[m + 1]? = some (.cells #[.map (some m)] 99 (0, 0)) ∧ W.heap[w.heap.size]? = some (.cells #[.int .i8 x.f0, .string x.f1.f0, .int .i8 x.f1.f1.f0, .int .i64 x.f1.f1.f1, .string x.f1.f1.f2, .slice A1 x.f2.length c1] 31 (0, 0)) ∧ W.heap[w.heap.size + 1]? = some (.cells #[.int .i8 0, .int .i64 0, .string ⟨#[]⟩] 26 (0, 0)) ∧ m + 3 ≤ W.heap.size) ∧ Below w.heap.size w W)
   (fun _ _ _ => False) hI (fun _ _ _ _ _ hs _ _ => hs) ⟨⟨HS0.out, HC6.out, HKBl.out, HKZl.out, by omega⟩, HBl.out⟩
   (fun x' a' W => ∃ Bx, W.heap[Bx]? = some (.cells #[.string x'.1.2.f0, .int .i8 x'.1.2.f1.f0, .int .i64 x'.1.2.f1.f1, .string x'.1.2.f1.f2] 41 (0, 0)) ∧ a' = { tmps := #[.agg #[.int .i8 x.f0, .string x.f1.f0, .int .i8 x.f1.f1.f0, .int .i64 x.f1.f1.f1, .string x.f1.f1.f2, .slice A1 x.f2.length c1], .slice A2 bs.length c2, .pointer (some ⟨w.heap.size, 0, none⟩), undef, .pointer (some ⟨w.heap.size + 1, 0, none⟩), .bool false, .pointer (some ⟨m + 1, 0, none⟩), undef, .pointer (some ⟨Bx, 0, none⟩), .agg #[.int .i8 x.f0, .string x.f1.f0, .int .i8 x.f1.f1.f0, .int .i64 x.f1.f1.f1, .string x.f1.f1.f2, .slice A1 x.f2.length c1], .int .i64 0, .bool false, undef, .map (some m), .slice A2 bs.length c2, .func (.func 99) #[] #[.pointer (some ⟨m + 2, 0, none⟩)], .int .i64 x'.1.1, .agg #[.string x'.1.2.f0, .int .i8 x'.1.2.f1.f0, .int .i64 x'.1.2.f1.f1, .string x'.1.2.f1.f2], undef, undef, undef, undef, undef, undef, undef, undef, undef, undef], defers := [] })
   (fun x' a' s X Y row hs hg hr => by
    obtain ⟨Bx, hb, he⟩ := hs
    refine ⟨Bx, xba hb hg (fun e => ?_), he⟩
    obtain ⟨o, ho, hc⟩ := (hr Bx e.symm).2
    rw [hb] at ho
    cases ho
    cases hc)
   ?assign ?body ?done ?stop
  case assign =>
   intro l pre x' W K hi hK
   gi_wp2
   exact hK _ _ ((KeepsOthers.alloc _ _).from _) ⟨(Below.refl _ _).alloc hi.2.size _, Below.heap_alloc W _ _ (Nat.lt_of_lt_of_le (show m + 2 < m + 3 by omega) hi.1.2.2.2.2)⟩ (hI.alloc _ hi) ⟨W.heap.size, xau _ _, rfl⟩
  case body =>
   rintro l pre x' a' W hl hrr ⟨⟨hS, h6, h31, hz, hWs⟩, hB⟩ ⟨Bx, hBx, rfl⟩ hlen
   have hmx : bs.length ≤ 9223372036854775807 := HX2.out.2.1
   obtain ⟨w', hrun, hS', hg'⟩ := SMap.put (t := 99) (e := 26) hS Tryd.underlying9 (by kernel_rfl) (by unfold maxLen; omega) x'.1.2.f0 x'.2 (cellsV x'.1.2.f1)
   unfold cellsV at hrun
   have h6c : W.cell? ⟨m + 1, 0, none⟩ = some (.map (some m)) := (xag h6 0).trans rfl
   have b0 : W.cell? ⟨Bx, 0, none⟩ = some (.string x'.1.2.f0) := (xag hBx 0).trans rfl
   have b1 : W.cell? ⟨Bx, 1, none⟩ = some (.int .i8 x'.1.2.f1.f0) := (xag hBx 1).trans rfl
   have b2 : W.cell? ⟨Bx, 2, none⟩ = some (.int .i64 x'.1.2.f1.f1) := (xag hBx 2).trans rfl
   have b3 : W.cell? ⟨Bx, 3, none⟩ = some (.string x'.1.2.f1.f2) := (xag hBx 3).trans rfl
   have HW := Lib.hid (And.intro hWs hB)
   have HG := Lib.hid hg'
   have HS := Lib.hid hS'
   have HP := Lib.hid (And.intro h6 (And.intro h31 hz))
   clear hS hg' hS' h6 h31 hz hB hBx
   gi_wp2
   exact ⟨KeepsFrom.of_grownBy HG.out (fun j e => by cases e; omega), ⟨(Below.refl _ W).grown HG.out HW.out.2.size (fun k e => by cases e; omega), HG.out.block (m + 2) (by have := HW.out.1; omega) (by simp)⟩,
    ⟨⟨by rw [putsV_snoc, List.length_append]; exact HS.out, xba HP.out.1 HG.out (by simp), xba HP.out.2.1 HG.out (by intro e; cases e; omega), xba HP.out.2.2 HG.out (by intro e; cases e; omega), Nat.le_trans HW.out.1 HG.out.size⟩, HW.out.2.grown HG.out HW.out.2.size (fun k e => by cases e; omega)⟩⟩
  case done =>
   rintro D ys W hD rfl ⟨⟨hS, h6, h31, hz, hWs⟩, hB⟩ hK
   have hput := putsV_back bs hall bs.length (Nat.le_refl _)
   rw [Nat.sub_self, List.drop_zero] at hput
   rw [hput] at hS
   have h6c : W.cell? ⟨m + 1, 0, none⟩ = some (.map (some m)) := (xag h6 0).trans rfl
   have b0 : W.cell? ⟨w.heap.size, 0, none⟩ = some (.int .i8 x.f0) := (xag h31 0).trans rfl
   have b1 : W.cell? ⟨w.heap.size, 1, none⟩ = some (.string x.f1.f0) := (xag h31 1).trans rfl
   have b2 : W.cell? ⟨w.heap.size, 2, none⟩ = some (.int .i8 x.f1.f1.f0) := (xag h31 2).trans rfl
   have b3 : W.cell? ⟨w.heap.size, 3, none⟩ = some (.int .i64 x.f1.f1.f1) := (xag h31 3).trans rfl
   have b4 : W.cell? ⟨w.heap.size, 4, none⟩ = some (.string x.f1.f1.f2) := (xag h31 4).trans rfl
   have b5 : W.cell? ⟨w.heap.size, 5, none⟩ = some (.slice A1 x.f2.length c1) := (xag h31 5).trans rfl
   have HS := Lib.hid hS
   have HW := Lib.hid (And.intro hWs hB)
   have HKD := Lib.hid hK
   have HZW := Lib.hid hz
   clear hS h6 h31 hB hK hz hput
   gi_wp2_with (refine ⟨trivial, ?_⟩; gi_at_call 53; refine (callsIn_wide.2 (eval_all bs 8 x HRD.out A1 c1 W m _ (Kd.C_below HX1.out HW.out.2) hc1 HS.out (HT.out.below HW.out.2))).mono ?_; rintro e w5 ⟨rfl, hb⟩; have hk := xak HZW.out hb; have z0 := (xag hk 0).trans rfl; have z1 := (xag hk 1).trans rfl; have z2 := (xag hk 2).trans rfl; have y0 := xal hk 0; have y1 := xal hk 1; have y2 := xal hk 2; have HK5 := Lib.hid hk; have HB5 := Lib.hid hb; clear hk hb)
   have hDw : D < W.heap.size := (Array.getElem?_eq_some_iff.1 HKD.out).1
   have hne : D ≠ w.heap.size + 1 := by omega
   have hKf : (((w5.setCell ⟨w.heap.size + 1, 0, none⟩ (.int .i8 (evalN bs 8 x).1)).setCell ⟨w.heap.size + 1, 1, none⟩ (.int .i64 (evalN bs 8 x).2.1)).setCell ⟨w.heap.size + 1, 2, none⟩ (.string (evalN bs 8 x).2.2.1)).heap[D]? = some (.deferred (some [])) := by
    rw [Below.heap_setCell _ _ _ D hne, Below.heap_setCell _ _ _ D hne, Below.heap_setCell _ _ _ D hne]
    exact (HB5.out.block D hDw).trans HKD.out
   have hBf := below3 (xae HW.out.2 HB5.out) (Nat.le_succ w.heap.size) (.int .i8 (evalN bs 8 x).1) (.int .i64 (evalN bs 8 x).2.1) (.string (evalN bs 8 x).2.2.1)
   refine ⟨by simp, .inl ⟨_, _, rfl, run_takeDeferred hKf, ?_⟩⟩
   exact ⟨_, xar rfl _ _ (w.heap.size + 1) 26 #[.int .i8 (evalN bs 8 x).1, .int .i64 (evalN bs 8 x).2.1, .string (evalN bs 8 x).2.2.1] (0, 0) _ rfl ((World.putObj_heap_other (fun e => hne e.symm)).trans (put3 HK5.out)) Tryd.underlying26 rfl (by kernel_rfl), by rw [HRE.out]; rfl, hBf.trans (belowK_b (w := w) (Nat.le_refl _) _ D _ _ (by omega) hKf rfl rfl)⟩
  case stop =>
   rintro D c pre W _ _ h _
   exact h.elim
def readyB : Nat → S31 → Bool
 | 0, _ => false
 | n + 1, x => decide (x.f1.f0.size ≤ 140737488351232) && (decide (-128 ≤ x.f0) && (decide (x.f0 ≤ 127) && (decide (x.f2.length ≤ 2) && x.f2.all (fun k => readyB n k))))
theorem readyB_iff : ∀ (n : Nat) (x : S31), readyB n x = true ↔ ReadyE n x
 | 0, x => by simp [readyB, ReadyE]
 | n + 1, x => by
  have ih := readyB_iff n
  simp only [readyB, ReadyE, Bool.and_eq_true, decide_eq_true_eq, List.all_eq_true, ih]
def bindsFit (bs : List S41) : Bool := bs.all (fun b => decide (b.f0.size ≤ maxLen))
theorem bindsFit_names {bs : List S41} (h : bindsFit bs = true) (i : Nat) : (bs.getD i z41).f0.size ≤ maxLen := by
 rw [List.getD_eq_getElem?_getD]
 cases hq : bs[i]? with
 | none => exact Nat.zero_le _
 | some b => simpa using List.all_eq_true.1 h b (List.mem_of_getElem? hq)
def term_Eval.f (a0_0 : Int) (a0_1 : ByteArray) (a0_2 : Int) (a0_3 : Int) (a0_4 : ByteArray) (l0_5 : List (S31)) (l1 : List (S41)) : Option (Int × Int × ByteArray × Bool) :=
 if bindsFit l1 = true ∧ (deepB 8 ⟨a0_0, ⟨a0_1, ⟨a0_2, a0_3, a0_4⟩⟩, l0_5⟩ = true → readyB 8 ⟨a0_0, ⟨a0_1, ⟨a0_2, a0_3, a0_4⟩⟩, l0_5⟩ = true) then some (evalTop l1 ⟨a0_0, ⟨a0_1, ⟨a0_2, a0_3, a0_4⟩⟩, l0_5⟩) else none
theorem term_Eval.calls (a0_0 : Int) (a0_1 : ByteArray) (a0_2 : Int) (a0_3 : Int) (a0_4 : ByteArray) (A0_5 : Option Addr) (c0_5 : Nat) (l0_5 : List (S31)) (A1 : Option Addr) (c1 : Nat) (l1 : List (S41)) (r1 : Int) (r2 : Int) (r3 : ByteArray) (r4 : Bool) (w : World) (hr0_5 : Kd.C k31 w A0_5 l0_5.length l0_5) (hc0_5 : l0_5.length ≤ c0_5) (hr1 : Kd.C k41 w A1 l1.length l1) (hc1 : l1.length ≤ c1) (hTA : TabA w) (h : term_Eval.f a0_0 a0_1 a0_2 a0_3 a0_4 l0_5 l1 = some (r1, r2, r3, r4)) :
  Calls Tryd.prog 10 #[.agg #[.int .i8 a0_0, .string a0_1, .int .i8 a0_2, .int .i64 a0_3, .string a0_4, .slice A0_5 l0_5.length c0_5], .slice A1 l1.length c1] w fun e w' => e = .returned (.tuple #[.agg #[.int .i8 r1, .int .i64 r2, .string r3], .bool r4]) ∧ Below w.heap.size w w' := by
 unfold term_Eval.f at h
 by_cases hf : bindsFit l1 = true ∧ (deepB 8 ⟨a0_0, ⟨a0_1, ⟨a0_2, a0_3, a0_4⟩⟩, l0_5⟩ = true → readyB 8 ⟨a0_0, ⟨a0_1, ⟨a0_2, a0_3, a0_4⟩⟩, l0_5⟩ = true)
 ·rw [if_pos hf] at h
  exact Eval_walk ⟨a0_0, ⟨a0_1, ⟨a0_2, a0_3, a0_4⟩⟩, l0_5⟩ l1 (bindsFit_names hf.1) (Lib.hid (fun hd => (readyB_iff _ _).1 (hf.2 hd))) A0_5 c0_5 A1 c1 w hr0_5 hc0_5 hr1 hc1 hTA (r1, r2, r3, r4) (Lib.hid (Option.some.inj h))
 ·rw [if_neg hf] at h
  cases h
end Go.Proofs.YtllcmggmcogokaaDoor.PAll
end
section
namespace Go.Proofs.YtllcmggmcogokaaDoor.PAll
open Go.RowKit Go.Proofs.YtllcmggmcogokaaDoorW.PrintWords Go.Proofs.YtllcmggmcogokaaDoorW.PrintLast Go.Proofs.YtllcmggmcogokaaDoorW.PrintMore
attribute [local go_sem] max2_int min2_int max_two min_two max_three min_three max_four min_four
def r4_Bound.l0 : Nat → List (S41) → Int → ByteArray → Int → Int → ByteArray → Option (Int × Int × ByteArray × Bool)
 | 0, _, _, _, _, _, _ => none
 | k + 1, x0, x6, x397000, x397001, x397002, x397003 => if x6 < (x0.length : Int) then (if 0 ≤ x6 then (if ((rd_T41 x0 x6).f0).toList = x397000.toList then ((r1_Check.f ((rd_T41 x0 x6).f1.f0) ((rd_T41 x0 x6).f1.f1) ((rd_T41 x0 x6).f1.f2)).bind fun t401 => (some ((rd_T41 x0 x6).f1.f0, (rd_T41 x0 x6).f1.f1, (rd_T41 x0 x6).f1.f2, (t401 == 0)))) else (r4_Bound.l0 k x0 (wrap64 (x6 + 1)) x397000 x397001 x397002 x397003)) else (none)) else (some (0, 0, (⟨#[]⟩ : ByteArray), false))
def r4_Bound.f (k : Nat) (l0 : List (S41)) (a1_0 : ByteArray) (a1_1 : Int) (a1_2 : Int) (a1_3 : ByteArray) : Option (Int × Int × ByteArray × Bool) := if a1_0.toList = ([] : List UInt8) then (some (a1_1, a1_2, a1_3, true)) else (r4_Bound.l0 k l0 0 a1_0 a1_1 a1_2 a1_3)
mutual
def r4_worth.l0 : Nat → List (S41) → List (S26) → Int → Int → ByteArray → Int → Int → ByteArray → List (S31) → Option (Int × Int × ByteArray × Bool)
 | 0, _, _, _, _, _, _, _, _, _ => none
 | k + 1, x1, x8, x9, x443000, x443001, x443002, x443003, x443004, x443005 => if x9 < (x443005.length : Int) then (if 0 ≤ x9 then ((r4_worth.f k ((rd_T31 x443005 x9).f0) ((rd_T31 x443005 x9).f1.f0) ((rd_T31 x443005 x9).f1.f1.f0) ((rd_T31 x443005 x9).f1.f1.f1) ((rd_T31 x443005 x9).f1.f1.f2) ((rd_T31 x443005 x9).f2) x1).bind fun bt450 => (if bt450.2.2.2 = true then (if x8.length < 4398046511104 then (r4_worth.l0 k x1 (x8 ++ [(⟨bt450.1, bt450.2.1, bt450.2.2.1⟩ : S26)]) (wrap64 (x9 + 1)) x443000 x443001 x443002 x443003 x443004 x443005) else (none)) else (some (0, 0, (⟨#[]⟩ : ByteArray), false)))) else (none)) else ((r1_Arith.f k x443000 x8).bind fun bt458 => (some (bt458.1, bt458.2.1, bt458.2.2.1, bt458.2.2.2)))
def r4_worth.f : Nat → Int → ByteArray → Int → Int → ByteArray → List (S31) → List (S41) → Option (Int × Int × ByteArray × Bool)
 | 0, _, _, _, _, _, _, _ => none
 | k + 1, a0_0, a0_1, a0_2, a0_3, a0_4, l0_5, l1 => if a0_0 = 0 then ((r4_Bound.f k l1 a0_1 a0_2 a0_3 a0_4).bind fun bt444 => (if bt444.2.2.2 = true then (some (bt444.1, bt444.2.1, bt444.2.2.1, true)) else (some (0, 0, (⟨#[]⟩ : ByteArray), false)))) else (r4_worth.l0 k l1 ([] : List (S26)) 0 a0_0 a0_1 a0_2 a0_3 a0_4 l0_5)
end
theorem wf_i64 {n : Int} (h : (Lit.int .i64 n).wf = true) : -9223372036854775808 ≤ n ∧ n ≤ 9223372036854775807 := by
 have h1 : (decide (IntKind.i64.min ≤ n) && decide (n ≤ IntKind.i64.max)) = true := h
 rw [Bool.and_eq_true, decide_eq_true_eq, decide_eq_true_eq] at h1
 exact ⟨h1.1, h1.2⟩
theorem wf_i8 {n : Int} (h : (Lit.int .i8 n).wf = true) : -128 ≤ n ∧ n ≤ 127 := by
 have h1 : (decide (IntKind.i8.min ≤ n) && decide (n ≤ IntKind.i8.max)) = true := h
 rw [Bool.and_eq_true, decide_eq_true_eq, decide_eq_true_eq] at h1
 exact ⟨h1.1, h1.2⟩
theorem valueOk_zero : valueOk z26 = false := rfl
def RangeE : Nat → S31 → Prop
 | 0, _ => True
 | n + 1, x => (-9223372036854775808 ≤ x.f1.f1.f1 ∧ x.f1.f1.f1 ≤ 9223372036854775807) ∧ ∀ k ∈ x.f2, RangeE n k
theorem ready_of : ∀ (d m : Nat) (x : S31), deepB d x = true → FE m x → ReadyE d x ∧ RangeE d x
 | 0, _, x, h, _ => by simp [deepB] at h
 | d + 1, 0, x, h, hF => hF.elim
 | d + 1, m + 1, x, h, hF => by
  obtain ⟨hop, ⟨hsz, _, hn, _⟩, _, hk⟩ := hF
  have h8 := wf_i8 hop
  rw [deepB] at h
  by_cases h0 : x.f0 = 0
  ·rw [if_pos h0, Bool.and_eq_true, decide_eq_true_eq] at h
   have hnil : x.f2 = [] := List.length_eq_zero_iff.1 h.1
   refine ⟨⟨hsz, h8.1, h8.2, by omega, fun k hk => ?_⟩, wf_i64 hn, fun k hk => ?_⟩ <;> (rw [hnil] at hk; cases hk)
  ·rw [if_neg h0, Bool.and_eq_true, Bool.and_eq_true, decide_eq_true_eq] at h
   have har : arityOf x.f0 ≤ 2 := by unfold arityOf; repeat' split <;> omega
   have hkids := List.all_eq_true.1 h.2
   exact ⟨⟨hsz, h8.1, h8.2, by have := h.1.2; omega, fun k hk' => (ready_of d m k (hkids k hk') (hk k hk')).1⟩, wf_i64 hn, fun k hk' => (ready_of d m k (hkids k hk') (hk k hk')).2⟩
def r4_In.l0 : Nat → ByteArray → List ByteArray → Int → Option (Bool)
 | 0, _, _, _ => none
 | k + 1, x0, x1, x5 => if x5 < (x1.length : Int) then (if 0 ≤ x5 then (if (rdOf ByteArray.empty x1 x5).toList = x0.toList then (some true) else (r4_In.l0 k x0 x1 (wrap64 (x5 + 1)))) else (none)) else (some false)
def r4_In.f (k : Nat) (a0 : ByteArray) (l1 : List ByteArray) : Option (Bool) := r4_In.l0 k a0 l1 0
set_option maxHeartbeats 8000000 in
set_option maxRecDepth 100000 in
theorem r4_In.calls (k : Nat) (a0 : ByteArray) (A1 : Option Addr) (c1 : Nat) (l1 : List ByteArray) (r : Bool) (w : World) (hr1 : Kd.C Kd.string w A1 l1.length l1) (hc1 : l1.length ≤ c1) (h : r4_In.f k a0 l1 = some r) :
  Calls Tryd.prog 14 #[.string a0, .slice A1 l1.length c1] w fun e w' => e = .returned (.bool r) ∧ Drawn0 w w' := by
 have HR1 := Aside0.mk hr1
 have HC1 := Aside0.mk hc1
 clear hr1 hc1
 have H : (r4_In.l0 k a0 l1 0) = some r := h
 clear h
 have H' := Aside0.mk H
 clear H
 go_enter Tryd.func14, Tryd.ntmps14
 go_wp2
 go_loopg [5] k (fun kq v5 w' => ∃ (x5_1 : Int), v5 = .int .i64 x5_1 ∧ Aside0 (r4_In.l0 kq a0 l1 x5_1 = some r) ∧ Aside0 (kq ≤ k) ∧ Drawn0 w w')
 case atStart => exact ⟨(0), (by first | rfl | (simp; done) | (simp [*]; done)), H', ⟨Nat.le_refl _⟩, by repeat (first | exact Drawn0.refl _ | apply Drawn0.step)⟩
 case round =>
  clear H'
  try clear c1
  try clear p2
  obtain ⟨x5_1, rfl, HA, HK1, ⟨m1, rfl⟩⟩ := hrel
  cases gk with
  | zero => exact absurd HA.out (by simp [r4_In.l0])
  | succ k1 =>
   have H := HA.out
   clear HA
   simp only [r4_In.l0] at H
   by_cases c3 : x5_1 < (l1.length : Int)
   ·rw [if_pos c3] at H
    have c3b0 : decide (x5_1 < (l1.length : Int)) = true := decide_eq_true c3
    clear c3
    by_cases c4 : 0 ≤ x5_1
    ·rw [if_pos c4] at H
     have c4b0 : decide (0 ≤ x5_1) = true := decide_eq_true c4
     clear c4
     by_cases c5 : (rdOf ByteArray.empty l1 x5_1).toList = a0.toList
     ·rw [if_pos c5] at H
      have c5b0 : ((rdOf ByteArray.empty l1 x5_1).toList == a0.toList) = true := beq_iff_eq.mpr c5
      have c5b1 : ((rdOf ByteArray.empty l1 x5_1).toList != a0.toList) = false := bne_eq_false_iff_eq.mpr c5
      clear c5
      obtain rfl := Option.some.inj H
      have p156 : 0 ≤ (x5_1 : Int) := of_decide_eq_true (by first | (with_reducible assumption) | assumption)
      have q156 : x5_1 < (l1.length : Int) := of_decide_eq_true (by first | (with_reducible assumption) | assumption)
      obtain ⟨ad156, e156, hx156_0⟩ := Kd.at_string HR1.out x5_1 p156 q156
      cases e156
      replace p156 := eq_true p156
      replace q156 := eq_true q156
      go_wp2
      go_ret
      exact ⟨by first | rfl | (simp; done) | (simp [*]; done), by repeat (first | exact Drawn0.refl _ | apply Drawn0.step)⟩
     ·rw [if_neg c5] at H
      have c5b0 : ((rdOf ByteArray.empty l1 x5_1).toList == a0.toList) = false := beq_eq_false_iff_ne.mpr c5
      have c5b1 : ((rdOf ByteArray.empty l1 x5_1).toList != a0.toList) = true := bne_iff_ne.mpr c5
      have H' := Aside0.mk H
      clear H
      have p156 : 0 ≤ (x5_1 : Int) := of_decide_eq_true (by first | (with_reducible assumption) | assumption)
      have q156 : x5_1 < (l1.length : Int) := of_decide_eq_true (by first | (with_reducible assumption) | assumption)
      obtain ⟨ad156, e156, hx156_0⟩ := Kd.at_string HR1.out x5_1 p156 q156
      cases e156
      replace p156 := eq_true p156
      replace q156 := eq_true q156
      go_wp2
      go_roundg k1
      case measure => have := HK1.out; omega
      case rel => exact ⟨(wrap64 (x5_1 + 1)), (by first | rfl | (simp; done) | (simp [*]; done)), H', ⟨by have := HK1.out; omega⟩, by repeat (first | exact Drawn0.refl _ | apply Drawn0.step)⟩
    ·rw [if_neg c4] at H
     exact absurd H (by simp)
   ·rw [if_neg c3] at H
    have c3b0 : decide (x5_1 < (l1.length : Int)) = false := decide_eq_false c3
    clear c3
    obtain rfl := Option.some.inj H
    go_wp2
    go_ret
    exact ⟨by first | rfl | (simp; done) | (simp [*]; done), by repeat (first | exact Drawn0.refl _ | apply Drawn0.step)⟩
def r4_vars.l0 : Nat → List (S28) → List ByteArray → Int → Option (List ByteArray)
 | 0, _, _, _ => none
 | k + 1, x0, x3, x4 => if x4 < (x0.length : Int) then (if 0 ≤ x4 then (if ((rd_T28 x0 x4).f0).toList = ([] : List UInt8) then (r4_vars.l0 k x0 x3 (wrap64 (x4 + 1))) else (if ((rd_T28 x0 x4).f0).toList = ([95] : List UInt8) then (r4_vars.l0 k x0 x3 (wrap64 (x4 + 1))) else ((r4_In.f k ((rd_T28 x0 x4).f0) x3).bind fun t158 => (if t158 = true then (r4_vars.l0 k x0 x3 (wrap64 (x4 + 1))) else (if x3.length < 8796093022208 then (r4_vars.l0 k x0 (x3 ++ [(rd_T28 x0 x4).f0]) (wrap64 (x4 + 1))) else (none)))))) else (none)) else (some x3)
def r4_vars.f (k : Nat) (l0 : List (S28)) : Option (List ByteArray) := r4_vars.l0 k l0 ([] : List ByteArray) 0
set_option maxHeartbeats 8000000 in
set_option maxRecDepth 100000 in
theorem r4_vars.calls (k : Nat) (A0 : Option Addr) (c0 : Nat) (l0 : List (S28)) (r : List ByteArray) (w : World) (hr0 : Kd.C k28 w A0 l0.length l0) (hc0 : l0.length ≤ c0) (h : r4_vars.f k l0 = some r) :
  Calls Tryd.prog 56 #[.slice A0 l0.length c0] w fun e w' => ∃ v0_ : Value, e = .returned (v0_) ∧ Kd.R Kd.string 9 w' w.heap.size (fun _ => True) v0_ r ∧ Below w.heap.size w w' := by
 have HR0 := Aside0.mk hr0
 have HC0 := Aside0.mk hc0
 clear hr0 hc0
 have HB := Aside0.mk (Below.refl w.heap.size w)
 have H : (r4_vars.l0 k l0 ([] : List ByteArray) 0) = some r := h
 clear h
 have H' := Aside0.mk H
 clear H
 go_enter Tryd.func56, Tryd.ntmps56
 go_wp2
 go_loopg [3, 4] k (fun kq v3 v4 w' => ∃ (x3_1 : List ByteArray) (x4_1 : Int), v4 = .int .i64 x4_1 ∧ Aside0 (r4_vars.l0 kq l0 x3_1 x4_1 = some r) ∧ Aside0 (kq ≤ k) ∧ Aside0 (Kd.R Kd.string 9 w' w.heap.size (fun _ => True) v3 x3_1) ∧ Aside0 (Below w.heap.size w w'))
 case atStart => exact ⟨(([] : List ByteArray)), (0), (by first | rfl | (simp; done) | (simp [*]; done)), H', ⟨Nat.le_refl _⟩, ⟨by first | exact Kd.R_nil _ _ _ _ _ | exact Kd.N_nil _ _ _ _ _ | exact Kd.V_nil _ _ _ _ _ | exact Kd.Q_nil _ _ _ _ _ | exact Kd.S_nil _ _ _ _ _⟩, ⟨by repeat (first | (with_reducible first | exact HB.out | apply xab | apply xaa | apply xac) | exact HB.out)⟩⟩
 case round =>
  clear H'
  obtain ⟨x3_1, x4_1, rfl, HA, HK1, HO_3, HB⟩ := hrel
  cases gk with
  | zero => exact absurd HA.out (by simp [r4_vars.l0])
  | succ k1 =>
   have H := HA.out
   clear HA
   simp only [r4_vars.l0] at H
   by_cases c2 : x4_1 < (l0.length : Int)
   ·rw [if_pos c2] at H
    have c2b0 : decide (x4_1 < (l0.length : Int)) = true := decide_eq_true c2
    clear c2
    by_cases c3 : 0 ≤ x4_1
    ·rw [if_pos c3] at H
     have c3b0 : decide (0 ≤ x4_1) = true := decide_eq_true c3
     clear c3
     by_cases c4 : ((rd_T28 l0 x4_1).f0).toList = ([] : List UInt8)
     ·rw [if_pos c4] at H
      have c4b0 : (((rd_T28 l0 x4_1).f0).toList == ([] : List UInt8)) = true := beq_iff_eq.mpr c4
      have c4b1 : (((rd_T28 l0 x4_1).f0).toList != ([] : List UInt8)) = false := bne_eq_false_iff_eq.mpr c4
      clear c4
      have H' := Aside0.mk H
      clear H
      have p157 : 0 ≤ (x4_1 : Int) := of_decide_eq_true (by first | (with_reducible assumption) | assumption)
      have q157 : x4_1 < (l0.length : Int) := of_decide_eq_true (by first | (with_reducible assumption) | assumption)
      obtain ⟨ad157, e157, hx157_0, hx157_1, hx157_2, hx157_3⟩ := at_T28 HR0.out x4_1 p157 q157
      cases e157
      replace hx157_0 := (HB.out.cell (World.block_lt_of_cell? w _ hx157_0)).trans hx157_0
      replace hx157_1 := (HB.out.cell (World.block_lt_of_cell? w _ hx157_1)).trans hx157_1
      replace hx157_2 := (HB.out.cell (World.block_lt_of_cell? w _ hx157_2)).trans hx157_2
      replace hx157_3 := (HB.out.cell (World.block_lt_of_cell? w _ hx157_3)).trans hx157_3
      replace p157 := eq_true p157
      replace q157 := eq_true q157
      go_wp2
      go_roundg k1
      case measure => have := HK1.out; omega
      case rel => exact ⟨(x3_1), (wrap64 (x4_1 + 1)), (by first | rfl | (simp; done) | (simp [*]; done)), H', ⟨by have := HK1.out; omega⟩, ⟨by (with_reducible repeat (first | apply Kd.R_alloc | apply Kd.R_drewN | apply Kd.R_drew)); exact HO_3.out⟩, ⟨by repeat (first | (with_reducible first | exact HB.out | apply xab | apply xaa | apply xac) | exact HB.out)⟩⟩
     ·rw [if_neg c4] at H
      have c4b0 : (((rd_T28 l0 x4_1).f0).toList == ([] : List UInt8)) = false := beq_eq_false_iff_ne.mpr c4
      have c4b1 : (((rd_T28 l0 x4_1).f0).toList != ([] : List UInt8)) = true := bne_iff_ne.mpr c4
      by_cases c5 : ((rd_T28 l0 x4_1).f0).toList = ([95] : List UInt8)
      ·rw [if_pos c5] at H
       have c5b0 : (((rd_T28 l0 x4_1).f0).toList == ([95] : List UInt8)) = true := beq_iff_eq.mpr c5
       have c5b1 : (((rd_T28 l0 x4_1).f0).toList != ([95] : List UInt8)) = false := bne_eq_false_iff_eq.mpr c5
       clear c5
       have H' := Aside0.mk H
       clear H
       have p157 : 0 ≤ (x4_1 : Int) := of_decide_eq_true (by first | (with_reducible assumption) | assumption)
       have q157 : x4_1 < (l0.length : Int) := of_decide_eq_true (by first | (with_reducible assumption) | assumption)
       obtain ⟨ad157, e157, hx157_0, hx157_1, hx157_2, hx157_3⟩ := at_T28 HR0.out x4_1 p157 q157
       cases e157
       replace hx157_0 := (HB.out.cell (World.block_lt_of_cell? w _ hx157_0)).trans hx157_0
       replace hx157_1 := (HB.out.cell (World.block_lt_of_cell? w _ hx157_1)).trans hx157_1
       replace hx157_2 := (HB.out.cell (World.block_lt_of_cell? w _ hx157_2)).trans hx157_2
       replace hx157_3 := (HB.out.cell (World.block_lt_of_cell? w _ hx157_3)).trans hx157_3
       replace p157 := eq_true p157
       replace q157 := eq_true q157
       go_wp2
       go_roundg k1
       case measure => have := HK1.out; omega
       case rel => exact ⟨(x3_1), (wrap64 (x4_1 + 1)), (by first | rfl | (simp; done) | (simp [*]; done)), H', ⟨by have := HK1.out; omega⟩, ⟨by (with_reducible repeat (first | apply Kd.R_alloc | apply Kd.R_drewN | apply Kd.R_drew)); exact HO_3.out⟩, ⟨by repeat (first | (with_reducible first | exact HB.out | apply xab | apply xaa | apply xac) | exact HB.out)⟩⟩
      ·rw [if_neg c5] at H
       have c5b0 : (((rd_T28 l0 x4_1).f0).toList == ([95] : List UInt8)) = false := beq_eq_false_iff_ne.mpr c5
       have c5b1 : (((rd_T28 l0 x4_1).f0).toList != ([95] : List UInt8)) = true := bne_iff_ne.mpr c5
       replace H := Option.bind_eq_some_iff.mp H
       obtain ⟨t158, A60, H⟩ := H
       replace H : (if t158 = true then (r4_vars.l0 k1 l0 x3_1 (wrap64 (x4_1 + 1))) else (if x3_1.length < 8796093022208 then (r4_vars.l0 k1 l0 (x3_1 ++ [(rd_T28 l0 x4_1).f0]) (wrap64 (x4_1 + 1))) else (none))) = some r := H
       have A6 := Aside0.mk A60
       clear A60
       by_cases c7 : t158 = true
       ·subst c7
        have H1 : (r4_vars.l0 k1 l0 x3_1 (wrap64 (x4_1 + 1))) = some r := by rw [if_pos rfl] at H; exact H
        clear H
        have H := H1
        clear H1
        have H' := Aside0.mk H
        clear H
        have p157 : 0 ≤ (x4_1 : Int) := of_decide_eq_true (by first | (with_reducible assumption) | assumption)
        have q157 : x4_1 < (l0.length : Int) := of_decide_eq_true (by first | (with_reducible assumption) | assumption)
        obtain ⟨ad157, e157, hx157_0, hx157_1, hx157_2, hx157_3⟩ := at_T28 HR0.out x4_1 p157 q157
        cases e157
        replace hx157_0 := (HB.out.cell (World.block_lt_of_cell? w _ hx157_0)).trans hx157_0
        replace hx157_1 := (HB.out.cell (World.block_lt_of_cell? w _ hx157_1)).trans hx157_1
        replace hx157_2 := (HB.out.cell (World.block_lt_of_cell? w _ hx157_2)).trans hx157_2
        replace hx157_3 := (HB.out.cell (World.block_lt_of_cell? w _ hx157_3)).trans hx157_3
        replace p157 := eq_true p157
        replace q157 := eq_true q157
        obtain ⟨Ao8, co8, eo8⟩ := Kd.R_slice HO_3.out
        subst eo8
        go_wp2_with (first | (go_at_call 14; (with_reducible refine (r4_In.calls k1 ((rd_T28 l0 x4_1).f0) _ _ x3_1 true _ ?side1 ?side2 A6.out).mono ?_); (case side1 => repeat (first | exact (Kd.R_reads' HO_3.out).2.2 | (with_reducible refine Kd.C_alloc ?_ _) | (with_reducible refine Kd.C_drewN ?_ _) | (with_reducible refine Kd.C_drew ?_))); (case side2 => exact (Kd.R_reads' HO_3.out).2.1); rintro e w' ⟨rfl, ⟨nd, rfl⟩⟩))
        go_roundg k1
        case measure => have := HK1.out; omega
        case rel => exact ⟨(x3_1), (wrap64 (x4_1 + 1)), (by first | rfl | (simp; done) | (simp [*]; done)), H', ⟨by have := HK1.out; omega⟩, ⟨by (with_reducible repeat (first | apply Kd.R_alloc | apply Kd.R_drewN | apply Kd.R_drew)); exact HO_3.out⟩, ⟨by repeat (first | (with_reducible first | exact HB.out | apply xab | apply xaa | apply xac) | exact HB.out)⟩⟩
       ·replace c7 := Bool.eq_false_iff.mpr c7
        subst c7
        have H1 : (if x3_1.length < 8796093022208 then (r4_vars.l0 k1 l0 (x3_1 ++ [(rd_T28 l0 x4_1).f0]) (wrap64 (x4_1 + 1))) else (none)) = some r := by rw [if_neg (show ¬ (false = true) by decide)] at H; exact H
        clear H
        have H := H1
        clear H1
        by_cases c9 : x3_1.length < 8796093022208
        ·rw [if_pos c9] at H
         have LMc9 := Aside0.mk c9
         clear c9
         obtain ⟨y159, hy159⟩ : ∃ y_ : List ByteArray, y_ = (x3_1 ++ [(rd_T28 l0 x4_1).f0]) := ⟨_, rfl⟩
         replace H : (r4_vars.l0 k1 l0 y159 (wrap64 (x4_1 + 1))) = some r := by first | (rw [hy159]; with_reducible exact H) | (have H2_ := (Option.bind_some _ _).symm.trans H; rw [hy159]; with_reducible exact H2_) | (have H2_ := (Option.bind_some _ _).symm.trans H; with_reducible exact H2_) | with_reducible exact H | (rw [hy159]; exact H) | exact H
         have Ny159 := Aside0.mk hy159
         clear hy159
         have H' := Aside0.mk H
         clear H
         have p157 : 0 ≤ (x4_1 : Int) := of_decide_eq_true (by first | (with_reducible assumption) | assumption)
         have q157 : x4_1 < (l0.length : Int) := of_decide_eq_true (by first | (with_reducible assumption) | assumption)
         obtain ⟨ad157, e157, hx157_0, hx157_1, hx157_2, hx157_3⟩ := at_T28 HR0.out x4_1 p157 q157
         cases e157
         replace hx157_0 := (HB.out.cell (World.block_lt_of_cell? w _ hx157_0)).trans hx157_0
         replace hx157_1 := (HB.out.cell (World.block_lt_of_cell? w _ hx157_1)).trans hx157_1
         replace hx157_2 := (HB.out.cell (World.block_lt_of_cell? w _ hx157_2)).trans hx157_2
         replace hx157_3 := (HB.out.cell (World.block_lt_of_cell? w _ hx157_3)).trans hx157_3
         replace p157 := eq_true p157
         replace q157 := eq_true q157
         obtain ⟨Ao10, co10, eo10⟩ := Kd.R_slice HO_3.out
         subst eo10
         go_wp2_with (first | (go_at_call 14; (with_reducible refine (r4_In.calls k1 ((rd_T28 l0 x4_1).f0) _ _ x3_1 false _ ?side1 ?side2 A6.out).mono ?_); (case side1 => repeat (first | exact (Kd.R_reads' HO_3.out).2.2 | (with_reducible refine Kd.C_alloc ?_ _) | (with_reducible refine Kd.C_drewN ?_ _) | (with_reducible refine Kd.C_drew ?_))); (case side2 => exact (Kd.R_reads' HO_3.out).2.1); rintro e w' ⟨rfl, ⟨nd, rfl⟩⟩) | ((with_reducible refine gate_builtin (b := .append) (xs := #[.tmp 29, .tmp 31]) rfl ?_); at_builtin; refine Kd.R_append Kd.string (w0 := w) w.heap.size rfl (.tmp 29) (.tmp 31) 39 9 (.string ⟨#[]⟩) 16 rfl Tryd.underlying39 info9 rfl (by decide) (by omega) (.slice Ao10 x3_1.length co10) x3_1 ((rd_T28 l0 x4_1).f0) [.string ((rd_T28 l0 x4_1).f0)] (fun _ => True) (fun _ => False) rfl rfl ?aP (fun _ hk => hk.elim) ?aF ?aO ?aB ?aS ?aL ?_; (case aP => exact rfl); (case aB => exact (by repeat (first | (with_reducible first | exact HB.out | apply xab | apply xaa | apply xac) | exact HB.out))); (case aF => exact (fun _ _ => trivial)); (case aO => exact (by (with_reducible repeat (first | apply Kd.R_alloc | apply Kd.R_drewN | apply Kd.R_drew)); exact HO_3.out)); (case aS => exact (xao (by repeat (first | (with_reducible first | exact HB.out | apply xab | apply xaa | apply xac) | exact HB.out)))); (case aL => have := LMc9.out; omega); intro v160 w11 ho hb hg hat; rw [← Ny159.out] at ho; have n0_ := Aside0.mk (hb); have n1_ := Aside0.mk (ho); clear HB; clear HO_3; have HB := n0_; have HO161 := n1_; clear n0_ n1_; clear ho hb hg hat))
         go_roundg k1
         case measure => have := HK1.out; omega
         case rel => exact ⟨(y159), (wrap64 (x4_1 + 1)), (by first | rfl | (simp; done) | (simp [*]; done)), H', ⟨by have := HK1.out; omega⟩, ⟨by (with_reducible repeat (first | apply Kd.R_alloc | apply Kd.R_drewN | apply Kd.R_drew)); exact HO161.out⟩, ⟨by repeat (first | (with_reducible first | exact HB.out | apply xab | apply xaa | apply xac) | exact HB.out)⟩⟩
        ·rw [if_neg c9] at H
         exact absurd H (by simp)
    ·rw [if_neg c3] at H
     exact absurd H (by simp)
   ·rw [if_neg c2] at H
    have c2b0 : decide (x4_1 < (l0.length : Int)) = false := decide_eq_false c2
    clear c2
    obtain rfl := Option.some.inj H
    go_wp2
    go_ret
    exact ⟨_, by first | rfl | (simp [xan, xam] <;> rfl) | (simp [*, xan, xam] <;> rfl), by (with_reducible repeat (first | apply Kd.R_alloc | apply Kd.R_drewN | apply Kd.R_drew)); exact HO_3.out, by repeat (first | (with_reducible first | exact HB.out | apply xab | apply xaa | apply xac) | exact HB.out)⟩
def varStep (L : List ByteArray) (x : S28) : List ByteArray := if x.f0.toList = [] ∨ x.f0.toList = [95] ∨ L.any (fun y => y.data.toList == x.f0.data.toList) = true then L else L ++ [x.f0]
def placeOf (L : List ByteArray) (q : List UInt8) : Option Value := (L.findIdx? (fun y => y.data.toList == q)).map fun i => .int .i64 ((i : Int) + 1)
structure VS (w0 : World) (L M : List ByteArray) (v u : Value) (w : World) : Prop where
 below : Below w0.heap.size w0 w
 bt : w.heap[w0.heap.size + 2]? = some (.cells #[.map (some (w0.heap.size + 1))] 154 (0, 0))
 sm : SMap Tryd.prog 9 w (w0.heap.size + 1) M.length (placeOf M)
 bl : w.heap[w0.heap.size]? = some (.cells #[v] 39 (0, 0))
 row : Kd.string.R 9 w w0.heap.size (fun _ => True) u L
structure VarsI (w0 : World) (L : List ByteArray) (w : World) : Prop where
 sizes : ∀ y ∈ L, y.size ≤ 140737488351232
 len : L.length ≤ 4294967296
 vs : ∃ v, VS w0 L L v v w
theorem VS.alloc {w0 : World} {L M : List ByteArray} {v u : Value} {w : World} (h : VS w0 L M v u w) (o : Obj) : VS w0 L M v u (w.alloc o) :=
 ⟨xab h.below o, xad h.bt o, h.sm.kept (World.grownBy_alloc w o none) (by simp), xad h.bl o, Kd.R_grown h.row (World.grownBy_alloc w o none) (by simp)⟩
theorem VS.drew {w0 : World} {L M : List ByteArray} {v u : Value} {w : World} (h : VS w0 L M v u w) : VS w0 L M v u w.drew :=
 ⟨xaw h.below, h.bt, h.sm.move rfl, h.bl, Kd.R_move h.row (fun _ _ => rfl)⟩
theorem VS.ne {w0 : World} {L M : List ByteArray} {v u : Value} {w : World} (h : VS w0 L M v u w) : some w0.heap.size ≠ u.ownBlock ∧ some (w0.heap.size + 1) ≠ u.ownBlock ∧ some (w0.heap.size + 2) ≠ u.ownBlock := by
 refine ⟨Kd.R_ne h.row h.bl (by decide), ?_, Kd.R_ne h.row h.bt (by decide)⟩
 intro e
 obtain ⟨es, clock, hm⟩ := h.sm.block
 obtain ⟨inner, ho⟩ := Kd.R_own h.row
 obtain ⟨cells, hc⟩ := own_typed ho _ e.symm
 rw [hm] at hc
 cases hc
theorem VS.appended {w0 : World} {L M : List ByteArray} {v u : Value} {W w1 : World} (h : VS w0 L M v u W) (s : ByteArray) {u1 : Value} (hR : Kd.string.R 9 w1 w0.heap.size (fun _ => True) u1 (L ++ [s])) (hB : Below w0.heap.size w0 w1) (hG : W.grownBy w1 u.ownBlock) : VS w0 (L ++ [s]) M v u1 w1 :=
 ⟨hB, xba h.bt hG h.ne.2.2, h.sm.kept hG h.ne.2.1, xba h.bl hG h.ne.1, hR⟩
theorem VS.mapped {w0 : World} {L M M' : List ByteArray} {v u : Value} {w w1 : World} (h : VS w0 L M v u w) (hS : SMap Tryd.prog 9 w1 (w0.heap.size + 1) M'.length (placeOf M')) (hG : w.grownBy w1 (some (w0.heap.size + 1))) : VS w0 L M' v u w1 :=
 ⟨h.below.grown hG h.below.size (by simp), xba h.bt hG (by simp), hS, xba h.bl hG (by simp), Kd.R_mono (Kd.R_grown (Kd.R_bound h.row) hG (fun k hk e => by
  obtain ⟨es, clock, hm⟩ := h.sm.block
  obtain ⟨_, _, _, q, _, cells, hc⟩ := hk
  obtain rfl := Option.some.inj e
  rw [hm] at hc
  cases hc)) (fun _ hk => hk.1)⟩
def varsOf (ts : List S28) : List ByteArray := ts.foldl varStep []
def varsFit (ts : List S28) : Bool := decide (ts.length ≤ 4294967295) && ts.all fun x => decide (x.f0.size ≤ 140737488351232)
theorem varStep_len (L : List ByteArray) (x : S28) : (varStep L x).length ≤ L.length + 1 := by
 unfold varStep
 split <;> simp
theorem in_ev (s : ByteArray) (L : List ByteArray) (hL : L.length < 1000000000000000000) : ∀ (m i : Nat), L.length - i = m → i ≤ L.length → Ev (fun k => r4_In.l0 k s L (i : Int)) ((L.drop i).any (fun y => y.data.toList == s.data.toList))
 | 0, i, hm, hi => by
  refine Ev.of (fun k => ?_)
  rw [r4_In.l0, if_neg (by omega), List.drop_eq_nil_of_le (by omega)]
  rfl
 | m + 1, i, hm, hi => by
  have hlt : i < L.length := by omega
  have e : rdOf ByteArray.empty L (i : Int) = L[i] := by simp [rdOf, List.getD_eq_getElem?_getD, List.getElem?_eq_getElem hlt]
  have ih := in_ev s L hL m (i + 1) (by omega) (by omega)
  rw [List.drop_eq_getElem_cons hlt, List.any_cons]
  by_cases h : L[i].data.toList = s.data.toList
  ·rw [show (L[i].data.toList == s.data.toList) = true by simpa using h, Bool.true_or]
   refine Ev.of (fun k => ?_)
   rw [r4_In.l0, if_pos (by omega), if_pos (by omega), e, xaz, xaz, if_pos h]
  ·rw [show (L[i].data.toList == s.data.toList) = false by simpa using h, Bool.false_or]
   refine ih.step (fun k => ?_)
   rw [r4_In.l0, if_pos (by omega), if_pos (by omega), e, xaz, xaz, if_neg h, w64 (by omega) (by omega)]
   rfl
theorem vars_ev (ts : List S28) (hts : ts.length < 2000000000000) : ∀ (m i : Nat) (acc : List ByteArray), ts.length - i = m → i ≤ ts.length → acc.length + m < 2000000000000 → Ev (fun k => r4_vars.l0 k ts acc (i : Int)) ((ts.drop i).foldl varStep acc)
 | 0, i, acc, hm, hi, ha => by
  refine Ev.of (fun k => ?_)
  rw [r4_vars.l0, if_neg (by omega), List.drop_eq_nil_of_le (by omega)]
  rfl
 | m + 1, i, acc, hm, hi, ha => by
  have hlt : i < ts.length := by omega
  have e : rd_T28 ts (i : Int) = ts[i] := by rw [rd_T28, List.getD_eq_getElem?_getD, Int.toNat_natCast, List.getElem?_eq_getElem hlt]; rfl
  have ih := fun acc (ha : List.length acc + m < 2000000000000) => vars_ev ts hts m (i + 1) acc (by omega) (by omega) ha
  rw [List.drop_eq_getElem_cons hlt, List.foldl_cons]
  by_cases h1 : ts[i].f0.toList = []
  ·rw [show varStep acc ts[i] = acc by rw [varStep, if_pos (.inl h1)]]
   refine (ih acc (by omega)).step (fun k => ?_)
   rw [r4_vars.l0, if_pos (by omega), if_pos (by omega), e, if_pos h1, w64 (by omega) (by omega)]
   rfl
  ·by_cases h2 : ts[i].f0.toList = [95]
   ·rw [show varStep acc ts[i] = acc by rw [varStep, if_pos (.inr (.inl h2))]]
    refine (ih acc (by omega)).step (fun k => ?_)
    rw [r4_vars.l0, if_pos (by omega), if_pos (by omega), e, if_neg h1, if_pos h2, w64 (by omega) (by omega)]
    rfl
   ·have hin := in_ev ts[i].f0 acc (by omega) _ 0 rfl (Nat.zero_le _)
    rw [List.drop_zero] at hin
    have h3 : Ev (fun k => (r4_In.f k ts[i].f0 acc).bind fun t194 => (if t194 = true then (r4_vars.l0 k ts acc ((i + 1 : Nat) : Int)) else (if acc.length < 8796093022208 then (r4_vars.l0 k ts (acc ++ [ts[i].f0]) ((i + 1 : Nat) : Int)) else (none)))) ((ts.drop (i + 1)).foldl varStep (varStep acc ts[i])) := by
     refine Ev.bind (f := fun k => r4_In.f k ts[i].f0 acc) (g := fun k t194 => (if t194 = true then (r4_vars.l0 k ts acc ((i + 1 : Nat) : Int)) else (if acc.length < 8796093022208 then (r4_vars.l0 k ts (acc ++ [ts[i].f0]) ((i + 1 : Nat) : Int)) else (none)))) hin ?_
     cases hb : acc.any (fun y => y.data.toList == ts[i].f0.data.toList) with
     | true =>
      rw [show varStep acc ts[i] = acc by rw [varStep, if_pos (.inr (.inr hb))]]
      exact (ih acc (by omega)).cong (fun k => by rw [if_pos rfl])
     | false =>
      rw [show varStep acc ts[i] = acc ++ [ts[i].f0] by rw [varStep, if_neg (by rw [hb]; simp [h1, h2])]]
      exact (ih _ (by simp; omega)).cong (fun k => by rw [if_neg (by simp), if_pos (by omega)])
    refine h3.step (fun k => ?_)
    rw [r4_vars.l0, if_pos (by omega), if_pos (by omega), e, if_neg h1, if_neg h2, w64 (by omega) (by omega)]
    rfl
theorem refVars_ev (ts : List S28) (hts : ts.length < 2000000000000) : Ev (fun k => r4_vars.f k ts) (varsOf ts) := by
 have h := vars_ev ts hts _ 0 [] rfl (Nat.zero_le _) (by simp; omega)
 rw [List.drop_zero] at h
 exact h
theorem varsOf_len (ts : List S28) : (varsOf ts).length ≤ ts.length := by
 have : ∀ (ts : List S28) (L : List ByteArray), (ts.foldl varStep L).length ≤ L.length + ts.length := by
  intro ts
  induction ts with
  | nil => intro L; simp
  | cons t r ih => intro L; rw [List.foldl_cons, List.length_cons]; have := ih (varStep L t); have := varStep_len L t; omega
 have h := this ts []
 rw [List.length_nil, Nat.zero_add] at h
 exact h
theorem FE_short {n : Nat} : ∀ {q : Nat} {x : S31}, FE n x → short q x := by
 induction n with
 | zero => exact fun h => h.elim
 | succ n ih =>
  intro q x h
  cases q with
  | zero => trivial
  | succ q =>
   refine ⟨?_, fun k hk => ih (h.2.2.2 k hk)⟩
   have := h.2.2.1
   have : x.f2.length * 80 ≤ 140737488351232 := this
   omega
def TabB (w : World) : Prop := Lib.TabIs Tryd.prog w "internal/strconv.uint64pow10" .u64 Lib.pow10Tab
theorem TabB.below {w w1 : World} (h : TabB w) (hb : Below w.heap.size w w1) : TabB w1 := by
 have hg : Tryd.prog.globalNamed "internal/strconv.uint64pow10" = some 1 := by kernel_rfl
 unfold TabB Lib.TabIs at *
 refine var?_below hb hg ?_ h
 unfold World.var? at h
 simp only [hg, Option.bind_some] at h
 rcases Nat.lt_or_ge 1 w.heap.size with h' | h'
 ·exact h'
 ·simp [Array.getElem?_eq_none h'] at h
def wordOf (n : Int) : ByteArray := ⟨#[35]⟩ ++ ⟨(Lib.itoa n).toArray⟩
end Go.Proofs.YtllcmggmcogokaaDoor.PAll
end
section

namespace Go.Proofs.YtllcmggmcogokaaDoor.PAll
open Go.RowKit Go.Proofs.YtllcmggmcogokaaDoorW.PrintWords Go.Proofs.YtllcmggmcogokaaDoorW.PrintLast Go.Proofs.YtllcmggmcogokaaDoorW.PrintMore
attribute [local go_sem] max2_int min2_int max_two min_two max_three min_three max_four min_four
set_option linter.unusedVariables false
set_option linter.unusedSimpArgs false
section
open Go.Proofs.YtllcmggmcogokaaDoorW.PrintWords.Kd
def Raw (n : Nat) (c : List Value) : Prop := c.length = n ∧ ∀ u ∈ c, u.oneCell' = true
def orC {α : Type} (d : Kd α) : Kd (α ⊕ List Value) where
 sz := d.sz
 E := d.E
 K := fun w x cs => match x with
  | .inl a => d.K w a cs
  | .inr c => cs = c ∧ Raw d.sz c
 M := fun w base ok x cs => match x with
  | .inl a => d.M w base ok a cs
  | .inr c => cs = c ∧ Raw d.sz c
 K_len := by
  intro w x cs h
  cases x with
  | inl a => exact d.K_len h
  | inr c => rw [h.1]; exact h.2.1
 K_one := by
  intro w x cs h
  cases x with
  | inl a => exact d.K_one h
  | inr c => rw [h.1]; exact h.2.2
 K_below := by
  intro w w1 x cs hb h
  cases x with
  | inl a => exact d.K_below hb h
  | inr c => exact h
 K_of_M := by
  intro w base ok x cs h
  cases x with
  | inl a => exact d.K_of_M h
  | inr c => exact h
 M_mono := by
  intro w base ok ok' x cs hok h
  cases x with
  | inl a => exact d.M_mono hok h
  | inr c => exact h
 M_bound := by
  intro w base ok x cs h
  cases x with
  | inl a => exact d.M_bound h
  | inr c => exact h
 M_move := by
  intro w w1 base ok x cs hm h
  cases x with
  | inl a => exact d.M_move hm h
  | inr c => exact h
 M_lower := by
  intro w base base' ok x cs hb h
  cases x with
  | inl a => exact d.M_lower hb h
  | inr c => exact h
def marked {α : Type} (xs : List α) (mk : List Value) : List (α ⊕ List Value) := xs.map .inl ++ [.inr mk]
theorem marked_length {α : Type} (xs : List α) (mk : List Value) : (marked xs mk).length = xs.length + 1 := by simp [marked]
def twin {α : Type} (e : Nat) (d : Kd α) (mk : List Value) : Kd (List α) where
 sz := 1
 E := e :: d.E
 K := fun w xs cs => ∃ A c, cs = [.slice A xs.length c] ∧ xs.length + 1 ≤ c ∧ (orC d).C w A (xs.length + 1) (marked xs mk)
 M := fun w base ok xs cs => ∃ A c, cs = [.slice A xs.length c] ∧ (orC d).R e w base ok (.slice A (xs.length + 1) c) (marked xs mk)
 K_len := by
  rintro w x cs ⟨A, c, rfl, _⟩
  rfl
 K_one := by
  rintro w x cs ⟨A, c, rfl, _⟩ u hu
  rw [List.mem_singleton.1 hu]
  rfl
 K_below := by
  rintro w w1 x cs hb ⟨A, c, rfl, hl, hr⟩
  exact ⟨A, c, rfl, hl, C_below hr hb⟩
 K_of_M := by
  rintro w base ok x cs ⟨A, c, rfl, h⟩
  obtain ⟨h1, h2, h3⟩ := R_reads' h
  rw [marked_length] at h3
  exact ⟨A, c, rfl, h2, h3⟩
 M_mono := by
  rintro w base ok ok' x cs hok ⟨A, c, rfl, h⟩
  exact ⟨A, c, rfl, R_mono h hok⟩
 M_bound := by
  rintro w base ok x cs ⟨A, c, rfl, h⟩
  exact ⟨A, c, rfl, R_bound h⟩
 M_move := by
  rintro w w1 base ok x cs hm ⟨A, c, rfl, h⟩
  exact ⟨A, c, rfl, R_move h hm⟩
 M_lower := by
  rintro w base base' ok x cs hb ⟨A, c, rfl, h⟩
  exact ⟨A, c, rfl, R_lower h hb⟩
theorem sub_twin {α β : Type} {E : List Nat} (e : Nat) (mk : List Value) {G : Kd α → Kd β} (he : e ∈ E) (hG : Sub G E) : Sub (fun d => twin e (G d) mk) E := fun d h q hq => by
 rcases List.mem_cons.1 hq with rfl | hq
 ·exact he
 ·exact hG d h q hq
def begun {α : Type} (xs : List α) (i : Nat) (z : List Value) : List (α ⊕ List Value) := (xs.take i).map .inl ++ List.replicate (xs.length + 1 - i) (.inr z)
end
section
open Go.Proofs.YtllcmggmcogokaaDoorW.PrintWords.Kd
section
variable {α : Type} {d : Kd α} {e base g n cap : Nat} {ok okp : Nat → Prop} {W : World} {xs : List α} {z : List Value}
end
end
def spare : ByteArray := wordOf 777777
end Go.Proofs.YtllcmggmcogokaaDoor.PAll

end
section
namespace Go.Proofs.YtllcmggmcogokaaDoor.PAll
open Go.RowKit Go.Proofs.YtllcmggmcogokaaDoorW.PrintWords Go.Proofs.YtllcmggmcogokaaDoorW.PrintLast Go.Proofs.YtllcmggmcogokaaDoorW.PrintMore
attribute [local go_sem] max2_int min2_int max_two min_two max_three min_three max_four min_four
def w1_BeyondExpr.f (k : Nat) (a0_0 : Int) (a0_1 : ByteArray) (a0_2 : Int) (a0_3 : Int) (a0_4 : ByteArray) (l0_5 : List (S31)) : Option (Bool) := (w1_ExprParts.f k a0_0 a0_1 a0_2 a0_3 a0_4 l0_5 1048576).bind fun t113 => (some (decide (t113 > 1048576)))
set_option maxHeartbeats 8000000 in
set_option maxRecDepth 100000 in
theorem w1_BeyondExpr.calls (k : Nat) (a0_0 : Int) (a0_1 : ByteArray) (a0_2 : Int) (a0_3 : Int) (a0_4 : ByteArray) (A0_5 : Option Addr) (c0_5 : Nat) (l0_5 : List (S31)) (r : Bool) (w : World) (hr0_5 : Kd.C k31 w A0_5 l0_5.length l0_5) (hc0_5 : l0_5.length ≤ c0_5) (h : w1_BeyondExpr.f k a0_0 a0_1 a0_2 a0_3 a0_4 l0_5 = some r) :
  Calls Tryd.prog 8 #[.agg #[.int .i8 a0_0, .string a0_1, .int .i8 a0_2, .int .i64 a0_3, .string a0_4, .slice A0_5 l0_5.length c0_5]] w fun e w' => e = .returned (.bool r) ∧ Below w.heap.size w w' := by
 have hu31 := Tryd.underlying31
 have HR0_5 := Aside0.mk hr0_5
 have HC0_5 := Aside0.mk hc0_5
 clear hr0_5 hc0_5
 have HB := Aside0.mk (Below.refl w.heap.size w)
 have H : ((w1_ExprParts.f k a0_0 a0_1 a0_2 a0_3 a0_4 l0_5 1048576).bind fun t113 => (some (decide (t113 > 1048576)))) = some r := h
 clear h
 replace H := Option.bind_eq_some_iff.mp H
 obtain ⟨t113, A20, H⟩ := H
 replace H : (some (decide (t113 > 1048576))) = some r := H
 have A2 := Aside0.mk A20
 clear A20
 obtain rfl := Option.some.inj H
 go_enter Tryd.func8, Tryd.ntmps8
 go_wp2_with (first | ((with_reducible refine xap (N := 1) rfl ?_); refine xaq ?hg (N := 1) ?hd (cs := #[.int .i8 a0_0, .string a0_1, .int .i8 a0_2, .int .i64 a0_3, .string a0_4, .slice A0_5 l0_5.length c0_5]) (t := 31) ?hr ?_; (case hd => rfl); (case hg => rfl); (case hr => first | (go_simp; done) | (go_simp; rfl)); intro gb112 hg w3 hbox hb; have n0_ := Aside0.mk (xae (by repeat (first | (with_reducible first | exact HB.out | apply xab | apply xaa | apply xac) | exact HB.out)) hb); have n1_ := Aside0.mk (hbox); have n2_ := Aside0.mk ((by rw [hg]; exact (xao (by repeat (first | (with_reducible first | exact HB.out | apply xab | apply xaa | apply xac) | exact HB.out))) : w.heap.size ≤ gb112)); have n3_ := n2_; clear HB; have HB := n0_; have BK112 := n1_; have GW112 := n2_; have GE112 := n3_; clear n0_ n1_ n2_ n3_; clear hb hbox hg; obtain ⟨hcz4_0, hcz4_1, hcz4_2, hcz4_3, hcz4_4, hcz4_5⟩ := cz6 BK112.out; obtain ⟨hfz4_0, hfz4_1, hfz4_2, hfz4_3, hfz4_4, hfz4_5⟩ := fz6 BK112.out) | ((with_reducible refine xay (f := 45) rfl ?_); refine goesL_ (some 4) rfl rfl Tryd.func45 (by kernel_rfl) rfl #[.agg #[.int .i8 a0_0, .string a0_1, .int .i8 a0_2, .int .i64 a0_3, .string a0_4, .slice A0_5 l0_5.length c0_5], .int .i64 1048576] rfl (by (try simp only [List.map_toArray, List.map_cons, List.map_nil]); first | done | rfl | (simp only [List.length_drop, List.length_take]; rfl)) ?_; (with_reducible refine (w1_ExprParts.calls k a0_0 a0_1 a0_2 a0_3 a0_4 (fun k_ => k_ < w.heap.size) _ _ l0_5 1048576 t113 _ ?side1 A2.out).mono ?_); (case side1 => exact Kd.V_mk HC0_5.out (Kd.F_below (Kd.C_F k31_heap HR0_5.out) (by repeat (first | (with_reducible first | exact HB.out | apply xab | apply xaa | apply xac | refine xah ?_ GE112.out) | exact HB.out)))); rintro e w5 ⟨rfl, hb⟩; refine ⟨_, rfl, ?_⟩; have n0_ := Aside0.mk (xak (g := gb112) (o := .cells #[.int .i8 a0_0, .string a0_1, .int .i8 a0_2, .int .i64 a0_3, .string a0_4, .slice A0_5 l0_5.length c0_5] 31 (0, 0)) (by (with_reducible repeat (first | refine xaf ?_ _ | refine xai ?_ | refine xad ?_ _)); exact BK112.out) hb); have n1_ := Aside0.mk (xae (by repeat (first | (with_reducible first | exact HB.out | apply xab | apply xaa | apply xac | refine xah ?_ GE112.out) | exact HB.out)) hb); clear BK112; clear HB; have BK112 := n0_; have HB := n1_; clear n0_ n1_; (try clear hb); (try clear hb2); (try clear hk); (try clear hi)))
 go_ret
 exact ⟨by first | rfl | (simp [xan, xam] <;> rfl) | (simp [*, xan, xam] <;> rfl), by repeat (first | (with_reducible first | exact HB.out | apply xab | apply xaa | apply xac | refine xah ?_ GE112.out) | exact HB.out)⟩
def mk31 : List Value := [.int .i8 99, .string spare, .int .i8 0, .int .i64 0, .string ⟨#[]⟩, .slice none 0 0]
def F31t (d : Kd S31) : Kd S31 := Kd.iso (Kd.pair (Kd.int .i8) (Kd.pair k28 (twin 31 d mk31))) (fun x : S31 => (x.f0, x.f1, x.f2))
theorem sub31t : Kd.Sub F31t [31] := Kd.sub_iso _ (Kd.sub_pair (Kd.sub_const _ (by decide)) (Kd.sub_pair (Kd.sub_const _ (by decide)) (sub_twin 31 mk31 (by decide) Kd.sub_id)))
theorem sz31t : ∀ n, (Kd.upto F31t 6 [31] n).sz = 6 := Kd.upto_sz (fun _ => rfl)
def k31t : Kd S31 := Kd.fix F31t 6 [31] sz31t (Kd.upto_E sub31t)
structure TwExprsI (w wr : World) (g cap : Nat) (l : List S31) (k : Nat) : Prop where
 row : (orC k31t).R 31 wr w.heap.size (fun _ => True) (.slice (some ⟨g, 0, none⟩) (l.length + 1) cap) (begun l k [.int .i8 0, .string ⟨#[]⟩, .int .i8 0, .int .i64 0, .string ⟨#[]⟩, .slice none 0 0])
 below : Below w.heap.size w wr
 base : w.heap.size ≤ g
 lt : g < wr.heap.size
structure TwBindsI (w wr : World) (g cap : Nat) (l : List S41) (k : Nat) : Prop where
 row : (orC k41).R 41 wr w.heap.size (fun _ => True) (.slice (some ⟨g, 0, none⟩) (l.length + 1) cap) (begun l k [.string ⟨#[]⟩, .int .i8 0, .int .i64 0, .string ⟨#[]⟩])
 below : Below w.heap.size w wr
 base : w.heap.size ≤ g
 lt : g < wr.heap.size
theorem eqA41 (d : Nat) (w : World) (x0 y0 : ByteArray) (x1 y1 : Int) (x2 y2 : Int) (x3 y3 : ByteArray) :
  (Op.equalIn (d + 3) 41 (.agg #[.string x0, .int .i8 x1, .int .i64 x2, .string x3]) (.agg #[.string y0, .int .i8 y1, .int .i64 y2, .string y3])).run Tryd.prog w = .ok (x0.toList == y0.toList && ((x1 == y1 && (x2 == y2 && (x3.toList == y3.toList))))) w := by
 refine eqA_of Tryd.underlying41 (by kernel_rfl) ?_
 refine eqf_cons (by rfl) (by go_simp; rfl) (by go_simp; rfl) (by go_simp) ?_
 exact eqf_last (by rfl) (by go_simp) (by go_simp) (eqA26 (d + 0) w _ _ _ _ _ _)
theorem xbn {P : Program} {ops : Array Oper} {rest : List Oper} {o : Oper} {a : Act} {w : World} {Q : Exit → Act → World → Prop} (hw : Region.wanted o (yielded ops a.tmps) = true) (ty : TypeId) (x : Operand) (ho : o.op = .load ty x)
  (g : Nat) (hx : a.eval x = .pointer (some ⟨g, 0, none⟩)) (t : TypeId) (cs : Array Value) (fz : Nat × Nat) (d : TypeDesc) (hg : w.heap[g]? = some (.cells cs t fz))
  (hu : P.underlying ty = some d) (hd : (match d with | .struct _ | .array _ _ => true | _ => false) = true) (hi : (P.info? ty).map (·.size) = some cs.size)
  (h : wpList P ops Q rest (a.put o.dst (.agg cs)) w) : wpList P ops Q (o :: rest) a w :=
 wpList_step fun K hK => by
  rw [if_pos hw]
  unfold Oper.wp execOp
  simp only [ho, hx, Instr.loadAt, Instr.sureAddr, Sem.run_bind, Sem.run_pure, Result.andThen_ok, run_loadVar_row w g t ty cs fz d hg hu hd hi]
  exact hK _ _ h
abbrev FBd (x : S41) : Prop := x.f0.size ≤ reachBytes ∧ FV x.f1
theorem opens_bind (fuel : Nat) : OpensAt Tryd.prog k41 FBd 41 fuel :=
 opens_struct Tryd.underlying41 (by kernel_rfl) (fun n _ => opensSeq_iso (fun q : ByteArray × S26 => (⟨q.1, q.2⟩ : S41)) (fun _ => rfl) (opens_cons rfl (by kernel_rfl) (opens_string (by kernel_rfl) n) (opens_last rfl (by kernel_rfl) (opens_value n))))
abbrev FBs (bs : List S41) : Prop := bs.length * 48 ≤ reachBytes ∧ ∀ b ∈ bs, FBd b
theorem opens_binds (fuel : Nat) : OpensAt Tryd.prog (Kd.slice 41 k41) FBs 32 fuel :=
 opens_slice Tryd.underlying32 (by kernel_rfl) (by kernel_rfl) (fun j _ => opens_bind j)
theorem expr_bound (x : S31) (h : FX x) : ∃ b : Bool, Ev (fun k => w1_BeyondExpr.f k x.f0 x.f1.f0 x.f1.f1.f0 x.f1.f1.f1 x.f1.f1.f2 x.f2) b ∧ (b = false → (exprTermsL x).length < 2000000) := by
 obtain ⟨n, hn⟩ := h
 obtain ⟨r, hr, h0, h1, hr2⟩ := exprParts_ev x 1048576 (by omega) (Int.le_refl _) (fun q => FE_short hn)
 refine ⟨decide (r > 1048576), Ev.of_bind (g := fun t => some (decide (t > 1048576))) hr rfl, fun hb => ?_⟩
 have hle : r ≤ 1048576 := by have := of_decide_eq_false hb; omega
 have e := hr2 hle
 omega
def w4_variable.f (a0 : ByteArray) : Option (ByteArray × Int × Int × ByteArray) := some (a0, 0, 0, (⟨#[]⟩ : ByteArray))
set_option maxHeartbeats 8000000 in
set_option maxRecDepth 100000 in
theorem w4_variable.calls (a0 : ByteArray) (r1 : ByteArray) (r2 : Int) (r3 : Int) (r4 : ByteArray) (w : World) (h : w4_variable.f a0 = some (r1, r2, r3, r4)) :
  Calls Tryd.prog 46 #[.string a0] w fun e w' => e = .returned (.agg #[.string r1, .int .i8 r2, .int .i64 r3, .string r4]) ∧ Below w.heap.size w w' := by
 have hu28 := Tryd.underlying28
 have HB := Aside0.mk (Below.refl w.heap.size w)
 have H : (some (a0, 0, 0, (⟨#[]⟩ : ByteArray))) = some (r1, r2, r3, r4) := h
 clear h
 simp only [Option.some.injEq, Prod.mk.injEq] at H
 obtain ⟨rfl, rfl, rfl, rfl⟩ := H
 go_enter Tryd.func46, Tryd.ntmps46
 go_wp2_with (first | ((with_reducible refine xap (N := 2) rfl ?_); refine xaq ?hg (N := 2) ?hd (cs := #[.string (⟨#[]⟩ : ByteArray), .int .i8 0, .int .i64 0, .string (⟨#[]⟩ : ByteArray)]) (t := 28) ?hr ?_; (case hd => rfl); (case hg => rfl); (case hr => first | (go_simp; done) | (go_simp; rfl)); intro gb133 hg w2 hbox hb; have n0_ := Aside0.mk (xae (by repeat (first | (with_reducible first | exact HB.out | apply xab | apply xaa | apply xac) | exact HB.out)) hb); have n1_ := Aside0.mk (hbox); have n2_ := Aside0.mk ((by rw [hg]; exact (xao (by repeat (first | (with_reducible first | exact HB.out | apply xab | apply xaa | apply xac) | exact HB.out))) : w.heap.size ≤ gb133)); have n3_ := n2_; clear HB; have HB := n0_; have BK133 := n1_; have GW133 := n2_; have GE133 := n3_; clear n0_ n1_ n2_ n3_; clear hb hbox hg; obtain ⟨hcz3_0, hcz3_1, hcz3_2, hcz3_3⟩ := cz4 BK133.out; obtain ⟨hfz3_0, hfz3_1, hfz3_2, hfz3_3⟩ := fz4 BK133.out))
 refine bodyPost_ret (results_cell_row rfl _ _ gb133 28 #[.string a0, .int .i8 0, .int .i64 0, .string (⟨#[]⟩ : ByteArray)] (0, 0) _ rfl (by (with_reducible repeat (first | refine xaf ?_ _ | refine xai ?_ | refine xad ?_ _)); refine xas (cs := #[.string a0, .int .i8 0, .int .i64 0, .string (⟨#[]⟩ : ByteArray)]) ?_ 3 _ rfl; (with_reducible repeat (first | refine xaf ?_ _ | refine xai ?_ | refine xad ?_ _)); refine xas (cs := #[.string a0, .int .i8 0, .int .i64 0, .string (⟨#[]⟩ : ByteArray)]) ?_ 2 _ rfl; (with_reducible repeat (first | refine xaf ?_ _ | refine xai ?_ | refine xad ?_ _)); refine xas (cs := #[.string a0, .int .i8 0, .int .i64 0, .string (⟨#[]⟩ : ByteArray)]) ?_ 1 _ rfl; (with_reducible repeat (first | refine xaf ?_ _ | refine xai ?_ | refine xad ?_ _)); refine xas (cs := #[.string (⟨#[]⟩ : ByteArray), .int .i8 0, .int .i64 0, .string (⟨#[]⟩ : ByteArray)]) ?_ 0 _ rfl; (with_reducible repeat (first | refine xaf ?_ _ | refine xai ?_ | refine xad ?_ _)); exact BK133.out) Tryd.underlying28 rfl (by kernel_rfl)) rfl ?_
 exact ⟨by first | rfl | (simp [xan, xam] <;> rfl) | (simp [*, xan, xam] <;> rfl), by repeat (first | (with_reducible first | exact HB.out | apply xab | apply xaa | apply xac | refine xah ?_ GE133.out) | exact HB.out)⟩
def r1_Num.f (a0 : Int) : Option (Int × Int × ByteArray) := some (1, a0, (⟨#[]⟩ : ByteArray))
set_option maxHeartbeats 8000000 in
set_option maxRecDepth 100000 in
theorem r1_Num.calls (a0 : Int) (r1 : Int) (r2 : Int) (r3 : ByteArray) (w : World) (h : r1_Num.f a0 = some (r1, r2, r3)) :
  Calls Tryd.prog 48 #[.int .i64 a0] w fun e w' => e = .returned (.agg #[.int .i8 r1, .int .i64 r2, .string r3]) ∧ Below w.heap.size w w' := by
 have hu26 := Tryd.underlying26
 have HB := Aside0.mk (Below.refl w.heap.size w)
 have H : (some (1, a0, (⟨#[]⟩ : ByteArray))) = some (r1, r2, r3) := h
 clear h
 simp only [Option.some.injEq, Prod.mk.injEq] at H
 obtain ⟨rfl, rfl, rfl⟩ := H
 go_enter Tryd.func48, Tryd.ntmps48
 go_wp2_with (first | ((with_reducible refine xap (N := 2) rfl ?_); refine xaq ?hg (N := 2) ?hd (cs := #[.int .i8 0, .int .i64 0, .string (⟨#[]⟩ : ByteArray)]) (t := 26) ?hr ?_; (case hd => rfl); (case hg => rfl); (case hr => first | (go_simp; done) | (go_simp; rfl)); intro gb134 hg w2 hbox hb; have n0_ := Aside0.mk (xae (by repeat (first | (with_reducible first | exact HB.out | apply xab | apply xaa | apply xac) | exact HB.out)) hb); have n1_ := Aside0.mk (hbox); have n2_ := Aside0.mk ((by rw [hg]; exact (xao (by repeat (first | (with_reducible first | exact HB.out | apply xab | apply xaa | apply xac) | exact HB.out))) : w.heap.size ≤ gb134)); have n3_ := n2_; clear HB; have HB := n0_; have BK134 := n1_; have GW134 := n2_; have GE134 := n3_; clear n0_ n1_ n2_ n3_; clear hb hbox hg; obtain ⟨hcz3_0, hcz3_1, hcz3_2⟩ := cz3 BK134.out; obtain ⟨hfz3_0, hfz3_1, hfz3_2⟩ := fz3 BK134.out))
 refine bodyPost_ret (results_cell_row rfl _ _ gb134 26 #[.int .i8 1, .int .i64 a0, .string (⟨#[]⟩ : ByteArray)] (0, 0) _ rfl (by (with_reducible repeat (first | refine xaf ?_ _ | refine xai ?_ | refine xad ?_ _)); refine xas (cs := #[.int .i8 1, .int .i64 a0, .string (⟨#[]⟩ : ByteArray)]) ?_ 2 _ rfl; (with_reducible repeat (first | refine xaf ?_ _ | refine xai ?_ | refine xad ?_ _)); refine xas (cs := #[.int .i8 1, .int .i64 0, .string (⟨#[]⟩ : ByteArray)]) ?_ 1 _ rfl; (with_reducible repeat (first | refine xaf ?_ _ | refine xai ?_ | refine xad ?_ _)); refine xas (cs := #[.int .i8 0, .int .i64 0, .string (⟨#[]⟩ : ByteArray)]) ?_ 0 _ rfl; (with_reducible repeat (first | refine xaf ?_ _ | refine xai ?_ | refine xad ?_ _)); exact BK134.out) Tryd.underlying26 rfl (by kernel_rfl)) rfl ?_
 exact ⟨by first | rfl | (simp [xan, xam] <;> rfl) | (simp [*, xan, xam] <;> rfl), by repeat (first | (with_reducible first | exact HB.out | apply xab | apply xaa | apply xac | refine xah ?_ GE134.out) | exact HB.out)⟩
def w4_given.f (a0 : Int) : Option (ByteArray × Int × Int × ByteArray) := (r1_Num.f a0).bind fun bt136 => (some ((⟨#[]⟩ : ByteArray), bt136.1, bt136.2.1, bt136.2.2))
set_option maxHeartbeats 8000000 in
set_option maxRecDepth 100000 in
theorem w4_given.calls (a0 : Int) (r1 : ByteArray) (r2 : Int) (r3 : Int) (r4 : ByteArray) (w : World) (h : w4_given.f a0 = some (r1, r2, r3, r4)) :
  Calls Tryd.prog 47 #[.int .i64 a0] w fun e w' => e = .returned (.agg #[.string r1, .int .i8 r2, .int .i64 r3, .string r4]) ∧ Below w.heap.size w w' := by
 have hu28 := Tryd.underlying28
 have HB := Aside0.mk (Below.refl w.heap.size w)
 have H : ((r1_Num.f a0).bind fun bt136 => (some ((⟨#[]⟩ : ByteArray), bt136.1, bt136.2.1, bt136.2.2))) = some (r1, r2, r3, r4) := h
 clear h
 replace H := Option.bind_eq_some_iff.mp H
 obtain ⟨⟨t136, t137, t138⟩, A20, H⟩ := H
 replace H : (some ((⟨#[]⟩ : ByteArray), t136, t137, t138)) = some (r1, r2, r3, r4) := H
 have A2 := Aside0.mk A20
 clear A20
 simp only [Option.some.injEq, Prod.mk.injEq] at H
 obtain ⟨rfl, rfl, rfl, rfl⟩ := H
 go_enter Tryd.func47, Tryd.ntmps47
 go_wp2_with (first | ((with_reducible refine xap (N := 2) rfl ?_); refine xaq ?hg (N := 2) ?hd (cs := #[.string (⟨#[]⟩ : ByteArray), .int .i8 0, .int .i64 0, .string (⟨#[]⟩ : ByteArray)]) (t := 28) ?hr ?_; (case hd => rfl); (case hg => rfl); (case hr => first | (go_simp; done) | (go_simp; rfl)); intro gb135 hg w3 hbox hb; have n0_ := Aside0.mk (xae (by repeat (first | (with_reducible first | exact HB.out | apply xab | apply xaa | apply xac) | exact HB.out)) hb); have n1_ := Aside0.mk (hbox); have n2_ := Aside0.mk ((by rw [hg]; exact (xao (by repeat (first | (with_reducible first | exact HB.out | apply xab | apply xaa | apply xac) | exact HB.out))) : w.heap.size ≤ gb135)); have n3_ := n2_; clear HB; have HB := n0_; have BK135 := n1_; have GW135 := n2_; have GE135 := n3_; clear n0_ n1_ n2_ n3_; clear hb hbox hg) | ((with_reducible refine xay (f := 48) rfl ?_); refine goesL_ (some 4) rfl rfl Tryd.func48 (by kernel_rfl) rfl #[.int .i64 a0] rfl (by (try simp only [List.map_toArray, List.map_cons, List.map_nil]); first | done | rfl | (simp only [List.length_drop, List.length_take]; rfl)) ?_; (with_reducible refine (r1_Num.calls a0 t136 t137 t138 _ A2.out).mono ?_); rintro e w4 ⟨rfl, hb⟩; refine ⟨_, rfl, ?_⟩; have n0_ := Aside0.mk (xak (g := gb135) (o := .cells #[.string (⟨#[]⟩ : ByteArray), .int .i8 0, .int .i64 0, .string (⟨#[]⟩ : ByteArray)] 28 (0, 0)) (by (with_reducible repeat (first | refine xaf ?_ _ | refine xai ?_ | refine xad ?_ _)); exact BK135.out) hb); have n1_ := Aside0.mk (xae (by repeat (first | (with_reducible first | exact HB.out | apply xab | apply xaa | apply xac | refine xah ?_ GE135.out) | exact HB.out)) hb); clear BK135; clear HB; have BK135 := n0_; have HB := n1_; clear n0_ n1_; (try clear hb); (try clear hb2); (try clear hk); (try clear hi); obtain ⟨hcz5_0, hcz5_1, hcz5_2, hcz5_3⟩ := cz4 BK135.out; obtain ⟨hfz5_0, hfz5_1, hfz5_2, hfz5_3⟩ := fz4 BK135.out))
 refine bodyPost_ret (results_cell_row rfl _ _ gb135 28 #[.string (⟨#[]⟩ : ByteArray), .int .i8 t136, .int .i64 t137, .string t138] (0, 0) _ rfl (by (with_reducible repeat (first | refine xaf ?_ _ | refine xai ?_ | refine xad ?_ _)); refine xas (cs := #[.string (⟨#[]⟩ : ByteArray), .int .i8 t136, .int .i64 t137, .string (⟨#[]⟩ : ByteArray)]) ?_ 3 _ rfl; (with_reducible repeat (first | refine xaf ?_ _ | refine xai ?_ | refine xad ?_ _)); refine xas (cs := #[.string (⟨#[]⟩ : ByteArray), .int .i8 t136, .int .i64 0, .string (⟨#[]⟩ : ByteArray)]) ?_ 2 _ rfl; (with_reducible repeat (first | refine xaf ?_ _ | refine xai ?_ | refine xad ?_ _)); refine xas (cs := #[.string (⟨#[]⟩ : ByteArray), .int .i8 0, .int .i64 0, .string (⟨#[]⟩ : ByteArray)]) ?_ 1 _ rfl; (with_reducible repeat (first | refine xaf ?_ _ | refine xai ?_ | refine xad ?_ _)); refine xas (cs := #[.string (⟨#[]⟩ : ByteArray), .int .i8 0, .int .i64 0, .string (⟨#[]⟩ : ByteArray)]) ?_ 0 _ rfl; (with_reducible repeat (first | refine xaf ?_ _ | refine xai ?_ | refine xad ?_ _)); exact BK135.out) Tryd.underlying28 rfl (by kernel_rfl)) rfl ?_
 exact ⟨by first | rfl | (simp [xan, xam] <;> rfl) | (simp [*, xan, xam] <;> rfl), by repeat (first | (with_reducible first | exact HB.out | apply xab | apply xaa | apply xac | refine xah ?_ GE135.out) | exact HB.out)⟩
end Go.Proofs.YtllcmggmcogokaaDoor.PAll
end
section
namespace Go.Proofs.YtllcmggmcogokaaDoor.PAll
open Go.RowKit Go.Proofs.YtllcmggmcogokaaDoorW.PrintWords Go.Proofs.YtllcmggmcogokaaDoorW.PrintLast Go.Proofs.YtllcmggmcogokaaDoorW.PrintMore
attribute [local go_sem] max2_int min2_int max_two min_two max_three min_three max_four min_four
attribute [local go_sem high] eqA26
def sameV (a b : S26) : Bool := a.f0 == b.f0 && (a.f1 == b.f1 && a.f2.toList == b.f2.toList)
def matchStep (L : List S41) (t : S28) (v : S26) : Option (List S41) :=
 if valueOk v = false then none
 else if t.f0.toList = [] then (if sameV t.f1 v = true then some L else none)
 else if t.f0.toList = [95] then some L
 else match L.find? (fun b => b.f0.data.toList == t.f0.data.toList) with
  | some b => if sameV b.f1 v = true then some L else none
  | none => some (L ++ [⟨t.f0, v⟩])
def matchGo : List (S28 × S26) → List S41 → Option (List S41)
 | [], L => some L
 | (t, v) :: r, L => match matchStep L t v with | some L' => matchGo r L' | none => none
def matchTop (p : ByteArray) (ts : List S28) (q : ByteArray) (vs : List S26) : List S41 × Bool :=
 if atomB p ts = true ∧ p.toList = q.toList ∧ ts.length = vs.length then (match matchGo (ts.zip vs) [] with | some L => (L, true) | none => ([], false)) else ([], false)
structure MI (w0 : World) (m : Nat) (b1 b2 : Array Value) (L M : List S41) (v : Value) (w : World) : Prop where
 hm : w0.heap.size + 2 ≤ m
 below : Below w0.heap.size w0 w
 x1 : w.heap[w0.heap.size]? = some (.cells b1 53 (0, 0))
 x2 : w.heap[w0.heap.size + 1]? = some (.cells b2 77 (0, 0))
 sm : SMap Tryd.prog 9 w m M.length (lookV M)
 row : k41.R 41 w w0.heap.size (fun _ => True) v L
theorem MI.ne {w0 : World} {m : Nat} {b1 b2 : Array Value} {L M : List S41} {v : Value} {w : World} (h : MI w0 m b1 b2 L M v w) : some w0.heap.size ≠ v.ownBlock ∧ some (w0.heap.size + 1) ≠ v.ownBlock ∧ some m ≠ v.ownBlock := by
 refine ⟨Kd.R_ne h.row h.x1 (by decide), Kd.R_ne h.row h.x2 (by decide), ?_⟩
 intro e
 obtain ⟨es, clock, hm⟩ := h.sm.block
 obtain ⟨inner, ho⟩ := Kd.R_own h.row
 obtain ⟨cells, hc⟩ := own_typed ho _ e.symm
 rw [hm] at hc
 cases hc
theorem MI.alloc {w0 : World} {m : Nat} {b1 b2 : Array Value} {L M : List S41} {v : Value} {w : World} (h : MI w0 m b1 b2 L M v w) (o : Obj) : MI w0 m b1 b2 L M v (w.alloc o) :=
 ⟨h.hm, xab h.below o, xad h.x1 o, xad h.x2 o, h.sm.kept (World.grownBy_alloc w o none) (by simp), Kd.R_grown h.row (World.grownBy_alloc w o none) (by simp)⟩
theorem MI.step {w0 : World} {m : Nat} {b1 b2 : Array Value} {L M : List S41} {v : Value} {w w1 : World} (h : MI w0 m b1 b2 L M v w) (hb : Below w.heap.size w w1) : MI w0 m b1 b2 L M v w1 :=
 ⟨h.hm, xae h.below hb, xak h.x1 hb, xak h.x2 hb, SMap.below h.sm hb, Kd.R_below h.row hb⟩
theorem MI.appended {w0 : World} {m : Nat} {b1 b2 : Array Value} {L L' M : List S41} {u : Value} {W w1 : World} (h : MI w0 m b1 b2 L M u W) {u1 : Value} (hR : k41.R 41 w1 w0.heap.size (fun _ => True) u1 L') (hB : Below w0.heap.size w0 w1) (hG : W.grownBy w1 u.ownBlock) : MI w0 m b1 b2 L' M u1 w1 :=
 ⟨h.hm, hB, xba h.x1 hG h.ne.1, xba h.x2 hG h.ne.2.1, h.sm.kept hG h.ne.2.2, hR⟩
theorem MI.mapped {w0 : World} {m : Nat} {b1 b2 : Array Value} {L M M' : List S41} {v : Value} {w w1 : World} (h : MI w0 m b1 b2 L M v w) (hS : SMap Tryd.prog 9 w1 m M'.length (lookV M')) (hG : w.grownBy w1 (some m)) : MI w0 m b1 b2 L M' v w1 :=
 ⟨h.hm, h.below.grown hG h.below.size (fun k e => by have := h.hm; cases e; omega), xba h.x1 hG (fun e => by have := h.hm; cases e; omega), xba h.x2 hG (fun e => by have := h.hm; cases e; omega), hS, Kd.R_mono (Kd.R_grown (Kd.R_bound h.row) hG (fun k hk e => by
  obtain ⟨es, clock, hm⟩ := h.sm.block
  obtain ⟨_, _, _, q, _, cells, hc⟩ := hk
  obtain rfl := Option.some.inj e
  rw [hm] at hc
  cases hc)) (fun _ hk => hk.1)⟩
theorem lookV_some {L : List S41} {s : ByteArray} {b : S41} (h : L.find? (fun b => b.f0.data.toList == s.data.toList) = some b) : lookV L s.data.toList = some (cellsV b.f1) := by
 unfold lookV
 rw [h]
 rfl
theorem lookV_none {L : List S41} {s : ByteArray} (h : L.find? (fun b => b.f0.data.toList == s.data.toList) = none) : lookV L s.data.toList = none := by
 unfold lookV
 rw [h]
 rfl
theorem lookV_snoc (L : List S41) (s : ByteArray) (v : S26) (h : L.find? (fun b => b.f0.data.toList == s.data.toList) = none) : (fun q => if q = s.data.toList then some (cellsV v) else lookV L q) = lookV (L ++ [⟨s, v⟩]) := by
 funext q
 unfold lookV
 rw [List.find?_append]
 by_cases hq : q = s.data.toList
 ·subst hq
  rw [h]
  simp
 ·rw [if_neg hq]
  have : (s.data.toList == q) = false := by rw [beq_eq_false_iff_ne]; exact fun e => hq e.symm
  cases L.find? (fun b => b.f0.data.toList == q) <;> simp [List.find?_cons, this]
set_option maxHeartbeats 4000000 in
set_option maxRecDepth 100000 in
theorem Match_walk (p : ByteArray) (ts : List S28) (q : ByteArray) (vs : List S26) (hfit : Hid (∀ i, (ts.getD i z28).f0.size ≤ maxLen)) (A1 : Option Addr) (c1 : Nat) (A2 : Option Addr) (c2 : Nat) (w : World) (hr1 : Kd.C k28 w A1 ts.length ts) (hc1 : ts.length ≤ c1) (hr2 : Kd.C k26 w A2 vs.length vs) (hc2 : vs.length ≤ c2) (hl : vs.length < 4294967296) (res : List S41 × Bool) (HR : Hid (matchTop p ts q vs = res)) :
  Calls Tryd.prog 49 #[.agg #[.string p, .slice A1 ts.length c1], .agg #[.string q, .slice A2 vs.length c2]] w fun e w' => ∃ v1_ : Value, e = .returned (.tuple #[v1_, .bool res.2]) ∧ Kd.R k41 41 w' w.heap.size (fun _ => True) v1_ res.1 ∧ Below w.heap.size w w' := by
 have hmm := @run_makeMap Tryd.prog
 have HX1 := Lib.hid hr1
 have HX2 := Lib.hid hr2
 have hm2 : vs.length ≤ 9223372036854775807 := hr2.2.1
 have hm1 : ts.length ≤ 9223372036854775807 := hr1.2.1
 clear hr1 hr2
 have HBa := Lib.hid (xab (xab (Below.refl w.heap.size w) (.cells #[.string p, .slice A1 ts.length c1] 53 (0, 0))) (.cells #[.string q, .slice A2 vs.length c2] 77 (0, 0)))
 have HK1 := Lib.hid (xak (xau w (.cells #[.string p, .slice A1 ts.length c1] 53 (0, 0))) (xab (Below.refl _ _) (.cells #[.string q, .slice A2 vs.length c2] 77 (0, 0))))
 have HK2 := Lib.hid (show ((w.alloc (.cells #[.string p, .slice A1 ts.length c1] 53 (0, 0))).alloc (.cells #[.string q, .slice A2 vs.length c2] 77 (0, 0))).heap[w.heap.size + 1]? = some (.cells #[.string q, .slice A2 vs.length c2] 77 (0, 0)) by
  have := xau (w.alloc (.cells #[.string p, .slice A1 ts.length c1] 53 (0, 0))) (.cells #[.string q, .slice A2 vs.length c2] 77 (0, 0))
  simpa using this)
 go_enter Tryd.func49, Tryd.ntmps49
 go_wp2_with fail
 refine (term_CheckAtom.calls p A1 c1 ts (if atomB p ts then 0 else 40) _ (Kd.C_below HX1.out HBa.out) hc1 (checkAtom_eq p ts)).mono ?_
 rintro e w1 ⟨rfl, hb⟩
 have HB1 := Lib.hid (xae HBa.out hb)
 replace HK1 := Lib.hid (xak HK1.out hb)
 replace HK2 := Lib.hid (xak HK2.out hb)
 have a0 : w1.cell? ⟨w.heap.size, 0, none⟩ = some (.string p) := (xag HK1.out 0).trans rfl
 have a1 : w1.cell? ⟨w.heap.size, 1, none⟩ = some (.slice A1 ts.length c1) := (xag HK1.out 1).trans rfl
 have b0 : w1.cell? ⟨w.heap.size + 1, 0, none⟩ = some (.string q) := (xag HK2.out 0).trans rfl
 have b1 : w1.cell? ⟨w.heap.size + 1, 1, none⟩ = some (.slice A2 vs.length c2) := (xag HK2.out 1).trans rfl
 clear hb HBa
 cases hat : atomB p ts with
 | false =>
  have HRE := Lib.hid (show res = ([], false) by rw [← HR.out, matchTop, if_neg (by rw [hat]; simp)])
  go_wp2_with fail
  refine bodyPost_ret (results_tmp2 rfl _ _ _) rfl ?_
  exact ⟨_, by rw [HRE.out]; rfl, by rw [HRE.out]; exact Kd.R_nil _ _ _ _ _, HB1.out⟩
 | true =>
  by_cases hpq : p.toList = q.toList
  ·have hpq1 : (p.toList == q.toList) = true := by simpa using hpq
   by_cases hlen : ts.length = vs.length
   ·have hlen1 : ((ts.length : Int) != (vs.length : Int)) = false := by simp [hlen]
    have HRE := Lib.hid (show res = (match matchGo (ts.zip vs) [] with | some L => (L, true) | none => ([], false)) by rw [← HR.out, matchTop, if_pos ⟨hat, hpq, hlen⟩])
    have HI0 := Lib.hid (show MI w w1.heap.size #[.string p, .slice A1 ts.length c1] #[.string q, .slice A2 vs.length c2] [] [] (.slice none 0 0) (w1.alloc (.map #[] 0)) from
     ⟨blk_lt HK2.out, xab HB1.out _, xad HK1.out _, xad HK2.out _, SMap.made Tryd.prog 9 w1, Kd.R_nil _ _ _ _ _⟩)
    have d1 : (w1.alloc (.map #[] 0)).cell? ⟨w.heap.size + 1, 1, none⟩ = some (.slice A2 vs.length c2) := (xag HI0.out.x2 1).trans rfl
    have HLEN := Lib.hid hlen
    clear hpq hlen
    go_wp2_with fail
    generalize w1.alloc (.map #[] 0) = wa at *
    generalize w1.heap.size = m at *
    clear a0 a1 b0 b1 d1 hlen1
    have hlen := HLEN.out
    have hzl : (ts.zip vs).length = vs.length := by rw [List.length_zip]; omega
    have HZL := Lib.hid hzl
    clear hlen hzl
    go_loopw [7, 36] (fun v i wr => ∃ (k : Nat) (L : List S41), k ≤ vs.length ∧ i = .int .i64 k ∧ Hid (matchGo ((ts.zip vs).drop k) L = matchGo (ts.zip vs) []) ∧ L.length ≤ k ∧ Hid (MI w m #[.string p, .slice A1 ts.length c1] #[.string q, .slice A2 vs.length c2] L L v wr)) (fun _ i _ => vs.length - (intOf i).toNat)
    case atStart => exact ⟨0, [], Nat.zero_le _, rfl, Lib.hid rfl, Nat.le_refl _, HI0⟩
    case round =>
     obtain ⟨k, L, hk, rfl, HP, hL, HI⟩ := hrel
     by_cases hlt : k < vs.length
     ·have hltt : k < ts.length := by have := HLEN.out; omega
      obtain ⟨ad, cs, e0, hsz, hK, hcell⟩ := C_row (Kd.C_below HX2.out HI.out.below) z26 k hlt
      obtain ⟨ad1, cs1, e1, hsz1, hK1, hcell1⟩ := C_row (Kd.C_below HX1.out HI.out.below) z28 k hltt
      subst e0
      subst e1
      have HD := Lib.hid (show (ts.zip vs).drop k = (ts.getD k z28, vs.getD k z26) :: (ts.zip vs).drop (k + 1) by
       rw [List.drop_eq_getElem_cons (by have := HZL.out; omega), List.getElem_zip]
       simp [List.getD_eq_getElem?_getD, List.getElem?_eq_getElem hlt, List.getElem?_eq_getElem hltt])
      have HF := Lib.hid (hfit.out k)
      have hcv := k26_open hK
      have hct := k28_open hK1
      generalize vs.getD k z26 = v at *
      generalize ts.getD k z28 = t at *
      obtain rfl : cs = #[.int .i8 v.f0, .int .i64 v.f1, .string v.f2] := by rw [← Array.toArray_toList (xs := cs), hcv]
      obtain rfl : cs1 = #[.string t.f0, .int .i8 t.f1.f0, .int .i64 t.f1.f1, .string t.f1.f2] := by rw [← Array.toArray_toList (xs := cs1), hct]
      have HCV := Lib.hid hcell
      clear hcell hK hK1 hcv hct hsz hsz1
      have HZa := Lib.hid (xau wr (.cells #[.int .i8 0, .int .i64 0, .string ⟨#[]⟩] 26 (0, 0)))
      have HVa := Lib.hid (row_new wr #[.int .i8 0, .int .i64 0, .string ⟨#[]⟩] #[.int .i8 v.f0, .int .i64 v.f1, .string v.f2] 26)
      have HBw := Lib.hid (below_row wr #[.int .i8 0, .int .i64 0, .string ⟨#[]⟩] #[.int .i8 v.f0, .int .i64 v.f1, .string v.f2] 26)
      have HIa := Lib.hid (HI.out.step HBw.out)
      have HCT := Lib.hid (fun (i : Nat) (u : Value) hu => xaj HBw.out (hcell1 i u hu))
      clear hcell1
      generalize hWa : (wr.alloc (.cells #[.int .i8 0, .int .i64 0, .string ⟨#[]⟩] 26 (0, 0))).setRow wr.heap.size #[.int .i8 v.f0, .int .i64 v.f1, .string v.f2] = Wa at *
      have HZb := Lib.hid (xau Wa (.cells #[.string ⟨#[]⟩, .int .i8 0, .int .i64 0, .string ⟨#[]⟩] 28 (0, 0)))
      have HTb := Lib.hid (row_new Wa #[.string ⟨#[]⟩, .int .i8 0, .int .i64 0, .string ⟨#[]⟩] #[.string t.f0, .int .i8 t.f1.f0, .int .i64 t.f1.f1, .string t.f1.f2] 28)
      have HVb := Lib.hid (xak HVa.out (below_row Wa #[.string ⟨#[]⟩, .int .i8 0, .int .i64 0, .string ⟨#[]⟩] #[.string t.f0, .int .i8 t.f1.f0, .int .i64 t.f1.f1, .string t.f1.f2] 28))
      have HIb := Lib.hid (HIa.out.step (below_row Wa #[.string ⟨#[]⟩, .int .i8 0, .int .i64 0, .string ⟨#[]⟩] #[.string t.f0, .int .i8 t.f1.f0, .int .i64 t.f1.f1, .string t.f1.f2] 28))
      have c1a : Wa.cell? ⟨w.heap.size, 1, none⟩ = some (.slice (some ad1) ts.length c1) := (xag HIa.out.x1 1).trans rfl
      generalize hWb : (Wa.alloc (.cells #[.string ⟨#[]⟩, .int .i8 0, .int .i64 0, .string ⟨#[]⟩] 28 (0, 0))).setRow Wa.heap.size #[.string t.f0, .int .i8 t.f1.f0, .int .i64 t.f1.f1, .string t.f1.f2] = Wb at *
      obtain ⟨r, hr, hrv⟩ := valueOk_tot v
      have HCK := Lib.hid hr
      have HRV := Lib.hid hrv
      clear hr hrv
      go_wp2_with first | ((with_reducible refine xap (N := 40) rfl ?_); (refine xbm rfl 26 (.tmp 39) rfl (ad.add (k * 3)) rfl #[.int .i8 v.f0, .int .i64 v.f1, .string v.f2] _ HCV.out Tryd.underlying26 rfl (by kernel_rfl) ?_)) | ((with_reducible refine xbj (t := 26) (p := 9) rfl ?_); (refine wpList_store_row rfl 26 (.tmp 9) (.tmp 40) rfl wr.heap.size #[.int .i8 v.f0, .int .i64 v.f1, .string v.f2] rfl rfl 26 #[.int .i8 0, .int .i64 0, .string ⟨#[]⟩] HZa.out (by kernel_rfl) rfl (by simp [Value.oneCell']) ?_); rw [hWa]) | ((with_reducible refine xap (N := 45) rfl ?_); (refine xbm rfl 28 (.tmp 44) rfl (ad1.add (k * 4)) rfl #[.string t.f0, .int .i8 t.f1.f0, .int .i64 t.f1.f1, .string t.f1.f2] _ HCT.out Tryd.underlying28 rfl (by kernel_rfl) ?_)) | ((with_reducible refine xbj (t := 28) (p := 10) rfl ?_); (refine wpList_store_row rfl 28 (.tmp 10) (.tmp 45) rfl Wa.heap.size #[.string t.f0, .int .i8 t.f1.f0, .int .i64 t.f1.f1, .string t.f1.f2] rfl rfl 28 #[.string ⟨#[]⟩, .int .i8 0, .int .i64 0, .string ⟨#[]⟩] HZb.out (by kernel_rfl) rfl (by simp [Value.oneCell']) ?_); rw [hWb]) | ((with_reducible refine xap (N := 46) rfl ?_); (refine wpList_load_row rfl 26 (.tmp 9) rfl wr.heap.size rfl 26 #[.int .i8 v.f0, .int .i64 v.f1, .string v.f2] (0, 0) _ HVb.out Tryd.underlying26 rfl (by kernel_rfl) ?_))
      refine (value_Check.calls v.f0 v.f1 v.f2 r Wb HCK.out).mono ?_
      rintro e w3 ⟨rfl, hb⟩
      have HI3 := Lib.hid (HIb.out.step hb)
      have HV3 := Lib.hid (xak HVb.out hb)
      have HT3 := Lib.hid (xak HTb.out hb)
      clear hb HIb HVb HTb HIa HVa HI HCT HCV HZa HZb c1a HBw
      generalize Wa.heap.size = ga at *
      generalize wr.heap.size = gr at *
      clear hWb hWa
      have t0 : w3.cell? ⟨ga, 0, none⟩ = some (.string t.f0) := (xag HT3.out 0).trans rfl
      have t1 : w3.cell? ⟨ga, 1, none⟩ = some (.int .i8 t.f1.f0) := (xag HT3.out 1).trans rfl
      have t2 : w3.cell? ⟨ga, 2, none⟩ = some (.int .i64 t.f1.f1) := (xag HT3.out 2).trans rfl
      have t3 : w3.cell? ⟨ga, 3, none⟩ = some (.string t.f1.f2) := (xag HT3.out 3).trans rfl
      have v0 : w3.cell? ⟨gr, 0, none⟩ = some (.int .i8 v.f0) := (xag HV3.out 0).trans rfl
      have v1 : w3.cell? ⟨gr, 1, none⟩ = some (.int .i64 v.f1) := (xag HV3.out 1).trans rfl
      have v2 : w3.cell? ⟨gr, 2, none⟩ = some (.string v.f2) := (xag HV3.out 2).trans rfl
      have HST := Lib.hid (show matchGo (ts.zip vs) [] = (match matchStep L t v with | some L' => matchGo ((ts.zip vs).drop (k + 1)) L' | none => none) by rw [← HP.out, HD.out]; rfl)
      clear HP HD
      generalize hgg : matchGo (ts.zip vs) [] = gg at *
      have HGG := Lib.hid hgg
      clear hgg
      cases hok : valueOk v with
      | false =>
       have hq2 : (r != 0) = true := by have := HRV.out.symm.trans hok; simpa using this
       have hq1 : (r == 0) = false := HRV.out.symm.trans hok
       have HN := Lib.hid (show res = ([], false) by rw [HRE.out, HST.out, matchStep, if_pos hok])
       clear hok
       go_wp2_with fail
       refine bodyPost_ret (results_tmp2 rfl _ _ _) rfl ?_
       exact ⟨_, by rw [HN.out]; rfl, by rw [HN.out]; exact Kd.R_nil _ _ _ _ _, HI3.out.below⟩
      | true =>
       have hq1 : r = 0 := by have := HRV.out; rw [hok] at this; simpa using this.symm
       subst hq1
       by_cases he : t.f0.toList = []
       ·have he1 : (t.f0.toList == ([] : List UInt8)) = true := by simpa using he
        have he2 : t.f0.toList.isEmpty = true := by rw [he]; rfl
        have HS1 := Lib.hid (show matchStep L t v = (if sameV t.f1 v = true then some L else none) by rw [matchStep, if_neg (by rw [hok]; simp), if_pos he])
        clear he hok
        cases hsv : sameV t.f1 v with
        | true =>
         have HN := Lib.hid (show gg = matchGo ((ts.zip vs).drop (k + 1)) L by rw [HST.out, HS1.out, if_pos hsv])
         unfold sameV at hsv
         go_wp2_with fail
         go_roundw
         case rel => exact ⟨k + 1, L, by omega, by go_num, Lib.hid (HN.out.symm.trans HGG.out.symm), by omega, HI3⟩
         case measure => simp [intOf]; omega
        | false =>
         have HN := Lib.hid (show res = ([], false) by rw [HRE.out, HST.out, HS1.out, if_neg (by rw [hsv]; simp)])
         unfold sameV at hsv
         go_wp2_with fail
         refine bodyPost_ret (results_tmp2 rfl _ _ _) rfl ?_
         exact ⟨_, by rw [HN.out]; rfl, by rw [HN.out]; exact Kd.R_nil _ _ _ _ _, HI3.out.below⟩
       ·have he1 : (t.f0.toList == ([] : List UInt8)) = false := by simpa using he
        have he2 : t.f0.toList.isEmpty = false := by simpa using he
        by_cases hb : t.f0.toList = [95]
        ·have hb1 : (t.f0.toList == ([95] : List UInt8)) = true := by simpa using hb
         have HN := Lib.hid (show gg = matchGo ((ts.zip vs).drop (k + 1)) L by rw [HST.out, matchStep, if_neg (by rw [hok]; simp), if_neg he, if_pos hb])
         clear he hb hok
         go_wp2_with fail
         go_roundw
         case rel => exact ⟨k + 1, L, by omega, by go_num, Lib.hid (HN.out.symm.trans HGG.out.symm), by omega, HI3⟩
         case measure => simp [intOf]; omega
        ·have hb1 : (t.f0.toList == ([95] : List UInt8)) = false := by simpa using hb
         have HS1 := Lib.hid (show matchStep L t v = (match L.find? (fun b => b.f0.data.toList == t.f0.data.toList) with | some b => if sameV b.f1 v = true then some L else none | none => some (L ++ [⟨t.f0, v⟩])) by rw [matchStep, if_neg (by rw [hok]; simp), if_neg he, if_neg hb])
         clear he hb hok
         have hlook := SMap.look_ok (t := 99) (e := 26) HI3.out.sm Tryd.underlying9 (by kernel_rfl) (zero_value _) t.f0 HF.out
         cases hfd : L.find? (fun b => b.f0.data.toList == t.f0.data.toList) with
         | some b =>
          rw [lookV_some hfd, cellsV] at hlook
          have hlook2 : Sem.run Tryd.prog (Instr.lookup 99 (.map (some m)) (.string t.f0) true) w3 = .ok (.tuple #[.agg #[.int .i8 b.f1.f0, .int .i64 b.f1.f1, .string b.f1.f2], .bool true]) w3 := hlook
          clear hlook
          have HI4 := Lib.hid (HI3.out.alloc (.cells #[.int .i8 b.f1.f0, .int .i64 b.f1.f1, .string b.f1.f2] 26 (0, 0)))
          have HV4 := Lib.hid (xad HV3.out (.cells #[.int .i8 b.f1.f0, .int .i64 b.f1.f1, .string b.f1.f2] 26 (0, 0)))
          have HT4 := Lib.hid (xad HT3.out (.cells #[.int .i8 b.f1.f0, .int .i64 b.f1.f1, .string b.f1.f2] 26 (0, 0)))
          have p0 : (w3.alloc (.cells #[.int .i8 b.f1.f0, .int .i64 b.f1.f1, .string b.f1.f2] 26 (0, 0))).cell? ⟨gr, 0, none⟩ = some (.int .i8 v.f0) := (xag HV4.out 0).trans rfl
          have p1 : (w3.alloc (.cells #[.int .i8 b.f1.f0, .int .i64 b.f1.f1, .string b.f1.f2] 26 (0, 0))).cell? ⟨gr, 1, none⟩ = some (.int .i64 v.f1) := (xag HV4.out 1).trans rfl
          have p2 : (w3.alloc (.cells #[.int .i8 b.f1.f0, .int .i64 b.f1.f1, .string b.f1.f2] 26 (0, 0))).cell? ⟨gr, 2, none⟩ = some (.string v.f2) := (xag HV4.out 2).trans rfl
          have q0 : (w3.alloc (.cells #[.int .i8 b.f1.f0, .int .i64 b.f1.f1, .string b.f1.f2] 26 (0, 0))).cell? ⟨ga, 0, none⟩ = some (.string t.f0) := (xag HT4.out 0).trans rfl
          cases hsv : sameV b.f1 v with
          | true =>
           have HN := Lib.hid (show gg = matchGo ((ts.zip vs).drop (k + 1)) L by rw [HST.out, HS1.out, hfd]; simp only [hsv, if_true])
           unfold sameV at hsv
           go_wp2_with fail
           go_roundw
           case rel => exact ⟨k + 1, L, by omega, by go_num, Lib.hid (HN.out.symm.trans HGG.out.symm), by omega, HI4⟩
           case measure => simp [intOf]; omega
          | false =>
           have HN := Lib.hid (show res = ([], false) by rw [HRE.out, HST.out, HS1.out, hfd]; simp only [hsv]; rfl)
           unfold sameV at hsv
           go_wp2_with fail
           refine bodyPost_ret (results_tmp2 rfl _ _ _) rfl ?_
           exact ⟨_, by rw [HN.out]; rfl, by rw [HN.out]; exact Kd.R_nil _ _ _ _ _, HI4.out.below⟩
         | none =>
          rw [lookV_none hfd, cellsV] at hlook
          have hlook2 : Sem.run Tryd.prog (Instr.lookup 99 (.map (some m)) (.string t.f0) true) w3 = .ok (.tuple #[.agg #[.int .i8 0, .int .i64 0, .string ⟨#[]⟩], .bool false]) w3 := hlook
          clear hlook
          have HI4 := Lib.hid (HI3.out.alloc (.cells #[.int .i8 0, .int .i64 0, .string ⟨#[]⟩] 26 (0, 0)))
          have HV4 := Lib.hid (xad HV3.out (.cells #[.int .i8 0, .int .i64 0, .string ⟨#[]⟩] 26 (0, 0)))
          have HT4 := Lib.hid (xad HT3.out (.cells #[.int .i8 0, .int .i64 0, .string ⟨#[]⟩] 26 (0, 0)))
          have p0 : (w3.alloc (.cells #[.int .i8 0, .int .i64 0, .string ⟨#[]⟩] 26 (0, 0))).cell? ⟨gr, 0, none⟩ = some (.int .i8 v.f0) := (xag HV4.out 0).trans rfl
          have p1 : (w3.alloc (.cells #[.int .i8 0, .int .i64 0, .string ⟨#[]⟩] 26 (0, 0))).cell? ⟨gr, 1, none⟩ = some (.int .i64 v.f1) := (xag HV4.out 1).trans rfl
          have p2 : (w3.alloc (.cells #[.int .i8 0, .int .i64 0, .string ⟨#[]⟩] 26 (0, 0))).cell? ⟨gr, 2, none⟩ = some (.string v.f2) := (xag HV4.out 2).trans rfl
          have q0 : (w3.alloc (.cells #[.int .i8 0, .int .i64 0, .string ⟨#[]⟩] 26 (0, 0))).cell? ⟨ga, 0, none⟩ = some (.string t.f0) := (xag HT4.out 0).trans rfl
          have HN := Lib.hid (show gg = matchGo ((ts.zip vs).drop (k + 1)) (L ++ [⟨t.f0, v⟩]) by rw [HST.out, HS1.out, hfd])
          obtain ⟨w5, hrun, hS, hG⟩ := SMap.put (t := 99) (e := 26) HI4.out.sm Tryd.underlying9 (by kernel_rfl) (by unfold maxLen; omega) t.f0 HF.out (cellsV v)
          unfold cellsV at hrun
          have hS2 : SMap Tryd.prog 9 w5 m (L ++ [(⟨t.f0, v⟩ : S41)]).length (lookV (L ++ [(⟨t.f0, v⟩ : S41)])) := by rw [← lookV_snoc L t.f0 v hfd, List.length_append]; exact hS
          have HI5 := Lib.hid (HI4.out.mapped hS2 hG)
          have HV5 := Lib.hid (xba HV4.out hG (fun e => by obtain ⟨es, clock, hm⟩ := HI4.out.sm.block; cases e; rw [HV4.out] at hm; cases hm))
          have HT5 := Lib.hid (xba HT4.out hG (fun e => by obtain ⟨es, clock, hm⟩ := HI4.out.sm.block; cases e; rw [HT4.out] at hm; cases hm))
          have r0 : w5.cell? ⟨ga, 0, none⟩ = some (.string t.f0) := (xag HT5.out 0).trans rfl
          have s0 : w5.cell? ⟨gr, 0, none⟩ = some (.int .i8 v.f0) := (xag HV5.out 0).trans rfl
          have s1 : w5.cell? ⟨gr, 1, none⟩ = some (.int .i64 v.f1) := (xag HV5.out 1).trans rfl
          have s2 : w5.cell? ⟨gr, 2, none⟩ = some (.string v.f2) := (xag HV5.out 2).trans rfl
          obtain ⟨Av, cv2, hv⟩ := Kd.R_slice HI5.out.row
          subst hv
          clear hS hS2 hG hfd
          go_wp2_with (at_builtin; go_loud (refine Kd.R_append k41 (w0 := w) (W := w5) w.heap.size rfl (.tmp 87) (.tmp 92) 32 41 (.agg #[.string ⟨#[]⟩, .int .i8 0, .int .i64 0, .string ⟨#[]⟩]) 48 rfl Tryd.underlying32 info41 rfl (by decide) (by decide) (.slice Av L.length cv2) L (⟨t.f0, v⟩ : S41) [.string t.f0, .int .i8 v.f0, .int .i64 v.f1, .string v.f2] (fun _ => True) (fun _ => False) rfl rfl (k41_mkM _ _ _ (⟨t.f0, v⟩ : S41)) (fun _ h => h.elim) (fun _ _ => trivial) HI5.out.row HI5.out.below HI5.out.below.size (by omega) ?_); intro u1 w6 hR hB1 hG _; have HI6 := Lib.hid (HI5.out.appended hR hB1 hG); clear hR hB1 hG)
          go_roundw
          case rel => exact ⟨k + 1, _, by omega, by go_num, Lib.hid (HN.out.symm.trans HGG.out.symm), by rw [List.length_append, List.length_singleton]; omega, HI6⟩
          case measure => simp [intOf]; omega
     ·have HN := Lib.hid (show res = (L, true) by
       have h1 := HP.out
       rw [List.drop_eq_nil_of_le (by have := HZL.out; omega)] at h1
       rw [HRE.out, ← h1]
       rfl)
      go_wp2_with fail
      refine bodyPost_ret (results_tmp2 rfl _ _ _) rfl ?_
      exact ⟨_, by rw [HN.out]; rfl, by rw [HN.out]; exact HI.out.row, HI.out.below⟩
   ·have HRE := Lib.hid (show res = ([], false) by rw [← HR.out, matchTop, if_neg (fun h => hlen h.2.2)])
    have hlen1 : ((ts.length : Int) != (vs.length : Int)) = true := by simpa using fun e => hlen (by omega)
    clear hpq
    go_wp2_with fail
    refine bodyPost_ret (results_tmp2 rfl _ _ _) rfl ?_
    exact ⟨_, by rw [HRE.out]; rfl, by rw [HRE.out]; exact Kd.R_nil _ _ _ _ _, HB1.out⟩
  ·have HRE := Lib.hid (show res = ([], false) by rw [← HR.out, matchTop, if_neg (fun h => hpq h.2.1)])
   have hpq1 : (p.toList == q.toList) = false := by simpa using hpq
   clear hpq
   go_wp2_with fail
   refine bodyPost_ret (results_tmp2 rfl _ _ _) rfl ?_
   exact ⟨_, by rw [HRE.out]; rfl, by rw [HRE.out]; exact Kd.R_nil _ _ _ _ _, HB1.out⟩
def term_Match.f (a0_0 : ByteArray) (l0_1 : List (S28)) (a1_0 : ByteArray) (l1_1 : List (S26)) : Option (List (S41) × Bool) := if varsFit l0_1 = true ∧ l1_1.length < 4294967296 then some (matchTop a0_0 l0_1 a1_0 l1_1) else none
theorem term_Match.calls (a0_0 : ByteArray) (A0_1 : Option Addr) (c0_1 : Nat) (l0_1 : List (S28)) (a1_0 : ByteArray) (A1_1 : Option Addr) (c1_1 : Nat) (l1_1 : List (S26)) (r1 : List (S41)) (r2 : Bool) (w : World) (hr0_1 : Kd.C k28 w A0_1 l0_1.length l0_1) (hc0_1 : l0_1.length ≤ c0_1) (hr1_1 : Kd.C k26 w A1_1 l1_1.length l1_1) (hc1_1 : l1_1.length ≤ c1_1) (h : term_Match.f a0_0 l0_1 a1_0 l1_1 = some (r1, r2)) :
  Calls Tryd.prog 49 #[.agg #[.string a0_0, .slice A0_1 l0_1.length c0_1], .agg #[.string a1_0, .slice A1_1 l1_1.length c1_1]] w fun e w' => ∃ v1_ : Value, e = .returned (.tuple #[v1_, .bool r2]) ∧ Kd.R k41 41 w' w.heap.size (fun _ => True) v1_ r1 ∧ Below w.heap.size w w' := by
 unfold term_Match.f at h
 by_cases hf : varsFit l0_1 = true ∧ l1_1.length < 4294967296
 ·rw [if_pos hf] at h
  refine Match_walk a0_0 l0_1 a1_0 l1_1 (Lib.hid (fun i => ?_)) A0_1 c0_1 A1_1 c1_1 w hr0_1 hc0_1 hr1_1 hc1_1 hf.2 (r1, r2) (Lib.hid (Option.some.inj h))
  have hv := hf.1
  unfold varsFit at hv
  rw [Bool.and_eq_true, decide_eq_true_eq, List.all_eq_true] at hv
  rw [List.getD_eq_getElem?_getD]
  cases hq : l0_1[i]? with
  | none => exact Nat.zero_le _
  | some x =>
   have := hv.2 x (List.mem_of_getElem? hq)
   rw [decide_eq_true_eq] at this
   show x.f0.size ≤ maxLen
   unfold maxLen
   omega
 ·rw [if_neg hf] at h
  cases h
end Go.Proofs.YtllcmggmcogokaaDoor.PAll
end
section
namespace Go.Proofs.YtllcmggmcogokaaDoor.PAll
open Go.RowKit Go.Proofs.YtllcmggmcogokaaDoorW.PrintWords Go.Proofs.YtllcmggmcogokaaDoorW.PrintLast Go.Proofs.YtllcmggmcogokaaDoorW.PrintMore
attribute [local go_sem] max2_int min2_int max_two min_two max_three min_three max_four min_four
theorem C_rows {α : Type} {d : Kd α} {w : World} {g : Nat} {arr : Array Value} {t : TypeId} (hb : w.heap[g]? = some (.cells arr t (0, 0))) (xs : List α) (hl : xs.length ≤ 9223372036854775807)
  (h : ∀ (j : Nat) (x : α), xs[j]? = some x → ∃ cs : List Value, cs.length = d.sz ∧ d.K w x cs ∧ ∀ (i : Nat) (u : Value), cs[i]? = some u → arr[j * d.sz + i]? = some u) : d.C w (some ⟨g, 0, none⟩) xs.length xs := by
 refine ⟨rfl, hl, fun _ => ⟨⟨g, 0, none⟩, rfl, fun j p hj => ?_⟩⟩
 obtain ⟨cs, h1, h2, h3⟩ := h j p hj
 refine ⟨cs, h1, h2, fun i u hu => ?_⟩
 have h4 := h3 i u hu
 have h5 := (xag hb (j * d.sz + i)).trans h4
 rw [add_plain]
 exact h5
def liveTs : List S28 := [⟨⟨#[88]⟩, ⟨0, 0, ⟨#[]⟩⟩⟩, ⟨⟨#[95]⟩, ⟨0, 0, ⟨#[]⟩⟩⟩, ⟨⟨#[]⟩, ⟨1, 5, ⟨#[]⟩⟩⟩]
def liveVs (n : Int) : List S26 := [⟨1, 1, ⟨#[]⟩⟩, ⟨1, 2, ⟨#[]⟩⟩, ⟨1, n, ⟨#[]⟩⟩]
theorem varsFit_live : varsFit liveTs = true ∧ (liveVs 5).length < 4294967296 ∧ (liveVs 6).length < 4294967296 := ⟨by kernel_rfl, by decide, by decide⟩
theorem live_match : matchTop ⟨#[112]⟩ liveTs ⟨#[112]⟩ (liveVs 5) = ([⟨⟨#[88]⟩, ⟨1, 1, ⟨#[]⟩⟩⟩], true) := by kernel_rfl
theorem live_not : matchTop ⟨#[112]⟩ liveTs ⟨#[112]⟩ (liveVs 6) = ([], false) := by kernel_rfl
theorem live_m5 : term_Match.f ⟨#[112]⟩ liveTs ⟨#[112]⟩ (liveVs 5) = some ([⟨⟨#[88]⟩, ⟨1, 1, ⟨#[]⟩⟩⟩], true) := by rw [term_Match.f, if_pos ⟨varsFit_live.1, varsFit_live.2.1⟩, live_match]
theorem live_m6 : term_Match.f ⟨#[112]⟩ liveTs ⟨#[112]⟩ (liveVs 6) = some ([], false) := by rw [term_Match.f, if_pos ⟨varsFit_live.1, varsFit_live.2.2⟩, live_not]
theorem live_eval : evalTop [⟨⟨#[88]⟩, ⟨1, 1, ⟨#[]⟩⟩⟩] ⟨2, ⟨⟨#[]⟩, ⟨0, 0, ⟨#[]⟩⟩⟩, [⟨0, ⟨⟨#[88]⟩, ⟨0, 0, ⟨#[]⟩⟩⟩, []⟩, ⟨0, ⟨⟨#[]⟩, ⟨1, 2, ⟨#[]⟩⟩⟩, []⟩]⟩ = (1, 3, ⟨#[]⟩, true) := by kernel_rfl
theorem live_terms (w : World) (g : Nat) (h : w.heap[g]? = some (.cells #[.string ⟨#[88]⟩, .int .i8 0, .int .i64 0, .string ⟨#[]⟩, .string ⟨#[95]⟩, .int .i8 0, .int .i64 0, .string ⟨#[]⟩, .string ⟨#[]⟩, .int .i8 1, .int .i64 5, .string ⟨#[]⟩] 28 (0, 0))) : Kd.C k28 w (some ⟨g, 0, none⟩) 3 liveTs := by
 refine C_rows h liveTs (by decide) (fun j x hj => ?_)
 match j, hj with
 | 0, hj => obtain rfl := Option.some.inj hj; exact ⟨_, rfl, k28_mk _ _, fun i u hu => by rcases i with _ | _ | _ | _ | i <;> first | exact hu | cases hu⟩
 | 1, hj => obtain rfl := Option.some.inj hj; exact ⟨_, rfl, k28_mk _ _, fun i u hu => by rcases i with _ | _ | _ | _ | i <;> first | exact hu | cases hu⟩
 | 2, hj => obtain rfl := Option.some.inj hj; exact ⟨_, rfl, k28_mk _ _, fun i u hu => by rcases i with _ | _ | _ | _ | i <;> first | exact hu | cases hu⟩
theorem live_vals (w : World) (g : Nat) (n : Int) (h : w.heap[g]? = some (.cells #[.int .i8 1, .int .i64 1, .string ⟨#[]⟩, .int .i8 1, .int .i64 2, .string ⟨#[]⟩, .int .i8 1, .int .i64 n, .string ⟨#[]⟩] 26 (0, 0))) : Kd.C k26 w (some ⟨g, 0, none⟩) 3 (liveVs n) := by
 refine C_rows h (liveVs n) (by simp [liveVs]) (fun j x hj => ?_)
 match j, hj with
 | 0, hj => obtain rfl := Option.some.inj hj; exact ⟨_, rfl, k26_mk _ _, fun i u hu => by rcases i with _ | _ | _ | i <;> first | exact hu | cases hu⟩
 | 1, hj => obtain rfl := Option.some.inj hj; exact ⟨_, rfl, k26_mk _ _, fun i u hu => by rcases i with _ | _ | _ | i <;> first | exact hu | cases hu⟩
 | 2, hj => obtain rfl := Option.some.inj hj; exact ⟨_, rfl, k26_mk _ _, fun i u hu => by rcases i with _ | _ | _ | i <;> first | exact hu | cases hu⟩
def liveKids : List S31 := [⟨0, ⟨⟨#[88]⟩, ⟨0, 0, ⟨#[]⟩⟩⟩, []⟩, ⟨0, ⟨⟨#[]⟩, ⟨1, 2, ⟨#[]⟩⟩⟩, []⟩]
theorem live_kids (w : World) (g : Nat) (h : w.heap[g]? = some (.cells #[.int .i8 0, .string ⟨#[88]⟩, .int .i8 0, .int .i64 0, .string ⟨#[]⟩, .slice none 0 0, .int .i8 0, .string ⟨#[]⟩, .int .i8 1, .int .i64 2, .string ⟨#[]⟩, .slice none 0 0] 31 (0, 0))) : Kd.C k31 w (some ⟨g, 0, none⟩) 2 liveKids := by
 refine C_rows h liveKids (by decide) (fun j x hj => ?_)
 match j, hj with
 | 0, hj => obtain rfl := Option.some.inj hj; exact ⟨_, rfl, k31_mk _ _ (A5 := none) (c5 := 0) (Nat.le_refl _) (Kd.C_nil _ _), fun i u hu => by rcases i with _ | _ | _ | _ | _ | _ | i <;> first | exact hu | cases hu⟩
 | 1, hj => obtain rfl := Option.some.inj hj; exact ⟨_, rfl, k31_mk _ _ (A5 := none) (c5 := 0) (Nat.le_refl _) (Kd.C_nil _ _), fun i u hu => by rcases i with _ | _ | _ | _ | _ | _ | i <;> first | exact hu | cases hu⟩
theorem live_e : term_Eval.f 2 ⟨#[]⟩ 0 0 ⟨#[]⟩ liveKids [(⟨⟨#[88]⟩, ⟨1, 1, ⟨#[]⟩⟩⟩ : S41)] = some (1, 3, ⟨#[]⟩, true) := by
 rw [term_Eval.f, if_pos ⟨by kernel_rfl, fun _ => by kernel_rfl⟩]
 exact congrArg some live_eval
theorem live_ca : term_CheckAtom.f ⟨#[112]⟩ liveTs = some 0 := by kernel_rfl
theorem live_check (w : World) (g : Nat) (h : w.heap[g]? = some (.cells #[.string ⟨#[88]⟩, .int .i8 0, .int .i64 0, .string ⟨#[]⟩, .string ⟨#[95]⟩, .int .i8 0, .int .i64 0, .string ⟨#[]⟩, .string ⟨#[]⟩, .int .i8 1, .int .i64 5, .string ⟨#[]⟩] 28 (0, 0))) : Calls Tryd.prog 50 #[.agg #[.string ⟨#[112]⟩, .slice (some ⟨g, 0, none⟩) 3 3]] w fun e w' => e = .returned (.int .i64 0) ∧ Below w.heap.size w w' :=
 term_CheckAtom.calls ⟨#[112]⟩ (some ⟨g, 0, none⟩) 3 liveTs 0 _ (live_terms _ _ h) (by decide) live_ca
set_option maxHeartbeats 4000000 in
set_option maxRecDepth 100000 in
theorem lives_walk (w : World) (hT : TabA w) : Calls Tryd.prog 9 #[] w fun e w' => e = .returned (.bool true) ∧ Below w.heap.size w w' := by
 have HT := Lib.hid hT
 clear hT
 go_enter Tryd.func9, Tryd.ntmps9
 go_wp2_with fail
 refine (w4_variable.calls ⟨#[88]⟩ ⟨#[88]⟩ 0 0 ⟨#[]⟩ _ rfl).mono ?_
 rintro e w1 ⟨rfl, hb⟩
 have HB := Lib.hid hb
 clear hb
 go_wp2_with fail
 refine (w4_variable.calls ⟨#[95]⟩ ⟨#[95]⟩ 0 0 ⟨#[]⟩ _ rfl).mono ?_
 rintro e w2 ⟨rfl, hb⟩
 replace HB := Lib.hid (xae HB.out hb)
 clear hb
 go_wp2_with fail
 refine (w4_given.calls 5 ⟨#[]⟩ 1 5 ⟨#[]⟩ _ rfl).mono ?_
 rintro e w3 ⟨rfl, hb⟩
 replace HB := Lib.hid (xae HB.out hb)
 clear hb
 go_wp2_with fail
 have HG := Lib.hid (xad (xau w3 (.cells #[.string ⟨#[88]⟩, .int .i8 0, .int .i64 0, .string ⟨#[]⟩, .string ⟨#[95]⟩, .int .i8 0, .int .i64 0, .string ⟨#[]⟩, .string ⟨#[]⟩, .int .i8 1, .int .i64 5, .string ⟨#[]⟩] 28 (0, 0))) (.cells #[.string ⟨#[112]⟩, .slice (some ⟨w3.heap.size, 0, none⟩) 3 3] 53 (0, 0)))
 have HP : Hid (((w3.alloc (.cells #[.string ⟨#[88]⟩, .int .i8 0, .int .i64 0, .string ⟨#[]⟩, .string ⟨#[95]⟩, .int .i8 0, .int .i64 0, .string ⟨#[]⟩, .string ⟨#[]⟩, .int .i8 1, .int .i64 5, .string ⟨#[]⟩] 28 (0, 0))).alloc (.cells #[.string ⟨#[112]⟩, .slice (some ⟨w3.heap.size, 0, none⟩) 3 3] 53 (0, 0))).heap[w3.heap.size + 1]? = some (.cells #[.string ⟨#[112]⟩, .slice (some ⟨w3.heap.size, 0, none⟩) 3 3] 53 (0, 0))) := Lib.hid (by have := xau (w3.alloc (.cells #[.string ⟨#[88]⟩, .int .i8 0, .int .i64 0, .string ⟨#[]⟩, .string ⟨#[95]⟩, .int .i8 0, .int .i64 0, .string ⟨#[]⟩, .string ⟨#[]⟩, .int .i8 1, .int .i64 5, .string ⟨#[]⟩] 28 (0, 0))) (.cells #[.string ⟨#[112]⟩, .slice (some ⟨w3.heap.size, 0, none⟩) 3 3] 53 (0, 0)); simpa using this)
 replace HB := Lib.hid (xab (xab HB.out (.cells #[.string ⟨#[88]⟩, .int .i8 0, .int .i64 0, .string ⟨#[]⟩, .string ⟨#[95]⟩, .int .i8 0, .int .i64 0, .string ⟨#[]⟩, .string ⟨#[]⟩, .int .i8 1, .int .i64 5, .string ⟨#[]⟩] 28 (0, 0))) (.cells #[.string ⟨#[112]⟩, .slice (some ⟨w3.heap.size, 0, none⟩) 3 3] 53 (0, 0)))
 generalize ((w3.alloc (.cells #[.string ⟨#[88]⟩, .int .i8 0, .int .i64 0, .string ⟨#[]⟩, .string ⟨#[95]⟩, .int .i8 0, .int .i64 0, .string ⟨#[]⟩, .string ⟨#[]⟩, .int .i8 1, .int .i64 5, .string ⟨#[]⟩] 28 (0, 0))).alloc (.cells #[.string ⟨#[112]⟩, .slice (some ⟨w3.heap.size, 0, none⟩) 3 3] 53 (0, 0))) = w4 at *
 generalize w3.heap.size = gT at *
 refine (r1_Num.calls 1 1 1 ⟨#[]⟩ _ rfl).mono ?_
 rintro e w5 ⟨rfl, hb⟩
 replace HB := Lib.hid (xae HB.out hb)
 replace HG := Lib.hid (xak HG.out hb)
 replace HP := Lib.hid (xak HP.out hb)
 clear hb
 go_wp2_with fail
 refine (r1_Num.calls 2 1 2 ⟨#[]⟩ _ rfl).mono ?_
 rintro e w6 ⟨rfl, hb⟩
 replace HB := Lib.hid (xae HB.out hb)
 replace HG := Lib.hid (xak HG.out hb)
 replace HP := Lib.hid (xak HP.out hb)
 clear hb
 go_wp2_with fail
 refine (r1_Num.calls 5 1 5 ⟨#[]⟩ _ rfl).mono ?_
 rintro e w7 ⟨rfl, hb⟩
 replace HB := Lib.hid (xae HB.out hb)
 replace HG := Lib.hid (xak HG.out hb)
 replace HP := Lib.hid (xak HP.out hb)
 clear hb
 have HG8 := Lib.hid (xad (xad HG.out (.cells #[.int .i8 1, .int .i64 1, .string ⟨#[]⟩, .int .i8 1, .int .i64 2, .string ⟨#[]⟩, .int .i8 1, .int .i64 5, .string ⟨#[]⟩] 26 (0, 0))) (.cells #[.string ⟨#[112]⟩, .slice (some ⟨w7.heap.size, 0, none⟩) 3 3] 77 (0, 0)))
 have HP8 := Lib.hid (xad (xad HP.out (.cells #[.int .i8 1, .int .i64 1, .string ⟨#[]⟩, .int .i8 1, .int .i64 2, .string ⟨#[]⟩, .int .i8 1, .int .i64 5, .string ⟨#[]⟩] 26 (0, 0))) (.cells #[.string ⟨#[112]⟩, .slice (some ⟨w7.heap.size, 0, none⟩) 3 3] 77 (0, 0)))
 have HV8 := Lib.hid (xad (xau w7 (.cells #[.int .i8 1, .int .i64 1, .string ⟨#[]⟩, .int .i8 1, .int .i64 2, .string ⟨#[]⟩, .int .i8 1, .int .i64 5, .string ⟨#[]⟩] 26 (0, 0))) (.cells #[.string ⟨#[112]⟩, .slice (some ⟨w7.heap.size, 0, none⟩) 3 3] 77 (0, 0)))
 have HF8 : Hid (((w7.alloc (.cells #[.int .i8 1, .int .i64 1, .string ⟨#[]⟩, .int .i8 1, .int .i64 2, .string ⟨#[]⟩, .int .i8 1, .int .i64 5, .string ⟨#[]⟩] 26 (0, 0))).alloc (.cells #[.string ⟨#[112]⟩, .slice (some ⟨w7.heap.size, 0, none⟩) 3 3] 77 (0, 0))).heap[w7.heap.size + 1]? = some (.cells #[.string ⟨#[112]⟩, .slice (some ⟨w7.heap.size, 0, none⟩) 3 3] 77 (0, 0))) := Lib.hid (by have := xau (w7.alloc (.cells #[.int .i8 1, .int .i64 1, .string ⟨#[]⟩, .int .i8 1, .int .i64 2, .string ⟨#[]⟩, .int .i8 1, .int .i64 5, .string ⟨#[]⟩] 26 (0, 0))) (.cells #[.string ⟨#[112]⟩, .slice (some ⟨w7.heap.size, 0, none⟩) 3 3] 77 (0, 0)); simpa using this)
 have p0 : ((w7.alloc (.cells #[.int .i8 1, .int .i64 1, .string ⟨#[]⟩, .int .i8 1, .int .i64 2, .string ⟨#[]⟩, .int .i8 1, .int .i64 5, .string ⟨#[]⟩] 26 (0, 0))).alloc (.cells #[.string ⟨#[112]⟩, .slice (some ⟨w7.heap.size, 0, none⟩) 3 3] 77 (0, 0))).cell? ⟨gT + 1, 0, none⟩ = some (.string ⟨#[112]⟩) := (xag HP8.out 0).trans rfl
 have p1 : ((w7.alloc (.cells #[.int .i8 1, .int .i64 1, .string ⟨#[]⟩, .int .i8 1, .int .i64 2, .string ⟨#[]⟩, .int .i8 1, .int .i64 5, .string ⟨#[]⟩] 26 (0, 0))).alloc (.cells #[.string ⟨#[112]⟩, .slice (some ⟨w7.heap.size, 0, none⟩) 3 3] 77 (0, 0))).cell? ⟨gT + 1, 1, none⟩ = some (.slice (some ⟨gT, 0, none⟩) 3 3) := (xag HP8.out 1).trans rfl
 have HB8 := Lib.hid (xab (xab HB.out (.cells #[.int .i8 1, .int .i64 1, .string ⟨#[]⟩, .int .i8 1, .int .i64 2, .string ⟨#[]⟩, .int .i8 1, .int .i64 5, .string ⟨#[]⟩] 26 (0, 0))) (.cells #[.string ⟨#[112]⟩, .slice (some ⟨w7.heap.size, 0, none⟩) 3 3] 77 (0, 0)))
 have HLB : Hid (w.heap.size ≤ w7.heap.size) := Lib.hid HB.out.size
 have HLT : Hid (gT < w7.heap.size) := Lib.hid (by obtain ⟨h, _⟩ := Array.getElem?_eq_some_iff.1 HG.out; exact h)
 clear HG HP
 go_wp2_with fail
 refine (term_Match.calls ⟨#[112]⟩ (some ⟨gT, 0, none⟩) 3 liveTs ⟨#[112]⟩ (some ⟨w7.heap.size, 0, none⟩) 3 (liveVs 5) _ _ _ (live_terms _ _ HG8.out) (by decide) (live_vals _ _ 5 HV8.out) (by decide) (h := live_m5)).mono ?_
 rintro e w9 ⟨v, rfl, hR, hb⟩
 obtain ⟨A, c, he⟩ := Kd.R_slice hR
 have hv : v = .slice A 1 c := he
 subst hv
 obtain ⟨gR, HR⟩ : ∃ gR, Hid (Kd.R k41 41 w9 gR (fun _ => True) (.slice A 1 c) [(⟨⟨#[88]⟩, ⟨1, 1, ⟨#[]⟩⟩⟩ : S41)]) := ⟨_, Lib.hid hR⟩
 replace HB := Lib.hid (xae HB8.out hb)
 have HG := Lib.hid (xak HG8.out hb)
 have HP := Lib.hid (xak HP8.out hb)
 have HV := Lib.hid (xak HV8.out hb)
 have HF := Lib.hid (xak HF8.out hb)
 clear hR hb he HB8 HG8 HP8 HV8 HF8 p0 p1
 generalize w7.heap.size = gV at *
 go_wp2_with fail
 refine start_ (n := 5) (S := fun w' => w'.cell? ⟨gV + 1, 1, none⟩ = some (.slice (some ⟨gV, 0, none⟩) 3 3) ∧ w'.heap[gT]? = some (.cells #[.string ⟨#[88]⟩, .int .i8 0, .int .i64 0, .string ⟨#[]⟩, .string ⟨#[95]⟩, .int .i8 0, .int .i64 0, .string ⟨#[]⟩, .string ⟨#[]⟩, .int .i8 1, .int .i64 5, .string ⟨#[]⟩] 28 (0, 0)) ∧ w'.heap[gT + 1]? = some (.cells #[.string ⟨#[112]⟩, .slice (some ⟨gT, 0, none⟩) 3 3] 53 (0, 0)) ∧ w'.heap[gV]? = some (.cells #[.int .i8 1, .int .i64 1, .string ⟨#[]⟩, .int .i8 1, .int .i64 2, .string ⟨#[]⟩, .int .i8 1, .int .i64 5, .string ⟨#[]⟩] 26 (0, 0)) ∧ w'.heap[gV + 1]? = some (.cells #[.string ⟨#[112]⟩, .slice (some ⟨gV, 0, none⟩) 3 3] 77 (0, 0)) ∧ Hid (Kd.R k41 41 w' gR (fun _ => True) (.slice A 1 c) [(⟨⟨#[88]⟩, ⟨1, 1, ⟨#[]⟩⟩⟩ : S41)]) ∧ Hid (Below w.heap.size w w')) (ds := [4]) #[false, false, false, false, false] (by kernel_rfl) rfl rfl ⟨((xag HF.out 1).trans rfl), HG.out, HP.out, HV.out, HF.out, (Lib.hid (Kd.R_below HR.out (xaw (Below.refl _ _)))), (Lib.hid (xaw HB.out))⟩ (fun hHeld => ?_)
 refine pure_ (i := 0) (N := some 25) (v := ?_) (a' := ?_) #[true, false, false, false, false] rfl rfl (by kernel_rfl) (fun _ _ _ h => h) (Or.inl ⟨by rfl, ?_⟩) ?_ ?_
 rotate_left
 ·intro w'
  go_simp
  with_reducible rfl
 rotate_left
 ·simp only [Act.put, sI, sZ, sS, i64_w, i32_w]
  rfl
 refine take_ (i := 1) (N := some 26) (v := ?_) (a' := ?_) #[true, true, false, false, false] rfl rfl (by kernel_rfl) (fun _ _ _ h => h) (Or.inl ⟨by rfl, ?_⟩) hHeld ?_ ?_
 rotate_left
 ·rintro w' ⟨s0, s1, s2, s3, s4, s5, s6⟩
  go_simp
  with_reducible rfl
 rotate_left
 ·simp only [Act.put, sI, sZ, sS, i64_w, i32_w]
  rfl
 refine one_ (i := 2) (N := some 27) #[true, true, true, false, false] rfl rfl (by kernel_rfl) (by decide) (fun K hK => ?_)
 obtain ⟨s0, s1, s2, s3, s4, s5, s6⟩ := hHeld
 refine goes_ Tryd.func48 (by kernel_rfl) rfl #[.int .i64 6] (by rfl) rfl rfl (by simp only [List.map_toArray, List.map_cons, List.map_nil]; rfl) ?_
 with_reducible refine (r1_Num.calls 6 1 6 ⟨#[]⟩ _ rfl).mono ?_
 rintro ee w10 ⟨rfl, hb⟩
 refine ⟨_, rfl, ?_⟩
 refine hK.out _ _ ⟨(xaj hb s0), (xak s1 hb), (xak s2 hb), (xak s3 hb), (xak s4 hb), (Lib.hid (Kd.R_below s5.out hb)), (Lib.hid (xae s6.out hb))⟩ (fun hHeld => ?_)
 clear hK K
 refine norm_ (a' := ?_) ?_ ?_
 rotate_left
 ·show Act.put _ (some 27) _ = _
  simp only [Act.put, sI, sZ, sS, i64_w, i32_w]
  rfl
 refine pure_ (i := 3) (N := some 28) (v := ?_) (a' := ?_) #[true, true, true, true, false] rfl rfl (by kernel_rfl) (fun _ _ _ h => h) (Or.inl ⟨by rfl, ?_⟩) ?_ ?_
 rotate_left
 ·intro w'
  go_simp
  with_reducible rfl
 rotate_left
 ·simp only [Act.put, sI, sZ, sS, i64_w, i32_w]
  rfl
 refine last_ (i := 4) (N := none) #[true, true, true, true, true] rfl rfl (by kernel_rfl) (by decide) (fun K hK => ?_)
 obtain ⟨s0, s1, s2, s3, s4, s5, s6⟩ := hHeld
 have z0 := (xag s3 6).trans rfl
 have z1 := (xag s3 7).trans rfl
 have z2 := (xag s3 8).trans rfl
 have y0 := xal s3 6
 have y1 := xal s3 7
 have y2 := xal s3 8
 refine skip_ (w1 := ?_) (by rfl) rfl ?_ ?_
 rotate_left
 ·go_simp
  rfl
 refine hK.out _ _ ?_
 clear hK K
 refine done_ (by kernel_rfl) ?_
 have hne : gT ≠ gV := by have := HLT.out; omega
 have hne1 : gT + 1 ≠ gV := by rintro rfl; rw [s2] at s3; cases s3
 have HG1 : Hid ((((w10.setCell ⟨gV, 6, none⟩ (.int .i8 1)).setCell ⟨gV, 7, none⟩ (.int .i64 6)).setCell ⟨gV, 8, none⟩ (.string ⟨#[]⟩)).heap[gT]? = _) := Lib.hid (xax (xax (xax s1 (by simpa using hne) _) (by simpa using hne) _) (by simpa using hne) _)
 have HP1 : Hid ((((w10.setCell ⟨gV, 6, none⟩ (.int .i8 1)).setCell ⟨gV, 7, none⟩ (.int .i64 6)).setCell ⟨gV, 8, none⟩ (.string ⟨#[]⟩)).heap[gT + 1]? = _) := Lib.hid (xax (xax (xax s2 (by simpa using hne1) _) (by simpa using hne1) _) (by simpa using hne1) _)
 have HF1 : Hid ((((w10.setCell ⟨gV, 6, none⟩ (.int .i8 1)).setCell ⟨gV, 7, none⟩ (.int .i64 6)).setCell ⟨gV, 8, none⟩ (.string ⟨#[]⟩)).heap[gV + 1]? = _) := Lib.hid (xax (xax (xax s4 (by simp) _) (by simp) _) (by simp) _)
 have HV1 : Hid ((((w10.setCell ⟨gV, 6, none⟩ (.int .i8 1)).setCell ⟨gV, 7, none⟩ (.int .i64 6)).setCell ⟨gV, 8, none⟩ (.string ⟨#[]⟩)).heap[gV]? = some (.cells #[.int .i8 1, .int .i64 1, .string ⟨#[]⟩, .int .i8 1, .int .i64 2, .string ⟨#[]⟩, .int .i8 1, .int .i64 6, .string ⟨#[]⟩] 26 (0, 0))) := Lib.hid (by have := xbo (xbo (xbo s3 6 (.int .i8 1)) 7 (.int .i64 6)) 8 (.string ⟨#[]⟩); simpa using this)
 have HRr := Lib.hid (Kd.R_set (Kd.R_set (Kd.R_set s5.out s3 (by decide) 6 (.int .i8 1)) (xbo s3 6 (.int .i8 1)) (by decide) 7 (.int .i64 6)) (xbo (xbo s3 6 (.int .i8 1)) 7 (.int .i64 6)) (by decide) 8 (.string ⟨#[]⟩))
 have HBs : Hid (Below w.heap.size w (((w10.setCell ⟨gV, 6, none⟩ (.int .i8 1)).setCell ⟨gV, 7, none⟩ (.int .i64 6)).setCell ⟨gV, 8, none⟩ (.string ⟨#[]⟩))) := Lib.hid (xah (xah (xah s6.out HLB.out) HLB.out) HLB.out)
 clear s0 s1 s2 s3 s4 s5 s6 z0 z1 z2 y0 y1 y2 hb HB HG HP HV HF HR
 generalize (((w10.setCell ⟨gV, 6, none⟩ (.int .i8 1)).setCell ⟨gV, 7, none⟩ (.int .i64 6)).setCell ⟨gV, 8, none⟩ (.string ⟨#[]⟩)) = w11 at *
 have p0 : w11.cell? ⟨gT + 1, 0, none⟩ = some (.string ⟨#[112]⟩) := (xag HP1.out 0).trans rfl
 have p1 : w11.cell? ⟨gT + 1, 1, none⟩ = some (.slice (some ⟨gT, 0, none⟩) 3 3) := (xag HP1.out 1).trans rfl
 have q0 : w11.cell? ⟨gV + 1, 0, none⟩ = some (.string ⟨#[112]⟩) := (xag HF1.out 0).trans rfl
 have q1 : w11.cell? ⟨gV + 1, 1, none⟩ = some (.slice (some ⟨gV, 0, none⟩) 3 3) := (xag HF1.out 1).trans rfl
 go_wp2_with fail
 refine (term_Match.calls ⟨#[112]⟩ (some ⟨gT, 0, none⟩) 3 liveTs ⟨#[112]⟩ (some ⟨gV, 0, none⟩) 3 (liveVs 6) _ _ _ (live_terms _ _ HG1.out) (by decide) (live_vals _ _ 6 HV1.out) (by decide) (h := live_m6)).mono ?_
 rintro e w12 ⟨v, rfl, hR, hb⟩
 obtain ⟨A2, c2, he2⟩ := Kd.R_slice hR
 have hv : v = .slice A2 0 c2 := he2
 subst hv
 replace HBs := Lib.hid (xae HBs.out hb)
 replace HP1 := Lib.hid (xak HP1.out hb)
 replace HG1 := Lib.hid (xak HG1.out hb)
 replace HRr := Lib.hid (Kd.R_below HRr.out hb)
 clear hR he2 hb p0 p1 q0 q1 HF1 HV1
 go_wp2_with fail
 refine (w4_variable.calls ⟨#[88]⟩ ⟨#[88]⟩ 0 0 ⟨#[]⟩ _ rfl).mono ?_
 rintro e w13 ⟨rfl, hb⟩
 replace HBs := Lib.hid (xae HBs.out hb)
 replace HP1 := Lib.hid (xak HP1.out hb)
 replace HG1 := Lib.hid (xak HG1.out hb)
 replace HRr := Lib.hid (Kd.R_below HRr.out hb)
 clear hb
 go_wp2_with fail
 refine (w4_given.calls 2 ⟨#[]⟩ 1 2 ⟨#[]⟩ _ rfl).mono ?_
 rintro e w14 ⟨rfl, hb⟩
 replace HBs := Lib.hid (xae HBs.out hb)
 replace HP1 := Lib.hid (xak HP1.out hb)
 replace HG1 := Lib.hid (xak HG1.out hb)
 replace HRr := Lib.hid (Kd.R_below HRr.out hb)
 clear hb
 go_wp2_with fail
 have HK := Lib.hid (xau w14 (.cells #[.int .i8 0, .string ⟨#[88]⟩, .int .i8 0, .int .i64 0, .string ⟨#[]⟩, .slice none 0 0, .int .i8 0, .string ⟨#[]⟩, .int .i8 1, .int .i64 2, .string ⟨#[]⟩, .slice none 0 0] 31 (0, 0)))
 have HP15 := Lib.hid (xad HP1.out (.cells #[.int .i8 0, .string ⟨#[88]⟩, .int .i8 0, .int .i64 0, .string ⟨#[]⟩, .slice none 0 0, .int .i8 0, .string ⟨#[]⟩, .int .i8 1, .int .i64 2, .string ⟨#[]⟩, .slice none 0 0] 31 (0, 0)))
 have HG15 := Lib.hid (xad HG1.out (.cells #[.int .i8 0, .string ⟨#[88]⟩, .int .i8 0, .int .i64 0, .string ⟨#[]⟩, .slice none 0 0, .int .i8 0, .string ⟨#[]⟩, .int .i8 1, .int .i64 2, .string ⟨#[]⟩, .slice none 0 0] 31 (0, 0)))
 have HR15 := Lib.hid (Kd.R_below HRr.out (xab (Below.refl _ _) (.cells #[.int .i8 0, .string ⟨#[88]⟩, .int .i8 0, .int .i64 0, .string ⟨#[]⟩, .slice none 0 0, .int .i8 0, .string ⟨#[]⟩, .int .i8 1, .int .i64 2, .string ⟨#[]⟩, .slice none 0 0] 31 (0, 0))))
 have HB15 := Lib.hid (xab HBs.out (.cells #[.int .i8 0, .string ⟨#[88]⟩, .int .i8 0, .int .i64 0, .string ⟨#[]⟩, .slice none 0 0, .int .i8 0, .string ⟨#[]⟩, .int .i8 1, .int .i64 2, .string ⟨#[]⟩, .slice none 0 0] 31 (0, 0)))
 clear HP1 HG1 HRr HBs
 generalize w14.alloc (.cells #[.int .i8 0, .string ⟨#[88]⟩, .int .i8 0, .int .i64 0, .string ⟨#[]⟩, .slice none 0 0, .int .i8 0, .string ⟨#[]⟩, .int .i8 1, .int .i64 2, .string ⟨#[]⟩, .slice none 0 0] 31 (0, 0)) = w15 at *
 generalize w14.heap.size = gK at *
 obtain ⟨A5, c5, he5, hc5, hC5⟩ := Kd.R_reads HR15.out
 obtain ⟨rfl, rfl⟩ : A = A5 ∧ c = c5 := by injection he5 with h1 _ h3; exact ⟨h1, h3⟩
 refine (term_Eval.calls 2 ⟨#[]⟩ 0 0 ⟨#[]⟩ (some ⟨gK, 0, none⟩) 2 liveKids A c [(⟨⟨#[88]⟩, ⟨1, 1, ⟨#[]⟩⟩⟩ : S41)] _ _ _ _ _ (live_kids _ _ HK.out) (by decide) hC5 hc5 (HT.out.below HB15.out) (h := live_e)).mono ?_
 rintro e w16 ⟨rfl, hb⟩
 have HP16 := Lib.hid (xak HP15.out hb)
 have HG16 := Lib.hid (xak HG15.out hb)
 have HB16 := Lib.hid (xae HB15.out hb)
 clear HP15 HG15 HR15 HB15 he5 hc5 hC5 hb HK
 have HP17 := Lib.hid (xad HP16.out (.cells #[.int .i8 1, .int .i64 3, .string ⟨#[]⟩] 26 (0, 0)))
 have HG17 := Lib.hid (xad HG16.out (.cells #[.int .i8 1, .int .i64 3, .string ⟨#[]⟩] 26 (0, 0)))
 have HE17 := Lib.hid (xau w16 (.cells #[.int .i8 1, .int .i64 3, .string ⟨#[]⟩] 26 (0, 0)))
 have HB17 := Lib.hid (xab HB16.out (.cells #[.int .i8 1, .int .i64 3, .string ⟨#[]⟩] 26 (0, 0)))
 clear HB16 HP16 HG16
 go_wp2_with fail
 generalize (w16.alloc (.cells #[.int .i8 1, .int .i64 3, .string ⟨#[]⟩] 26 (0, 0))) = w17 at *
 generalize w16.heap.size = gE at *
 refine start_ (n := 24) (S := fun w' => w'.cell? ⟨gE, 0, none⟩ = some (.int .i8 1) ∧ w'.cell? ⟨gE, 1, none⟩ = some (.int .i64 3) ∧ w'.cell? ⟨gE, 2, none⟩ = some (.string ⟨#[]⟩) ∧ w'.cell? ⟨gT + 1, 0, none⟩ = some (.string ⟨#[112]⟩) ∧ w'.cell? ⟨gT + 1, 1, none⟩ = some (.slice (some ⟨gT, 0, none⟩) 3 3) ∧ w'.heap[gT]? = some (.cells #[.string ⟨#[88]⟩, .int .i8 0, .int .i64 0, .string ⟨#[]⟩, .string ⟨#[95]⟩, .int .i8 0, .int .i64 0, .string ⟨#[]⟩, .string ⟨#[]⟩, .int .i8 1, .int .i64 5, .string ⟨#[]⟩] 28 (0, 0)) ∧ Hid (Below w.heap.size w w')) (ds := []) #[false, false, false, false, false, false, false, false, false, false, false, false, false, false, false, false, false, false, false, false, false, false, false, false] (by kernel_rfl) rfl rfl ⟨((xag HE17.out 0).trans rfl), ((xag HE17.out 1).trans rfl), ((xag HE17.out 2).trans rfl), ((xag HP17.out 0).trans rfl), ((xag HP17.out 1).trans rfl), HG17.out, (Lib.hid (xaw HB17.out))⟩ (fun hHeld => ?_)
 refine pure_ (i := 0) (N := some 46) (v := ?_) (a' := ?_) #[true, false, false, false, false, false, false, false, false, false, false, false, false, false, false, false, false, false, false, false, false, false, false, false] rfl rfl (by kernel_rfl) (fun _ _ _ h => h) (Or.inl ⟨by rfl, ?_⟩) ?_ ?_
 rotate_left
 ·intro w'
  go_simp
  with_reducible rfl
 rotate_left
 ·simp only [Act.put, sI, sZ, sS, i64_w, i32_w]
  rfl
 refine pure_ (i := 1) (N := some 47) (v := ?_) (a' := ?_) #[true, true, false, false, false, false, false, false, false, false, false, false, false, false, false, false, false, false, false, false, false, false, false, false] rfl rfl (by kernel_rfl) (fun _ _ _ h => h) (Or.inl ⟨by rfl, ?_⟩) ?_ ?_
 rotate_left
 ·intro w'
  go_simp
  with_reducible rfl
 rotate_left
 ·simp only [Act.put, sI, sZ, sS, i64_w, i32_w]
  rfl
 refine pure_ (i := 2) (N := some 48) (v := ?_) (a' := ?_) #[true, true, true, false, false, false, false, false, false, false, false, false, false, false, false, false, false, false, false, false, false, false, false, false] rfl rfl (by kernel_rfl) (fun _ _ _ h => h) (Or.inl ⟨by rfl, ?_⟩) ?_ ?_
 rotate_left
 ·intro w'
  go_simp
  with_reducible rfl
 rotate_left
 ·simp only [Act.put, sI, sZ, sS, i64_w, i32_w]
  rfl
 refine pure_ (i := 3) (N := some 49) (v := ?_) (a' := ?_) #[true, true, true, true, false, false, false, false, false, false, false, false, false, false, false, false, false, false, false, false, false, false, false, false] rfl rfl (by kernel_rfl) (fun _ _ _ h => h) (Or.inl ⟨by rfl, ?_⟩) ?_ ?_
 rotate_left
 ·intro w'
  go_simp
  with_reducible rfl
 rotate_left
 ·simp only [Act.put, sI, sZ, sS, i64_w, i32_w]
  rfl
 refine pure_ (i := 4) (N := some 50) (v := ?_) (a' := ?_) #[true, true, true, true, true, false, false, false, false, false, false, false, false, false, false, false, false, false, false, false, false, false, false, false] rfl rfl (by kernel_rfl) (fun _ _ _ h => h) (Or.inl ⟨by rfl, ?_⟩) ?_ ?_
 rotate_left
 ·intro w'
  go_simp
  with_reducible rfl
 rotate_left
 ·simp only [Act.put, sI, sZ, sS, i64_w, i32_w]
  rfl
 refine pure_ (i := 5) (N := some 51) (v := ?_) (a' := ?_) #[true, true, true, true, true, true, false, false, false, false, false, false, false, false, false, false, false, false, false, false, false, false, false, false] rfl rfl (by kernel_rfl) (fun _ _ _ h => h) (Or.inl ⟨by rfl, ?_⟩) ?_ ?_
 rotate_left
 ·intro w'
  go_simp
  with_reducible rfl
 rotate_left
 ·simp only [Act.put, sI, sZ, sS, i64_w, i32_w]
  rfl
 refine pure_ (i := 6) (N := some 52) (v := ?_) (a' := ?_) #[true, true, true, true, true, true, true, false, false, false, false, false, false, false, false, false, false, false, false, false, false, false, false, false] rfl rfl (by kernel_rfl) (fun _ _ _ h => h) (Or.inl ⟨by rfl, ?_⟩) ?_ ?_
 rotate_left
 ·intro w'
  go_simp
  with_reducible rfl
 rotate_left
 ·simp only [Act.put, sI, sZ, sS, i64_w, i32_w]
  rfl
 refine pure_ (i := 7) (N := some 53) (v := ?_) (a' := ?_) #[true, true, true, true, true, true, true, true, false, false, false, false, false, false, false, false, false, false, false, false, false, false, false, false] rfl rfl (by kernel_rfl) (fun _ _ _ h => h) (Or.inl ⟨by rfl, ?_⟩) ?_ ?_
 rotate_left
 ·intro w'
  go_simp
  with_reducible rfl
 rotate_left
 ·simp only [Act.put, sI, sZ, sS, i64_w, i32_w]
  rfl
 refine pure_ (i := 8) (N := some 54) (v := ?_) (a' := ?_) #[true, true, true, true, true, true, true, true, true, false, false, false, false, false, false, false, false, false, false, false, false, false, false, false] rfl rfl (by kernel_rfl) (fun _ _ _ h => h) (Or.inl ⟨by rfl, ?_⟩) ?_ ?_
 rotate_left
 ·intro w'
  go_simp
  with_reducible rfl
 rotate_left
 ·simp only [Act.put, sI, sZ, sS, i64_w, i32_w]
  rfl
 refine pure_ (i := 9) (N := some 55) (v := ?_) (a' := ?_) #[true, true, true, true, true, true, true, true, true, true, false, false, false, false, false, false, false, false, false, false, false, false, false, false] rfl rfl (by kernel_rfl) (fun _ _ _ h => h) (Or.inl ⟨by rfl, ?_⟩) ?_ ?_
 rotate_left
 ·intro w'
  go_simp
  with_reducible rfl
 rotate_left
 ·simp only [Act.put, sI, sZ, sS, i64_w, i32_w]
  rfl
 refine pure_ (i := 10) (N := some 56) (v := ?_) (a' := ?_) #[true, true, true, true, true, true, true, true, true, true, true, false, false, false, false, false, false, false, false, false, false, false, false, false] rfl rfl (by kernel_rfl) (fun _ _ _ h => h) (Or.inl ⟨by rfl, ?_⟩) ?_ ?_
 rotate_left
 ·intro w'
  go_simp
  with_reducible rfl
 rotate_left
 ·simp only [Act.put, sI, sZ, sS, i64_w, i32_w]
  rfl
 refine pure_ (i := 11) (N := some 57) (v := ?_) (a' := ?_) #[true, true, true, true, true, true, true, true, true, true, true, true, false, false, false, false, false, false, false, false, false, false, false, false] rfl rfl (by kernel_rfl) (fun _ _ _ h => h) (Or.inl ⟨by rfl, ?_⟩) ?_ ?_
 rotate_left
 ·intro w'
  go_simp
  with_reducible rfl
 rotate_left
 ·simp only [Act.put, sI, sZ, sS, i64_w, i32_w]
  rfl
 refine pure_ (i := 12) (N := some 58) (v := ?_) (a' := ?_) #[true, true, true, true, true, true, true, true, true, true, true, true, true, false, false, false, false, false, false, false, false, false, false, false] rfl rfl (by kernel_rfl) (fun _ _ _ h => h) (Or.inl ⟨by rfl, ?_⟩) ?_ ?_
 rotate_left
 ·intro w'
  go_simp
  with_reducible rfl
 rotate_left
 ·simp only [Act.put, sI, sZ, sS, i64_w, i32_w]
  rfl
 refine pure_ (i := 13) (N := some 59) (v := ?_) (a' := ?_) #[true, true, true, true, true, true, true, true, true, true, true, true, true, true, false, false, false, false, false, false, false, false, false, false] rfl rfl (by kernel_rfl) (fun _ _ _ h => h) (Or.inl ⟨by rfl, ?_⟩) ?_ ?_
 rotate_left
 ·intro w'
  go_simp
  with_reducible rfl
 rotate_left
 ·simp only [Act.put, sI, sZ, sS, i64_w, i32_w]
  rfl
 refine take_ (i := 14) (N := some 60) (v := ?_) (a' := ?_) #[true, true, true, true, true, true, true, true, true, true, true, true, true, true, true, false, false, false, false, false, false, false, false, false] rfl rfl (by kernel_rfl) (fun _ _ _ h => h) (Or.inl ⟨by rfl, ?_⟩) hHeld ?_ ?_
 rotate_left
 ·rintro w' ⟨s0, s1, s2, s3, s4, s5, s6⟩
  go_simp
  with_reducible rfl
 rotate_left
 ·simp only [Act.put, sI, sZ, sS, i64_w, i32_w]
  rfl
 refine one_ (i := 15) (N := some 61) #[true, true, true, true, true, true, true, true, true, true, true, true, true, true, true, true, false, false, false, false, false, false, false, false] rfl rfl (by kernel_rfl) (by decide) (fun K hK => ?_)
 obtain ⟨s0, s1, s2, s3, s4, s5, s6⟩ := hHeld
 refine goes_ Tryd.func48 (by kernel_rfl) rfl #[.int .i64 3] (by rfl) rfl rfl (by simp only [List.map_toArray, List.map_cons, List.map_nil]; rfl) ?_
 with_reducible refine (r1_Num.calls 3 1 3 ⟨#[]⟩ _ rfl).mono ?_
 rintro ee w18 ⟨rfl, hb⟩
 refine ⟨_, rfl, ?_⟩
 refine hK.out _ _ ⟨(xaj hb s0), (xaj hb s1), (xaj hb s2), (xaj hb s3), (xaj hb s4), (xak s5 hb), (Lib.hid (xae s6.out hb))⟩ (fun hHeld => ?_)
 clear hK K
 refine norm_ (a' := ?_) ?_ ?_
 rotate_left
 ·show Act.put _ (some 61) _ = _
  simp only [Act.put, sI, sZ, sS, i64_w, i32_w]
  rfl
 refine pure_ (i := 16) (N := some 62) (v := ?_) (a' := ?_) #[true, true, true, true, true, true, true, true, true, true, true, true, true, true, true, true, true, false, false, false, false, false, false, false] rfl rfl (by kernel_rfl) (fun _ _ _ h => h) (Or.inl ⟨by rfl, ?_⟩) ?_ ?_
 rotate_left
 ·intro w'
  go_simp
  with_reducible rfl
 rotate_left
 ·simp only [Act.put, sI, sZ, sS, i64_w, i32_w]
  rfl
 refine pure_ (i := 17) (N := some 63) (v := ?_) (a' := ?_) #[true, true, true, true, true, true, true, true, true, true, true, true, true, true, true, true, true, true, false, false, false, false, false, false] rfl rfl (by kernel_rfl) (fun _ _ _ h => h) (Or.inl ⟨by rfl, ?_⟩) ?_ ?_
 rotate_left
 ·intro w'
  go_simp
  with_reducible rfl
 rotate_left
 ·simp only [Act.put, sI, sZ, sS, i64_w, i32_w]
  rfl
 refine pure_ (i := 18) (N := some 64) (v := ?_) (a' := ?_) #[true, true, true, true, true, true, true, true, true, true, true, true, true, true, true, true, true, true, true, false, false, false, false, false] rfl rfl (by kernel_rfl) (fun _ _ _ h => h) (Or.inl ⟨by rfl, ?_⟩) ?_ ?_
 rotate_left
 ·intro w'
  go_simp
  with_reducible rfl
 rotate_left
 ·simp only [Act.put, sI, sZ, sS, i64_w, i32_w]
  rfl
 refine take_ (i := 19) (N := some 65) (v := ?_) (a' := ?_) #[true, true, true, true, true, true, true, true, true, true, true, true, true, true, true, true, true, true, true, true, false, false, false, false] rfl rfl (by kernel_rfl) (fun _ _ _ h => h) (Or.inl ⟨by rfl, ?_⟩) hHeld ?_ ?_
 rotate_left
 ·rintro w' ⟨s0, s1, s2, s3, s4, s5, s6⟩
  go_simp
  with_reducible rfl
 rotate_left
 ·simp only [Act.put, sI, sZ, sS, i64_w, i32_w]
  rfl
 refine one_ (i := 20) (N := some 66) #[true, true, true, true, true, true, true, true, true, true, true, true, true, true, true, true, true, true, true, true, true, false, false, false] rfl rfl (by kernel_rfl) (by decide) (fun K hK => ?_)
 obtain ⟨s0, s1, s2, s3, s4, s5, s6⟩ := hHeld
 refine goes_ Tryd.func50 (by kernel_rfl) rfl #[.agg #[.string ⟨#[112]⟩, .slice (some ⟨gT, 0, none⟩) 3 3]] (by rfl) rfl rfl (by simp only [List.map_toArray, List.map_cons, List.map_nil]; rfl) ?_
 with_reducible refine (live_check _ _ s5).mono ?_
 rintro ee w19 ⟨rfl, hb⟩
 refine ⟨_, rfl, ?_⟩
 refine hK.out _ _ ⟨(xaj hb s0), (xaj hb s1), (xaj hb s2), (xaj hb s3), (xaj hb s4), (xak s5 hb), (Lib.hid (xae s6.out hb))⟩ (fun hHeld => ?_)
 clear hK K
 refine norm_ (a' := ?_) ?_ ?_
 rotate_left
 ·show Act.put _ (some 66) _ = _
  simp only [Act.put, sI, sZ, sS, i64_w, i32_w]
  rfl
 refine pure_ (i := 21) (N := some 67) (v := ?_) (a' := ?_) #[true, true, true, true, true, true, true, true, true, true, true, true, true, true, true, true, true, true, true, true, true, true, false, false] rfl rfl (by kernel_rfl) (fun _ _ _ h => h) (Or.inl ⟨by rfl, ?_⟩) ?_ ?_
 rotate_left
 ·intro w'
  go_simp
  with_reducible rfl
 rotate_left
 ·simp only [Act.put, sI, sZ, sS, i64_w, i32_w]
  rfl
 refine pure_ (i := 22) (N := some 68) (v := ?_) (a' := ?_) #[true, true, true, true, true, true, true, true, true, true, true, true, true, true, true, true, true, true, true, true, true, true, true, false] rfl rfl (by kernel_rfl) (fun _ _ _ h => h) (Or.inl ⟨by rfl, ?_⟩) ?_ ?_
 rotate_left
 ·intro w'
  go_simp
  with_reducible rfl
 rotate_left
 ·simp only [Act.put, sI, sZ, sS, i64_w, i32_w]
  rfl
 refine pure_ (i := 23) (N := some 0) (v := ?_) (a' := ?_) #[true, true, true, true, true, true, true, true, true, true, true, true, true, true, true, true, true, true, true, true, true, true, true, true] rfl rfl (by kernel_rfl) (fun _ _ _ h => h) (Or.inl ⟨by rfl, ?_⟩) ?_ ?_
 rotate_left
 ·intro w'
  go_simp
  with_reducible rfl
 rotate_left
 ·simp only [Act.put, sI, sZ, sS, i64_w, i32_w]
  rfl
 refine done_ (by kernel_rfl) ?_
 obtain ⟨_, _, _, _, _, _, HBF⟩ := hHeld
 go_wp2_with fail
 go_ret
 exact ⟨rfl, HBF.out⟩
def w4_lives.f : Option Bool := some true
theorem w4_lives.calls (r : Bool) (w : World) (hTA : TabA w) (h : w4_lives.f = some r) : Calls Tryd.prog 9 #[] w fun e w' => e = .returned (.bool r) ∧ Below w.heap.size w w' := by
 unfold w4_lives.f at h
 obtain rfl := Option.some.inj h
 exact lives_walk w hTA
def r4_CheckExpr.f (k : Nat) (a0_0 : Int) (a0_1 : ByteArray) (a0_2 : Int) (a0_3 : Int) (a0_4 : ByteArray) (l0_5 : List (S31)) : Option (Int) := (r4_expr.f k a0_0 a0_1 a0_2 a0_3 a0_4 l0_5 8).bind fun t154 => ((r4_said.f t154).bind fun t155 => (some t155))
set_option maxHeartbeats 8000000 in
set_option maxRecDepth 100000 in
theorem r4_CheckExpr.calls (k : Nat) (a0_0 : Int) (a0_1 : ByteArray) (a0_2 : Int) (a0_3 : Int) (a0_4 : ByteArray) (A0_5 : Option Addr) (c0_5 : Nat) (l0_5 : List (S31)) (r : Int) (w : World) (hr0_5 : Kd.C k31 w A0_5 l0_5.length l0_5) (hc0_5 : l0_5.length ≤ c0_5) (h : r4_CheckExpr.f k a0_0 a0_1 a0_2 a0_3 a0_4 l0_5 = some r) :
  Calls Tryd.prog 11 #[.agg #[.int .i8 a0_0, .string a0_1, .int .i8 a0_2, .int .i64 a0_3, .string a0_4, .slice A0_5 l0_5.length c0_5]] w fun e w' => e = .returned (.int .i64 r) ∧ Below w.heap.size w w' := by
 have hu31 := Tryd.underlying31
 have HR0_5 := Aside0.mk hr0_5
 have HC0_5 := Aside0.mk hc0_5
 clear hr0_5 hc0_5
 have HB := Aside0.mk (Below.refl w.heap.size w)
 have H : ((r4_expr.f k a0_0 a0_1 a0_2 a0_3 a0_4 l0_5 8).bind fun t154 => ((r4_said.f t154).bind fun t155 => (some t155))) = some r := h
 clear h
 replace H := Option.bind_eq_some_iff.mp H
 obtain ⟨t154, A20, H⟩ := H
 replace H : ((r4_said.f t154).bind fun t155 => (some t155)) = some r := H
 have A2 := Aside0.mk A20
 clear A20
 replace H := Option.bind_eq_some_iff.mp H
 obtain ⟨t155, A30, H⟩ := H
 replace H : (some t155) = some r := H
 have A3 := Aside0.mk A30
 clear A30
 obtain rfl := Option.some.inj H
 go_enter Tryd.func11, Tryd.ntmps11
 go_wp2_with (first | ((with_reducible refine xap (N := 1) rfl ?_); refine xaq ?hg (N := 1) ?hd (cs := #[.int .i8 a0_0, .string a0_1, .int .i8 a0_2, .int .i64 a0_3, .string a0_4, .slice A0_5 l0_5.length c0_5]) (t := 31) ?hr ?_; (case hd => rfl); (case hg => rfl); (case hr => first | (go_simp; done) | (go_simp; rfl)); intro gb153 hg w4 hbox hb; have n0_ := Aside0.mk (xae (by repeat (first | (with_reducible first | exact HB.out | apply xab | apply xaa | apply xac) | exact HB.out)) hb); have n1_ := Aside0.mk (hbox); have n2_ := Aside0.mk ((by rw [hg]; exact (xao (by repeat (first | (with_reducible first | exact HB.out | apply xab | apply xaa | apply xac) | exact HB.out))) : w.heap.size ≤ gb153)); have n3_ := n2_; clear HB; have HB := n0_; have BK153 := n1_; have GW153 := n2_; have GE153 := n3_; clear n0_ n1_ n2_ n3_; clear hb hbox hg; obtain ⟨hcz5_0, hcz5_1, hcz5_2, hcz5_3, hcz5_4, hcz5_5⟩ := cz6 BK153.out; obtain ⟨hfz5_0, hfz5_1, hfz5_2, hfz5_3, hfz5_4, hfz5_5⟩ := fz6 BK153.out) | ((with_reducible refine xay (f := 55) rfl ?_); refine goesL_ (some 4) rfl rfl Tryd.func55 (by kernel_rfl) rfl #[.agg #[.int .i8 a0_0, .string a0_1, .int .i8 a0_2, .int .i64 a0_3, .string a0_4, .slice A0_5 l0_5.length c0_5], .int .i64 8] rfl (by (try simp only [List.map_toArray, List.map_cons, List.map_nil]); first | done | rfl | (simp only [List.length_drop, List.length_take]; rfl)) ?_; (with_reducible refine (r4_expr.calls k a0_0 a0_1 a0_2 a0_3 a0_4 _ _ l0_5 8 t154 _ ?side1 ?side2 A2.out).mono ?_); (case side1 => repeat (first | exact (Kd.C_below HR0_5.out HB.out) | (with_reducible refine Kd.C_alloc ?_ _) | (with_reducible refine Kd.C_drewN ?_ _) | (with_reducible refine Kd.C_drew ?_))); (case side2 => exact HC0_5.out); rintro e w6 ⟨rfl, hb⟩; refine ⟨_, rfl, ?_⟩; have n0_ := Aside0.mk (xak (g := gb153) (o := .cells #[.int .i8 a0_0, .string a0_1, .int .i8 a0_2, .int .i64 a0_3, .string a0_4, .slice A0_5 l0_5.length c0_5] 31 (0, 0)) (by (with_reducible repeat (first | refine xaf ?_ _ | refine xai ?_ | refine xad ?_ _)); exact BK153.out) hb); have n1_ := Aside0.mk (xae (by repeat (first | (with_reducible first | exact HB.out | apply xab | apply xaa | apply xac | refine xah ?_ GE153.out) | exact HB.out)) hb); clear BK153; clear HB; have BK153 := n0_; have HB := n1_; clear n0_ n1_; (try clear hb); (try clear hb2); (try clear hk); (try clear hi)) | ((with_reducible refine xay (f := 54) rfl ?_); refine goesL_ (some 5) rfl rfl Tryd.func54 (by kernel_rfl) rfl #[.bool t154] rfl (by (try simp only [List.map_toArray, List.map_cons, List.map_nil]); first | done | rfl | (simp only [List.length_drop, List.length_take]; rfl)) ?_; (with_reducible refine (r4_said.calls t154 t155 _ A3.out).mono ?_); rintro e w' ⟨rfl, ⟨nd, rfl⟩⟩; refine ⟨_, rfl, ?_⟩))
 go_ret
 exact ⟨by first | rfl | (simp [xan, xam] <;> rfl) | (simp [*, xan, xam] <;> rfl), by repeat (first | (with_reducible first | exact HB.out | apply xab | apply xaa | apply xac | refine xah ?_ GE153.out) | exact HB.out)⟩
def r4_ExprVars.f (k : Nat) (a0_0 : Int) (a0_1 : ByteArray) (a0_2 : Int) (a0_3 : Int) (a0_4 : ByteArray) (l0_5 : List (S31)) : Option (List ByteArray) := (r4_exprTerms.f ([] : List (S28)) a0_0 a0_1 a0_2 a0_3 a0_4 l0_5).bind fun t163 => ((r4_vars.f k t163).bind fun t166 => (some t166))
set_option maxHeartbeats 8000000 in
set_option maxRecDepth 100000 in
theorem r4_ExprVars.calls (k : Nat) (a0_0 : Int) (a0_1 : ByteArray) (a0_2 : Int) (a0_3 : Int) (a0_4 : ByteArray) (A0_5 : Option Addr) (c0_5 : Nat) (l0_5 : List (S31)) (r : List ByteArray) (w : World) (hr0_5 : Kd.C k31 w A0_5 l0_5.length l0_5) (hc0_5 : l0_5.length ≤ c0_5) (h : r4_ExprVars.f k a0_0 a0_1 a0_2 a0_3 a0_4 l0_5 = some r) :
  Calls Tryd.prog 12 #[.agg #[.int .i8 a0_0, .string a0_1, .int .i8 a0_2, .int .i64 a0_3, .string a0_4, .slice A0_5 l0_5.length c0_5]] w fun e w' => ∃ v0_ : Value, e = .returned (v0_) ∧ Kd.R Kd.string 9 w' w.heap.size (fun _ => True) v0_ r ∧ Below w.heap.size w w' := by
 have hu31 := Tryd.underlying31
 have HR0_5 := Aside0.mk hr0_5
 have HC0_5 := Aside0.mk hc0_5
 clear hr0_5 hc0_5
 have HB := Aside0.mk (Below.refl w.heap.size w)
 have H : ((r4_exprTerms.f ([] : List (S28)) a0_0 a0_1 a0_2 a0_3 a0_4 l0_5).bind fun t163 => ((r4_vars.f k t163).bind fun t166 => (some t166))) = some r := h
 clear h
 replace H := Option.bind_eq_some_iff.mp H
 obtain ⟨t163, A20, H⟩ := H
 replace H : ((r4_vars.f k t163).bind fun t166 => (some t166)) = some r := H
 have A2 := Aside0.mk A20
 clear A20
 replace H := Option.bind_eq_some_iff.mp H
 obtain ⟨t166, A30, H⟩ := H
 replace H : (some t166) = some r := H
 have A3 := Aside0.mk A30
 clear A30
 obtain rfl := Option.some.inj H
 go_enter Tryd.func12, Tryd.ntmps12
 go_wp2_with (first | ((with_reducible refine xap (N := 1) rfl ?_); refine xaq ?hg (N := 1) ?hd (cs := #[.int .i8 a0_0, .string a0_1, .int .i8 a0_2, .int .i64 a0_3, .string a0_4, .slice A0_5 l0_5.length c0_5]) (t := 31) ?hr ?_; (case hd => rfl); (case hg => rfl); (case hr => first | (go_simp; done) | (go_simp; rfl)); intro gb162 hg w4 hbox hb; have n0_ := Aside0.mk (xae (by repeat (first | (with_reducible first | exact HB.out | apply xab | apply xaa | apply xac) | exact HB.out)) hb); have n1_ := Aside0.mk (hbox); have n2_ := Aside0.mk ((by rw [hg]; exact (xao (by repeat (first | (with_reducible first | exact HB.out | apply xab | apply xaa | apply xac) | exact HB.out))) : w.heap.size ≤ gb162)); have n3_ := n2_; clear HB; have HB := n0_; have BK162 := n1_; have GW162 := n2_; have GE162 := n3_; clear n0_ n1_ n2_ n3_; clear hb hbox hg; obtain ⟨hcz5_0, hcz5_1, hcz5_2, hcz5_3, hcz5_4, hcz5_5⟩ := cz6 BK162.out; obtain ⟨hfz5_0, hfz5_1, hfz5_2, hfz5_3, hfz5_4, hfz5_5⟩ := fz6 BK162.out) | ((with_reducible refine xay (f := 57) rfl ?_); refine goesL_ (some 4) rfl rfl Tryd.func57 (by kernel_rfl) rfl #[.slice none 0 0, .agg #[.int .i8 a0_0, .string a0_1, .int .i8 a0_2, .int .i64 a0_3, .string a0_4, .slice A0_5 l0_5.length c0_5]] rfl (by (try simp only [List.map_toArray, List.map_cons, List.map_nil]); first | done | rfl | (simp only [List.length_drop, List.length_take]; rfl)) ?_; (refine (r4_exprTerms.calls (fun k_ => some k_ = (.slice none 0 0 : Value).ownBlock) (.slice none 0 0) ([] : List (S28)) a0_0 a0_1 a0_2 a0_3 a0_4 _ _ l0_5 t163 w _ ?side1 ?side2 ?side3 ?side4 A2.out).mono ?_); (case side1 => repeat (first | (with_reducible first | exact HB.out | apply xab | apply xaa | apply xac | refine xah ?_ GE162.out) | exact HB.out)); (case side2 => exact Kd.R_nil _ _ _ _ _); (case side3 => exact Kd.C_kept_came k31_heap HR0_5.out (by repeat (first | (with_reducible first | exact HB.out | apply xab | apply xaa | apply xac | refine xah ?_ GE162.out) | exact HB.out)) (fun k_ hs_ => (fun e_ => by simp [Value.ownBlock] at e_) hs_)); (case side4 => exact HC0_5.out); rintro e w6 ⟨v164, rfl, ho0, hb, hkp⟩; refine ⟨_, rfl, ?_⟩; have n0_ := Aside0.mk (blk_kept (by (with_reducible repeat (first | refine xaf ?_ _ | refine xai ?_ | refine xad ?_ _)); exact BK162.out) hkp (fun hs_ => (fun e_ => by simp [Value.ownBlock] at e_) hs_)); have n1_ := Aside0.mk (Kd.R_mono (ok' := fun k_ => True) ho0 (fun k_ hk_ => trivial)); have n2_ := Aside0.mk (hb); clear BK162; clear HB; have BK162 := n0_; have HO165 := n1_; have HB := n2_; clear n0_ n1_ n2_; (try clear hb); (try clear hkp); (try clear ho0); obtain ⟨Ao7, co7, eo7⟩ := Kd.R_slice HO165.out; subst eo7) | ((with_reducible refine xay (f := 56) rfl ?_); refine goesL_ (some 5) rfl rfl Tryd.func56 (by kernel_rfl) rfl #[.slice Ao7 t163.length co7] rfl (by (try simp only [List.map_toArray, List.map_cons, List.map_nil]); first | done | rfl | (simp only [List.length_drop, List.length_take]; rfl)) ?_; (with_reducible refine (r4_vars.calls k _ _ t163 t166 _ ?side1 ?side2 A3.out).mono ?_); (case side1 => repeat (first | exact (Kd.R_reads' HO165.out).2.2 | (with_reducible refine Kd.C_alloc ?_ _) | (with_reducible refine Kd.C_drewN ?_ _) | (with_reducible refine Kd.C_drew ?_))); (case side2 => exact (Kd.R_reads' HO165.out).2.1); rintro e w8 ⟨v167, rfl, ho0, hb⟩; refine ⟨_, rfl, ?_⟩; have n0_ := Aside0.mk (Kd.R_below (by (with_reducible repeat (first | apply Kd.R_alloc | apply Kd.R_drewN | apply Kd.R_drew)); exact HO165.out) hb); have n1_ := Aside0.mk (Kd.R_lower ho0 (xao (by repeat (first | (with_reducible first | exact HB.out | apply xab | apply xaa | apply xac | refine xah ?_ GE162.out) | exact HB.out)))); have n2_ := Aside0.mk (xak (g := gb162) (o := .cells #[.int .i8 a0_0, .string a0_1, .int .i8 a0_2, .int .i64 a0_3, .string a0_4, .slice A0_5 l0_5.length c0_5] 31 (0, 0)) (by (with_reducible repeat (first | refine xaf ?_ _ | refine xai ?_ | refine xad ?_ _)); exact BK162.out) hb); have n3_ := Aside0.mk (xae (by repeat (first | (with_reducible first | exact HB.out | apply xab | apply xaa | apply xac | refine xah ?_ GE162.out) | exact HB.out)) hb); clear HO165; clear BK162; clear HB; have HO165 := n0_; have HO168 := n1_; have BK162 := n2_; have HB := n3_; clear n0_ n1_ n2_ n3_; (try clear hb); (try clear hb2); (try clear hk); (try clear hi); (try clear ho0)))
 go_ret
 exact ⟨_, by first | rfl | (simp [xan, xam] <;> rfl) | (simp [*, xan, xam] <;> rfl), by (with_reducible repeat (first | apply Kd.R_alloc | apply Kd.R_drewN | apply Kd.R_drew)); exact HO168.out, by repeat (first | (with_reducible first | exact HB.out | apply xab | apply xaa | apply xac | refine xah ?_ GE162.out) | exact HB.out)⟩
mutual
def r4_Put.j0 : Nat → List (S82) → Bool → ByteArray → Int → Int → ByteArray → Option (ByteArray × Int × Int × ByteArray)
 | 0, _, _, _, _, _, _ => none
 | k + 1, x0, x13, x170000, x170001, x170002, x170003 => if x13 = true then (some (x170000, x170001, x170002, x170003)) else (r4_Put.l0 k x0 0 x170000 x170001 x170002 x170003)
def r4_Put.l0 : Nat → List (S82) → Int → ByteArray → Int → Int → ByteArray → Option (ByteArray × Int × Int × ByteArray)
 | 0, _, _, _, _, _, _ => none
 | k + 1, x0, x5, x170000, x170001, x170002, x170003 => if x5 < (x0.length : Int) then (if 0 ≤ x5 then (if ((rd_T82 x0 x5).f0).toList = x170000.toList then (some ((rd_T82 x0 x5).f1.f0, (rd_T82 x0 x5).f1.f1.f0, (rd_T82 x0 x5).f1.f1.f1, (rd_T82 x0 x5).f1.f1.f2)) else (r4_Put.l0 k x0 (wrap64 (x5 + 1)) x170000 x170001 x170002 x170003)) else (none)) else (some (x170000, x170001, x170002, x170003))
end
def r4_Put.f (k : Nat) (l0 : List (S82)) (a1_0 : ByteArray) (a1_1 : Int) (a1_2 : Int) (a1_3 : ByteArray) : Option (ByteArray × Int × Int × ByteArray) := if a1_0.toList = ([] : List UInt8) then (r4_Put.j0 k l0 true a1_0 a1_1 a1_2 a1_3) else (r4_Put.j0 k l0 (a1_0.toList == ([95] : List UInt8)) a1_0 a1_1 a1_2 a1_3)
set_option maxHeartbeats 8000000 in
set_option maxRecDepth 100000 in
theorem r4_Put.calls (k : Nat) (A0 : Option Addr) (c0 : Nat) (l0 : List (S82)) (a1_0 : ByteArray) (a1_1 : Int) (a1_2 : Int) (a1_3 : ByteArray) (r1 : ByteArray) (r2 : Int) (r3 : Int) (r4 : ByteArray) (w : World) (hr0 : Kd.C k82 w A0 l0.length l0) (hc0 : l0.length ≤ c0) (h : r4_Put.f k l0 a1_0 a1_1 a1_2 a1_3 = some (r1, r2, r3, r4)) :
  Calls Tryd.prog 58 #[.slice A0 l0.length c0, .agg #[.string a1_0, .int .i8 a1_1, .int .i64 a1_2, .string a1_3]] w fun e w' => e = .returned (.agg #[.string r1, .int .i8 r2, .int .i64 r3, .string r4]) ∧ Below w.heap.size w w' := by
 have hu28 := Tryd.underlying28
 have HR0 := Aside0.mk hr0
 have HC0 := Aside0.mk hc0
 clear hr0 hc0
 have HB := Aside0.mk (Below.refl w.heap.size w)
 have H : (if a1_0.toList = ([] : List UInt8) then (r4_Put.j0 k l0 true a1_0 a1_1 a1_2 a1_3) else (r4_Put.j0 k l0 (a1_0.toList == ([95] : List UInt8)) a1_0 a1_1 a1_2 a1_3)) = some (r1, r2, r3, r4) := h
 clear h
 have HC3 := Aside0.mk H
 clear H
 go_enter Tryd.func58, Tryd.ntmps58
 go_upto_region 1 with (first | ((with_reducible refine xap (N := 3) rfl ?_); refine xaq ?hg (N := 3) ?hd (cs := #[.string a1_0, .int .i8 a1_1, .int .i64 a1_2, .string a1_3]) (t := 28) ?hr ?_; (case hd => rfl); (case hg => rfl); (case hr => first | (go_simp; done) | (go_simp; rfl)); intro gb169 hg w4 hbox hb; have n0_ := Aside0.mk (xae (by repeat (first | (with_reducible first | exact HB.out | apply xab | apply xaa | apply xac) | exact HB.out)) hb); have n1_ := Aside0.mk (hbox); have n2_ := Aside0.mk ((by rw [hg]; exact (xao (by repeat (first | (with_reducible first | exact HB.out | apply xab | apply xaa | apply xac) | exact HB.out))) : w.heap.size ≤ gb169)); have n3_ := n2_; clear HB; have HB := n0_; have BK169 := n1_; have GW169 := n2_; have GE169 := n3_; clear n0_ n1_ n2_ n3_; clear hb hbox hg) | ((with_reducible refine xap (N := 4) rfl ?_); refine xaq ?hg (N := 4) ?hd (cs := #[.string (⟨#[]⟩ : ByteArray), .int .i8 0, .int .i64 0, .string (⟨#[]⟩ : ByteArray)]) (t := 28) ?hr ?_; (case hd => rfl); (case hg => rfl); (case hr => first | (go_simp; done) | (go_simp; rfl)); intro gb170 hg w5 hbox hb; have n0_ := Aside0.mk (xak (g := gb169) (o := .cells #[.string a1_0, .int .i8 a1_1, .int .i64 a1_2, .string a1_3] 28 (0, 0)) (by (with_reducible repeat (first | refine xaf ?_ _ | refine xai ?_ | refine xad ?_ _)); exact BK169.out) hb); have n1_ := Aside0.mk (xae (by repeat (first | (with_reducible first | exact HB.out | apply xab | apply xaa | apply xac | refine xah ?_ GE169.out) | exact HB.out)) hb); have n2_ := Aside0.mk (hbox); have n3_ := Aside0.mk ((by rw [hg]; exact (xao (by repeat (first | (with_reducible first | exact HB.out | apply xab | apply xaa | apply xac | refine xah ?_ GE169.out) | exact HB.out))) : w.heap.size ≤ gb170)); have n4_ := n3_; have n5_ := Aside0.mk ((by rw [hg]; exact Nat.ne_of_lt (blk_lt (g := gb169) (o := .cells #[.string a1_0, .int .i8 a1_1, .int .i64 a1_2, .string a1_3] 28 (0, 0)) (by (with_reducible repeat (first | refine xaf ?_ _ | refine xai ?_ | refine xad ?_ _)); exact BK169.out)) : gb169 ≠ gb170)); have n6_ := Aside0.mk ((by rw [hg]; exact Nat.ne_of_gt (blk_lt (g := gb169) (o := .cells #[.string a1_0, .int .i8 a1_1, .int .i64 a1_2, .string a1_3] 28 (0, 0)) (by (with_reducible repeat (first | refine xaf ?_ _ | refine xai ?_ | refine xad ?_ _)); exact BK169.out)) : gb170 ≠ gb169)); clear BK169; clear HB; have BK169 := n0_; have HB := n1_; have BK170 := n2_; have GW170 := n3_; have GE170 := n4_; have NB169_170 := n5_; have NB170_169 := n6_; clear n0_ n1_ n2_ n3_ n4_ n5_ n6_; clear hb hbox hg))
 repeat (go_quiet (first | ((with_reducible refine xap (N := 3) rfl ?_); refine xaq ?hg (N := 3) ?hd (cs := #[.string a1_0, .int .i8 a1_1, .int .i64 a1_2, .string a1_3]) (t := 28) ?hr ?_; (case hd => rfl); (case hg => rfl); (case hr => first | (go_simp; done) | (go_simp; rfl)); intro gb169 hg w4 hbox hb; have n0_ := Aside0.mk (xae (by repeat (first | (with_reducible first | exact HB.out | apply xab | apply xaa | apply xac) | exact HB.out)) hb); have n1_ := Aside0.mk (hbox); have n2_ := Aside0.mk ((by rw [hg]; exact (xao (by repeat (first | (with_reducible first | exact HB.out | apply xab | apply xaa | apply xac) | exact HB.out))) : w.heap.size ≤ gb169)); have n3_ := n2_; clear HB; have HB := n0_; have BK169 := n1_; have GW169 := n2_; have GE169 := n3_; clear n0_ n1_ n2_ n3_; clear hb hbox hg) | ((with_reducible refine xap (N := 4) rfl ?_); refine xaq ?hg (N := 4) ?hd (cs := #[.string (⟨#[]⟩ : ByteArray), .int .i8 0, .int .i64 0, .string (⟨#[]⟩ : ByteArray)]) (t := 28) ?hr ?_; (case hd => rfl); (case hg => rfl); (case hr => first | (go_simp; done) | (go_simp; rfl)); intro gb170 hg w5 hbox hb; have n0_ := Aside0.mk (xak (g := gb169) (o := .cells #[.string a1_0, .int .i8 a1_1, .int .i64 a1_2, .string a1_3] 28 (0, 0)) (by (with_reducible repeat (first | refine xaf ?_ _ | refine xai ?_ | refine xad ?_ _)); exact BK169.out) hb); have n1_ := Aside0.mk (xae (by repeat (first | (with_reducible first | exact HB.out | apply xab | apply xaa | apply xac | refine xah ?_ GE169.out) | exact HB.out)) hb); have n2_ := Aside0.mk (hbox); have n3_ := Aside0.mk ((by rw [hg]; exact (xao (by repeat (first | (with_reducible first | exact HB.out | apply xab | apply xaa | apply xac | refine xah ?_ GE169.out) | exact HB.out))) : w.heap.size ≤ gb170)); have n4_ := n3_; have n5_ := Aside0.mk ((by rw [hg]; exact Nat.ne_of_lt (blk_lt (g := gb169) (o := .cells #[.string a1_0, .int .i8 a1_1, .int .i64 a1_2, .string a1_3] 28 (0, 0)) (by (with_reducible repeat (first | refine xaf ?_ _ | refine xai ?_ | refine xad ?_ _)); exact BK169.out)) : gb169 ≠ gb170)); have n6_ := Aside0.mk ((by rw [hg]; exact Nat.ne_of_gt (blk_lt (g := gb169) (o := .cells #[.string a1_0, .int .i8 a1_1, .int .i64 a1_2, .string a1_3] 28 (0, 0)) (by (with_reducible repeat (first | refine xaf ?_ _ | refine xai ?_ | refine xad ?_ _)); exact BK169.out)) : gb170 ≠ gb169)); clear BK169; clear HB; have BK169 := n0_; have HB := n1_; have BK170 := n2_; have GW170 := n3_; have GE170 := n4_; have NB169_170 := n5_; have NB170_169 := n6_; clear n0_ n1_ n2_ n3_ n4_ n5_ n6_; clear hb hbox hg)); go_upto_region 1 with (first | ((with_reducible refine xap (N := 3) rfl ?_); refine xaq ?hg (N := 3) ?hd (cs := #[.string a1_0, .int .i8 a1_1, .int .i64 a1_2, .string a1_3]) (t := 28) ?hr ?_; (case hd => rfl); (case hg => rfl); (case hr => first | (go_simp; done) | (go_simp; rfl)); intro gb169 hg w4 hbox hb; have n0_ := Aside0.mk (xae (by repeat (first | (with_reducible first | exact HB.out | apply xab | apply xaa | apply xac) | exact HB.out)) hb); have n1_ := Aside0.mk (hbox); have n2_ := Aside0.mk ((by rw [hg]; exact (xao (by repeat (first | (with_reducible first | exact HB.out | apply xab | apply xaa | apply xac) | exact HB.out))) : w.heap.size ≤ gb169)); have n3_ := n2_; clear HB; have HB := n0_; have BK169 := n1_; have GW169 := n2_; have GE169 := n3_; clear n0_ n1_ n2_ n3_; clear hb hbox hg) | ((with_reducible refine xap (N := 4) rfl ?_); refine xaq ?hg (N := 4) ?hd (cs := #[.string (⟨#[]⟩ : ByteArray), .int .i8 0, .int .i64 0, .string (⟨#[]⟩ : ByteArray)]) (t := 28) ?hr ?_; (case hd => rfl); (case hg => rfl); (case hr => first | (go_simp; done) | (go_simp; rfl)); intro gb170 hg w5 hbox hb; have n0_ := Aside0.mk (xak (g := gb169) (o := .cells #[.string a1_0, .int .i8 a1_1, .int .i64 a1_2, .string a1_3] 28 (0, 0)) (by (with_reducible repeat (first | refine xaf ?_ _ | refine xai ?_ | refine xad ?_ _)); exact BK169.out) hb); have n1_ := Aside0.mk (xae (by repeat (first | (with_reducible first | exact HB.out | apply xab | apply xaa | apply xac | refine xah ?_ GE169.out) | exact HB.out)) hb); have n2_ := Aside0.mk (hbox); have n3_ := Aside0.mk ((by rw [hg]; exact (xao (by repeat (first | (with_reducible first | exact HB.out | apply xab | apply xaa | apply xac | refine xah ?_ GE169.out) | exact HB.out))) : w.heap.size ≤ gb170)); have n4_ := n3_; have n5_ := Aside0.mk ((by rw [hg]; exact Nat.ne_of_lt (blk_lt (g := gb169) (o := .cells #[.string a1_0, .int .i8 a1_1, .int .i64 a1_2, .string a1_3] 28 (0, 0)) (by (with_reducible repeat (first | refine xaf ?_ _ | refine xai ?_ | refine xad ?_ _)); exact BK169.out)) : gb169 ≠ gb170)); have n6_ := Aside0.mk ((by rw [hg]; exact Nat.ne_of_gt (blk_lt (g := gb169) (o := .cells #[.string a1_0, .int .i8 a1_1, .int .i64 a1_2, .string a1_3] 28 (0, 0)) (by (with_reducible repeat (first | refine xaf ?_ _ | refine xai ?_ | refine xad ?_ _)); exact BK169.out)) : gb170 ≠ gb169)); clear BK169; clear HB; have BK169 := n0_; have HB := n1_; have BK170 := n2_; have GW170 := n3_; have GE170 := n4_; have NB169_170 := n5_; have NB170_169 := n6_; clear n0_ n1_ n2_ n3_ n4_ n5_ n6_; clear hb hbox hg)))
 (try simp only [Act.put, sI, sZ, sS])
 go_cut [13] (fun v13 wc => ∃ (kq : Nat) (x13_2 : Bool), v13 = .bool x13_2 ∧ Aside0 (r4_Put.j0 kq l0 x13_2 a1_0 a1_1 a1_2 a1_3 = some (r1, r2, r3, r4)) ∧ Aside0 (kq ≤ k) ∧ Aside0 (wc.heap[gb169]? = some (.cells #[.string a1_0, .int .i8 a1_1, .int .i64 a1_2, .string a1_3] 28 (0, 0))) ∧ Aside0 (wc.heap[gb170]? = some (.cells #[.string (⟨#[]⟩ : ByteArray), .int .i8 0, .int .i64 0, .string (⟨#[]⟩ : ByteArray)] 28 (0, 0))) ∧ Aside0 (Below w.heap.size w wc))
 case first =>
  have H := HC3.out
  clear HC3
  by_cases c6 : a1_0.toList = ([] : List UInt8)
  ·rw [if_pos c6] at H
   have c6b0 : (a1_0.toList == ([] : List UInt8)) = true := beq_iff_eq.mpr c6
   have c6b1 : (a1_0.toList != ([] : List UInt8)) = false := bne_eq_false_iff_eq.mpr c6
   clear c6
   (first | rw [c6b0] | (simp only [i64_w, i32_w]; rw [c6b0]) | skip)
   have H' := Aside0.mk H
   clear H
   have hnb7 := NB169_170.out
   have hnc7 := NB170_169.out
   obtain ⟨hcz8_0, hcz8_1, hcz8_2, hcz8_3⟩ := cz4 BK169.out
   obtain ⟨hfz8_0, hfz8_1, hfz8_2, hfz8_3⟩ := fz4 BK169.out
   go_wp2
   repeat (go_quiet (fail); try go_wp2)
   go_meet
   case rel => exact ⟨_, (true), (by first | rfl | (simp; done) | (simp [*]; done)), H', ⟨by first | omega | exact Nat.le_refl _⟩, ⟨by (with_reducible repeat (first | refine xaf ?_ _ | refine xai ?_ | refine xad ?_ _)); exact BK169.out⟩, ⟨by (with_reducible repeat (first | refine xaf ?_ _ | refine xai ?_ | refine xad ?_ _)); exact BK170.out⟩, ⟨by repeat (first | (with_reducible first | exact HB.out | apply xab | apply xaa | apply xac | refine xah ?_ GE169.out | refine xah ?_ GE170.out) | exact HB.out)⟩⟩
  ·rw [if_neg c6] at H
   have c6b0 : (a1_0.toList == ([] : List UInt8)) = false := beq_eq_false_iff_ne.mpr c6
   have c6b1 : (a1_0.toList != ([] : List UInt8)) = true := bne_iff_ne.mpr c6
   (first | rw [c6b0] | (simp only [i64_w, i32_w]; rw [c6b0]) | skip)
   have H' := Aside0.mk H
   clear H
   have hnb9 := NB169_170.out
   have hnc9 := NB170_169.out
   obtain ⟨hcz10_0, hcz10_1, hcz10_2, hcz10_3⟩ := cz4 BK169.out
   obtain ⟨hfz10_0, hfz10_1, hfz10_2, hfz10_3⟩ := fz4 BK169.out
   go_wp2
   repeat (go_quiet (fail); try go_wp2)
   go_meet
   case rel => exact ⟨_, ((a1_0.toList == ([95] : List UInt8))), (by first | rfl | (simp; done) | (simp [*]; done)), H', ⟨by first | omega | exact Nat.le_refl _⟩, ⟨by (with_reducible repeat (first | refine xaf ?_ _ | refine xai ?_ | refine xad ?_ _)); exact BK169.out⟩, ⟨by (with_reducible repeat (first | refine xaf ?_ _ | refine xai ?_ | refine xad ?_ _)); exact BK170.out⟩, ⟨by repeat (first | (with_reducible first | exact HB.out | apply xab | apply xaa | apply xac | refine xah ?_ GE169.out | refine xah ?_ GE170.out) | exact HB.out)⟩⟩
 case rest =>
  clear HC3
  try clear p2
  try clear c5
  try clear c6
  try clear c6b0
  try clear c6b1
  try clear c7
  try clear c9
  try clear hcz10_0
  try clear hcz10_1
  try clear hcz10_2
  try clear hcz10_3
  try clear hcz8_0
  try clear hcz8_1
  try clear hcz8_2
  try clear hcz8_3
  try clear hfz10_0
  try clear hfz10_1
  try clear hfz10_2
  try clear hfz10_3
  try clear hfz8_0
  try clear hfz8_1
  try clear hfz8_2
  try clear hfz8_3
  obtain ⟨kq, x13_2, rfl, HA, HJ2, BK169, BK170, HB⟩ := hcut
  cases kq with
  | zero => exact absurd HA.out (by simp [r4_Put.j0])
  | succ kj2 =>
   have H := HA.out
   clear HA
   simp only [r4_Put.j0] at H
   by_cases c11 : x13_2 = true
   ·subst c11
    have H1 : (some (a1_0, a1_1, a1_2, a1_3)) = some (r1, r2, r3, r4) := by rw [if_pos rfl] at H; exact H
    clear H
    have H := H1
    clear H1
    simp only [Option.some.injEq, Prod.mk.injEq] at H
    obtain ⟨rfl, rfl, rfl, rfl⟩ := H
    have hnb12 := NB169_170.out
    have hnc12 := NB170_169.out
    obtain ⟨hcz13_0, hcz13_1, hcz13_2, hcz13_3⟩ := cz4 BK169.out
    obtain ⟨hfz13_0, hfz13_1, hfz13_2, hfz13_3⟩ := fz4 BK169.out
    obtain ⟨hcz14_0, hcz14_1, hcz14_2, hcz14_3⟩ := cz4 BK170.out
    obtain ⟨hfz14_0, hfz14_1, hfz14_2, hfz14_3⟩ := fz4 BK170.out
    go_wp2
    repeat (go_quiet (fail); try go_wp2)
    refine bodyPost_ret (results_cell_row rfl _ _ gb170 28 #[.string a1_0, .int .i8 a1_1, .int .i64 a1_2, .string a1_3] (0, 0) _ rfl (by (with_reducible repeat (first | refine xaf ?_ _ | refine xai ?_ | refine xad ?_ _)); refine xas (cs := #[.string a1_0, .int .i8 a1_1, .int .i64 a1_2, .string (⟨#[]⟩ : ByteArray)]) ?_ 3 _ rfl; (with_reducible repeat (first | refine xaf ?_ _ | refine xai ?_ | refine xad ?_ _)); refine xas (cs := #[.string a1_0, .int .i8 a1_1, .int .i64 0, .string (⟨#[]⟩ : ByteArray)]) ?_ 2 _ rfl; (with_reducible repeat (first | refine xaf ?_ _ | refine xai ?_ | refine xad ?_ _)); refine xas (cs := #[.string a1_0, .int .i8 0, .int .i64 0, .string (⟨#[]⟩ : ByteArray)]) ?_ 1 _ rfl; (with_reducible repeat (first | refine xaf ?_ _ | refine xai ?_ | refine xad ?_ _)); refine xas (cs := #[.string (⟨#[]⟩ : ByteArray), .int .i8 0, .int .i64 0, .string (⟨#[]⟩ : ByteArray)]) ?_ 0 _ rfl; (with_reducible repeat (first | refine xaf ?_ _ | refine xai ?_ | refine xad ?_ _)); exact BK170.out) Tryd.underlying28 rfl (by kernel_rfl)) rfl ?_
    exact ⟨by first | rfl | (simp [xan, xam] <;> rfl) | (simp [*, xan, xam] <;> rfl), by repeat (first | (with_reducible first | exact HB.out | apply xab | apply xaa | apply xac | refine xah ?_ GE169.out | refine xah ?_ GE170.out) | exact HB.out)⟩
   ·replace c11 := Bool.eq_false_iff.mpr c11
    subst c11
    have H1 : (r4_Put.l0 kj2 l0 0 a1_0 a1_1 a1_2 a1_3) = some (r1, r2, r3, r4) := by rw [if_neg (show ¬ (false = true) by decide)] at H; exact H
    clear H
    have H := H1
    clear H1
    have H' := Aside0.mk H
    clear H
    go_wp2
    repeat (go_quiet (fail); try go_wp2)
    go_loopg [5] kj2 (fun kq v5 w' => ∃ (x5_2 : Int) (x171000_2 : ByteArray) (x171001_2 : Int) (x171002_2 : Int) (x171003_2 : ByteArray), v5 = .int .i64 x5_2 ∧ Aside0 (r4_Put.l0 kq l0 x5_2 a1_0 a1_1 a1_2 a1_3 = some (r1, r2, r3, r4)) ∧ Aside0 (kq ≤ kj2) ∧ Aside0 (w'.heap[gb169]? = some (.cells #[.string a1_0, .int .i8 a1_1, .int .i64 a1_2, .string a1_3] 28 (0, 0))) ∧ Aside0 (w'.heap[gb170]? = some (.cells #[.string x171000_2, .int .i8 x171001_2, .int .i64 x171002_2, .string x171003_2] 28 (0, 0))) ∧ Aside0 (Below w.heap.size w w'))
    case atStart => exact ⟨(0), ((⟨#[]⟩ : ByteArray)), (0), (0), ((⟨#[]⟩ : ByteArray)), (by first | rfl | (simp; done) | (simp [*]; done)), H', ⟨Nat.le_refl _⟩, ⟨by (with_reducible repeat (first | refine xaf ?_ _ | refine xai ?_ | refine xad ?_ _)); exact BK169.out⟩, ⟨by (with_reducible repeat (first | refine xaf ?_ _ | refine xai ?_ | refine xad ?_ _)); exact BK170.out⟩, ⟨by repeat (first | (with_reducible first | exact HB.out | apply xab | apply xaa | apply xac | refine xah ?_ GE169.out | refine xah ?_ GE170.out) | exact HB.out)⟩⟩
    case round =>
     clear H'
     try clear c1
     try clear p2
     try clear c5
     try clear c6
     try clear c6b0
     try clear c6b1
     try clear c7
     try clear c9
     try clear c11
     try clear c12
     try clear hcz10_0
     try clear hcz10_1
     try clear hcz10_2
     try clear hcz10_3
     try clear hcz13_0
     try clear hcz13_1
     try clear hcz13_2
     try clear hcz13_3
     try clear hcz14_0
     try clear hcz14_1
     try clear hcz14_2
     try clear hcz14_3
     try clear hcz8_0
     try clear hcz8_1
     try clear hcz8_2
     try clear hcz8_3
     try clear hfz10_0
     try clear hfz10_1
     try clear hfz10_2
     try clear hfz10_3
     try clear hfz13_0
     try clear hfz13_1
     try clear hfz13_2
     try clear hfz13_3
     try clear hfz14_0
     try clear hfz14_1
     try clear hfz14_2
     try clear hfz14_3
     try clear hfz8_0
     try clear hfz8_1
     try clear hfz8_2
     try clear hfz8_3
     try clear p2
     obtain ⟨x5_2, x171000_2, x171001_2, x171002_2, x171003_2, rfl, HA, HK2, BK169, BK170, HB⟩ := hrel
     cases gk with
     | zero => exact absurd HA.out (by simp [r4_Put.l0])
     | succ k2 =>
      have H := HA.out
      clear HA
      simp only [r4_Put.l0] at H
      by_cases c15 : x5_2 < (l0.length : Int)
      ·rw [if_pos c15] at H
       have c15b0 : decide (x5_2 < (l0.length : Int)) = true := decide_eq_true c15
       clear c15
       by_cases c16 : 0 ≤ x5_2
       ·rw [if_pos c16] at H
        have c16b0 : decide (0 ≤ x5_2) = true := decide_eq_true c16
        clear c16
        by_cases c17 : ((rd_T82 l0 x5_2).f0).toList = a1_0.toList
        ·rw [if_pos c17] at H
         have c17b0 : (((rd_T82 l0 x5_2).f0).toList == a1_0.toList) = true := beq_iff_eq.mpr c17
         have c17b1 : (((rd_T82 l0 x5_2).f0).toList != a1_0.toList) = false := bne_eq_false_iff_eq.mpr c17
         clear c17
         simp only [Option.some.injEq, Prod.mk.injEq] at H
         obtain ⟨rfl, rfl, rfl, rfl⟩ := H
         have p171 : 0 ≤ (x5_2 : Int) := of_decide_eq_true (by first | (with_reducible assumption) | assumption)
         have q171 : x5_2 < (l0.length : Int) := of_decide_eq_true (by first | (with_reducible assumption) | assumption)
         obtain ⟨ad171, e171, hx171_0, hx171_1, hx171_2, hx171_3, hx171_4⟩ := at_T82 HR0.out x5_2 p171 q171
         cases e171
         replace hx171_0 := (HB.out.cell (World.block_lt_of_cell? w _ hx171_0)).trans hx171_0
         replace hx171_1 := (HB.out.cell (World.block_lt_of_cell? w _ hx171_1)).trans hx171_1
         replace hx171_2 := (HB.out.cell (World.block_lt_of_cell? w _ hx171_2)).trans hx171_2
         replace hx171_3 := (HB.out.cell (World.block_lt_of_cell? w _ hx171_3)).trans hx171_3
         replace hx171_4 := (HB.out.cell (World.block_lt_of_cell? w _ hx171_4)).trans hx171_4
         replace p171 := eq_true p171
         replace q171 := eq_true q171
         have hnb18 := NB169_170.out
         have hnc18 := NB170_169.out
         obtain ⟨hcz19_0, hcz19_1, hcz19_2, hcz19_3⟩ := cz4 BK169.out
         obtain ⟨hfz19_0, hfz19_1, hfz19_2, hfz19_3⟩ := fz4 BK169.out
         have p172 : 0 ≤ (x5_2 : Int) := of_decide_eq_true (by first | (with_reducible assumption) | assumption)
         have q172 : x5_2 < (l0.length : Int) := of_decide_eq_true (by first | (with_reducible assumption) | assumption)
         obtain ⟨ad172, e172, hx172_0, hx172_1, hx172_2, hx172_3, hx172_4⟩ := at_T82 HR0.out x5_2 p172 q172
         obtain rfl : ad171 = ad172 := (by injection e172)
         replace hx172_0 := (HB.out.cell (World.block_lt_of_cell? w _ hx172_0)).trans hx172_0
         replace hx172_1 := (HB.out.cell (World.block_lt_of_cell? w _ hx172_1)).trans hx172_1
         replace hx172_2 := (HB.out.cell (World.block_lt_of_cell? w _ hx172_2)).trans hx172_2
         replace hx172_3 := (HB.out.cell (World.block_lt_of_cell? w _ hx172_3)).trans hx172_3
         replace hx172_4 := (HB.out.cell (World.block_lt_of_cell? w _ hx172_4)).trans hx172_4
         replace p172 := eq_true p172
         replace q172 := eq_true q172
         obtain ⟨hcz20_0, hcz20_1, hcz20_2, hcz20_3⟩ := cz4 BK170.out
         obtain ⟨hfz20_0, hfz20_1, hfz20_2, hfz20_3⟩ := fz4 BK170.out
         go_wp2
         repeat (go_quiet (fail); try go_wp2)
         refine bodyPost_ret (results_cell_row rfl _ _ gb170 28 #[.string ((rd_T82 l0 x5_2).f1.f0), .int .i8 ((rd_T82 l0 x5_2).f1.f1.f0), .int .i64 ((rd_T82 l0 x5_2).f1.f1.f1), .string ((rd_T82 l0 x5_2).f1.f1.f2)] (0, 0) _ rfl (by (with_reducible repeat (first | refine xaf ?_ _ | refine xai ?_ | refine xad ?_ _)); refine xas (cs := #[.string ((rd_T82 l0 x5_2).f1.f0), .int .i8 ((rd_T82 l0 x5_2).f1.f1.f0), .int .i64 ((rd_T82 l0 x5_2).f1.f1.f1), .string x171003_2]) ?_ 3 _ rfl; (with_reducible repeat (first | refine xaf ?_ _ | refine xai ?_ | refine xad ?_ _)); refine xas (cs := #[.string ((rd_T82 l0 x5_2).f1.f0), .int .i8 ((rd_T82 l0 x5_2).f1.f1.f0), .int .i64 x171002_2, .string x171003_2]) ?_ 2 _ rfl; (with_reducible repeat (first | refine xaf ?_ _ | refine xai ?_ | refine xad ?_ _)); refine xas (cs := #[.string ((rd_T82 l0 x5_2).f1.f0), .int .i8 x171001_2, .int .i64 x171002_2, .string x171003_2]) ?_ 1 _ rfl; (with_reducible repeat (first | refine xaf ?_ _ | refine xai ?_ | refine xad ?_ _)); refine xas (cs := #[.string x171000_2, .int .i8 x171001_2, .int .i64 x171002_2, .string x171003_2]) ?_ 0 _ rfl; (with_reducible repeat (first | refine xaf ?_ _ | refine xai ?_ | refine xad ?_ _)); exact BK170.out) Tryd.underlying28 rfl (by kernel_rfl)) rfl ?_
         exact ⟨by first | rfl | (simp [xan, xam] <;> rfl) | (simp [*, xan, xam] <;> rfl), by repeat (first | (with_reducible first | exact HB.out | apply xab | apply xaa | apply xac | refine xah ?_ GE169.out | refine xah ?_ GE170.out) | exact HB.out)⟩
        ·rw [if_neg c17] at H
         have c17b0 : (((rd_T82 l0 x5_2).f0).toList == a1_0.toList) = false := beq_eq_false_iff_ne.mpr c17
         have c17b1 : (((rd_T82 l0 x5_2).f0).toList != a1_0.toList) = true := bne_iff_ne.mpr c17
         have H' := Aside0.mk H
         clear H
         have p171 : 0 ≤ (x5_2 : Int) := of_decide_eq_true (by first | (with_reducible assumption) | assumption)
         have q171 : x5_2 < (l0.length : Int) := of_decide_eq_true (by first | (with_reducible assumption) | assumption)
         obtain ⟨ad171, e171, hx171_0, hx171_1, hx171_2, hx171_3, hx171_4⟩ := at_T82 HR0.out x5_2 p171 q171
         cases e171
         replace hx171_0 := (HB.out.cell (World.block_lt_of_cell? w _ hx171_0)).trans hx171_0
         replace hx171_1 := (HB.out.cell (World.block_lt_of_cell? w _ hx171_1)).trans hx171_1
         replace hx171_2 := (HB.out.cell (World.block_lt_of_cell? w _ hx171_2)).trans hx171_2
         replace hx171_3 := (HB.out.cell (World.block_lt_of_cell? w _ hx171_3)).trans hx171_3
         replace hx171_4 := (HB.out.cell (World.block_lt_of_cell? w _ hx171_4)).trans hx171_4
         replace p171 := eq_true p171
         replace q171 := eq_true q171
         have hnb21 := NB169_170.out
         have hnc21 := NB170_169.out
         obtain ⟨hcz22_0, hcz22_1, hcz22_2, hcz22_3⟩ := cz4 BK169.out
         obtain ⟨hfz22_0, hfz22_1, hfz22_2, hfz22_3⟩ := fz4 BK169.out
         go_wp2
         repeat (go_quiet (fail); try go_wp2)
         go_roundg k2
         case measure => have := HJ2.out; have := HK2.out; omega
         case rel => exact ⟨(wrap64 (x5_2 + 1)), (x171000_2), (x171001_2), (x171002_2), (x171003_2), (by first | rfl | (simp; done) | (simp [*]; done)), H', ⟨by have := HJ2.out; have := HK2.out; omega⟩, ⟨by (with_reducible repeat (first | refine xaf ?_ _ | refine xai ?_ | refine xad ?_ _)); exact BK169.out⟩, ⟨by (with_reducible repeat (first | refine xaf ?_ _ | refine xai ?_ | refine xad ?_ _)); exact BK170.out⟩, ⟨by repeat (first | (with_reducible first | exact HB.out | apply xab | apply xaa | apply xac | refine xah ?_ GE169.out | refine xah ?_ GE170.out) | exact HB.out)⟩⟩
       ·rw [if_neg c16] at H
        exact absurd H (by simp)
      ·rw [if_neg c15] at H
       have c15b0 : decide (x5_2 < (l0.length : Int)) = false := decide_eq_false c15
       clear c15
       simp only [Option.some.injEq, Prod.mk.injEq] at H
       obtain ⟨rfl, rfl, rfl, rfl⟩ := H
       have hnb23 := NB169_170.out
       have hnc23 := NB170_169.out
       obtain ⟨hcz24_0, hcz24_1, hcz24_2, hcz24_3⟩ := cz4 BK169.out
       obtain ⟨hfz24_0, hfz24_1, hfz24_2, hfz24_3⟩ := fz4 BK169.out
       obtain ⟨hcz25_0, hcz25_1, hcz25_2, hcz25_3⟩ := cz4 BK170.out
       obtain ⟨hfz25_0, hfz25_1, hfz25_2, hfz25_3⟩ := fz4 BK170.out
       go_wp2
       repeat (go_quiet (fail); try go_wp2)
       refine bodyPost_ret (results_cell_row rfl _ _ gb170 28 #[.string a1_0, .int .i8 a1_1, .int .i64 a1_2, .string a1_3] (0, 0) _ rfl (by (with_reducible repeat (first | refine xaf ?_ _ | refine xai ?_ | refine xad ?_ _)); refine xas (cs := #[.string a1_0, .int .i8 a1_1, .int .i64 a1_2, .string x171003_2]) ?_ 3 _ rfl; (with_reducible repeat (first | refine xaf ?_ _ | refine xai ?_ | refine xad ?_ _)); refine xas (cs := #[.string a1_0, .int .i8 a1_1, .int .i64 x171002_2, .string x171003_2]) ?_ 2 _ rfl; (with_reducible repeat (first | refine xaf ?_ _ | refine xai ?_ | refine xad ?_ _)); refine xas (cs := #[.string a1_0, .int .i8 x171001_2, .int .i64 x171002_2, .string x171003_2]) ?_ 1 _ rfl; (with_reducible repeat (first | refine xaf ?_ _ | refine xai ?_ | refine xad ?_ _)); refine xas (cs := #[.string x171000_2, .int .i8 x171001_2, .int .i64 x171002_2, .string x171003_2]) ?_ 0 _ rfl; (with_reducible repeat (first | refine xaf ?_ _ | refine xai ?_ | refine xad ?_ _)); exact BK170.out) Tryd.underlying28 rfl (by kernel_rfl)) rfl ?_
       exact ⟨by first | rfl | (simp [xan, xam] <;> rfl) | (simp [*, xan, xam] <;> rfl), by repeat (first | (with_reducible first | exact HB.out | apply xab | apply xaa | apply xac | refine xah ?_ GE169.out | refine xah ?_ GE170.out) | exact HB.out)⟩
mutual
def r4_ApplyExpr.l0 : Nat → List (S82) → Int → Int → ByteArray → Int → Int → ByteArray → List (S31) → Int → ByteArray → Int → Int → ByteArray → List (S31) → Option (Int × ByteArray × Int × Int × ByteArray × (List (S31)))
 | 0, _, _, _, _, _, _, _, _, _, _, _, _, _, _ => none
 | k + 1, x0, x6, x174000, x174001, x174002, x174003, x174004, x174005, x180000, x180001, x180002, x180003, x180004, x180005 => if x6 < (x174005.length : Int) then (if 0 ≤ x6 then ((r4_ApplyExpr.f k x0 ((rd_T31 x174005 x6).f0) ((rd_T31 x174005 x6).f1.f0) ((rd_T31 x174005 x6).f1.f1.f0) ((rd_T31 x174005 x6).f1.f1.f1) ((rd_T31 x174005 x6).f1.f1.f2) ((rd_T31 x174005 x6).f2)).bind fun bt181 => (if x180005.length < 1759218604441 then (r4_ApplyExpr.l0 k x0 (wrap64 (x6 + 1)) x174000 x174001 x174002 x174003 x174004 x174005 x180000 x180001 x180002 x180003 x180004 (x180005 ++ [(⟨bt181.1, (⟨bt181.2.1, (⟨bt181.2.2.1, bt181.2.2.2.1, bt181.2.2.2.2.1⟩ : S26)⟩ : S28), bt181.2.2.2.2.2⟩ : S31)])) else (none))) else (none)) else (some (x180000, x180001, x180002, x180003, x180004, x180005))
def r4_ApplyExpr.f : Nat → List (S82) → Int → ByteArray → Int → Int → ByteArray → List (S31) → Option (Int × ByteArray × Int × Int × ByteArray × (List (S31)))
 | 0, _, _, _, _, _, _, _ => none
 | k + 1, l0, a1_0, a1_1, a1_2, a1_3, a1_4, l1_5 => (r4_Put.f k l0 a1_1 a1_2 a1_3 a1_4).bind fun bt175 => (r4_ApplyExpr.l0 k l0 0 a1_0 a1_1 a1_2 a1_3 a1_4 l1_5 a1_0 bt175.1 bt175.2.1 bt175.2.2.1 bt175.2.2.2 ([] : List (S31)))
end
def r4_ApplyExpr.T1 : Bool × List (List Nat × List Nat) := (true, [([], []), ([0], [0]), ([], []), ([], []), ([3], [3]), ([2, 4], [2, 4]), ([1, 5], [1, 5]), ([], []), ([7, 6, 5, 0, 1, 2, 3, 4, 5, 6, 7], [6, 7])])
def r4_ApplyExpr.B1 : List Nat := [0, 1, 0, 0, 8, 28, 63, 0, 255]
theorem r4_ApplyExpr.tab1 : rtab .any (opsOf Tryd.f15 1) = r4_ApplyExpr.T1 := by kernel_rfl
theorem r4_ApplyExpr.bits1 : waitsOk r4_ApplyExpr.T1.2 r4_ApplyExpr.B1 = true := by kernel_rfl
def r4_ApplyExpr.T5 : Bool × List (List Nat × List Nat) := (true, [([], []), ([0], [0]), ([], []), ([], []), ([3], [3]), ([], []), ([4, 5], [4, 5]), ([6], [6]), ([2, 7], [2, 7]), ([8], [8]), ([1, 9, 8], [1, 9]), ([0, 1, 2, 3, 4, 5, 6, 7, 8, 9, 10], []), ([11, 10, 10, 0, 1, 2, 3, 4, 5, 6, 7, 8, 9, 10], [10, 11])])
def r4_ApplyExpr.B5 : List Nat := [0, 1, 0, 0, 8, 0, 56, 120, 252, 508, 1023, 2047, 4095]
theorem r4_ApplyExpr.tab5 : rtab .any (opsOf Tryd.f15 5) = r4_ApplyExpr.T5 := by kernel_rfl
theorem r4_ApplyExpr.bits5 : waitsOk r4_ApplyExpr.T5.2 r4_ApplyExpr.B5 = true := by kernel_rfl
set_option maxHeartbeats 8000000 in
set_option maxRecDepth 100000 in
theorem r4_ApplyExpr.calls (k : Nat) : ∀ (A0 : Option Addr) (c0 : Nat) (l0 : List (S82)) (a1_0 : Int) (a1_1 : ByteArray) (a1_2 : Int) (a1_3 : Int) (a1_4 : ByteArray) (A1_5 : Option Addr) (c1_5 : Nat) (l1_5 : List (S31)) (r1 : Int) (r2 : ByteArray) (r3 : Int) (r4 : Int) (r5 : ByteArray) (r6 : List (S31)) (w : World) (hr0 : Kd.C k82 w A0 l0.length l0) (hc0 : l0.length ≤ c0) (hr1_5 : Kd.C k31 w A1_5 l1_5.length l1_5) (hc1_5 : l1_5.length ≤ c1_5) (h : r4_ApplyExpr.f k l0 a1_0 a1_1 a1_2 a1_3 a1_4 l1_5 = some (r1, r2, r3, r4, r5, r6)),
  Calls Tryd.prog 15 #[.slice A0 l0.length c0, .agg #[.int .i8 a1_0, .string a1_1, .int .i8 a1_2, .int .i64 a1_3, .string a1_4, .slice A1_5 l1_5.length c1_5]] w fun e w' => ∃ v5_ : Value, e = .returned (.agg #[.int .i8 r1, .string r2, .int .i8 r3, .int .i64 r4, .string r5, v5_]) ∧ Kd.R k31 31 w' w.heap.size (fun _ => True) v5_ r6 ∧ Below w.heap.size w w' := by
 induction k using Nat.strongRecOn with
 | _ k ih =>
 intro A0 c0 l0 a1_0 a1_1 a1_2 a1_3 a1_4 A1_5 c1_5 l1_5 r1 r2 r3 r4 r5 r6 w hr0 hc0 hr1_5 hc1_5 h
 cases k with
 | zero => exact absurd h (by simp [r4_ApplyExpr.f])
 | succ k =>
 simp only [r4_ApplyExpr.f] at h
 have hu31 := Tryd.underlying31
 have hu28 := Tryd.underlying28
 have HR0 := Aside0.mk hr0
 have HC0 := Aside0.mk hc0
 clear hr0 hc0
 have HR1_5 := Aside0.mk hr1_5
 have HC1_5 := Aside0.mk hc1_5
 clear hr1_5 hc1_5
 have HB := Aside0.mk (Below.refl w.heap.size w)
 have H : ((r4_Put.f k l0 a1_1 a1_2 a1_3 a1_4).bind fun bt175 => (r4_ApplyExpr.l0 k l0 0 a1_0 a1_1 a1_2 a1_3 a1_4 l1_5 a1_0 bt175.1 bt175.2.1 bt175.2.2.1 bt175.2.2.2 ([] : List (S31)))) = some (r1, r2, r3, r4, r5, r6) := h
 clear h
 replace H := Option.bind_eq_some_iff.mp H
 obtain ⟨⟨t175, t176, t177, t178⟩, A30, H⟩ := H
 replace H : (r4_ApplyExpr.l0 k l0 0 a1_0 a1_1 a1_2 a1_3 a1_4 l1_5 a1_0 t175 t176 t177 t178 ([] : List (S31))) = some (r1, r2, r3, r4, r5, r6) := H
 have A3 := Aside0.mk A30
 clear A30
 have H' := Aside0.mk H
 clear H
 go_enter Tryd.func15, Tryd.ntmps15
 try go_wp2_with (first | ((with_reducible refine xap (N := 3) rfl ?_); refine xaq ?hg (N := 3) ?hd (cs := #[.int .i8 a1_0, .string a1_1, .int .i8 a1_2, .int .i64 a1_3, .string a1_4, .slice A1_5 l1_5.length c1_5]) (t := 31) ?hr ?_; (case hd => rfl); (case hg => rfl); (case hr => first | (go_simp; done) | (go_simp; rfl)); intro gb173 hg w4 hbox hb; have n0_ := Aside0.mk (xae (by repeat (first | (with_reducible first | exact HB.out | apply xab | apply xaa | apply xac) | exact HB.out)) hb); have n1_ := Aside0.mk (hbox); have n2_ := Aside0.mk ((by rw [hg]; exact (xao (by repeat (first | (with_reducible first | exact HB.out | apply xab | apply xaa | apply xac) | exact HB.out))) : w.heap.size ≤ gb173)); have n3_ := n2_; clear HB; have HB := n0_; have BK173 := n1_; have GW173 := n2_; have GE173 := n3_; clear n0_ n1_ n2_ n3_; clear hb hbox hg) | ((with_reducible refine xap (N := 4) rfl ?_); refine xaq ?hg (N := 4) ?hd (cs := #[.int .i8 0, .string (⟨#[]⟩ : ByteArray), .int .i8 0, .int .i64 0, .string (⟨#[]⟩ : ByteArray), .slice none 0 0]) (t := 31) ?hr ?_; (case hd => rfl); (case hg => rfl); (case hr => first | (go_simp; done) | (go_simp; rfl)); intro gb174 hg w5 hbox hb; have n0_ := Aside0.mk (xak (g := gb173) (o := .cells #[.int .i8 a1_0, .string a1_1, .int .i8 a1_2, .int .i64 a1_3, .string a1_4, .slice A1_5 l1_5.length c1_5] 31 (0, 0)) (by (with_reducible repeat (first | refine xaf ?_ _ | refine xai ?_ | refine xad ?_ _)); exact BK173.out) hb); have n1_ := Aside0.mk (xae (by repeat (first | (with_reducible first | exact HB.out | apply xab | apply xaa | apply xac | refine xah ?_ GE173.out) | exact HB.out)) hb); have n2_ := Aside0.mk (hbox); have n3_ := Aside0.mk ((by rw [hg]; exact (xao (by repeat (first | (with_reducible first | exact HB.out | apply xab | apply xaa | apply xac | refine xah ?_ GE173.out) | exact HB.out))) : w.heap.size ≤ gb174)); have n4_ := n3_; have n5_ := Aside0.mk ((by rw [hg]; exact Nat.ne_of_lt (blk_lt (g := gb173) (o := .cells #[.int .i8 a1_0, .string a1_1, .int .i8 a1_2, .int .i64 a1_3, .string a1_4, .slice A1_5 l1_5.length c1_5] 31 (0, 0)) (by (with_reducible repeat (first | refine xaf ?_ _ | refine xai ?_ | refine xad ?_ _)); exact BK173.out)) : gb173 ≠ gb174)); have n6_ := Aside0.mk ((by rw [hg]; exact Nat.ne_of_gt (blk_lt (g := gb173) (o := .cells #[.int .i8 a1_0, .string a1_1, .int .i8 a1_2, .int .i64 a1_3, .string a1_4, .slice A1_5 l1_5.length c1_5] 31 (0, 0)) (by (with_reducible repeat (first | refine xaf ?_ _ | refine xai ?_ | refine xad ?_ _)); exact BK173.out)) : gb174 ≠ gb173)); clear BK173; clear HB; have BK173 := n0_; have HB := n1_; have BK174 := n2_; have GW174 := n3_; have GE174 := n4_; have NB173_174 := n5_; have NB174_173 := n6_; clear n0_ n1_ n2_ n3_ n4_ n5_ n6_; clear hb hbox hg))
 have n0_ := Aside0.mk (xai BK173.out)
 have n1_ := Aside0.mk (xai BK174.out)
 have n2_ := Aside0.mk (xac HB.out)
 clear BK173
 clear BK174
 clear HB
 have BK173 := n0_
 have BK174 := n1_
 have HB := n2_
 clear n0_ n1_ n2_
 refine start_ (n := 9) (S := fun w' => w'.cell? ⟨gb173, 0, none⟩ = some (.int .i8 a1_0) ∧ w'.cell? ⟨gb173, 1, none⟩ = some (.string a1_1) ∧ w'.cell? ⟨gb173, 2, none⟩ = some (.int .i8 a1_2) ∧ w'.cell? ⟨gb173, 3, none⟩ = some (.int .i64 a1_3) ∧ w'.cell? ⟨gb173, 4, none⟩ = some (.string a1_4) ∧ w'.cell? ⟨gb173, 5, none⟩ = some (.slice A1_5 l1_5.length c1_5)) (ds := []) #[false, false, false, false, false, false, false, false, false] (by kernel_rfl) rfl rfl ⟨(xag BK173.out 0).trans rfl, (xag BK173.out 1).trans rfl, (xag BK173.out 2).trans rfl, (xag BK173.out 3).trans rfl, (xag BK173.out 4).trans rfl, (xag BK173.out 5).trans rfl⟩ (fun hHeld => ?_); refine with_tabW r4_ApplyExpr.tab1 r4_ApplyExpr.bits1 (fun HT_ HW_ => ?_)
 generalize w5.drew = w6 at BK173 BK174 HB hHeld ⊢
 refine pure_ (i := 0) (N := some 7) (v := ?_) (a' := ?_) #[true, false, false, false, false, false, false, false, false] rfl rfl (any_of HT_.out (by kernel_rfl)) (fun _ _ _ h => h) (Or.inl ⟨by rfl, ?_⟩) ?_ ?_
 rotate_left
 ·intro w'
  go_simp
  with_reducible rfl
 rotate_left
 ·simp only [Act.put, sI, sZ, sS, i64_w, i32_w]
  rfl
 refine pure_ (i := 2) (N := some 9) (v := ?_) (a' := ?_) #[true, false, true, false, false, false, false, false, false] rfl rfl (any_of HT_.out (by kernel_rfl)) (fun _ _ _ h => h) (Or.inl ⟨by rfl, ?_⟩) ?_ ?_
 rotate_left
 ·intro w'
  go_simp
  with_reducible rfl
 rotate_left
 ·simp only [Act.put, sI, sZ, sS, i64_w, i32_w]
  rfl
 refine pure_ (i := 3) (N := some 10) (v := ?_) (a' := ?_) #[true, false, true, true, false, false, false, false, false] rfl rfl (any_of HT_.out (by kernel_rfl)) (fun _ _ _ h => h) (Or.inl ⟨by rfl, ?_⟩) ?_ ?_
 rotate_left
 ·intro w'
  go_simp
  with_reducible rfl
 rotate_left
 ·simp only [Act.put, sI, sZ, sS, i64_w, i32_w]
  rfl
 refine take_ (i := 1) (N := some 8) (v := ?_) (a' := ?_) #[true, true, true, true, false, false, false, false, false] rfl rfl (take_ofW HT_.out HW_.out (by kernel_rfl)) (fun _ _ _ h => h) (Or.inl ⟨by rfl, ?_⟩) hHeld ?_ ?_
 rotate_left
 ·rintro w' ⟨s0, s1, s2, s3, s4, s5⟩
  go_simp
  with_reducible rfl
 rotate_left
 ·simp only [Act.put, sI, sZ, sS, i64_w, i32_w]
  rfl
 refine take_ (i := 4) (N := some 11) (v := ?_) (a' := ?_) #[true, true, true, true, true, false, false, false, false] rfl rfl (take_ofW HT_.out HW_.out (by kernel_rfl)) (fun _ _ _ h => h) (Or.inl ⟨by rfl, ?_⟩) hHeld ?_ ?_
 rotate_left
 ·rintro w' ⟨s0, s1, s2, s3, s4, s5⟩
  go_simp
  with_reducible rfl
 rotate_left
 ·simp only [Act.put, sI, sZ, sS, i64_w, i32_w]
  rfl
 refine join_ (σ := Nat) 1 #[true, true, true, true, true, true, true, true, false] (fun s_ => [(12, .agg #[.string t175, .int .i8 t176, .int .i64 t177, .string t178]), (5, .pointer (some ⟨s_, 0, none⟩)), (13, .agg #[.int .i8 a1_0, .string t175, .int .i8 t176, .int .i64 t177, .string t178, .slice none 0 0])]) (fun s_ w' => (w'.cell? ⟨gb173, 0, none⟩ = some (.int .i8 a1_0) ∧ w'.cell? ⟨gb173, 1, none⟩ = some (.string a1_1) ∧ w'.cell? ⟨gb173, 2, none⟩ = some (.int .i8 a1_2) ∧ w'.cell? ⟨gb173, 3, none⟩ = some (.int .i64 a1_3) ∧ w'.cell? ⟨gb173, 4, none⟩ = some (.string a1_4) ∧ w'.cell? ⟨gb173, 5, none⟩ = some (.slice A1_5 l1_5.length c1_5)) ∧ (w'.heap[gb173]? = some (.cells #[.int .i8 a1_0, .string a1_1, .int .i8 a1_2, .int .i64 a1_3, .string a1_4, .slice A1_5 l1_5.length c1_5] 31 (0, 0))) ∧ (w'.heap[gb174]? = some (.cells #[.int .i8 0, .string (⟨#[]⟩ : ByteArray), .int .i8 0, .int .i64 0, .string (⟨#[]⟩ : ByteArray), .slice none 0 0] 31 (0, 0))) ∧ (w'.heap[s_]? = some (.cells #[.int .i8 0, .string (⟨#[]⟩ : ByteArray), .int .i8 0, .int .i64 0, .string (⟨#[]⟩ : ByteArray), .slice none 0 0] 31 (0, 0))) ∧ (w.heap.size ≤ s_) ∧ (w.heap.size ≤ s_) ∧ (gb173 ≠ s_) ∧ (s_ ≠ gb173) ∧ (gb174 ≠ s_) ∧ (s_ ≠ gb174) ∧ (Below w.heap.size w w')) ?_ ?_
 rotate_left
 ·intro hCont
  refine two_ (i := 5) (j := 7) (Ni := some 12) (Nj := some 5) #[true, true, true, true, true, true, false, false, false] #[true, true, true, true, true, false, false, true, false] rfl rfl rfl rfl (two_of HT_.out (by kernel_rfl)) (by decide) (by decide) (fun K hK => ?_) (fun K hK => ?_)
  ·skip
   refine goes_ Tryd.func58 (by kernel_rfl) rfl #[.slice A0 l0.length c0, .agg #[.string a1_1, .int .i8 a1_2, .int .i64 a1_3, .string a1_4]] (by rfl) rfl rfl (by (try simp only [List.map_toArray, List.map_cons, List.map_nil]); first | done | rfl | (simp only [List.length_drop, List.length_take]; rfl)) ?_
   with_reducible refine (r4_Put.calls k _ _ l0 a1_1 a1_2 a1_3 a1_4 t175 t176 t177 t178 _ ?side1 ?side2 A3.out).mono ?_
   (case side1 => repeat (first | exact (Kd.C_below HR0.out HB.out) | (with_reducible refine Kd.C_alloc ?_ _) | (with_reducible refine Kd.C_drewN ?_ _) | (with_reducible refine Kd.C_drew ?_)))
   (case side2 => exact HC0.out)
   rintro e w7 ⟨rfl, hb⟩
   refine ⟨_, rfl, ?_⟩
   have n0_ := Aside0.mk (xak (g := gb173) (o := .cells #[.int .i8 a1_0, .string a1_1, .int .i8 a1_2, .int .i64 a1_3, .string a1_4, .slice A1_5 l1_5.length c1_5] 31 (0, 0)) (by (with_reducible repeat (first | refine xaf ?_ _ | refine xai ?_ | refine xad ?_ _)); exact BK173.out) hb)
   have n1_ := Aside0.mk (xak (g := gb174) (o := .cells #[.int .i8 0, .string (⟨#[]⟩ : ByteArray), .int .i8 0, .int .i64 0, .string (⟨#[]⟩ : ByteArray), .slice none 0 0] 31 (0, 0)) (by (with_reducible repeat (first | refine xaf ?_ _ | refine xai ?_ | refine xad ?_ _)); exact BK174.out) hb)
   have n2_ := Aside0.mk (xae (by repeat (first | (with_reducible first | exact HB.out | apply xab | apply xaa | apply xac | refine xah ?_ GE173.out | refine xah ?_ GE174.out) | exact HB.out)) hb)
   clear BK173
   clear BK174
   clear HB
   have BK173 := n0_
   have BK174 := n1_
   have HB := n2_
   clear n0_ n1_ n2_
   (try clear hb)
   (try clear hb2)
   (try clear hk)
   (try clear hi)
   refine hK.out _ _ ⟨(xag BK173.out 0).trans rfl, (xag BK173.out 1).trans rfl, (xag BK173.out 2).trans rfl, (xag BK173.out 3).trans rfl, (xag BK173.out 4).trans rfl, (xag BK173.out 5).trans rfl⟩ (fun hHeld => ?_)
   clear hK K
   refine norm_ (a' := ?_) ?_ ?_
   rotate_left
   ·show Act.put _ (some 12) _ = _
    simp only [Act.put, sI, sZ, sS, i64_w, i32_w]
    rfl
   refine pure_ (i := 6) (N := some 13) (v := ?_) (a' := ?_) #[true, true, true, true, true, true, true, false, false] rfl rfl (any_of HT_.out (by kernel_rfl)) (fun _ _ _ h => h) (Or.inl ⟨by rfl, ?_⟩) ?_ ?_
   rotate_left
   ·intro w'
    go_simp
    with_reducible rfl
   rotate_left
   ·simp only [Act.put, sI, sZ, sS, i64_w, i32_w]
    rfl
   refine one_ (i := 7) (N := some 5) #[true, true, true, true, true, true, true, true, false] rfl rfl (one_of HT_.out (by kernel_rfl)) (by decide) (fun K hK => ?_)
   refine box_step ?hg (N := 5) ?hd (cs := #[.int .i8 0, .string (⟨#[]⟩ : ByteArray), .int .i8 0, .int .i64 0, .string (⟨#[]⟩ : ByteArray), .slice none 0 0]) (t := 31) ?hr ?_; (case hd => rfl); (case hg => rfl); (case hr => first | (go_simp; done) | (go_simp; rfl))
   intro gb179 hg w8 hbox hb
   have n0_ := Aside0.mk (xak (g := gb173) (o := .cells #[.int .i8 a1_0, .string a1_1, .int .i8 a1_2, .int .i64 a1_3, .string a1_4, .slice A1_5 l1_5.length c1_5] 31 (0, 0)) (by (with_reducible repeat (first | refine xaf ?_ _ | refine xai ?_ | refine xad ?_ _)); exact BK173.out) hb)
   have n1_ := Aside0.mk (xak (g := gb174) (o := .cells #[.int .i8 0, .string (⟨#[]⟩ : ByteArray), .int .i8 0, .int .i64 0, .string (⟨#[]⟩ : ByteArray), .slice none 0 0] 31 (0, 0)) (by (with_reducible repeat (first | refine xaf ?_ _ | refine xai ?_ | refine xad ?_ _)); exact BK174.out) hb)
   have n2_ := Aside0.mk (xae (by repeat (first | (with_reducible first | exact HB.out | apply xab | apply xaa | apply xac | refine xah ?_ GE173.out | refine xah ?_ GE174.out) | exact HB.out)) hb)
   have n3_ := Aside0.mk (hbox)
   have n4_ := Aside0.mk ((by rw [hg]; exact (xao (by repeat (first | (with_reducible first | exact HB.out | apply xab | apply xaa | apply xac | refine xah ?_ GE173.out | refine xah ?_ GE174.out) | exact HB.out))) : w.heap.size ≤ gb179))
   have n5_ := Aside0.mk ((by rw [hg]; exact (xao (by repeat (first | (with_reducible first | exact HB.out | apply xab | apply xaa | apply xac | refine xah ?_ GE173.out | refine xah ?_ GE174.out) | exact HB.out))) : w.heap.size ≤ gb179))
   have n6_ := Aside0.mk ((by rw [hg]; exact Nat.ne_of_lt (blk_lt (g := gb173) (o := .cells #[.int .i8 a1_0, .string a1_1, .int .i8 a1_2, .int .i64 a1_3, .string a1_4, .slice A1_5 l1_5.length c1_5] 31 (0, 0)) (by (with_reducible repeat (first | refine xaf ?_ _ | refine xai ?_ | refine xad ?_ _)); exact BK173.out)) : gb173 ≠ gb179))
   have n7_ := Aside0.mk ((by rw [hg]; exact Nat.ne_of_gt (blk_lt (g := gb173) (o := .cells #[.int .i8 a1_0, .string a1_1, .int .i8 a1_2, .int .i64 a1_3, .string a1_4, .slice A1_5 l1_5.length c1_5] 31 (0, 0)) (by (with_reducible repeat (first | refine xaf ?_ _ | refine xai ?_ | refine xad ?_ _)); exact BK173.out)) : gb179 ≠ gb173))
   have n8_ := Aside0.mk ((by rw [hg]; exact Nat.ne_of_lt (blk_lt (g := gb174) (o := .cells #[.int .i8 0, .string (⟨#[]⟩ : ByteArray), .int .i8 0, .int .i64 0, .string (⟨#[]⟩ : ByteArray), .slice none 0 0] 31 (0, 0)) (by (with_reducible repeat (first | refine xaf ?_ _ | refine xai ?_ | refine xad ?_ _)); exact BK174.out)) : gb174 ≠ gb179))
   have n9_ := Aside0.mk ((by rw [hg]; exact Nat.ne_of_gt (blk_lt (g := gb174) (o := .cells #[.int .i8 0, .string (⟨#[]⟩ : ByteArray), .int .i8 0, .int .i64 0, .string (⟨#[]⟩ : ByteArray), .slice none 0 0] 31 (0, 0)) (by (with_reducible repeat (first | refine xaf ?_ _ | refine xai ?_ | refine xad ?_ _)); exact BK174.out)) : gb179 ≠ gb174))
   clear BK173
   clear BK174
   clear HB
   have BK173 := n0_
   have BK174 := n1_
   have HB := n2_
   have BK179 := n3_
   have GW179 := n4_
   have GE179 := n5_
   have NB173_179 := n6_
   have NB179_173 := n7_
   have NB174_179 := n8_
   have NB179_174 := n9_
   clear n0_ n1_ n2_ n3_ n4_ n5_ n6_ n7_ n8_ n9_
   clear hb hbox hg
   refine hK.out _ _ ⟨(xag BK173.out 0).trans rfl, (xag BK173.out 1).trans rfl, (xag BK173.out 2).trans rfl, (xag BK173.out 3).trans rfl, (xag BK173.out 4).trans rfl, (xag BK173.out 5).trans rfl⟩ (fun hHeld => ?_)
   clear hK K
   refine norm_ (a' := ?_) ?_ ?_
   rotate_left
   ·show Act.put _ (some 5) _ = _
    simp only [Act.put, sI, sZ, sS, i64_w, i32_w]
    rfl
   exact norm_ (by simp only [putAll, Act.put, sI, sZ, sS]) (hCont (gb179) _ ⟨hHeld, (by (with_reducible repeat (first | refine xaf ?_ _ | refine xai ?_ | refine xad ?_ _)); exact BK173.out), (by (with_reducible repeat (first | refine xaf ?_ _ | refine xai ?_ | refine xad ?_ _)); exact BK174.out), (by (with_reducible repeat (first | refine xaf ?_ _ | refine xai ?_ | refine xad ?_ _)); exact BK179.out), GW179.out, GE179.out, NB173_179.out, NB179_173.out, NB174_179.out, NB179_174.out, (by repeat (first | (with_reducible first | exact HB.out | apply xab | apply xaa | apply xac | refine xah ?_ GE173.out | refine xah ?_ GE174.out | refine xah ?_ GE179.out) | exact HB.out))⟩)
  ·skip
   refine box_step ?hg (N := 5) ?hd (cs := #[.int .i8 0, .string (⟨#[]⟩ : ByteArray), .int .i8 0, .int .i64 0, .string (⟨#[]⟩ : ByteArray), .slice none 0 0]) (t := 31) ?hr ?_; (case hd => rfl); (case hg => rfl); (case hr => first | (go_simp; done) | (go_simp; rfl))
   intro gb179 hg w7 hbox hb
   have n0_ := Aside0.mk (xak (g := gb173) (o := .cells #[.int .i8 a1_0, .string a1_1, .int .i8 a1_2, .int .i64 a1_3, .string a1_4, .slice A1_5 l1_5.length c1_5] 31 (0, 0)) (by (with_reducible repeat (first | refine xaf ?_ _ | refine xai ?_ | refine xad ?_ _)); exact BK173.out) hb)
   have n1_ := Aside0.mk (xak (g := gb174) (o := .cells #[.int .i8 0, .string (⟨#[]⟩ : ByteArray), .int .i8 0, .int .i64 0, .string (⟨#[]⟩ : ByteArray), .slice none 0 0] 31 (0, 0)) (by (with_reducible repeat (first | refine xaf ?_ _ | refine xai ?_ | refine xad ?_ _)); exact BK174.out) hb)
   have n2_ := Aside0.mk (xae (by repeat (first | (with_reducible first | exact HB.out | apply xab | apply xaa | apply xac | refine xah ?_ GE173.out | refine xah ?_ GE174.out) | exact HB.out)) hb)
   have n3_ := Aside0.mk (hbox)
   have n4_ := Aside0.mk ((by rw [hg]; exact (xao (by repeat (first | (with_reducible first | exact HB.out | apply xab | apply xaa | apply xac | refine xah ?_ GE173.out | refine xah ?_ GE174.out) | exact HB.out))) : w.heap.size ≤ gb179))
   have n5_ := Aside0.mk ((by rw [hg]; exact (xao (by repeat (first | (with_reducible first | exact HB.out | apply xab | apply xaa | apply xac | refine xah ?_ GE173.out | refine xah ?_ GE174.out) | exact HB.out))) : w.heap.size ≤ gb179))
   have n6_ := Aside0.mk ((by rw [hg]; exact Nat.ne_of_lt (blk_lt (g := gb173) (o := .cells #[.int .i8 a1_0, .string a1_1, .int .i8 a1_2, .int .i64 a1_3, .string a1_4, .slice A1_5 l1_5.length c1_5] 31 (0, 0)) (by (with_reducible repeat (first | refine xaf ?_ _ | refine xai ?_ | refine xad ?_ _)); exact BK173.out)) : gb173 ≠ gb179))
   have n7_ := Aside0.mk ((by rw [hg]; exact Nat.ne_of_gt (blk_lt (g := gb173) (o := .cells #[.int .i8 a1_0, .string a1_1, .int .i8 a1_2, .int .i64 a1_3, .string a1_4, .slice A1_5 l1_5.length c1_5] 31 (0, 0)) (by (with_reducible repeat (first | refine xaf ?_ _ | refine xai ?_ | refine xad ?_ _)); exact BK173.out)) : gb179 ≠ gb173))
   have n8_ := Aside0.mk ((by rw [hg]; exact Nat.ne_of_lt (blk_lt (g := gb174) (o := .cells #[.int .i8 0, .string (⟨#[]⟩ : ByteArray), .int .i8 0, .int .i64 0, .string (⟨#[]⟩ : ByteArray), .slice none 0 0] 31 (0, 0)) (by (with_reducible repeat (first | refine xaf ?_ _ | refine xai ?_ | refine xad ?_ _)); exact BK174.out)) : gb174 ≠ gb179))
   have n9_ := Aside0.mk ((by rw [hg]; exact Nat.ne_of_gt (blk_lt (g := gb174) (o := .cells #[.int .i8 0, .string (⟨#[]⟩ : ByteArray), .int .i8 0, .int .i64 0, .string (⟨#[]⟩ : ByteArray), .slice none 0 0] 31 (0, 0)) (by (with_reducible repeat (first | refine xaf ?_ _ | refine xai ?_ | refine xad ?_ _)); exact BK174.out)) : gb179 ≠ gb174))
   clear BK173
   clear BK174
   clear HB
   have BK173 := n0_
   have BK174 := n1_
   have HB := n2_
   have BK179 := n3_
   have GW179 := n4_
   have GE179 := n5_
   have NB173_179 := n6_
   have NB179_173 := n7_
   have NB174_179 := n8_
   have NB179_174 := n9_
   clear n0_ n1_ n2_ n3_ n4_ n5_ n6_ n7_ n8_ n9_
   clear hb hbox hg
   refine hK.out _ _ ⟨(xag BK173.out 0).trans rfl, (xag BK173.out 1).trans rfl, (xag BK173.out 2).trans rfl, (xag BK173.out 3).trans rfl, (xag BK173.out 4).trans rfl, (xag BK173.out 5).trans rfl⟩ (fun hHeld => ?_)
   clear hK K
   refine norm_ (a' := ?_) ?_ ?_
   rotate_left
   ·show Act.put _ (some 5) _ = _
    simp only [Act.put, sI, sZ, sS, i64_w, i32_w]
    rfl
   refine one_ (i := 5) (N := some 12) #[true, true, true, true, true, true, false, true, false] rfl rfl (one_of HT_.out (by kernel_rfl)) (by decide) (fun K hK => ?_)
   refine goes_ Tryd.func58 (by kernel_rfl) rfl #[.slice A0 l0.length c0, .agg #[.string a1_1, .int .i8 a1_2, .int .i64 a1_3, .string a1_4]] (by rfl) rfl rfl (by (try simp only [List.map_toArray, List.map_cons, List.map_nil]); first | done | rfl | (simp only [List.length_drop, List.length_take]; rfl)) ?_
   with_reducible refine (r4_Put.calls k _ _ l0 a1_1 a1_2 a1_3 a1_4 t175 t176 t177 t178 _ ?side1 ?side2 A3.out).mono ?_
   (case side1 => repeat (first | exact (Kd.C_below HR0.out HB.out) | (with_reducible refine Kd.C_alloc ?_ _) | (with_reducible refine Kd.C_drewN ?_ _) | (with_reducible refine Kd.C_drew ?_)))
   (case side2 => exact HC0.out)
   rintro e w8 ⟨rfl, hb⟩
   refine ⟨_, rfl, ?_⟩
   have n0_ := Aside0.mk (xak (g := gb173) (o := .cells #[.int .i8 a1_0, .string a1_1, .int .i8 a1_2, .int .i64 a1_3, .string a1_4, .slice A1_5 l1_5.length c1_5] 31 (0, 0)) (by (with_reducible repeat (first | refine xaf ?_ _ | refine xai ?_ | refine xad ?_ _)); exact BK173.out) hb)
   have n1_ := Aside0.mk (xak (g := gb174) (o := .cells #[.int .i8 0, .string (⟨#[]⟩ : ByteArray), .int .i8 0, .int .i64 0, .string (⟨#[]⟩ : ByteArray), .slice none 0 0] 31 (0, 0)) (by (with_reducible repeat (first | refine xaf ?_ _ | refine xai ?_ | refine xad ?_ _)); exact BK174.out) hb)
   have n2_ := Aside0.mk (xak (g := gb179) (o := .cells #[.int .i8 0, .string (⟨#[]⟩ : ByteArray), .int .i8 0, .int .i64 0, .string (⟨#[]⟩ : ByteArray), .slice none 0 0] 31 (0, 0)) (by (with_reducible repeat (first | refine xaf ?_ _ | refine xai ?_ | refine xad ?_ _)); exact BK179.out) hb)
   have n3_ := Aside0.mk (xae (by repeat (first | (with_reducible first | exact HB.out | apply xab | apply xaa | apply xac | refine xah ?_ GE173.out | refine xah ?_ GE174.out | refine xah ?_ GE179.out) | exact HB.out)) hb)
   clear BK173
   clear BK174
   clear BK179
   clear HB
   have BK173 := n0_
   have BK174 := n1_
   have BK179 := n2_
   have HB := n3_
   clear n0_ n1_ n2_ n3_
   (try clear hb)
   (try clear hb2)
   (try clear hk)
   (try clear hi)
   refine hK.out _ _ ⟨(xag BK173.out 0).trans rfl, (xag BK173.out 1).trans rfl, (xag BK173.out 2).trans rfl, (xag BK173.out 3).trans rfl, (xag BK173.out 4).trans rfl, (xag BK173.out 5).trans rfl⟩ (fun hHeld => ?_)
   clear hK K
   refine norm_ (a' := ?_) ?_ ?_
   rotate_left
   ·show Act.put _ (some 12) _ = _
    simp only [Act.put, sI, sZ, sS, i64_w, i32_w]
    rfl
   refine pure_ (i := 6) (N := some 13) (v := ?_) (a' := ?_) #[true, true, true, true, true, true, true, true, false] rfl rfl (any_of HT_.out (by kernel_rfl)) (fun _ _ _ h => h) (Or.inl ⟨by rfl, ?_⟩) ?_ ?_
   rotate_left
   ·intro w'
    go_simp
    with_reducible rfl
   rotate_left
   ·simp only [Act.put, sI, sZ, sS, i64_w, i32_w]
    rfl
   exact norm_ (by simp only [putAll, Act.put, sI, sZ, sS]) (hCont (gb179) _ ⟨hHeld, (by (with_reducible repeat (first | refine xaf ?_ _ | refine xai ?_ | refine xad ?_ _)); exact BK173.out), (by (with_reducible repeat (first | refine xaf ?_ _ | refine xai ?_ | refine xad ?_ _)); exact BK174.out), (by (with_reducible repeat (first | refine xaf ?_ _ | refine xai ?_ | refine xad ?_ _)); exact BK179.out), GW179.out, GE179.out, NB173_179.out, NB179_173.out, NB174_179.out, NB179_174.out, (by repeat (first | (with_reducible first | exact HB.out | apply xab | apply xaa | apply xac | refine xah ?_ GE173.out | refine xah ?_ GE174.out | refine xah ?_ GE179.out) | exact HB.out))⟩)
 rintro gb179 w9 ⟨hS_, h0_, h1_, h2_, h3_, h4_, h5_, h6_, h7_, h8_, h9_⟩
 have n0_ : Aside0 (w9.heap[gb173]? = some (.cells #[.int .i8 a1_0, .string a1_1, .int .i8 a1_2, .int .i64 a1_3, .string a1_4, .slice A1_5 l1_5.length c1_5] 31 (0, 0))) := ⟨h0_⟩
 have n1_ : Aside0 (w9.heap[gb174]? = some (.cells #[.int .i8 0, .string (⟨#[]⟩ : ByteArray), .int .i8 0, .int .i64 0, .string (⟨#[]⟩ : ByteArray), .slice none 0 0] 31 (0, 0))) := ⟨h1_⟩
 have n2_ : Aside0 (w9.heap[gb179]? = some (.cells #[.int .i8 0, .string (⟨#[]⟩ : ByteArray), .int .i8 0, .int .i64 0, .string (⟨#[]⟩ : ByteArray), .slice none 0 0] 31 (0, 0))) := ⟨h2_⟩
 have n3_ : Aside0 (w.heap.size ≤ gb179) := ⟨h3_⟩
 have n4_ : Aside0 (w.heap.size ≤ gb179) := ⟨h4_⟩
 have n5_ : Aside0 (gb173 ≠ gb179) := ⟨h5_⟩
 have n6_ : Aside0 (gb179 ≠ gb173) := ⟨h6_⟩
 have n7_ : Aside0 (gb174 ≠ gb179) := ⟨h7_⟩
 have n8_ : Aside0 (gb179 ≠ gb174) := ⟨h8_⟩
 have n9_ : Aside0 (Below w.heap.size w w9) := ⟨h9_⟩
 clear BK173
 clear BK174
 clear HB
 clear h0_ h1_ h2_ h3_ h4_ h5_ h6_ h7_ h8_ h9_
 have BK173 := n0_
 have BK174 := n1_
 have BK179 := n2_
 have GW179 := n3_
 have GE179 := n4_
 have NB173_179 := n5_
 have NB179_173 := n6_
 have NB174_179 := n7_
 have NB179_174 := n8_
 have HB := n9_
 clear n0_ n1_ n2_ n3_ n4_ n5_ n6_ n7_ n8_ n9_
 have hHeld : w9.cell? ⟨gb173, 0, none⟩ = some (.int .i8 a1_0) ∧ w9.cell? ⟨gb173, 1, none⟩ = some (.string a1_1) ∧ w9.cell? ⟨gb173, 2, none⟩ = some (.int .i8 a1_2) ∧ w9.cell? ⟨gb173, 3, none⟩ = some (.int .i64 a1_3) ∧ w9.cell? ⟨gb173, 4, none⟩ = some (.string a1_4) ∧ w9.cell? ⟨gb173, 5, none⟩ = some (.slice A1_5 l1_5.length c1_5) := hS_
 refine norm_ (a' := ?_) ?_ ?_
 rotate_left
 ·simp only [putAll, Act.put, sI, sZ, sS]
  rfl
 refine one_ (i := 8) (N := none) #[true, true, true, true, true, true, true, true, true] rfl rfl (one_of HT_.out (by kernel_rfl)) (by decide) (fun K hK => ?_)
 have hs10 : w9.cell? ⟨gb179, 0, none⟩ = some (.int .i8 0) := (xag BK179.out 0).trans rfl
 have hfs10 := xal BK179.out 0
 have hns10_0 := NB173_179.out
 have hns10_1 := NB174_179.out
 have hms10_0 := NB179_173.out
 have hms10_1 := NB179_174.out
 have hs11 : w9.cell? ⟨gb179, 1, none⟩ = some (.string (⟨#[]⟩ : ByteArray)) := (xag BK179.out 1).trans rfl
 have hfs11 := xal BK179.out 1
 have hns11_0 := NB173_179.out
 have hns11_1 := NB174_179.out
 have hms11_0 := NB179_173.out
 have hms11_1 := NB179_174.out
 have hs12 : w9.cell? ⟨gb179, 2, none⟩ = some (.int .i8 0) := (xag BK179.out 2).trans rfl
 have hfs12 := xal BK179.out 2
 have hns12_0 := NB173_179.out
 have hns12_1 := NB174_179.out
 have hms12_0 := NB179_173.out
 have hms12_1 := NB179_174.out
 have hs13 : w9.cell? ⟨gb179, 3, none⟩ = some (.int .i64 0) := (xag BK179.out 3).trans rfl
 have hfs13 := xal BK179.out 3
 have hns13_0 := NB173_179.out
 have hns13_1 := NB174_179.out
 have hms13_0 := NB179_173.out
 have hms13_1 := NB179_174.out
 have hs14 : w9.cell? ⟨gb179, 4, none⟩ = some (.string (⟨#[]⟩ : ByteArray)) := (xag BK179.out 4).trans rfl
 have hfs14 := xal BK179.out 4
 have hns14_0 := NB173_179.out
 have hns14_1 := NB174_179.out
 have hms14_0 := NB179_173.out
 have hms14_1 := NB179_174.out
 have hs15 : w9.cell? ⟨gb179, 5, none⟩ = some (.slice none 0 0) := (xag BK179.out 5).trans rfl
 have hfs15 := xal BK179.out 5
 have hns15_0 := NB173_179.out
 have hns15_1 := NB174_179.out
 have hms15_0 := NB179_173.out
 have hms15_1 := NB179_174.out
 refine skip_ (w1 := ?_) (by rfl) rfl ?_ ?_
 rotate_left
 ·go_simp
  rfl
 refine hK.out _ _ ⟨((xav (p := ⟨gb179, _, none⟩) NB173_179.out _).trans (((xav (p := ⟨gb179, _, none⟩) NB173_179.out _).trans (((xav (p := ⟨gb179, _, none⟩) NB173_179.out _).trans (((xav (p := ⟨gb179, _, none⟩) NB173_179.out _).trans (((xav (p := ⟨gb179, _, none⟩) NB173_179.out _).trans (((xav (p := ⟨gb179, _, none⟩) NB173_179.out _).trans (hHeld.1)))))))))))), ((xav (p := ⟨gb179, _, none⟩) NB173_179.out _).trans (((xav (p := ⟨gb179, _, none⟩) NB173_179.out _).trans (((xav (p := ⟨gb179, _, none⟩) NB173_179.out _).trans (((xav (p := ⟨gb179, _, none⟩) NB173_179.out _).trans (((xav (p := ⟨gb179, _, none⟩) NB173_179.out _).trans (((xav (p := ⟨gb179, _, none⟩) NB173_179.out _).trans (hHeld.2.1)))))))))))), ((xav (p := ⟨gb179, _, none⟩) NB173_179.out _).trans (((xav (p := ⟨gb179, _, none⟩) NB173_179.out _).trans (((xav (p := ⟨gb179, _, none⟩) NB173_179.out _).trans (((xav (p := ⟨gb179, _, none⟩) NB173_179.out _).trans (((xav (p := ⟨gb179, _, none⟩) NB173_179.out _).trans (((xav (p := ⟨gb179, _, none⟩) NB173_179.out _).trans (hHeld.2.2.1)))))))))))), ((xav (p := ⟨gb179, _, none⟩) NB173_179.out _).trans (((xav (p := ⟨gb179, _, none⟩) NB173_179.out _).trans (((xav (p := ⟨gb179, _, none⟩) NB173_179.out _).trans (((xav (p := ⟨gb179, _, none⟩) NB173_179.out _).trans (((xav (p := ⟨gb179, _, none⟩) NB173_179.out _).trans (((xav (p := ⟨gb179, _, none⟩) NB173_179.out _).trans (hHeld.2.2.2.1)))))))))))), ((xav (p := ⟨gb179, _, none⟩) NB173_179.out _).trans (((xav (p := ⟨gb179, _, none⟩) NB173_179.out _).trans (((xav (p := ⟨gb179, _, none⟩) NB173_179.out _).trans (((xav (p := ⟨gb179, _, none⟩) NB173_179.out _).trans (((xav (p := ⟨gb179, _, none⟩) NB173_179.out _).trans (((xav (p := ⟨gb179, _, none⟩) NB173_179.out _).trans (hHeld.2.2.2.2.1)))))))))))), ((xav (p := ⟨gb179, _, none⟩) NB173_179.out _).trans (((xav (p := ⟨gb179, _, none⟩) NB173_179.out _).trans (((xav (p := ⟨gb179, _, none⟩) NB173_179.out _).trans (((xav (p := ⟨gb179, _, none⟩) NB173_179.out _).trans (((xav (p := ⟨gb179, _, none⟩) NB173_179.out _).trans (((xav (p := ⟨gb179, _, none⟩) NB173_179.out _).trans (hHeld.2.2.2.2.2))))))))))))⟩ (fun hHeld => ?_)
 clear hK K
 refine done_ (done_of HT_.out (by kernel_rfl)) ?_
 try go_wp2
 go_loopg [6] k (fun kq v6 w' => ∃ (x6_1 : Int) (x180005_1 : List (S31)) (u180005 : Value), v6 = .int .i64 x6_1 ∧ Aside0 (r4_ApplyExpr.l0 kq l0 x6_1 a1_0 a1_1 a1_2 a1_3 a1_4 l1_5 a1_0 t175 t176 t177 t178 x180005_1 = some (r1, r2, r3, r4, r5, r6)) ∧ Aside0 (kq ≤ k) ∧ Aside0 (Kd.R k31 31 w' w.heap.size (fun k_ => k_ ≠ gb173 ∧ k_ ≠ gb174 ∧ k_ ≠ gb179) u180005 x180005_1) ∧ Aside0 (w'.heap[gb173]? = some (.cells #[.int .i8 a1_0, .string a1_1, .int .i8 a1_2, .int .i64 a1_3, .string a1_4, (.slice A1_5 l1_5.length c1_5)] 31 (0, 0))) ∧ Aside0 (w'.heap[gb174]? = some (.cells #[.int .i8 0, .string (⟨#[]⟩ : ByteArray), .int .i8 0, .int .i64 0, .string (⟨#[]⟩ : ByteArray), (.slice none 0 0)] 31 (0, 0))) ∧ Aside0 (w'.heap[gb179]? = some (.cells #[.int .i8 a1_0, .string t175, .int .i8 t176, .int .i64 t177, .string t178, u180005] 31 (0, 0))) ∧ Aside0 (Below w.heap.size w w'))
 case atStart => exact ⟨(0), (([] : List (S31))), (.slice none 0 0), (by first | rfl | (simp; done) | (simp [*]; done)), H', ⟨Nat.le_refl _⟩, ⟨by first | exact Kd.R_nil _ _ _ _ _ | exact Kd.N_nil _ _ _ _ _ | exact Kd.V_nil _ _ _ _ _ | exact Kd.Q_nil _ _ _ _ _ | exact Kd.S_nil _ _ _ _ _⟩, ⟨by (with_reducible repeat (first | refine xaf ?_ _ | refine xai ?_ | refine xad ?_ _)); refine xax ?_ NB173_179.out _; (with_reducible repeat (first | refine xaf ?_ _ | refine xai ?_ | refine xad ?_ _)); refine xax ?_ NB173_179.out _; (with_reducible repeat (first | refine xaf ?_ _ | refine xai ?_ | refine xad ?_ _)); refine xax ?_ NB173_179.out _; (with_reducible repeat (first | refine xaf ?_ _ | refine xai ?_ | refine xad ?_ _)); refine xax ?_ NB173_179.out _; (with_reducible repeat (first | refine xaf ?_ _ | refine xai ?_ | refine xad ?_ _)); refine xax ?_ NB173_179.out _; (with_reducible repeat (first | refine xaf ?_ _ | refine xai ?_ | refine xad ?_ _)); refine xax ?_ NB173_179.out _; (with_reducible repeat (first | refine xaf ?_ _ | refine xai ?_ | refine xad ?_ _)); exact BK173.out⟩, ⟨by (with_reducible repeat (first | refine xaf ?_ _ | refine xai ?_ | refine xad ?_ _)); refine xax ?_ NB174_179.out _; (with_reducible repeat (first | refine xaf ?_ _ | refine xai ?_ | refine xad ?_ _)); refine xax ?_ NB174_179.out _; (with_reducible repeat (first | refine xaf ?_ _ | refine xai ?_ | refine xad ?_ _)); refine xax ?_ NB174_179.out _; (with_reducible repeat (first | refine xaf ?_ _ | refine xai ?_ | refine xad ?_ _)); refine xax ?_ NB174_179.out _; (with_reducible repeat (first | refine xaf ?_ _ | refine xai ?_ | refine xad ?_ _)); refine xax ?_ NB174_179.out _; (with_reducible repeat (first | refine xaf ?_ _ | refine xai ?_ | refine xad ?_ _)); refine xax ?_ NB174_179.out _; (with_reducible repeat (first | refine xaf ?_ _ | refine xai ?_ | refine xad ?_ _)); exact BK174.out⟩, ⟨by (with_reducible repeat (first | refine xaf ?_ _ | refine xai ?_ | refine xad ?_ _)); refine xas (cs := #[.int .i8 a1_0, .string t175, .int .i8 t176, .int .i64 t177, .string t178, .slice none 0 0]) ?_ 5 _ rfl; (with_reducible repeat (first | refine xaf ?_ _ | refine xai ?_ | refine xad ?_ _)); refine xas (cs := #[.int .i8 a1_0, .string t175, .int .i8 t176, .int .i64 t177, .string (⟨#[]⟩ : ByteArray), .slice none 0 0]) ?_ 4 _ rfl; (with_reducible repeat (first | refine xaf ?_ _ | refine xai ?_ | refine xad ?_ _)); refine xas (cs := #[.int .i8 a1_0, .string t175, .int .i8 t176, .int .i64 0, .string (⟨#[]⟩ : ByteArray), .slice none 0 0]) ?_ 3 _ rfl; (with_reducible repeat (first | refine xaf ?_ _ | refine xai ?_ | refine xad ?_ _)); refine xas (cs := #[.int .i8 a1_0, .string t175, .int .i8 0, .int .i64 0, .string (⟨#[]⟩ : ByteArray), .slice none 0 0]) ?_ 2 _ rfl; (with_reducible repeat (first | refine xaf ?_ _ | refine xai ?_ | refine xad ?_ _)); refine xas (cs := #[.int .i8 a1_0, .string (⟨#[]⟩ : ByteArray), .int .i8 0, .int .i64 0, .string (⟨#[]⟩ : ByteArray), .slice none 0 0]) ?_ 1 _ rfl; (with_reducible repeat (first | refine xaf ?_ _ | refine xai ?_ | refine xad ?_ _)); refine xas (cs := #[.int .i8 0, .string (⟨#[]⟩ : ByteArray), .int .i8 0, .int .i64 0, .string (⟨#[]⟩ : ByteArray), .slice none 0 0]) ?_ 0 _ rfl; (with_reducible repeat (first | refine xaf ?_ _ | refine xai ?_ | refine xad ?_ _)); exact BK179.out⟩, ⟨by repeat (first | (with_reducible first | exact HB.out | apply xab | apply xaa | apply xac | refine xah ?_ GE173.out | refine xah ?_ GE174.out | refine xah ?_ GE179.out) | exact HB.out)⟩⟩
 case round =>
  clear H'
  try clear c1
  try clear p2
  try clear c5
  try clear c15
  obtain ⟨x6_1, x180005_1, u180005, rfl, HA, HK1, HO_180005, BK173, BK174, BK179, HB⟩ := hrel
  cases gk with
  | zero => exact absurd HA.out (by simp [r4_ApplyExpr.l0])
  | succ k1 =>
   have H := HA.out
   clear HA
   simp only [r4_ApplyExpr.l0] at H
   by_cases c16 : x6_1 < (l1_5.length : Int)
   ·rw [if_pos c16] at H
    have c16b0 : decide (x6_1 < (l1_5.length : Int)) = true := decide_eq_true c16
    clear c16
    by_cases c17 : 0 ≤ x6_1
    ·rw [if_pos c17] at H
     have c17b0 : decide (0 ≤ x6_1) = true := decide_eq_true c17
     clear c17
     replace H := Option.bind_eq_some_iff.mp H
     obtain ⟨⟨t181, t182, t183, t184, t185, t186⟩, A180, H⟩ := H
     replace H : (if x180005_1.length < 1759218604441 then (r4_ApplyExpr.l0 k1 l0 (wrap64 (x6_1 + 1)) a1_0 a1_1 a1_2 a1_3 a1_4 l1_5 a1_0 t175 t176 t177 t178 (x180005_1 ++ [(⟨t181, (⟨t182, (⟨t183, t184, t185⟩ : S26)⟩ : S28), t186⟩ : S31)])) else (none)) = some (r1, r2, r3, r4, r5, r6) := H
     have A18 := Aside0.mk A180
     clear A180
     by_cases c19 : x180005_1.length < 1759218604441
     ·rw [if_pos c19] at H
      have LMc19 := Aside0.mk c19
      clear c19
      obtain ⟨y189, hy189⟩ : ∃ y_ : List (S31), y_ = (x180005_1 ++ [(⟨t181, (⟨t182, (⟨t183, t184, t185⟩ : S26)⟩ : S28), t186⟩ : S31)]) := ⟨_, rfl⟩
      replace H : (r4_ApplyExpr.l0 k1 l0 (wrap64 (x6_1 + 1)) a1_0 a1_1 a1_2 a1_3 a1_4 l1_5 a1_0 t175 t176 t177 t178 y189) = some (r1, r2, r3, r4, r5, r6) := by first | (rw [hy189]; with_reducible exact H) | (have H2_ := (Option.bind_some _ _).symm.trans H; rw [hy189]; with_reducible exact H2_) | (have H2_ := (Option.bind_some _ _).symm.trans H; with_reducible exact H2_) | with_reducible exact H | (rw [hy189]; exact H) | exact H
      have Ny189 := Aside0.mk hy189
      clear hy189
      have H' := Aside0.mk H
      clear H
      have hnb20 := NB173_174.out
      have hnc20 := NB174_173.out
      have hnb21 := NB173_179.out
      have hnc21 := NB179_173.out
      obtain ⟨hcz22_0, hcz22_1, hcz22_2, hcz22_3, hcz22_4, hcz22_5⟩ := cz6 BK173.out
      obtain ⟨hfz22_0, hfz22_1, hfz22_2, hfz22_3, hfz22_4, hfz22_5⟩ := fz6 BK173.out
      try go_wp2
      have n0_ := Aside0.mk (Kd.R_drew HO_180005.out)
      have n1_ := Aside0.mk (xai BK173.out)
      have n2_ := Aside0.mk (xai BK174.out)
      have n3_ := Aside0.mk (xai BK179.out)
      have n4_ := Aside0.mk (xac HB.out)
      clear HO_180005
      clear BK173
      clear BK174
      clear BK179
      clear HB
      have HO_180005 := n0_
      have BK173 := n1_
      have BK174 := n2_
      have BK179 := n3_
      have HB := n4_
      clear n0_ n1_ n2_ n3_ n4_
      have p180 : 0 ≤ (x6_1 : Int) := of_decide_eq_true (by first | (with_reducible assumption) | assumption)
      have q180 : x6_1 < (l1_5.length : Int) := of_decide_eq_true (by first | (with_reducible assumption) | assumption)
      obtain ⟨ad180, A180_5, c180_5, e180, hx180_0, hx180_1, hx180_2, hx180_3, hx180_4, hx180_5, hl180_5, hi180_5⟩ := at_T31 HR1_5.out x6_1 p180 q180
      have hw180_5 := hx180_5
      have hw180_4 := hx180_4
      have hw180_3 := hx180_3
      have hw180_2 := hx180_2
      have hw180_1 := hx180_1
      have hw180_0 := hx180_0
      cases e180
      replace hx180_0 := (HB.out.cell (World.block_lt_of_cell? w _ hx180_0)).trans hx180_0
      replace hx180_1 := (HB.out.cell (World.block_lt_of_cell? w _ hx180_1)).trans hx180_1
      replace hx180_2 := (HB.out.cell (World.block_lt_of_cell? w _ hx180_2)).trans hx180_2
      replace hx180_3 := (HB.out.cell (World.block_lt_of_cell? w _ hx180_3)).trans hx180_3
      replace hx180_4 := (HB.out.cell (World.block_lt_of_cell? w _ hx180_4)).trans hx180_4
      replace hx180_5 := (HB.out.cell (World.block_lt_of_cell? w _ hx180_5)).trans hx180_5
      have HR180_5 := Aside0.mk hi180_5
      have HC180_5 := Aside0.mk hl180_5
      clear hi180_5 hl180_5
      replace p180 := eq_true p180
      replace q180 := eq_true q180
      refine start_ (n := 13) (S := fun w' => w'.cell? ⟨gb179, 0, none⟩ = some (.int .i8 a1_0) ∧ w'.cell? ⟨gb179, 1, none⟩ = some (.string t175) ∧ w'.cell? ⟨gb179, 2, none⟩ = some (.int .i8 t176) ∧ w'.cell? ⟨gb179, 3, none⟩ = some (.int .i64 t177) ∧ w'.cell? ⟨gb179, 4, none⟩ = some (.string t178) ∧ w'.cell? ⟨gb179, 5, none⟩ = some (u180005) ∧ w'.cell? ⟨gb173, 0, none⟩ = some (.int .i8 a1_0) ∧ w'.cell? ⟨gb173, 1, none⟩ = some (.string a1_1) ∧ w'.cell? ⟨gb173, 2, none⟩ = some (.int .i8 a1_2) ∧ w'.cell? ⟨gb173, 3, none⟩ = some (.int .i64 a1_3) ∧ w'.cell? ⟨gb173, 4, none⟩ = some (.string a1_4) ∧ w'.cell? ⟨gb173, 5, none⟩ = some (.slice (some ad180) l1_5.length c1_5) ∧ w'.cell? (ad180.add ((x6_1).toNat * 6)) = some (.int .i8 ((rd_T31 l1_5 x6_1).f0)) ∧ w'.cell? ⟨(ad180.add ((x6_1).toNat * 6)).block, (ad180.add ((x6_1).toNat * 6)).off + 1, none⟩ = some (.string ((rd_T31 l1_5 x6_1).f1.f0)) ∧ w'.cell? ⟨(ad180.add ((x6_1).toNat * 6)).block, (ad180.add ((x6_1).toNat * 6)).off + 2, none⟩ = some (.int .i8 ((rd_T31 l1_5 x6_1).f1.f1.f0)) ∧ w'.cell? ⟨(ad180.add ((x6_1).toNat * 6)).block, (ad180.add ((x6_1).toNat * 6)).off + 3, none⟩ = some (.int .i64 ((rd_T31 l1_5 x6_1).f1.f1.f1)) ∧ w'.cell? ⟨(ad180.add ((x6_1).toNat * 6)).block, (ad180.add ((x6_1).toNat * 6)).off + 4, none⟩ = some (.string ((rd_T31 l1_5 x6_1).f1.f1.f2)) ∧ w'.cell? ⟨(ad180.add ((x6_1).toNat * 6)).block, (ad180.add ((x6_1).toNat * 6)).off + 5, none⟩ = some (.slice A180_5 ((rd_T31 l1_5 x6_1).f2).length c180_5)) (ds := [12]) #[false, false, false, false, false, false, false, false, false, false, false, false, false] (by kernel_rfl) rfl rfl ⟨(xag BK179.out 0).trans rfl, (xag BK179.out 1).trans rfl, (xag BK179.out 2).trans rfl, (xag BK179.out 3).trans rfl, (xag BK179.out 4).trans rfl, (xag BK179.out 5).trans rfl, (xag BK173.out 0).trans rfl, (xag BK173.out 1).trans rfl, (xag BK173.out 2).trans rfl, (xag BK173.out 3).trans rfl, (xag BK173.out 4).trans rfl, (xag BK173.out 5).trans rfl, ((HB.out.cell (World.block_lt_of_cell? w _ hw180_0)).trans hw180_0), ((HB.out.cell (World.block_lt_of_cell? w _ hw180_1)).trans hw180_1), ((HB.out.cell (World.block_lt_of_cell? w _ hw180_2)).trans hw180_2), ((HB.out.cell (World.block_lt_of_cell? w _ hw180_3)).trans hw180_3), ((HB.out.cell (World.block_lt_of_cell? w _ hw180_4)).trans hw180_4), ((HB.out.cell (World.block_lt_of_cell? w _ hw180_5)).trans hw180_5)⟩ (fun hHeld => ?_); refine with_tabW r4_ApplyExpr.tab5 r4_ApplyExpr.bits5 (fun HT_ HW_ => ?_)
      generalize wr.drew = w23 at HO_180005 BK173 BK174 BK179 HB HR180_5 hx180_0 hx180_1 hx180_2 hx180_3 hx180_4 hx180_5 hHeld ⊢
      refine pure_ (i := 0) (N := some 21) (v := ?_) (a' := ?_) #[true, false, false, false, false, false, false, false, false, false, false, false, false] rfl rfl (any_of HT_.out (by kernel_rfl)) (fun _ _ _ h => h) (Or.inl ⟨by rfl, ?_⟩) ?_ ?_
      rotate_left
      ·intro w'
       go_simp
       with_reducible rfl
      rotate_left
      ·simp only [Act.put, sI, sZ, sS, i64_w, i32_w]
       rfl
      refine pure_ (i := 2) (N := some 23) (v := ?_) (a' := ?_) #[true, false, true, false, false, false, false, false, false, false, false, false, false] rfl rfl (any_of HT_.out (by kernel_rfl)) (fun _ _ _ h => h) (Or.inl ⟨by rfl, ?_⟩) ?_ ?_
      rotate_left
      ·intro w'
       go_simp
       with_reducible rfl
      rotate_left
      ·simp only [Act.put, sI, sZ, sS, i64_w, i32_w]
       rfl
      refine pure_ (i := 3) (N := some 24) (v := ?_) (a' := ?_) #[true, false, true, true, false, false, false, false, false, false, false, false, false] rfl rfl (any_of HT_.out (by kernel_rfl)) (fun _ _ _ h => h) (Or.inl ⟨by rfl, ?_⟩) ?_ ?_
      rotate_left
      ·intro w'
       go_simp
       with_reducible rfl
      rotate_left
      ·simp only [Act.put, sI, sZ, sS, i64_w, i32_w]
       rfl
      refine pure_ (i := 5) (N := some 26) (v := ?_) (a' := ?_) #[true, false, true, true, false, true, false, false, false, false, false, false, false] rfl rfl (any_of HT_.out (by kernel_rfl)) (fun _ _ _ h => h) (Or.inl ⟨by rfl, ?_⟩) ?_ ?_
      rotate_left
      ·intro w'
       go_simp
       with_reducible rfl
      rotate_left
      ·simp only [Act.put, sI, sZ, sS, i64_w, i32_w]
       rfl
      refine take_ (i := 1) (N := some 22) (v := ?_) (a' := ?_) #[true, true, true, true, false, true, false, false, false, false, false, false, false] rfl rfl (take_ofW HT_.out HW_.out (by kernel_rfl)) (fun _ _ _ h => h) (Or.inl ⟨by rfl, ?_⟩) hHeld ?_ ?_
      rotate_left
      ·rintro w' ⟨s0, s1, s2, s3, s4, s5, s6, s7, s8, s9, s10, s11, s12, s13, s14, s15, s16, s17⟩
       go_simp
       with_reducible rfl
      rotate_left
      ·simp only [Act.put, sI, sZ, sS, i64_w, i32_w]
       rfl
      refine take_ (i := 4) (N := some 25) (v := ?_) (a' := ?_) #[true, true, true, true, true, true, false, false, false, false, false, false, false] rfl rfl (take_ofW HT_.out HW_.out (by kernel_rfl)) (fun _ _ _ h => h) (Or.inl ⟨by rfl, ?_⟩) hHeld ?_ ?_
      rotate_left
      ·rintro w' ⟨s0, s1, s2, s3, s4, s5, s6, s7, s8, s9, s10, s11, s12, s13, s14, s15, s16, s17⟩
       go_simp
       with_reducible rfl
      rotate_left
      ·simp only [Act.put, sI, sZ, sS, i64_w, i32_w]
       rfl
      refine pure_ (i := 6) (N := some 27) (v := ?_) (a' := ?_) #[true, true, true, true, true, true, true, false, false, false, false, false, false] rfl rfl (any_of HT_.out (by kernel_rfl)) (fun _ _ _ h => h) (Or.inl ⟨by rfl, ?_⟩) ?_ ?_
      rotate_left
      ·intro w'
       go_simp
       with_reducible rfl
      rotate_left
      ·simp only [Act.put, sI, sZ, sS, i64_w, i32_w]
       rfl
      refine take_ (i := 7) (N := some 28) (v := ?_) (a' := ?_) #[true, true, true, true, true, true, true, true, false, false, false, false, false] rfl rfl (take_ofW HT_.out HW_.out (by kernel_rfl)) (fun _ _ _ h => h) (Or.inl ⟨by rfl, ?_⟩) hHeld ?_ ?_
      rotate_left
      ·rintro w' ⟨s0, s1, s2, s3, s4, s5, s6, s7, s8, s9, s10, s11, s12, s13, s14, s15, s16, s17⟩
       go_simp
       with_reducible rfl
      rotate_left
      ·simp only [Act.put, sI, sZ, sS, i64_w, i32_w]
       rfl
      refine one_ (i := 8) (N := some 29) #[true, true, true, true, true, true, true, true, true, false, false, false, false] rfl rfl (one_of HT_.out (by kernel_rfl)) (by decide) (fun K hK => ?_)
      refine goes_ Tryd.func15 (by kernel_rfl) rfl #[.slice A0 l0.length c0, .agg #[.int .i8 ((rd_T31 l1_5 x6_1).f0), .string ((rd_T31 l1_5 x6_1).f1.f0), .int .i8 ((rd_T31 l1_5 x6_1).f1.f1.f0), .int .i64 ((rd_T31 l1_5 x6_1).f1.f1.f1), .string ((rd_T31 l1_5 x6_1).f1.f1.f2), .slice A180_5 ((rd_T31 l1_5 x6_1).f2).length c180_5]] (by rfl) rfl rfl (by (try simp only [List.map_toArray, List.map_cons, List.map_nil]); first | done | rfl | (simp only [List.length_drop, List.length_take]; rfl)) ?_
      with_reducible refine (ih k1 (by have := HK1.out; omega) _ _ l0 ((rd_T31 l1_5 x6_1).f0) ((rd_T31 l1_5 x6_1).f1.f0) ((rd_T31 l1_5 x6_1).f1.f1.f0) ((rd_T31 l1_5 x6_1).f1.f1.f1) ((rd_T31 l1_5 x6_1).f1.f1.f2) _ _ ((rd_T31 l1_5 x6_1).f2) t181 t182 t183 t184 t185 t186 _ ?side1 ?side2 ?side3 ?side4 A18.out).mono ?_
      (case side1 => repeat (first | exact (Kd.C_below HR0.out HB.out) | (with_reducible refine Kd.C_alloc ?_ _) | (with_reducible refine Kd.C_drewN ?_ _) | (with_reducible refine Kd.C_drew ?_)))
      (case side2 => exact HC0.out)
      (case side3 => repeat (first | exact (Kd.C_below HR180_5.out HB.out) | (with_reducible refine Kd.C_alloc ?_ _) | (with_reducible refine Kd.C_drewN ?_ _) | (with_reducible refine Kd.C_drew ?_)))
      (case side4 => exact HC180_5.out)
      rintro e w24 ⟨v187, rfl, ho0, hb⟩
      refine ⟨_, rfl, ?_⟩
      have n0_ := Aside0.mk (Kd.R_elder' (by (with_reducible repeat (first | apply Kd.R_alloc | apply Kd.R_drewN | apply Kd.R_drew)); exact HO_180005.out) (Kd.R_base ho0) hb)
      have n1_ := Aside0.mk (Kd.R_lower (Kd.R_newB (Kd.R_newB (Kd.R_newB (Kd.R_new' ho0 (Kd.R_lt (by (with_reducible repeat (first | apply Kd.R_alloc | apply Kd.R_drewN | apply Kd.R_drew)); exact HO_180005.out))) (g := gb173) (o := .cells #[.int .i8 a1_0, .string a1_1, .int .i8 a1_2, .int .i64 a1_3, .string a1_4, .slice (some ad180) l1_5.length c1_5] 31 (0, 0)) (by (with_reducible repeat (first | refine xaf ?_ _ | refine xai ?_ | refine xad ?_ _)); exact BK173.out)) (g := gb174) (o := .cells #[.int .i8 0, .string (⟨#[]⟩ : ByteArray), .int .i8 0, .int .i64 0, .string (⟨#[]⟩ : ByteArray), .slice none 0 0] 31 (0, 0)) (by (with_reducible repeat (first | refine xaf ?_ _ | refine xai ?_ | refine xad ?_ _)); exact BK174.out)) (g := gb179) (o := .cells #[.int .i8 a1_0, .string t175, .int .i8 t176, .int .i64 t177, .string t178, u180005] 31 (0, 0)) (by (with_reducible repeat (first | refine xaf ?_ _ | refine xai ?_ | refine xad ?_ _)); exact BK179.out)) (xao (by repeat (first | (with_reducible first | exact HB.out | apply xab | apply xaa | apply xac | refine xah ?_ GE173.out | refine xah ?_ GE174.out | refine xah ?_ GE179.out) | exact HB.out))))
      have n2_ := Aside0.mk (xak (g := gb173) (o := .cells #[.int .i8 a1_0, .string a1_1, .int .i8 a1_2, .int .i64 a1_3, .string a1_4, .slice (some ad180) l1_5.length c1_5] 31 (0, 0)) (by (with_reducible repeat (first | refine xaf ?_ _ | refine xai ?_ | refine xad ?_ _)); exact BK173.out) hb)
      have n3_ := Aside0.mk (xak (g := gb174) (o := .cells #[.int .i8 0, .string (⟨#[]⟩ : ByteArray), .int .i8 0, .int .i64 0, .string (⟨#[]⟩ : ByteArray), .slice none 0 0] 31 (0, 0)) (by (with_reducible repeat (first | refine xaf ?_ _ | refine xai ?_ | refine xad ?_ _)); exact BK174.out) hb)
      have n4_ := Aside0.mk (xak (g := gb179) (o := .cells #[.int .i8 a1_0, .string t175, .int .i8 t176, .int .i64 t177, .string t178, u180005] 31 (0, 0)) (by (with_reducible repeat (first | refine xaf ?_ _ | refine xai ?_ | refine xad ?_ _)); exact BK179.out) hb)
      have n5_ := Aside0.mk (xae (by repeat (first | (with_reducible first | exact HB.out | apply xab | apply xaa | apply xac | refine xah ?_ GE173.out | refine xah ?_ GE174.out | refine xah ?_ GE179.out) | exact HB.out)) hb)
      clear HO_180005
      clear BK173
      clear BK174
      clear BK179
      clear HB
      have HO_180005 := n0_
      have HO188 := n1_
      have BK173 := n2_
      have BK174 := n3_
      have BK179 := n4_
      have HB := n5_
      clear n0_ n1_ n2_ n3_ n4_ n5_
      (try clear hb)
      (try clear hb2)
      (try clear hk)
      (try clear hi)
      (try clear ho0)
      obtain ⟨Ao26, co26, eo26⟩ := Kd.R_slice HO188.out
      (first | subst eo26 | (injection eo26 with f1_ f2_ f3_; have f4_ := f1_.symm; have f5_ := f3_.symm; clear f1_ f2_ f3_; subst f4_; subst f5_))
      refine hK.out _ _ ⟨(xag BK179.out 0).trans rfl, (xag BK179.out 1).trans rfl, (xag BK179.out 2).trans rfl, (xag BK179.out 3).trans rfl, (xag BK179.out 4).trans rfl, (xag BK179.out 5).trans rfl, (xag BK173.out 0).trans rfl, (xag BK173.out 1).trans rfl, (xag BK173.out 2).trans rfl, (xag BK173.out 3).trans rfl, (xag BK173.out 4).trans rfl, (xag BK173.out 5).trans rfl, ((HB.out.cell (World.block_lt_of_cell? w _ hw180_0)).trans hw180_0), ((HB.out.cell (World.block_lt_of_cell? w _ hw180_1)).trans hw180_1), ((HB.out.cell (World.block_lt_of_cell? w _ hw180_2)).trans hw180_2), ((HB.out.cell (World.block_lt_of_cell? w _ hw180_3)).trans hw180_3), ((HB.out.cell (World.block_lt_of_cell? w _ hw180_4)).trans hw180_4), ((HB.out.cell (World.block_lt_of_cell? w _ hw180_5)).trans hw180_5)⟩ (fun hHeld => ?_)
      clear hK K
      refine norm_ (a' := ?_) ?_ ?_
      rotate_left
      ·show Act.put _ (some 29) _ = _
       simp only [Act.put, sI, sZ, sS, i64_w, i32_w]
       rfl
      refine one_ (i := 9) (N := some 30) #[true, true, true, true, true, true, true, true, true, true, false, false, false] rfl rfl (one_of HT_.out (by kernel_rfl)) (by decide) (fun K hK => ?_)
      refine value_ (w1 := ?_) (v := ?_) (by rfl) rfl ?_ ?_
      rotate_left 2
      ·go_simp
       constructor
       ·rfl
       ·rfl
      refine hK.out _ _ ⟨(xag (xad BK179.out _) 0).trans rfl, (xag (xad BK179.out _) 1).trans rfl, (xag (xad BK179.out _) 2).trans rfl, (xag (xad BK179.out _) 3).trans rfl, (xag (xad BK179.out _) 4).trans rfl, (xag (xad BK179.out _) 5).trans rfl, (xag (xad BK173.out _) 0).trans rfl, (xag (xad BK173.out _) 1).trans rfl, (xag (xad BK173.out _) 2).trans rfl, (xag (xad BK173.out _) 3).trans rfl, (xag (xad BK173.out _) 4).trans rfl, (xag (xad BK173.out _) 5).trans rfl, (World.cell?_alloc_lt _ _ _ (World.block_lt_of_cell? _ _ (((HB.out.cell (World.block_lt_of_cell? w _ hw180_0)).trans hw180_0)))).trans (((HB.out.cell (World.block_lt_of_cell? w _ hw180_0)).trans hw180_0)), (World.cell?_alloc_lt _ _ _ (World.block_lt_of_cell? _ _ (((HB.out.cell (World.block_lt_of_cell? w _ hw180_1)).trans hw180_1)))).trans (((HB.out.cell (World.block_lt_of_cell? w _ hw180_1)).trans hw180_1)), (World.cell?_alloc_lt _ _ _ (World.block_lt_of_cell? _ _ (((HB.out.cell (World.block_lt_of_cell? w _ hw180_2)).trans hw180_2)))).trans (((HB.out.cell (World.block_lt_of_cell? w _ hw180_2)).trans hw180_2)), (World.cell?_alloc_lt _ _ _ (World.block_lt_of_cell? _ _ (((HB.out.cell (World.block_lt_of_cell? w _ hw180_3)).trans hw180_3)))).trans (((HB.out.cell (World.block_lt_of_cell? w _ hw180_3)).trans hw180_3)), (World.cell?_alloc_lt _ _ _ (World.block_lt_of_cell? _ _ (((HB.out.cell (World.block_lt_of_cell? w _ hw180_4)).trans hw180_4)))).trans (((HB.out.cell (World.block_lt_of_cell? w _ hw180_4)).trans hw180_4)), (World.cell?_alloc_lt _ _ _ (World.block_lt_of_cell? _ _ (((HB.out.cell (World.block_lt_of_cell? w _ hw180_5)).trans hw180_5)))).trans (((HB.out.cell (World.block_lt_of_cell? w _ hw180_5)).trans hw180_5))⟩ (fun hHeld => ?_)
      clear hK K
      refine norm_ (a' := ?_) ?_ ?_
      rotate_left
      ·show Act.put _ (some 30) _ = _
       simp only [Act.put, sI, sZ, sS, i64_w, i32_w]
       rfl
      refine one_ (i := 10) (N := some 31) #[true, true, true, true, true, true, true, true, true, true, true, false, false] rfl rfl (one_of HT_.out (by kernel_rfl)) (by decide) (fun K hK => ?_)
      refine Kd.R_append_step k31 (w0 := w) w.heap.size (by rfl) (.tmp 22) (.tmp 30) 29 31 (.agg #[(.int .i8 0), (.string ⟨#[]⟩), (.int .i8 0), (.int .i64 0), (.string ⟨#[]⟩), (.slice none 0 0)]) 80 rfl Tryd.underlying29 info31 rfl (by decide) (by omega) u180005 x180005_1 (⟨t181, (⟨t182, (⟨t183, t184, t185⟩ : S26)⟩ : S28), t186⟩ : S31) [.int .i8 t181, .string t182, .int .i8 t183, .int .i64 t184, .string t185, .slice Ao26 t186.length co26] (fun k_ => k_ ≠ gb173 ∧ k_ ≠ gb174 ∧ k_ ≠ gb179) (fun k_ => ((fun k_ => k_ ≠ gb173 ∧ k_ ≠ gb174 ∧ k_ ≠ gb179)) k_ ∧ some k_ ≠ (u180005 : Value).ownBlock) rfl rfl ?aP (fun _ hk => hk) ?aF ?aO ?aB ?aS ?aL ?_
      (case aP => exact k31_mkM _ _ _ (⟨t181, (⟨t182, (⟨t183, t184, t185⟩ : S26)⟩ : S28), t186⟩ : S31) (Kd.R_mono (HO188.out) (fun k_ hk => ⟨⟨hk.1.1.2, ⟨hk.1.2, hk.2⟩⟩, hk.1.1.1.2⟩)))
      (case aB => exact (by repeat (first | (with_reducible first | exact HB.out | apply xab | apply xaa | apply xac | refine xah ?_ GE173.out | refine xah ?_ GE174.out | refine xah ?_ GE179.out) | exact HB.out)))
      (case aF => exact (fun k_ hk => ⟨Kd.freshB (g := gb173) (o := .cells #[.int .i8 a1_0, .string a1_1, .int .i8 a1_2, .int .i64 a1_3, .string a1_4, .slice (some ad180) l1_5.length c1_5] 31 (0, 0)) (by (with_reducible repeat (first | refine xaf ?_ _ | refine xai ?_ | refine xad ?_ _)); exact BK173.out) k_ hk, Kd.freshB (g := gb174) (o := .cells #[.int .i8 0, .string (⟨#[]⟩ : ByteArray), .int .i8 0, .int .i64 0, .string (⟨#[]⟩ : ByteArray), .slice none 0 0] 31 (0, 0)) (by (with_reducible repeat (first | refine xaf ?_ _ | refine xai ?_ | refine xad ?_ _)); exact BK174.out) k_ hk, Kd.freshB (g := gb179) (o := .cells #[.int .i8 a1_0, .string t175, .int .i8 t176, .int .i64 t177, .string t178, u180005] 31 (0, 0)) (by (with_reducible repeat (first | refine xaf ?_ _ | refine xai ?_ | refine xad ?_ _)); exact BK179.out) k_ hk⟩))
      (case aO => exact (by (with_reducible repeat (first | apply Kd.R_alloc | apply Kd.R_drewN | apply Kd.R_drew)); exact Kd.R_mono HO_180005.out (fun _ hk => ⟨hk.1.1, ⟨hk.1.2.1, hk.1.2.2⟩⟩)))
      (case aS => exact (xao (by repeat (first | (with_reducible first | exact HB.out | apply xab | apply xaa | apply xac | refine xah ?_ GE173.out | refine xah ?_ GE174.out | refine xah ?_ GE179.out) | exact HB.out))))
      (case aL => have := LMc19.out; omega)
      intro v190 w25 ho hb hg hat
      rw [← Ny189.out] at ho
      have n0_ := Aside0.mk (xba (g := gb173) (o := .cells #[.int .i8 a1_0, .string a1_1, .int .i8 a1_2, .int .i64 a1_3, .string a1_4, .slice (some ad180) l1_5.length c1_5] 31 (0, 0)) (by (with_reducible repeat (first | refine xaf ?_ _ | refine xai ?_ | refine xad ?_ _)); exact BK173.out) hg (Kd.R_away HO_180005.out (fun _ hk => hk.1.1)))
      have n1_ := Aside0.mk (xba (g := gb174) (o := .cells #[.int .i8 0, .string (⟨#[]⟩ : ByteArray), .int .i8 0, .int .i64 0, .string (⟨#[]⟩ : ByteArray), .slice none 0 0] 31 (0, 0)) (by (with_reducible repeat (first | refine xaf ?_ _ | refine xai ?_ | refine xad ?_ _)); exact BK174.out) hg (Kd.R_away HO_180005.out (fun _ hk => hk.1.2.1)))
      have n2_ := Aside0.mk (xba (g := gb179) (o := .cells #[.int .i8 a1_0, .string t175, .int .i8 t176, .int .i64 t177, .string t178, u180005] 31 (0, 0)) (by (with_reducible repeat (first | refine xaf ?_ _ | refine xai ?_ | refine xad ?_ _)); exact BK179.out) hg (Kd.R_away HO_180005.out (fun _ hk => hk.1.2.2)))
      have n3_ := Aside0.mk (hb)
      have n4_ := Aside0.mk (ho)
      clear BK173
      clear BK174
      clear BK179
      clear HB
      clear HO_180005
      clear HO188
      have BK173 := n0_
      have BK174 := n1_
      have BK179 := n2_
      have HB := n3_
      have HO191 := n4_
      clear n0_ n1_ n2_ n3_ n4_
      clear ho hb hg hat
      obtain ⟨Ao27, co27, eo27⟩ := Kd.R_slice HO191.out
      (first | subst eo27 | (injection eo27 with f1_ f2_ f3_; have f4_ := f1_.symm; have f5_ := f3_.symm; clear f1_ f2_ f3_; subst f4_; subst f5_))
      refine hK.out _ _ ⟨(xag BK179.out 0).trans rfl, (xag BK179.out 1).trans rfl, (xag BK179.out 2).trans rfl, (xag BK179.out 3).trans rfl, (xag BK179.out 4).trans rfl, (xag BK179.out 5).trans rfl, (xag BK173.out 0).trans rfl, (xag BK173.out 1).trans rfl, (xag BK173.out 2).trans rfl, (xag BK173.out 3).trans rfl, (xag BK173.out 4).trans rfl, (xag BK173.out 5).trans rfl, ((HB.out.cell (World.block_lt_of_cell? w _ hw180_0)).trans hw180_0), ((HB.out.cell (World.block_lt_of_cell? w _ hw180_1)).trans hw180_1), ((HB.out.cell (World.block_lt_of_cell? w _ hw180_2)).trans hw180_2), ((HB.out.cell (World.block_lt_of_cell? w _ hw180_3)).trans hw180_3), ((HB.out.cell (World.block_lt_of_cell? w _ hw180_4)).trans hw180_4), ((HB.out.cell (World.block_lt_of_cell? w _ hw180_5)).trans hw180_5)⟩ (fun hHeld => ?_)
      clear hK K
      refine norm_ (a' := ?_) ?_ ?_
      rotate_left
      ·show Act.put _ (some 31) _ = _
       simp only [Act.put, sI, sZ, sS, i64_w, i32_w]
       rfl
      refine pure_ (i := 11) (N := some 32) (v := ?_) (a' := ?_) #[true, true, true, true, true, true, true, true, true, true, true, true, false] rfl rfl (any_of HT_.out (by kernel_rfl)) (fun _ _ _ h => h) (Or.inl ⟨by rfl, ?_⟩) ?_ ?_
      rotate_left
      ·intro w'
       go_simp
       with_reducible rfl
      rotate_left
      ·simp only [Act.put, sI, sZ, sS, i64_w, i32_w]
       rfl
      refine last_ (i := 12) (N := none) #[true, true, true, true, true, true, true, true, true, true, true, true, true] rfl rfl (one_of HT_.out (by kernel_rfl)) (by decide) (fun K hK => ?_)
      have hs28 : w25.cell? ⟨gb179, 5, none⟩ = some (u180005) := (xag BK179.out 5).trans rfl
      have hfs28 := xal BK179.out 5
      have hns28_0 := NB173_179.out
      have hns28_1 := NB174_179.out
      have hms28_0 := NB179_173.out
      have hms28_1 := NB179_174.out
      refine skip_ (w1 := ?_) (by rfl) rfl ?_ ?_
      rotate_left
      ·go_simp
       rfl
      refine hK.out _ _ ?_
      clear hK K
      refine done_ (done_of HT_.out (by kernel_rfl)) ?_
      try go_wp2
      go_roundg k1
      case measure => have := HK1.out; omega
      case rel => exact ⟨(wrap64 (x6_1 + 1)), (y189), (.slice Ao27 y189.length co27), (by first | rfl | (simp; done) | (simp [*]; done)), H', ⟨by have := HK1.out; omega⟩, ⟨by (with_reducible repeat (first | apply Kd.R_alloc | apply Kd.R_drewN | apply Kd.R_drew)); exact Kd.R_mono (Kd.R_far (p := ⟨gb179, 5, none⟩) (Kd.R_mono HO191.out (fun k_ hk => (⟨hk, hk.2.2⟩ : _ ∧ k_ ≠ gb179))) (fun _ hk => hk.2) (.slice Ao27 y189.length co27)) (fun _ hk => ⟨hk.1.1, ⟨hk.1.2.1, hk.1.2.2⟩⟩)⟩, ⟨by (with_reducible repeat (first | refine xaf ?_ _ | refine xai ?_ | refine xad ?_ _)); refine xax ?_ NB173_179.out _; (with_reducible repeat (first | refine xaf ?_ _ | refine xai ?_ | refine xad ?_ _)); exact BK173.out⟩, ⟨by (with_reducible repeat (first | refine xaf ?_ _ | refine xai ?_ | refine xad ?_ _)); refine xax ?_ NB174_179.out _; (with_reducible repeat (first | refine xaf ?_ _ | refine xai ?_ | refine xad ?_ _)); exact BK174.out⟩, ⟨by (with_reducible repeat (first | refine xaf ?_ _ | refine xai ?_ | refine xad ?_ _)); refine xas (cs := #[.int .i8 a1_0, .string t175, .int .i8 t176, .int .i64 t177, .string t178, u180005]) ?_ 5 _ rfl; (with_reducible repeat (first | refine xaf ?_ _ | refine xai ?_ | refine xad ?_ _)); exact BK179.out⟩, ⟨by repeat (first | (with_reducible first | exact HB.out | apply xab | apply xaa | apply xac | refine xah ?_ GE173.out | refine xah ?_ GE174.out | refine xah ?_ GE179.out) | exact HB.out)⟩⟩
     ·rw [if_neg c19] at H
      exact absurd H (by simp)
    ·rw [if_neg c17] at H
     exact absurd H (by simp)
   ·rw [if_neg c16] at H
    have c16b0 : decide (x6_1 < (l1_5.length : Int)) = false := decide_eq_false c16
    clear c16
    simp only [Option.some.injEq, Prod.mk.injEq] at H
    obtain ⟨rfl, rfl, rfl, rfl, rfl, rfl⟩ := H
    have hnb29 := NB173_174.out
    have hnc29 := NB174_173.out
    have hnb30 := NB173_179.out
    have hnc30 := NB179_173.out
    obtain ⟨hcz31_0, hcz31_1, hcz31_2, hcz31_3, hcz31_4, hcz31_5⟩ := cz6 BK173.out
    obtain ⟨hfz31_0, hfz31_1, hfz31_2, hfz31_3, hfz31_4, hfz31_5⟩ := fz6 BK173.out
    have hnb32 := NB179_174.out
    have hnc32 := NB174_179.out
    obtain ⟨hcz33_0, hcz33_1, hcz33_2, hcz33_3, hcz33_4, hcz33_5⟩ := cz6 BK179.out
    obtain ⟨hfz33_0, hfz33_1, hfz33_2, hfz33_3, hfz33_4, hfz33_5⟩ := fz6 BK179.out
    obtain ⟨hcz34_0, hcz34_1, hcz34_2, hcz34_3, hcz34_4, hcz34_5⟩ := cz6 BK174.out
    obtain ⟨hfz34_0, hfz34_1, hfz34_2, hfz34_3, hfz34_4, hfz34_5⟩ := fz6 BK174.out
    obtain ⟨Ao35, co35, eo35⟩ := Kd.R_slice HO_180005.out
    subst eo35
    go_wp2
    refine bodyPost_ret (results_cell_row rfl _ _ gb174 31 #[.int .i8 a1_0, .string t175, .int .i8 t176, .int .i64 t177, .string t178, .slice Ao35 x180005_1.length co35] (0, 0) _ rfl (by (with_reducible repeat (first | refine xaf ?_ _ | refine xai ?_ | refine xad ?_ _)); refine xas (cs := #[.int .i8 a1_0, .string t175, .int .i8 t176, .int .i64 t177, .string t178, .slice none 0 0]) ?_ 5 _ rfl; (with_reducible repeat (first | refine xaf ?_ _ | refine xai ?_ | refine xad ?_ _)); refine xas (cs := #[.int .i8 a1_0, .string t175, .int .i8 t176, .int .i64 t177, .string (⟨#[]⟩ : ByteArray), .slice none 0 0]) ?_ 4 _ rfl; (with_reducible repeat (first | refine xaf ?_ _ | refine xai ?_ | refine xad ?_ _)); refine xas (cs := #[.int .i8 a1_0, .string t175, .int .i8 t176, .int .i64 0, .string (⟨#[]⟩ : ByteArray), .slice none 0 0]) ?_ 3 _ rfl; (with_reducible repeat (first | refine xaf ?_ _ | refine xai ?_ | refine xad ?_ _)); refine xas (cs := #[.int .i8 a1_0, .string t175, .int .i8 0, .int .i64 0, .string (⟨#[]⟩ : ByteArray), .slice none 0 0]) ?_ 2 _ rfl; (with_reducible repeat (first | refine xaf ?_ _ | refine xai ?_ | refine xad ?_ _)); refine xas (cs := #[.int .i8 a1_0, .string (⟨#[]⟩ : ByteArray), .int .i8 0, .int .i64 0, .string (⟨#[]⟩ : ByteArray), .slice none 0 0]) ?_ 1 _ rfl; (with_reducible repeat (first | refine xaf ?_ _ | refine xai ?_ | refine xad ?_ _)); refine xas (cs := #[.int .i8 0, .string (⟨#[]⟩ : ByteArray), .int .i8 0, .int .i64 0, .string (⟨#[]⟩ : ByteArray), .slice none 0 0]) ?_ 0 _ rfl; (with_reducible repeat (first | refine xaf ?_ _ | refine xai ?_ | refine xad ?_ _)); exact BK174.out) Tryd.underlying31 rfl (by kernel_rfl)) rfl ?_
    exact ⟨_, by first | rfl | (simp [xan, xam] <;> rfl) | (simp [*, xan, xam] <;> rfl), by (with_reducible repeat (first | apply Kd.R_alloc | apply Kd.R_drewN | apply Kd.R_drew)); exact Kd.R_mono (Kd.R_far (p := ⟨gb174, 5, none⟩) (Kd.R_far (p := ⟨gb174, 4, none⟩) (Kd.R_far (p := ⟨gb174, 3, none⟩) (Kd.R_far (p := ⟨gb174, 2, none⟩) (Kd.R_far (p := ⟨gb174, 1, none⟩) (Kd.R_far (p := ⟨gb174, 0, none⟩) (Kd.R_mono HO_180005.out (fun k_ hk => (⟨hk, hk.2.1⟩ : _ ∧ k_ ≠ gb174))) (fun _ hk => hk.2) (.int .i8 a1_0)) (fun _ hk => hk.2) (.string t175)) (fun _ hk => hk.2) (.int .i8 t176)) (fun _ hk => hk.2) (.int .i64 t177)) (fun _ hk => hk.2) (.string t178)) (fun _ hk => hk.2) (.slice Ao35 x180005_1.length co35)) (fun _ hk => trivial), by repeat (first | (with_reducible first | exact HB.out | apply xab | apply xaa | apply xac | refine xah ?_ GE173.out | refine xah ?_ GE174.out | refine xah ?_ GE179.out) | exact HB.out)⟩
end Go.Proofs.YtllcmggmcogokaaDoor.PAll
end
section

namespace Go.Proofs.YtllcmggmcogokaaDoor.PAll
open Go.RowKit Go.Proofs.YtllcmggmcogokaaDoorW.PrintWords Go.Proofs.YtllcmggmcogokaaDoorW.PrintLast Go.Proofs.YtllcmggmcogokaaDoorW.PrintMore
attribute [local go_sem] max2_int min2_int max_two min_two max_three min_three max_four min_four
set_option linter.unusedVariables false
set_option linter.unusedSimpArgs false
section
variable {P : Program} {ops : Array Oper} {rest : List Oper} {o : Oper} {a : Act} {Q : Exit → Act → World → Prop} {α : Type}
theorem run_append_flat (d : Kd α) (hflat : ∀ {w : World} {x : α} {cs : List Value}, d.K w x cs → ∀ (W : World) (base : Nat) (ok : Nat → Prop), d.M W base ok x cs) {W : World} (base : Nat) (t ty e : TypeId) (z : Value) (bytes : Nat)
  (ht : P.underlying t = some (.slice e)) (hinfo : (P.info? e).map (fun i => (i.zero, i.size, i.bytes)) = some (some z, d.sz, bytes)) (hz : z.cells.size = d.sz) (hs0 : 0 < d.sz) (hb0 : 0 < bytes)
  (v : Value) (xs : List α) (HO : d.R e W base (fun _ => True) v xs) (A : Option Addr) (m c : Nat) (ys : List α) (HC : d.C W A m ys) (hbase : base ≤ W.heap.size) (hl : ((xs.length + m) + (xs.length + m) / 4 + 192) * bytes ≤ 281474976710656) :
  ∃ v1 w1, (Builtin.append_ #[t, t] ty #[v, .slice A m c]).run P W = .ok v1 w1 ∧ d.R e w1 base (fun _ => True) v1 (xs ++ ys) ∧ W.grownBy w1 v.ownBlock := by
 obtain ⟨i0, hi, hzz⟩ := Option.map_eq_some_iff.1 hinfo
 simp only [Prod.mk.injEq] at hzz
 obtain ⟨hz0, hz1, hz2⟩ := hzz
 have hm : ys.length = m := HC.1
 have hlen : xs.length + m ≤ 281474976710656 := Nat.le_trans (Nat.le_trans (by omega) (Nat.le_mul_of_pos_right _ hb0)) hl
 obtain ⟨hok, inner, hown, hr⟩ := HO
 rcases A with _ | ad
 ·have h0 : m = 0 := by
   rcases Nat.eq_zero_or_pos m with h0 | h0
   ·exact h0
   ·obtain ⟨ad, h, _⟩ := HC.2.2 h0
    cases h
  subst h0
  obtain rfl : ys = [] := List.eq_nil_of_length_eq_zero hm
  refine ⟨v, W, ?_, ⟨fun _ _ => trivial, inner, by simpa using hown, by rw [List.append_nil]; exact hr⟩, World.grownBy.refl W _⟩
  rcases hown.2 with ⟨rfl, hn⟩ | ⟨g, cap, cur, rfl, _, _, hnc, _⟩
  ·simp [Builtin.append_, run_underlying ht, sizeOf, typeInfo, hi, Builtin.lenOf, Builtin.firstCells]
  ·simp [Builtin.append_, run_underlying ht, sizeOf, typeInfo, hi, Builtin.lenOf, Builtin.firstCells, hnc, storeCells]
 ·obtain ⟨news, hrn, hcell⟩ := ReadsRow.inner_ HC
  have h1 : ∀ u ∈ news, u.oneCell' = true := by
   intro u hu
   obtain ⟨j, hj, rfl⟩ := List.getElem_of_mem hu
   have hjl : j < ys.length * d.sz := by rw [← hrn.1]; exact hj
   have hdiv : j / d.sz < ys.length := Nat.div_lt_of_lt_mul (by rw [Nat.mul_comm]; exact hjl)
   have hK := hrn.2 (j / d.sz) _ (List.getElem?_eq_getElem hdiv)
   refine d.K_one hK _ ?_
   have hmod : j % d.sz < d.sz := Nat.mod_lt _ hs0
   have he : j / d.sz * d.sz + j % d.sz = j := by rw [Nat.mul_comm]; exact Nat.div_add_mod j d.sz
   have hg : ((news.drop (j / d.sz * d.sz)).take d.sz)[j % d.sz]? = some news[j] := by
    rw [List.getElem?_take_of_lt hmod, List.getElem?_drop, he, List.getElem?_eq_getElem hj]
   exact List.mem_of_getElem? hg
  obtain ⟨v1, w1, hrun, h2, h3, _⟩ := run_append_own_wide (P := P) W base t ty e i0 z d.sz bytes ht hi hz0 hz1 hz2 hz hs0 v xs.length inner hown ad m c news (by rw [hrn.1, hm]) hcell h1 (by simp only [maxLen]; omega) hl hbase
  refine ⟨v1, w1, hrun, ⟨fun _ _ => trivial, inner ++ news, by rw [List.length_append, hm]; exact h2, Kd.reps_append (hr.imp_ fun p c hp => hflat (d.K_of_M hp) _ _ _) (hrn.imp_ fun p c hp => hflat hp _ _ _)⟩, h3⟩
theorem xbf (d : Kd α) (hflat : ∀ {w : World} {x : α} {cs : List Value}, d.K w x cs → ∀ (W : World) (base : Nat) (ok : Nat → Prop), d.M W base ok x cs) {w0 W : World} (base : Nat) (hgd : o.guard = none) (s x : Operand) (t e : TypeId) (z : Value) (bytes : Nat)
  (ho : o.op = .call { callee := .builtin .append, args := #[s, x], argTypes := #[t, t] })
  (ht : P.underlying t = some (.slice e)) (hinfo : (P.info? e).map (fun i => (i.zero, i.size, i.bytes)) = some (some z, d.sz, bytes)) (hz : z.cells.size = d.sz) (hs0 : 0 < d.sz) (hb0 : 0 < bytes)
  (v : Value) (xs : List α) (hs : a.eval s = v) (HO : d.R e W base (fun _ => True) v xs) (A : Option Addr) (m c : Nat) (ys : List α) (hx : a.eval x = .slice A m c) (HC : d.C W A m ys) (HB : Below base w0 W) (hbase : base ≤ W.heap.size) (hl : ((xs.length + m) + (xs.length + m) / 4 + 192) * bytes ≤ 281474976710656)
  (h : ∀ v1 w1, d.R e w1 base (fun _ => True) v1 (xs ++ ys) → Below base w0 w1 → W.grownBy w1 v.ownBlock → wpList P ops Q rest (a.put o.dst v1) w1) : wpList P ops Q (o :: rest) a W := by
 obtain ⟨v1, w1, hr, h2, h3⟩ := run_append_flat (P := P) d hflat (W := W) base t o.type e z bytes ht hinfo hz hs0 hb0 v xs HO A m c ys HC hbase hl
 refine wpList_plain hgd fun K hK => ?_
 unfold Oper.wp execOp
 simp only [ho, resolve, invoke, builtin, Sem.run_bind, Sem.run_pure, Result.andThen_ok, List.map_toArray, List.map_cons, List.map_nil, hs, hx, hr]
 obtain ⟨_, inner, hown, _⟩ := HO
 exact hK _ _ (h v1 w1 h2 (HB.grown h3 hbase (own_base hown)) h3)
theorem step_append_flat {Kc : Act → World → Prop} (d : Kd α) (hflat : ∀ {w : World} {x : α} {cs : List Value}, d.K w x cs → ∀ (W : World) (base : Nat) (ok : Nat → Prop), d.M W base ok x cs) {w0 W : World} (base : Nat) (hw : Region.wanted o (yielded ops a.tmps) = true) (s x : Operand) (t e : TypeId) (z : Value) (bytes : Nat)
  (ho : o.op = .call { callee := .builtin .append, args := #[s, x], argTypes := #[t, t] })
  (ht : P.underlying t = some (.slice e)) (hinfo : (P.info? e).map (fun i => (i.zero, i.size, i.bytes)) = some (some z, d.sz, bytes)) (hz : z.cells.size = d.sz) (hs0 : 0 < d.sz) (hb0 : 0 < bytes)
  (v : Value) (xs : List α) (hs : a.eval s = v) (HO : d.R e W base (fun _ => True) v xs) (A : Option Addr) (m c : Nat) (ys : List α) (hx : a.eval x = .slice A m c) (HC : d.C W A m ys) (HB : Below base w0 W) (hbase : base ≤ W.heap.size) (hl : ((xs.length + m) + (xs.length + m) / 4 + 192) * bytes ≤ 281474976710656)
  (h : ∀ v1 w1, d.R e w1 base (fun _ => True) v1 (xs ++ ys) → Below base w0 w1 → W.grownBy w1 v.ownBlock → Kc (a.put o.dst v1) w1) :
  if Region.wanted o (yielded ops a.tmps) = true then Oper.wp P o a W Kc Q else Kc (a.put o.dst undef) W := by
 obtain ⟨v1, w1, hr, h2, h3⟩ := run_append_flat (P := P) d hflat (W := W) base t o.type e z bytes ht hinfo hz hs0 hb0 v xs HO A m c ys HC hbase hl
 rw [if_pos hw]
 unfold Oper.wp execOp
 simp only [ho, resolve, invoke, builtin, Sem.run_bind, Sem.run_pure, Result.andThen_ok, List.map_toArray, List.map_cons, List.map_nil, hs, hx, hr]
 obtain ⟨_, inner, hown, _⟩ := HO
 exact h v1 w1 h2 (HB.grown h3 hbase (own_base hown)) h3
end
theorem C_one' {α : Type} {d : Kd α} {w : World} {g : Nat} {arr : Array Value} {t : TypeId} (hb : w.heap[g]? = some (.cells arr t (0, 0))) (x : α) (hK : d.K w x arr.toList) : d.C w (some ⟨g, 0, none⟩) 1 [x] := by
 refine ⟨rfl, by decide, fun _ => ⟨⟨g, 0, none⟩, rfl, fun j p hj => ?_⟩⟩
 match j, hj with
 | 0, hj =>
  obtain rfl := Option.some.inj hj
  refine ⟨arr.toList, d.K_len hK, hK, fun i u hu => ?_⟩
  rw [Nat.zero_mul, Nat.zero_add, add_plain, xag hb i]
  simpa using hu
theorem R_beside {α β : Type} {d : Kd α} {d' : Kd β} {e e' : Nat} {w w1 : World} {base base' : Nat} {ok ok' : Nat → Prop} {v v' : Value} {xs : List α} {ys : List β} (h : d.R e w base ok v xs) (h' : d'.R e' w base' ok' v' ys) (hne : ∀ q, q ∈ e :: d.E → q ≠ e') (hg : w.grownBy w1 v'.ownBlock) : d.R e w1 base ok v xs :=
 Kd.R_mono (Kd.R_grown (Kd.R_bound h) hg (fun k hk he => by
  obtain ⟨_, _, _, q, hq, cells, hc⟩ := hk
  obtain ⟨inner, ho⟩ := Kd.R_own h'
  obtain ⟨cells', hc'⟩ := own_typed ho k he.symm
  rw [hc] at hc'
  cases hc'
  exact hne e' hq rfl)) (fun _ hk => hk.1)
theorem flat_bind {w : World} {x : S41} {cs : List Value} (h : k41.K w x cs) (W : World) (base : Nat) (ok : Nat → Prop) : k41.M W base ok x cs := by rw [k41_open h]; exact k41_mkM W base ok x
end Go.Proofs.YtllcmggmcogokaaDoor.PAll

end
section
namespace Go.Proofs.YtllcmggmcogokaaDoor.PAll
open Go.RowKit Go.Proofs.YtllcmggmcogokaaDoorW.PrintWords Go.Proofs.YtllcmggmcogokaaDoorW.PrintLast Go.Proofs.YtllcmggmcogokaaDoorW.PrintMore
attribute [local go_sem] max2_int min2_int max_two min_two max_three min_three max_four min_four
def pairB (b : S41) : S82 := ⟨b.f0, ⟨⟨#[]⟩, b.f1⟩⟩
theorem flat_pair {w : World} {x : S82} {cs : List Value} (h : k82.K w x cs) (W : World) (base : Nat) (ok : Nat → Prop) : k82.M W base ok x cs := by rw [k82_open h]; exact k82_mkM W base ok x
structure PairsI (w : World) (u : Value) (L : List S82) (W : World) : Prop where
 row : Kd.R k82 82 W w.heap.size (fun _ => True) u L
 below : Below w.heap.size w W
set_option maxHeartbeats 4000000 in
set_option maxRecDepth 100000 in
theorem pairsOf_walk (A : Option Addr) (c : Nat) (l : List S41) (w : World) (hr : Kd.C k41 w A l.length l) (hc : l.length ≤ c) (hb : (l.length + l.length / 4 + 192) * 64 ≤ 281474976710656) :
  Calls Tryd.prog 16 #[.slice A l.length c] w fun e w' => ∃ v, e = .returned v ∧ Kd.R k82 82 w' w.heap.size (fun _ => True) v (l.map pairB) ∧ Below w.heap.size w w' := by
 have HC := Lib.hid hr
 have hm : l.length ≤ 9223372036854775807 := hr.2.1
 have HBD := Lib.hid hb
 clear hr hb
 go_enter Tryd.func16, Tryd.ntmps16
 go_wp2_with fail
 go_loopw [3, 4] (fun v i wr => ∃ k : Nat, k ≤ l.length ∧ i = .int .i64 k ∧ Hid (PairsI w v ((l.take k).map pairB) wr)) (fun _ i _ => l.length - (intOf i).toNat)
 case atStart => exact ⟨0, Nat.zero_le _, rfl, Lib.hid ⟨Kd.R_nil _ _ _ _ _, Below.refl _ _⟩⟩
 case round =>
  obtain ⟨k, hk, rfl, HI⟩ := hrel
  by_cases hlt : k < l.length
  ·obtain ⟨ad, rfl, g0, g1, g2, g3⟩ := at_T41 (Kd.C_below HC.out HI.out.below) (k : Int) (by omega) (by omega)
   rw [Int.toNat_natCast] at g0 g1 g2 g3
   have HS := Lib.hid (xbi l z41 k hlt)
   have HR : Hid (rd_T41 l k = l.getD k z41) := Lib.hid rfl
   rw [← HR.out] at HS
   generalize rd_T41 l k = y at *
   clear HR
   have HL : Hid (((((l.take k).map pairB).length + 1) + (((l.take k).map pairB).length + 1) / 4 + 192) * 64 ≤ 281474976710656) := Lib.hid (by have h := HBD.out; have e : ((l.take k).map pairB).length = k := (by rw [List.length_map, List.length_take]; omega); exact Nat.le_trans (Nat.mul_le_mul_right 64 (by omega)) h)
   obtain ⟨Av, cv, hv⟩ := Kd.R_slice HI.out.row
   rw [show ((l.take k).map pairB).length = k from (by rw [List.length_map, List.length_take]; omega)] at hv
   subst hv
   go_wp2_with fail
   refine start_ (n := 16) (S := fun w' => w'.cell? (ad.add (k * 4)) = some (.string y.f0) ∧ w'.cell? ⟨(ad.add (k * 4)).block, (ad.add (k * 4)).off + 1, none⟩ = some (.int .i8 y.f1.f0) ∧ w'.cell? ⟨(ad.add (k * 4)).block, (ad.add (k * 4)).off + 1 + 1, none⟩ = some (.int .i64 y.f1.f1) ∧ w'.cell? ⟨(ad.add (k * 4)).block, (ad.add (k * 4)).off + 1 + 2, none⟩ = some (.string y.f1.f2) ∧ Hid (PairsI w (.slice Av k cv) ((l.take k).map pairB) w')) (ds := [14]) #[false, false, false, false, false, false, false, false, false, false, false, false, false, false, false, false] (by kernel_rfl) rfl rfl ⟨g0, g1, g2, g3, (Lib.hid ⟨Kd.R_below HI.out.row (xaw (Below.refl _ _)), xaw HI.out.below⟩)⟩ (fun hHeld => ?_)
   refine pure_ (i := 0) (N := some 11) (v := ?_) (a' := ?_) #[true, false, false, false, false, false, false, false, false, false, false, false, false, false, false, false] rfl rfl (by kernel_rfl) (fun _ _ _ h => h) (Or.inl ⟨by rfl, ?_⟩) ?_ ?_
   rotate_left
   ·intro w'
    go_simp
    with_reducible rfl
   rotate_left
   ·simp only [Act.put, sI, sZ, sS, i64_w, i32_w]
    rfl
   refine pure_ (i := 1) (N := some 12) (v := ?_) (a' := ?_) #[true, true, false, false, false, false, false, false, false, false, false, false, false, false, false, false] rfl rfl (by kernel_rfl) (fun _ _ _ h => h) (Or.inl ⟨by rfl, ?_⟩) ?_ ?_
   rotate_left
   ·intro w'
    go_simp
    with_reducible rfl
   rotate_left
   ·simp only [Act.put, sI, sZ, sS, i64_w, i32_w]
    rfl
   refine pure_ (i := 2) (N := some 13) (v := ?_) (a' := ?_) #[true, true, true, false, false, false, false, false, false, false, false, false, false, false, false, false] rfl rfl (by kernel_rfl) (fun _ _ _ h => h) (Or.inl ⟨by rfl, ?_⟩) ?_ ?_
   rotate_left
   ·intro w'
    go_simp
    with_reducible rfl
   rotate_left
   ·simp only [Act.put, sI, sZ, sS, i64_w, i32_w]
    rfl
   refine pure_ (i := 3) (N := some 14) (v := ?_) (a' := ?_) #[true, true, true, true, false, false, false, false, false, false, false, false, false, false, false, false] rfl rfl (by kernel_rfl) (fun _ _ _ h => h) (Or.inl ⟨by rfl, ?_⟩) ?_ ?_
   rotate_left
   ·intro w'
    go_simp
    with_reducible rfl
   rotate_left
   ·simp only [Act.put, sI, sZ, sS, i64_w, i32_w]
    rfl
   refine pure_ (i := 4) (N := some 15) (v := ?_) (a' := ?_) #[true, true, true, true, true, false, false, false, false, false, false, false, false, false, false, false] rfl rfl (by kernel_rfl) (fun _ _ _ h => h) (Or.inl ⟨by rfl, ?_⟩) ?_ ?_
   rotate_left
   ·intro w'
    go_simp
    with_reducible rfl
   rotate_left
   ·simp only [Act.put, sI, sZ, sS, i64_w, i32_w]
    rfl
   refine pure_ (i := 6) (N := some 17) (v := ?_) (a' := ?_) #[true, true, true, true, true, false, true, false, false, false, false, false, false, false, false, false] rfl rfl (by kernel_rfl) (fun _ _ _ h => h) (Or.inl ⟨by rfl, ?_⟩) ?_ ?_
   rotate_left
   ·intro w'
    go_simp
    with_reducible rfl
   rotate_left
   ·simp only [Act.put, sI, sZ, sS, i64_w, i32_w]
    rfl
   refine pure_ (i := 7) (N := some 18) (v := ?_) (a' := ?_) #[true, true, true, true, true, false, true, true, false, false, false, false, false, false, false, false] rfl rfl (by kernel_rfl) (fun _ _ _ h => h) (Or.inl ⟨by rfl, ?_⟩) ?_ ?_
   rotate_left
   ·intro w'
    go_simp
    with_reducible rfl
   rotate_left
   ·simp only [Act.put, sI, sZ, sS, i64_w, i32_w]
    rfl
   refine pure_ (i := 8) (N := some 19) (v := ?_) (a' := ?_) #[true, true, true, true, true, false, true, true, true, false, false, false, false, false, false, false] rfl rfl (by kernel_rfl) (fun _ _ _ h => h) (Or.inl ⟨by rfl, ?_⟩) ?_ ?_
   rotate_left
   ·intro w'
    go_simp
    with_reducible rfl
   rotate_left
   ·simp only [Act.put, sI, sZ, sS, i64_w, i32_w]
    rfl
   refine pure_ (i := 9) (N := some 20) (v := ?_) (a' := ?_) #[true, true, true, true, true, false, true, true, true, true, false, false, false, false, false, false] rfl rfl (by kernel_rfl) (fun _ _ _ h => h) (Or.inl ⟨by rfl, ?_⟩) ?_ ?_
   rotate_left
   ·intro w'
    go_simp
    with_reducible rfl
   rotate_left
   ·simp only [Act.put, sI, sZ, sS, i64_w, i32_w]
    rfl
   refine take_ (i := 5) (N := some 16) (v := ?_) (a' := ?_) #[true, true, true, true, true, true, true, true, true, true, false, false, false, false, false, false] rfl rfl (by kernel_rfl) (fun _ _ _ h => h) (Or.inl ⟨by rfl, ?_⟩) hHeld ?_ ?_
   rotate_left
   ·rintro w' ⟨s0, s1, s2, s3, s4⟩
    go_simp
    with_reducible rfl
   rotate_left
   ·simp only [Act.put, sI, sZ, sS, i64_w, i32_w]
    rfl
   refine take_ (i := 10) (N := some 21) (v := ?_) (a' := ?_) #[true, true, true, true, true, true, true, true, true, true, true, false, false, false, false, false] rfl rfl (by kernel_rfl) (fun _ _ _ h => h) (Or.inl ⟨by rfl, ?_⟩) hHeld ?_ ?_
   rotate_left
   ·rintro w' ⟨s0, s1, s2, s3, s4⟩
    go_simp
    with_reducible rfl
   rotate_left
   ·simp only [Act.put, sI, sZ, sS, i64_w, i32_w]
    rfl
   refine pure_ (i := 11) (N := some 22) (v := ?_) (a' := ?_) #[true, true, true, true, true, true, true, true, true, true, true, true, false, false, false, false] rfl rfl (by kernel_rfl) (fun _ _ _ h => h) (Or.inl ⟨by rfl, ?_⟩) ?_ ?_
   rotate_left
   ·intro w'
    go_simp
    with_reducible rfl
   rotate_left
   ·simp only [Act.put, sI, sZ, sS, i64_w, i32_w]
    rfl
   refine pure_ (i := 12) (N := some 23) (v := ?_) (a' := ?_) #[true, true, true, true, true, true, true, true, true, true, true, true, true, false, false, false] rfl rfl (by kernel_rfl) (fun _ _ _ h => h) (Or.inl ⟨by rfl, ?_⟩) ?_ ?_
   rotate_left
   ·intro w'
    go_simp
    with_reducible rfl
   rotate_left
   ·simp only [Act.put, sI, sZ, sS, i64_w, i32_w]
    rfl
   refine one_ (i := 13) (N := some 24) #[true, true, true, true, true, true, true, true, true, true, true, true, true, true, false, false] rfl rfl (by kernel_rfl) (by decide) (fun K hK => ?_)
   refine value_ (w1 := ?_) (v := ?_) (by rfl) rfl ?_ ?_
   rotate_left 2
   ·go_simp
    constructor
    ·rfl
    ·rfl
   obtain ⟨s0, s1, s2, s3, s4⟩ := hHeld
   refine hK.out _ _ ⟨(xaj (xab (Below.refl _ _) _) s0), (xaj (xab (Below.refl _ _) _) s1), (xaj (xab (Below.refl _ _) _) s2), (xaj (xab (Below.refl _ _) _) s3), (Lib.hid ⟨Kd.R_below s4.out.row (xab (Below.refl _ _) _), xab s4.out.below _⟩)⟩ (fun hHeld => ?_)
   clear hK K
   refine norm_ (a' := ?_) ?_ ?_
   rotate_left
   ·show Act.put _ (some 24) _ = _
    simp only [Act.put, sI, sZ, sS, i64_w, i32_w]
    rfl
   refine last_ (i := 14) (N := some 25) #[true, true, true, true, true, true, true, true, true, true, true, true, true, true, true, false] rfl rfl (by kernel_rfl) (by decide) (fun K hK => ?_)
   obtain ⟨s0, s1, s2, s3, s4⟩ := hHeld
   have hbx : (wr.alloc (.cells #[.string y.f0, .string ⟨#[]⟩, .int .i8 y.f1.f0, .int .i64 y.f1.f1, .string y.f1.f2] 82 (0, 0))).drew.heap[wr.heap.size]? = some (.cells #[.string y.f0, .string ⟨#[]⟩, .int .i8 y.f1.f0, .int .i64 y.f1.f1, .string y.f1.f2] 82 (0, 0)) := xau wr.drew (.cells #[.string y.f0, .string ⟨#[]⟩, .int .i8 y.f1.f0, .int .i64 y.f1.f1, .string y.f1.f2] 82 (0, 0))
   have hone := C_one' hbx (pairB y) (k82_mk _ _)
   refine step_append_flat k82 flat_pair (w0 := w) w.heap.size rfl (.tmp 11) (.tmp 24) 45 82 (.agg #[.string ⟨#[]⟩, .string ⟨#[]⟩, .int .i8 0, .int .i64 0, .string ⟨#[]⟩]) 64 rfl Tryd.underlying45 (by kernel_rfl) (by decide) (by decide) (by decide) (.slice Av k cv) ((l.take k).map pairB) rfl s4.out.row (some ⟨wr.heap.size, 0, none⟩) 1 1 [pairB y] rfl hone s4.out.below s4.out.below.size HL.out ?_
   intro u1 w1 hR hB1 hG
   refine hK.out _ _ ?_
   clear hK K
   refine norm_ (a' := ?_) ?_ ?_
   rotate_left
   ·show Act.put _ (some 25) _ = _
    simp only [Act.put, sI, sZ, sS, i64_w, i32_w]
    rfl
   refine pure_ (i := 15) (N := some 3) (v := ?_) (a' := ?_) #[true, true, true, true, true, true, true, true, true, true, true, true, true, true, true, true] rfl rfl (by kernel_rfl) (fun _ _ _ h => h) (Or.inl ⟨by rfl, ?_⟩) ?_ ?_
   rotate_left
   ·intro w'
    go_simp
    with_reducible rfl
   rotate_left
   ·simp only [Act.put, sI, sZ, sS, i64_w, i32_w]
    rfl
   refine done_ (by kernel_rfl) ?_
   have HI2 : Hid (PairsI w u1 ((l.take k).map pairB ++ [pairB y]) w1) := Lib.hid ⟨hR, hB1⟩
   clear hR hB1 hG hone hbx s0 s1 s2 s3 s4 HI
   go_wp2_with fail
   go_roundw
   case rel => exact ⟨k + 1, by omega, by go_num, Lib.hid (by rw [HS.out, List.map_append]; exact HI2.out)⟩
   case measure => simp [intOf]; omega
  ·go_wp2_with fail
   go_ret
   have h := HI.out
   rw [List.take_of_length_le (by omega)] at h
   exact ⟨_, rfl, h.row, h.below⟩
def w4_pairsOf.f (l0 : List (S41)) : Option (List (S82)) := if (l0.length + l0.length / 4 + 192) * 64 ≤ 281474976710656 then some (l0.map pairB) else none
theorem w4_pairsOf.calls (A0 : Option Addr) (c0 : Nat) (l0 : List (S41)) (r : List (S82)) (w : World) (hr0 : Kd.C k41 w A0 l0.length l0) (hc0 : l0.length ≤ c0) (h : w4_pairsOf.f l0 = some r) :
  Calls Tryd.prog 16 #[.slice A0 l0.length c0] w fun e w' => ∃ v, e = .returned v ∧ Kd.R k82 82 w' w.heap.size (fun _ => True) v r ∧ Below w.heap.size w w' := by
 unfold w4_pairsOf.f at h
 by_cases hf : (l0.length + l0.length / 4 + 192) * 64 ≤ 281474976710656
 ·rw [if_pos hf] at h
  obtain rfl := Option.some.inj h
  exact pairsOf_walk A0 c0 l0 w hr0 hc0 hf
 ·rw [if_neg hf] at h
  cases h
theorem exec_load_row {P : Program} {o : Oper} {a : Act} {w : World} (ty : TypeId) (x : Operand) (ho : o.op = .load ty x) (g : Nat) (hx : a.eval x = .pointer (some ⟨g, 0, none⟩)) (t : TypeId) (cs : Array Value) (d : TypeDesc) (hg : w.heap[g]? = some (.cells cs t (0, 0)))
  (hu : P.underlying ty = some d) (hd : (match d with | .struct _ | .array _ _ => true | _ => false) = true) (hi : (P.info? ty).map (·.size) = some cs.size) : (execOp a.eval o).run P w = .ok (.value (.agg cs)) w := by
 unfold execOp
 simp only [ho, hx, Instr.loadAt, Instr.sureAddr, Sem.run_bind, Sem.run_pure, Result.andThen_ok, run_loadVar_row w g t ty cs (0, 0) d hg hu hd hi]
def firstB (bs : List S41) (v : ByteArray) : Option S41 := bs.find? (fun b => b.f0.data.toList == v.data.toList)
def okB : Option S41 → Bool
 | some b => valueOk b.f1
 | none => false
def ownOf (bs : List S41) (vs : List ByteArray) : List S41 := vs.filterMap (firstB bs)
def allOf (bs : List S41) (vs : List ByteArray) : Bool := vs.all (fun v => okB (firstB bs v))
def inB (vs : List ByteArray) (s : ByteArray) : Bool := vs.any (fun y => y.data.toList == s.data.toList)
def moreStep (vs : List ByteArray) (all : Bool) (L : List S41) (m : S41) : List S41 := if (inB vs m.f0 && all) = true then L ++ [m] else if inB vs m.f0 = true then L else [m] ++ L
theorem moreStep_len (vs : List ByteArray) (all : Bool) (L : List S41) (m : S41) : (moreStep vs all L m).length ≤ L.length + 1 := by
 unfold moreStep
 repeat' split
 all_goals simp
theorem moreFold_len (vs : List ByteArray) (all : Bool) : ∀ (ms L : List S41), (ms.foldl (moreStep vs all) L).length ≤ L.length + ms.length
 | [], L => by simp
 | m :: r, L => by
  rw [List.foldl_cons, List.length_cons]
  have := moreFold_len vs all r (moreStep vs all L m)
  have := moreStep_len vs all L m
  omega
structure MS (w : World) (cx rv : Array Value) (gv : Nat) (uv : Value) (vs : List ByteArray) (u : Value) (L : List S41) (W : World) : Prop where
 below : Below w.heap.size w W
 ke : W.heap[w.heap.size]? = some (.cells cx 31 (0, 0))
 kv : W.heap[gv]? = some (.cells rv 26 (0, 0))
 vars : Kd.R Kd.string 9 W w.heap.size (fun _ => True) uv vs
 own : Kd.R k41 41 W w.heap.size (fun _ => True) u L
theorem MS.on {w : World} {cx rv : Array Value} {gv : Nat} {uv : Value} {vs : List ByteArray} {u : Value} {L : List S41} {W W1 : World} (h : MS w cx rv gv uv vs u L W) (hb : Below W.heap.size W W1) : MS w cx rv gv uv vs u L W1 :=
 ⟨xae h.below hb, xak h.ke hb, xak h.kv hb, Kd.R_below h.vars hb, Kd.R_below h.own hb⟩
theorem MS.grown {w : World} {cx rv : Array Value} {gv : Nat} {uv : Value} {vs : List ByteArray} {u : Value} {L : List S41} {W W1 : World} (h : MS w cx rv gv uv vs u L W) {u1 : Value} {L1 : List S41} (hR : Kd.R k41 41 W1 w.heap.size (fun _ => True) u1 L1) (hB : Below w.heap.size w W1) (hG : W.grownBy W1 u.ownBlock) : MS w cx rv gv uv vs u1 L1 W1 :=
 ⟨hB, xba h.ke hG (Kd.R_ne h.own h.ke (by decide)), xba h.kv hG (Kd.R_ne h.own h.kv (by decide)), R_beside h.vars h.own (by intro q hq; simp [Kd.string, Kd.scalar] at hq; subst hq; decide) hG, hR⟩
theorem MS.fresh {w : World} {cx rv : Array Value} {gv : Nat} {uv : Value} {vs : List ByteArray} {u : Value} {L : List S41} {W W1 : World} (h : MS w cx rv gv uv vs u L W) {u1 : Value} {L1 : List S41} (hR : Kd.R k41 41 W1 w.heap.size (fun _ => True) u1 L1) (hb : Below W.heap.size W W1) : MS w cx rv gv uv vs u1 L1 W1 :=
 ⟨xae h.below hb, xak h.ke hb, xak h.kv hb, Kd.R_below h.vars hb, hR⟩
end Go.Proofs.YtllcmggmcogokaaDoor.PAll
end
