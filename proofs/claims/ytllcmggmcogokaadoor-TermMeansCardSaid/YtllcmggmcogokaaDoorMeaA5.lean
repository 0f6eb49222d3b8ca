-- Written by programs of this work and by hand, joined by a program. Lean checks it.
import Derived.Test.YtllcmggmcogokaaDoorCards
import Derived.Test.YtllcmggmcogokaaDoorTie
import Derived.WalkKit
import Derived.ProofKit
import Derived.OpenShut
import Derived.Carry
import Derived.Deep.DeepHandedRow
import Derived.Lib.LaidTab
import Derived.Test.YtllcmggmcogokaaDoorMeaA4
set_option linter.unusedVariables false
set_option linter.unusedSimpArgs false
section
namespace Go.Proofs.YtllcmggmcogokaaDoor.PAll
open Go.RowKit Go.Proofs.YtllcmggmcogokaaDoorW.PrintWords Go.Proofs.YtllcmggmcogokaaDoorW.PrintLast Go.Proofs.YtllcmggmcogokaaDoorW.PrintMore
attribute [local go_sem] max2_int min2_int max_two min_two max_three min_three max_four min_four
theorem R_readsC {α : Type} {d : Kd α} {e base : Nat} {ok : Nat → Prop} {w : World} {A : Option Addr} {n c : Nat} {xs : List α} (h : d.R e w base ok (.slice A n c) xs) : d.C w A xs.length xs := by
 obtain ⟨A', c', he, hl, hC⟩ := Kd.R_reads h
 obtain ⟨rfl, _, _⟩ : A = A' ∧ n = xs.length ∧ c = c' := by simpa using he
 exact hC
theorem blk_newOf {w W : World} (_h : Hid (Below w.heap.size w W)) (o : Obj) : (W.alloc o).heap[W.heap.size]? = some o := heap_alloc_new W o
theorem size_of {w W : World} (h : Hid (Below w.heap.size w W)) : w.heap.size ≤ W.heap.size := h.out.size
theorem fresh_below {w w1 : World} {o : Obj} (hG : (w.alloc o).grownBy w1 (some w.heap.size)) : Below w.heap.size w w1 := (xab (Below.refl _ _) o).grown hG (by simp) (fun k hk => by obtain rfl := Option.some.inj hk; exact Nat.le_refl _)
theorem firstB_snoc (bs : List S41) (v : ByteArray) (k : Nat) (hk : k < bs.length) : firstB (bs.take (k + 1)) v = (match firstB (bs.take k) v with | some b => some b | none => if (bs.getD k z41).f0.data.toList = v.data.toList then some (bs.getD k z41) else none) := by
 unfold firstB
 rw [xbi bs z41 k hk, List.find?_append]
 cases (bs.take k).find? (fun b => b.f0.data.toList == v.data.toList) with
 | some b => rfl
 | none =>
  rw [Option.none_or, List.find?_singleton]
  by_cases h : (bs.getD k z41).f0.data.toList = v.data.toList
  ·simp [h]
  ·simp [h]
theorem firstB_take (bs : List S41) (v : ByteArray) (k : Nat) {b : S41} (h : firstB (bs.take k) v = some b) : firstB bs v = some b := by
 unfold firstB at *
 conv => lhs; rw [← List.take_append_drop k bs]
 rw [List.find?_append, h]
 rfl
theorem ownOf_snoc (bs : List S41) (vs : List ByteArray) (k : Nat) (hk : k < vs.length) : ownOf bs (vs.take (k + 1)) = ownOf bs (vs.take k) ++ (firstB bs (vs.getD k ByteArray.empty)).toList := by
 unfold ownOf
 rw [xbi vs ByteArray.empty k hk, List.filterMap_append]
 generalize vs.getD k ByteArray.empty = x
 have e : List.filterMap (firstB bs) [x] = (firstB bs x).toList := by cases h : firstB bs x <;> simp [h]
 rw [e]
theorem allOf_snoc (bs : List S41) (vs : List ByteArray) (k : Nat) (hk : k < vs.length) : allOf bs (vs.take (k + 1)) = (allOf bs (vs.take k) && okB (firstB bs (vs.getD k ByteArray.empty))) := by
 unfold allOf
 rw [xbi vs ByteArray.empty k hk, List.all_append]
 simp
theorem ownOf_len (bs : List S41) (vs : List ByteArray) : (ownOf bs vs).length ≤ vs.length := List.length_filterMap_le _ _
structure Seen (bs : List S41) (v : ByteArray) (own : List S41) (all : Bool) (k : Nat) (there : Bool) (L : List S41) (a : Bool) : Prop where
 t : there = (firstB (bs.take k) v).isSome
 l : L = own ++ (firstB (bs.take k) v).toList
 a : a = (all && (match firstB (bs.take k) v with | some b => valueOk b.f1 | none => true))
theorem Seen.start (bs : List S41) (v : ByteArray) (own : List S41) (all : Bool) : Seen bs v own all 0 false own all := by
 refine ⟨rfl, ?_, ?_⟩ <;> simp [firstB]
theorem Seen.miss {bs : List S41} {v : ByteArray} {own : List S41} {all : Bool} {k : Nat} {L : List S41} {a : Bool} (h : Seen bs v own all k false L a) (hk : k < bs.length) (hne : (bs.getD k z41).f0.data.toList ≠ v.data.toList) : Seen bs v own all (k + 1) false L a := by
 obtain ⟨h1, h2, h3⟩ := h
 have hn : firstB (bs.take k) v = none := by cases hq : firstB (bs.take k) v with | none => rfl | some b => rw [hq] at h1; cases h1
 rw [hn] at h2 h3
 have hs := firstB_snoc bs v k hk
 rw [hn] at hs
 simp only [if_neg hne] at hs
 exact ⟨by rw [hs]; rfl, by rw [hs]; exact h2, by rw [hs]; exact h3⟩
theorem Seen.hit {bs : List S41} {v : ByteArray} {own : List S41} {all : Bool} {k : Nat} {L : List S41} {a : Bool} (h : Seen bs v own all k false L a) (hk : k < bs.length) (he : (bs.getD k z41).f0.data.toList = v.data.toList) : Seen bs v own all (k + 1) true (L ++ [bs.getD k z41]) (a && valueOk (bs.getD k z41).f1) := by
 obtain ⟨h1, h2, h3⟩ := h
 have hn : firstB (bs.take k) v = none := by cases hq : firstB (bs.take k) v with | none => rfl | some b => rw [hq] at h1; cases h1
 rw [hn] at h2 h3
 have hs := firstB_snoc bs v k hk
 rw [hn] at hs
 simp only [if_pos he] at hs
 refine ⟨by rw [hs]; rfl, by rw [hs, h2]; simp, by rw [hs, h3]; simp⟩
theorem Seen.done {bs : List S41} {v : ByteArray} {own : List S41} {all : Bool} {k : Nat} {there : Bool} {L : List S41} {a : Bool} (h : Seen bs v own all k there L a) (he : bs.length ≤ k ∨ there = true) : L = own ++ (firstB bs v).toList ∧ (a && there) = (all && okB (firstB bs v)) := by
 obtain ⟨h1, h2, h3⟩ := h
 have hq : firstB bs v = firstB (bs.take k) v := by
  cases hf : firstB (bs.take k) v with
  | some b => exact firstB_take bs v k hf
  | none =>
   rcases he with he | he
   ·rw [List.take_of_length_le he] at hf; exact hf
   ·rw [hf] at h1; rw [h1] at he; cases he
 rw [hq]
 refine ⟨h2, ?_⟩
 rw [h1, h3]
 cases firstB (bs.take k) v with
 | none => simp [okB]
 | some b => simp [okB]
set_option maxHeartbeats 4000000 in
set_option maxRecDepth 100000 in
theorem TermMeans_gen (cx : Array Value) (hsx : cx.size = 6) (op : Int) (nm : ByteArray) (q1 q2 : Int) (q3 : ByteArray) (A1 : Option Addr) (c1 : Nat) (kids : List S31)
  (hx0 : cx[0]? = some (.int .i8 op)) (hx1 : cx[1]? = some (.string nm)) (hx2 : cx[2]? = some (.int .i8 q1)) (hx3 : cx[3]? = some (.int .i64 q2)) (hx4 : cx[4]? = some (.string q3)) (hx5 : cx[5]? = some (.slice A1 kids.length c1))
  (bs ms : List S41) (A2 A3 : Option Addr) (c2 c3 : Nat) (w : World) (hk : Kd.C k31 w A1 kids.length kids) (hC2 : Kd.C k41 w A2 bs.length bs) (hc2 : bs.length ≤ c2) (hC3 : Kd.C k41 w A3 ms.length ms) (hc3 : ms.length ≤ c3)
  (b ok : Bool) (r1 r2 : Int) (r3 : ByteArray) (ck : Int) (vs : List ByteArray) (hvl : vs.length ≤ 2000000) (hml : ms.length * 48 ≤ 140737488351232) (hbl : bs.length ≤ 4000000000000)
  (Q : List S41 → Prop) (ek : S31 → Int × Int × ByteArray × Bool) (AP : List S41 → Value → World → Prop) (EP : List S41 → Array Value → World → Prop)
  (hBy : Hid (∀ w1, Below w.heap.size w w1 → Calls Tryd.prog 8 #[.agg cx] w1 fun e w' => e = .returned (.bool b) ∧ Below w1.heap.size w1 w'))
  (hLv : Hid (∀ w1, Below w.heap.size w w1 → Calls Tryd.prog 9 #[] w1 fun e w' => e = .returned (.bool true) ∧ Below w1.heap.size w1 w'))
  (hEv : Hid (b = false → ∀ w1 A c ys, Q ys → Below w.heap.size w w1 → Kd.C k41 w1 A ys.length ys → ys.length ≤ c → Calls Tryd.prog 10 #[.agg cx, .slice A ys.length c] w1 fun e w' => e = .returned (.tuple #[.agg #[.int .i8 r1, .int .i64 r2, .string r3], .bool ok]) ∧ Below w1.heap.size w1 w'))
  (hCk : Hid (b = false → ∀ w1, Below w.heap.size w w1 → Calls Tryd.prog 11 #[.agg cx] w1 fun e w' => e = .returned (.int .i64 ck) ∧ Below w1.heap.size w1 w'))
  (hVr : Hid (b = false → ∀ w1, Below w.heap.size w w1 → Calls Tryd.prog 12 #[.agg cx] w1 fun e w' => ∃ v, e = .returned v ∧ Kd.R Kd.string 9 w' w1.heap.size (fun _ => True) v vs ∧ Below w1.heap.size w1 w'))
  (hIn : Hid (∀ s w1 A c, Kd.C Kd.string w1 A vs.length vs → vs.length ≤ c → Calls Tryd.prog 14 #[.string s, .slice A vs.length c] w1 fun e w' => e = .returned (.bool (inB vs s)) ∧ Below w1.heap.size w1 w'))
  (hQ0 : Hid (Q bs)) (hQ1 : Hid (ck = 0 → Q (ownOf bs vs))) (hQ2 : Hid (ck = 0 → Q (ms.foldl (moreStep vs (allOf bs vs)) (ownOf bs vs))))
  (hP0 : Hid (ck ≠ 0 → ok = false ∧ r1 = 0 ∧ r2 = 0 ∧ r3 = ⟨#[]⟩)) (hP1 : Hid (ck = 0 → allOf bs vs = false → ok = false))
  (hAPm : Hid (∀ ys v w1 w2, AP ys v w1 → Below w1.heap.size w1 w2 → AP ys v w2)) (hEPm : Hid (∀ ys ct w1 w2, EP ys ct w1 → Below w1.heap.size w1 w2 → EP ys ct w2))
  (hAP : Hid (b = false → ck = 0 → ∀ ys w1 A c, Below w.heap.size w w1 → Kd.C k41 w1 A ys.length ys → ys.length ≤ c → ys.length ≤ 2940000000000 → Calls Tryd.prog 16 #[.slice A ys.length c] w1 fun e w' => ∃ v, e = .returned v ∧ AP ys v w' ∧ Below w1.heap.size w1 w'))
  (hAE : Hid (b = false → ck = 0 → ∀ ys v w1, Below w.heap.size w w1 → AP ys v w1 → Calls Tryd.prog 15 #[v, .agg cx] w1 fun e w' => ∃ ct, e = .returned (.agg ct) ∧ EP ys ct w' ∧ Below w1.heap.size w1 w'))
  (hEE : Hid (b = false → ck = 0 → allOf bs vs = true → ∀ ct w1, Below w.heap.size w w1 → EP (ms.foldl (moreStep vs (allOf bs vs)) (ownOf bs vs)) ct w1 → Calls Tryd.prog 10 #[.agg ct, .slice none 0 0] w1 fun e w' => e = .returned (.tuple #[.agg #[.int .i8 r1, .int .i64 r2, .string r3], .bool ok]) ∧ Below w1.heap.size w1 w'))
  (hP4 : Hid (ck = 0 → op = 0 → nm.toList ≠ [] ∨ (nm.toList = [] ∧ ok = true ∧ r1 = q1 ∧ r2 = q2 ∧ r3 = q3)))
  (hKL : Hid (ck = 0 → kids.length ≤ 2))
  (hKE : Hid (b = false → ck = 0 → op ≠ 0 → ∀ x ∈ kids, ∀ (cs : Array Value) w1, Below w.heap.size w w1 → k31.K w1 x cs.toList → Calls Tryd.prog 10 #[.agg cs, .slice A2 bs.length c2] w1 fun e w' => e = .returned (.tuple #[.agg #[.int .i8 (ek x).1, .int .i64 (ek x).2.1, .string (ek x).2.2.1], .bool (ek x).2.2.2]) ∧ Below w1.heap.size w1 w'))
  (hP5 : Hid (ck = 0 → op ≠ 0 → ∀ x ∈ kids, (ek x).2.2.2 = false → ok = false))
  (hAr : Hid (b = false → ck = 0 → op ≠ 0 → kids.all (fun x => (ek x).2.2.2) = true → ∀ w1 A c, Below w.heap.size w w1 → Kd.C k26 w1 A kids.length (kids.map (fun x => asV (ek x))) → kids.length ≤ c → Calls Tryd.prog 17 #[.int .i8 op, .slice A kids.length c] w1 fun e w' => e = .returned (.tuple #[.agg #[.int .i8 r1, .int .i64 r2, .string r3], .bool ok]) ∧ Below w1.heap.size w1 w')) :
  Calls Tryd.prog 3 #[.agg cx, .slice A2 bs.length c2, .slice A3 ms.length c3] w fun e w' => e = .returned (.bool true) ∧ Below w.heap.size w w' := by
 have hin : (Tryd.prog.info? 31).map (·.size) = some 6 := by kernel_rfl
 have hiv : (Tryd.prog.info? 26).map (·.size) = some (#[.int .i8 r1, .int .i64 r2, .string r3] : Array Value).size := by kernel_rfl
 have hvs : (#[.int .i8 r1, .int .i64 r2, .string r3] : Array Value).size = 3 := rfl
 have hvo : (#[.int .i8 r1, .int .i64 r2, .string r3] : Array Value).all (·.oneCell') = true := by simp [Value.oneCell']
 have hix : (Tryd.prog.info? 31).map (·.size) = some cx.size := by rw [hsx]; exact hin
 have HB0 := Lib.hid (xab (Below.refl w.heap.size w) (.cells cx 31 (0, 0)))
 have HK0 := Lib.hid (xau w (.cells cx 31 (0, 0)))
 have HC2 := Lib.hid hC2
 have HC3 := Lib.hid hC3
 have HKC := Lib.hid hk
 have hm2 : bs.length ≤ 9223372036854775807 := hC2.2.1
 have hm3 : ms.length ≤ 9223372036854775807 := hC3.2.1
 have hmk : kids.length ≤ 9223372036854775807 := hk.2.1
 clear hC2 hC3 hk
 go_enter Tryd.func3, Tryd.ntmps3
 go_wp2_with ((with_reducible refine xap (N := 28) rfl ?_); (refine wpList_load_row rfl 31 (.tmp 3) rfl w.heap.size rfl 31 cx (0, 0) _ HK0.out Tryd.underlying31 rfl hix ?_))
 refine (hBy.out _ HB0.out).mono ?_
 rintro e v1 ⟨rfl, hb⟩
 have HB := Lib.hid (xae HB0.out hb)
 have HK1 := Lib.hid (xak HK0.out hb)
 clear hb HB0 HK0 hBy
 cases b with
 | true =>
  go_wp2_with fail
  go_ret
  exact ⟨rfl, HB.out⟩
 | false =>
  go_wp2_with fail
  refine (hLv.out v1 HB.out).mono ?_
  rintro e v2 ⟨rfl, hb⟩
  replace HB := Lib.hid (xae HB.out hb)
  replace HK1 := Lib.hid (xak HK1.out hb)
  clear hb hLv
  go_wp2_with ((with_reducible refine xap (N := 33) rfl ?_); (refine wpList_load_row rfl 31 (.tmp 3) rfl w.heap.size rfl 31 cx (0, 0) _ HK1.out Tryd.underlying31 rfl hix ?_))
  refine (hEv.out (by simp) v2 A2 c2 bs hQ0.out HB.out (Kd.C_below HC2.out HB.out) hc2).mono ?_
  rintro e v3 ⟨rfl, hb⟩
  replace HB := Lib.hid (xae HB.out hb)
  replace HK1 := Lib.hid (xak HK1.out hb)
  have HZ := Lib.hid (xau v3 (.cells #[.int .i8 0, .int .i64 0, .string ⟨#[]⟩] 26 (0, 0)))
  have HKV := Lib.hid (row_new v3 #[.int .i8 0, .int .i64 0, .string ⟨#[]⟩] #[.int .i8 r1, .int .i64 r2, .string r3] 26)
  have HB34 := Lib.hid (below_row v3 #[.int .i8 0, .int .i64 0, .string ⟨#[]⟩] #[.int .i8 r1, .int .i64 r2, .string r3] 26)
  replace HK1 := Lib.hid (xak HK1.out HB34.out)
  replace HB := Lib.hid (xae HB.out HB34.out)
  clear hb
  go_wp2_with first | ((with_reducible refine xbj (t := 26) (p := 7) rfl ?_); (refine wpList_store_row rfl 26 (.tmp 7) (.tmp 36) rfl v3.heap.size #[.int .i8 r1, .int .i64 r2, .string r3] rfl rfl 26 #[.int .i8 0, .int .i64 0, .string ⟨#[]⟩] HZ.out hiv (by rw [hvs]; rfl) hvo ?_)) | ((with_reducible refine xap (N := 38) rfl ?_); (refine wpList_load_row rfl 31 (.tmp 3) rfl w.heap.size rfl 31 cx (0, 0) _ HK1.out Tryd.underlying31 rfl hix ?_))
  generalize (v3.alloc (.cells #[.int .i8 0, .int .i64 0, .string ⟨#[]⟩] 26 (0, 0))).setRow v3.heap.size #[.int .i8 r1, .int .i64 r2, .string r3] = v4 at *
  generalize v3.heap.size = gv at *
  clear HB34 HZ
  refine (hCk.out (by simp) v4 HB.out).mono ?_
  rintro e v5 ⟨rfl, hb⟩
  replace HB := Lib.hid (xae HB.out hb)
  replace HK1 := Lib.hid (xak HK1.out hb)
  replace HKV := Lib.hid (xak HKV.out hb)
  clear hb hCk
  by_cases hck : ck = 0
  ·subst hck
   go_wp2_with ((with_reducible refine xap (N := 48) rfl ?_); (refine wpList_load_row rfl 31 (.tmp 3) rfl w.heap.size rfl 31 cx (0, 0) _ HK1.out Tryd.underlying31 rfl hix ?_))
   refine (hVr.out (by simp) v5 HB.out).mono ?_
   rintro e v6 ⟨uv, rfl, hR, hb⟩
   obtain ⟨Av, cv, hv⟩ := Kd.R_slice hR
   subst hv
   have HMS : Hid (MS w cx #[.int .i8 r1, .int .i64 r2, .string r3] gv (.slice Av vs.length cv) vs (.slice none 0 0) [] v6) := Lib.hid ⟨xae HB.out hb, xak HK1.out hb, xak HKV.out hb, Kd.R_lower hR HB.out.size, Kd.R_nil _ _ _ _ _⟩
   have hmv : vs.length ≤ 9223372036854775807 := by omega
   clear hb hR HB HK1 HKV hVr
   go_wp2_with fail
   go_loopw [10, 11, 12] (fun u a i wr => ∃ k : Nat, k ≤ vs.length ∧ i = .int .i64 k ∧ a = .bool (allOf bs (vs.take k)) ∧ Hid (MS w cx #[.int .i8 r1, .int .i64 r2, .string r3] gv (.slice Av vs.length cv) vs u (ownOf bs (vs.take k)) wr)) (fun _ _ i _ => vs.length - (intOf i).toNat)
   case atStart => exact ⟨0, Nat.zero_le _, rfl, rfl, HMS⟩
   case round =>
    clear HMS
    obtain ⟨k, hk, rfl, rfl, HM⟩ := hrel
    by_cases hlt : k < vs.length
    ·have HS1 := Lib.hid (ownOf_snoc bs vs k hlt)
     have HS2 := Lib.hid (allOf_snoc bs vs k hlt)
     have HR : Hid (rdOf ByteArray.empty vs (k : Int) = vs.getD k ByteArray.empty) := Lib.hid rfl
     have HLK : Hid ((ownOf bs (vs.take k)).length ≤ 2000000) := Lib.hid (Nat.le_trans (ownOf_len _ _) (by rw [List.length_take]; omega))
     generalize hq : vs.getD k ByteArray.empty = s at *
     clear hq
     generalize ownOf bs (vs.take k) = own at *
     generalize allOf bs (vs.take k) = all at *
     go_wp2_with fail
     go_loopw [10, 11, 13, 14] (fun u a th j wr => ∃ (n : Nat) (there : Bool) (L : List S41) (a1 : Bool), n ≤ bs.length ∧ j = .int .i64 n ∧ th = .bool there ∧ a = .bool a1 ∧ Hid (Seen bs s own all n there L a1) ∧ Hid (MS w cx #[.int .i8 r1, .int .i64 r2, .string r3] gv (.slice Av vs.length cv) vs u L wr)) (fun _ _ _ j _ => bs.length - (intOf j).toNat)
     case atStart => exact ⟨0, false, own, all, Nat.zero_le _, rfl, rfl, rfl, Lib.hid (Seen.start _ _ _ _), HM⟩
     case round =>
      clear HM
      obtain ⟨n, there, L, a1, hn, rfl, rfl, rfl, HSE, HM⟩ := hrel
      by_cases hnl : n < bs.length
      ·cases there with
       | true =>
        have HD := Lib.hid (HSE.out.done (.inr rfl))
        clear HSE
        cases a1 with
        | true =>
         have hqt : allOf bs (vs.take (k + 1)) = true := by rw [HS2.out, ← HD.out.2]; rfl
         go_wp2_with fail
         go_roundw
         case rel => exact ⟨k + 1, by omega, by go_num, by rw [hqt], by rw [HS1.out, ← HD.out.1]; exact HM⟩
         case measure => simp [intOf]; omega
        | false =>
         have hqt : allOf bs (vs.take (k + 1)) = false := by rw [HS2.out, ← HD.out.2]; rfl
         go_wp2_with fail
         go_roundw
         case rel => exact ⟨k + 1, by omega, by go_num, by rw [hqt], by rw [HS1.out, ← HD.out.1]; exact HM⟩
         case measure => simp [intOf]; omega
       | false =>
        obtain ⟨ad, rfl, g0, g1, g2, g3⟩ := at_T41 HC2.out (n : Int) (by omega) (by omega)
        rw [Int.toNat_natCast] at g0 g1 g2 g3
        have HRY : Hid (rd_T41 bs (n : Int) = bs.getD n z41) := Lib.hid rfl
        have HH := Lib.hid (fun he => HSE.out.hit hnl he)
        have HX := Lib.hid (fun he => HSE.out.miss hnl he)
        have HLL : Hid (L.length ≤ 2000000) := Lib.hid (by have h1 := HSE.out.t; have h2 := HSE.out.l; cases hq : firstB (bs.take n) s with | none => rw [hq] at h2; rw [h2]; simpa using HLK.out | some b => rw [hq] at h1; cases h1)
        rw [← HRY.out] at HH HX
        generalize rd_T41 bs (n : Int) = y at *
        clear HRY HSE
        obtain ⟨adv, e2, g4⟩ := Kd.at_string (R_readsC HM.out.vars) (k : Int) (by omega) (by omega)
        obtain rfl := e2
        rw [HR.out, Int.toNat_natCast] at g4
        have f0 := xaj HM.out.below g0
        by_cases he : y.f0.toList = s.toList
        ·have he1 : (y.f0.toList == s.toList) = true := by simpa using he
         have HH1 := Lib.hid (HH.out (by rw [← xaz, ← xaz]; exact he))
         clear he HX HH
         go_wp2_with fail
         refine start_ (n := 10) (S := fun w' => w'.cell? (ad.add (n * 4)) = some (.string y.f0) ∧ w'.cell? (adv.add k) = some (.string s)) (ds := []) #[false, false, false, false, false, false, false, false, false, false] (by kernel_rfl) rfl rfl ⟨f0, g4⟩ (fun hHeld => ?_)
         refine pure_ (i := 0) (N := some 66) (v := ?_) (a' := ?_) #[true, false, false, false, false, false, false, false, false, false] rfl rfl (by kernel_rfl) (fun _ _ _ h => h) (Or.inl ⟨by rfl, ?_⟩) ?_ ?_
         rotate_left
         ·intro w'
          go_simp
          with_reducible rfl
         rotate_left
         ·simp only [Act.put, sI, sZ, sS, i64_w, i32_w]
          rfl
         refine pure_ (i := 1) (N := some 67) (v := ?_) (a' := ?_) #[true, true, false, false, false, false, false, false, false, false] rfl rfl (by kernel_rfl) (fun _ _ _ h => h) (Or.inl ⟨by rfl, ?_⟩) ?_ ?_
         rotate_left
         ·intro w'
          go_simp
          with_reducible rfl
         rotate_left
         ·simp only [Act.put, sI, sZ, sS, i64_w, i32_w]
          rfl
         refine pure_ (i := 2) (N := some 68) (v := ?_) (a' := ?_) #[true, true, true, false, false, false, false, false, false, false] rfl rfl (by kernel_rfl) (fun _ _ _ h => h) (Or.inl ⟨by rfl, ?_⟩) ?_ ?_
         rotate_left
         ·intro w'
          go_simp
          with_reducible rfl
         rotate_left
         ·simp only [Act.put, sI, sZ, sS, i64_w, i32_w]
          rfl
         refine pure_ (i := 3) (N := some 69) (v := ?_) (a' := ?_) #[true, true, true, true, false, false, false, false, false, false] rfl rfl (by kernel_rfl) (fun _ _ _ h => h) (Or.inl ⟨by rfl, ?_⟩) ?_ ?_
         rotate_left
         ·intro w'
          go_simp
          with_reducible rfl
         rotate_left
         ·simp only [Act.put, sI, sZ, sS, i64_w, i32_w]
          rfl
         refine pure_ (i := 5) (N := some 71) (v := ?_) (a' := ?_) #[true, true, true, true, false, true, false, false, false, false] rfl rfl (by kernel_rfl) (fun _ _ _ h => h) (Or.inl ⟨by rfl, ?_⟩) ?_ ?_
         rotate_left
         ·intro w'
          go_simp
          with_reducible rfl
         rotate_left
         ·simp only [Act.put, sI, sZ, sS, i64_w, i32_w]
          rfl
         refine pure_ (i := 6) (N := some 72) (v := ?_) (a' := ?_) #[true, true, true, true, false, true, true, false, false, false] rfl rfl (by kernel_rfl) (fun _ _ _ h => h) (Or.inl ⟨by rfl, ?_⟩) ?_ ?_
         rotate_left
         ·intro w'
          go_simp
          with_reducible rfl
         rotate_left
         ·simp only [Act.put, sI, sZ, sS, i64_w, i32_w]
          rfl
         refine pure_ (i := 7) (N := some 73) (v := ?_) (a' := ?_) #[true, true, true, true, false, true, true, true, false, false] rfl rfl (by kernel_rfl) (fun _ _ _ h => h) (Or.inl ⟨by rfl, ?_⟩) ?_ ?_
         rotate_left
         ·intro w'
          go_simp
          with_reducible rfl
         rotate_left
         ·simp only [Act.put, sI, sZ, sS, i64_w, i32_w]
          rfl
         refine take_ (i := 4) (N := some 70) (v := ?_) (a' := ?_) #[true, true, true, true, true, true, true, true, false, false] rfl rfl (by kernel_rfl) (fun _ _ _ h => h) (Or.inl ⟨by rfl, ?_⟩) hHeld ?_ ?_
         rotate_left
         ·rintro w' ⟨s0, s1⟩
          go_simp
          with_reducible rfl
         rotate_left
         ·simp only [Act.put, sI, sZ, sS, i64_w, i32_w]
          rfl
         refine take_ (i := 8) (N := some 74) (v := ?_) (a' := ?_) #[true, true, true, true, true, true, true, true, true, false] rfl rfl (by kernel_rfl) (fun _ _ _ h => h) (Or.inl ⟨by rfl, ?_⟩) hHeld ?_ ?_
         rotate_left
         ·rintro w' ⟨s0, s1⟩
          go_simp
          with_reducible rfl
         rotate_left
         ·simp only [Act.put, sI, sZ, sS, i64_w, i32_w]
          rfl
         refine pure_ (i := 9) (N := some 75) (v := ?_) (a' := ?_) #[true, true, true, true, true, true, true, true, true, true] rfl rfl (by kernel_rfl) (fun _ _ _ h => h) (Or.inl ⟨by rfl, ?_⟩) ?_ ?_
         rotate_left
         ·intro w'
          go_simp
          with_reducible rfl
         rotate_left
         ·simp only [Act.put, sI, sZ, sS, i64_w, i32_w]
          rfl
         refine done_ (by kernel_rfl) ?_
         replace HM := Lib.hid (HM.out.on (xaw (Below.refl _ _)))
         clear hHeld f0 g4
         generalize wr.drew = wd at *
         have d0 := xaj HM.out.below g0
         have d1 := xaj HM.out.below g1
         have d2 := xaj HM.out.below g2
         have d3 := xaj HM.out.below g3
         have hone := C_one' (xau wd (.cells #[.string y.f0, .int .i8 y.f1.f0, .int .i64 y.f1.f1, .string y.f1.f2] 41 (0, 0))) y (k41_mk _ _)
         have HMa := Lib.hid (HM.out.on (xab (Below.refl _ _) (.cells #[.string y.f0, .int .i8 y.f1.f0, .int .i64 y.f1.f1, .string y.f1.f2] 41 (0, 0))))
         have HL9 : Hid (((L.length + 1) + (L.length + 1) / 4 + 192) * 48 ≤ 281474976710656) := Lib.hid (by have h := HLL.out; exact Nat.le_trans (Nat.mul_le_mul_right 48 (show _ ≤ 3000000 by omega)) (by decide))
         cases a1 with
         | false =>
          go_wp2_with (at_builtin; go_loud (refine xbf k41 flat_bind (w0 := w) w.heap.size rfl (.tmp 76) (.tmp 81) 32 41 (.agg #[.string ⟨#[]⟩, .int .i8 0, .int .i64 0, .string ⟨#[]⟩]) 48 rfl Tryd.underlying32 (by kernel_rfl) (by decide) (by decide) (by decide) u10 L rfl HMa.out.own (some ⟨wd.heap.size, 0, none⟩) 1 1 [y] rfl hone HMa.out.below HMa.out.below.size HL9.out ?_); intro u1 w6 hR hB1 hG; have HM6 := Lib.hid (HMa.out.grown hR hB1 hG); have e1 := xaj HM6.out.below g1; have e2 := xaj HM6.out.below g2; have e3 := xaj HM6.out.below g3; clear hR hB1 hG)
          go_roundw
          case rel => exact ⟨n + 1, true, _, _, by omega, by go_num, rfl, rfl, HH1, HM6⟩
          case measure => simp [intOf]; omega
         | true =>
          go_wp2_with (at_builtin; go_loud (refine xbf k41 flat_bind (w0 := w) w.heap.size rfl (.tmp 76) (.tmp 81) 32 41 (.agg #[.string ⟨#[]⟩, .int .i8 0, .int .i64 0, .string ⟨#[]⟩]) 48 rfl Tryd.underlying32 (by kernel_rfl) (by decide) (by decide) (by decide) u10 L rfl HMa.out.own (some ⟨wd.heap.size, 0, none⟩) 1 1 [y] rfl hone HMa.out.below HMa.out.below.size HL9.out ?_); intro u1 w6 hR hB1 hG; have HM6 := Lib.hid (HMa.out.grown hR hB1 hG); have e1 := xaj HM6.out.below g1; have e2 := xaj HM6.out.below g2; have e3 := xaj HM6.out.below g3; clear hR hB1 hG)
          obtain ⟨rc, hrc, hvo2⟩ := valueOk_tot y.f1
          refine (r1_Check.calls y.f1.f0 y.f1.f1 y.f1.f2 rc _ (by rw [value_same]; exact hrc)).mono ?_
          rintro e w7 ⟨rfl, hb⟩
          have HM7 := Lib.hid (HM6.out.on hb)
          have hqa : (true && valueOk y.f1) = (rc == 0) := by rw [hvo2]; rfl
          rw [hqa] at HH1
          clear hb HM6 e1 e2 e3 hrc hvo2 hqa
          go_wp2_with fail
          go_roundw
          case rel => exact ⟨n + 1, true, _, _, by omega, by go_num, rfl, rfl, HH1, HM7⟩
          case measure => simp [intOf]; omega
        ·have he1 : (y.f0.toList == s.toList) = false := by simpa using he
         have HX1 := Lib.hid (HX.out (by rw [← xaz, ← xaz]; exact he))
         clear he HX HH
         go_wp2_with fail
         refine start_ (n := 10) (S := fun w' => w'.cell? (ad.add (n * 4)) = some (.string y.f0) ∧ w'.cell? (adv.add k) = some (.string s)) (ds := []) #[false, false, false, false, false, false, false, false, false, false] (by kernel_rfl) rfl rfl ⟨f0, g4⟩ (fun hHeld => ?_)
         refine pure_ (i := 0) (N := some 66) (v := ?_) (a' := ?_) #[true, false, false, false, false, false, false, false, false, false] rfl rfl (by kernel_rfl) (fun _ _ _ h => h) (Or.inl ⟨by rfl, ?_⟩) ?_ ?_
         rotate_left
         ·intro w'
          go_simp
          with_reducible rfl
         rotate_left
         ·simp only [Act.put, sI, sZ, sS, i64_w, i32_w]
          rfl
         refine pure_ (i := 1) (N := some 67) (v := ?_) (a' := ?_) #[true, true, false, false, false, false, false, false, false, false] rfl rfl (by kernel_rfl) (fun _ _ _ h => h) (Or.inl ⟨by rfl, ?_⟩) ?_ ?_
         rotate_left
         ·intro w'
          go_simp
          with_reducible rfl
         rotate_left
         ·simp only [Act.put, sI, sZ, sS, i64_w, i32_w]
          rfl
         refine pure_ (i := 2) (N := some 68) (v := ?_) (a' := ?_) #[true, true, true, false, false, false, false, false, false, false] rfl rfl (by kernel_rfl) (fun _ _ _ h => h) (Or.inl ⟨by rfl, ?_⟩) ?_ ?_
         rotate_left
         ·intro w'
          go_simp
          with_reducible rfl
         rotate_left
         ·simp only [Act.put, sI, sZ, sS, i64_w, i32_w]
          rfl
         refine pure_ (i := 3) (N := some 69) (v := ?_) (a' := ?_) #[true, true, true, true, false, false, false, false, false, false] rfl rfl (by kernel_rfl) (fun _ _ _ h => h) (Or.inl ⟨by rfl, ?_⟩) ?_ ?_
         rotate_left
         ·intro w'
          go_simp
          with_reducible rfl
         rotate_left
         ·simp only [Act.put, sI, sZ, sS, i64_w, i32_w]
          rfl
         refine pure_ (i := 5) (N := some 71) (v := ?_) (a' := ?_) #[true, true, true, true, false, true, false, false, false, false] rfl rfl (by kernel_rfl) (fun _ _ _ h => h) (Or.inl ⟨by rfl, ?_⟩) ?_ ?_
         rotate_left
         ·intro w'
          go_simp
          with_reducible rfl
         rotate_left
         ·simp only [Act.put, sI, sZ, sS, i64_w, i32_w]
          rfl
         refine pure_ (i := 6) (N := some 72) (v := ?_) (a' := ?_) #[true, true, true, true, false, true, true, false, false, false] rfl rfl (by kernel_rfl) (fun _ _ _ h => h) (Or.inl ⟨by rfl, ?_⟩) ?_ ?_
         rotate_left
         ·intro w'
          go_simp
          with_reducible rfl
         rotate_left
         ·simp only [Act.put, sI, sZ, sS, i64_w, i32_w]
          rfl
         refine pure_ (i := 7) (N := some 73) (v := ?_) (a' := ?_) #[true, true, true, true, false, true, true, true, false, false] rfl rfl (by kernel_rfl) (fun _ _ _ h => h) (Or.inl ⟨by rfl, ?_⟩) ?_ ?_
         rotate_left
         ·intro w'
          go_simp
          with_reducible rfl
         rotate_left
         ·simp only [Act.put, sI, sZ, sS, i64_w, i32_w]
          rfl
         refine take_ (i := 4) (N := some 70) (v := ?_) (a' := ?_) #[true, true, true, true, true, true, true, true, false, false] rfl rfl (by kernel_rfl) (fun _ _ _ h => h) (Or.inl ⟨by rfl, ?_⟩) hHeld ?_ ?_
         rotate_left
         ·rintro w' ⟨s0, s1⟩
          go_simp
          with_reducible rfl
         rotate_left
         ·simp only [Act.put, sI, sZ, sS, i64_w, i32_w]
          rfl
         refine take_ (i := 8) (N := some 74) (v := ?_) (a' := ?_) #[true, true, true, true, true, true, true, true, true, false] rfl rfl (by kernel_rfl) (fun _ _ _ h => h) (Or.inl ⟨by rfl, ?_⟩) hHeld ?_ ?_
         rotate_left
         ·rintro w' ⟨s0, s1⟩
          go_simp
          with_reducible rfl
         rotate_left
         ·simp only [Act.put, sI, sZ, sS, i64_w, i32_w]
          rfl
         refine pure_ (i := 9) (N := some 75) (v := ?_) (a' := ?_) #[true, true, true, true, true, true, true, true, true, true] rfl rfl (by kernel_rfl) (fun _ _ _ h => h) (Or.inl ⟨by rfl, ?_⟩) ?_ ?_
         rotate_left
         ·intro w'
          go_simp
          with_reducible rfl
         rotate_left
         ·simp only [Act.put, sI, sZ, sS, i64_w, i32_w]
          rfl
         refine done_ (by kernel_rfl) ?_
         replace HM := Lib.hid (HM.out.on (xaw (Below.refl _ _)))
         clear hHeld f0 g4
         generalize wr.drew = wd at *
         go_wp2_with fail
         go_roundw
         case rel => exact ⟨n + 1, false, L, a1, by omega, by go_num, rfl, rfl, HX1, HM⟩
         case measure => simp [intOf]; omega
      ·have HD := Lib.hid (HSE.out.done (.inl (by omega)))
       clear HSE
       cases a1 with
       | true =>
        have hqt : allOf bs (vs.take (k + 1)) = there := by rw [HS2.out, ← HD.out.2]; rfl
        go_wp2_with fail
        go_roundw
        case rel => exact ⟨k + 1, by omega, by go_num, by rw [hqt], by rw [HS1.out, ← HD.out.1]; exact HM⟩
        case measure => simp [intOf]; omega
       | false =>
        have hqt : allOf bs (vs.take (k + 1)) = false := by rw [HS2.out, ← HD.out.2]; rfl
        go_wp2_with fail
        go_roundw
        case rel => exact ⟨k + 1, by omega, by go_num, by rw [hqt], by rw [HS1.out, ← HD.out.1]; exact HM⟩
        case measure => simp [intOf]; omega
    ·have hk2 : vs.take k = vs := List.take_of_length_le (by omega)
     rw [hk2] at HM ⊢
     clear hk2
     have HL1 : Hid ((ownOf bs vs).length ≤ 2000000) := Lib.hid (Nat.le_trans (ownOf_len _ _) hvl)
     have hq1 := hQ1.out (by simp)
     generalize ownOf bs vs = own1 at *
     obtain ⟨Ao, co, hv, hcl, hCo⟩ := Kd.R_reads HM.out.own
     subst hv
     have HCo := Lib.hid hCo
     clear hCo
     go_wp2_with ((with_reducible refine xap (N := 98) rfl ?_); (refine wpList_load_row rfl 31 (.tmp 3) rfl w.heap.size rfl 31 cx (0, 0) _ HM.out.ke Tryd.underlying31 rfl hix ?_))
     refine (hEv.out (by simp) wr Ao co _ hq1 HM.out.below HCo.out hcl).mono ?_
     rintro e v7 ⟨rfl, hb⟩
     replace HM := Lib.hid (HM.out.on hb)
     have HZ := Lib.hid (xau v7 (.cells #[.int .i8 0, .int .i64 0, .string ⟨#[]⟩] 26 (0, 0)))
     have HKX := Lib.hid (row_new v7 #[.int .i8 0, .int .i64 0, .string ⟨#[]⟩] #[.int .i8 r1, .int .i64 r2, .string r3] 26)
     replace HM := Lib.hid (HM.out.on (below_row v7 #[.int .i8 0, .int .i64 0, .string ⟨#[]⟩] #[.int .i8 r1, .int .i64 r2, .string r3] 26))
     clear hb HCo
     have HOK : Hid (allOf bs vs = false → ok = false) := Lib.hid (hP1.out (by simp))
     cases hal : allOf bs vs with
     | true =>
      clear HOK
      go_wp2_with first | ((with_reducible refine xbj (t := 26) (p := 15) rfl ?_); (refine wpList_store_row rfl 26 (.tmp 15) (.tmp 101) rfl v7.heap.size #[.int .i8 r1, .int .i64 r2, .string r3] rfl rfl 26 #[.int .i8 0, .int .i64 0, .string ⟨#[]⟩] HZ.out hiv (by rw [hvs]; rfl) hvo ?_)) | ((with_reducible refine xap (N := 103) rfl ?_); (refine wpList_load_row rfl 26 (.tmp 7) rfl gv rfl 26 #[.int .i8 r1, .int .i64 r2, .string r3] (0, 0) _ HM.out.kv Tryd.underlying26 rfl hiv ?_)) | ((with_reducible refine xap (N := 104) rfl ?_); (refine wpList_load_row rfl 26 (.tmp 15) rfl v7.heap.size rfl 26 #[.int .i8 r1, .int .i64 r2, .string r3] (0, 0) _ HKX.out Tryd.underlying26 rfl hiv ?_))
      generalize (v7.alloc (.cells #[.int .i8 0, .int .i64 0, .string ⟨#[]⟩] 26 (0, 0))).setRow v7.heap.size #[.int .i8 r1, .int .i64 r2, .string r3] = v8 at *
      clear HZ HKX
      rw [hal] at hQ2 hEE
      go_loopw [10, 17] (fun u i wr => ∃ k : Nat, k ≤ ms.length ∧ i = .int .i64 k ∧ Hid (MS w cx #[.int .i8 r1, .int .i64 r2, .string r3] gv (.slice Av vs.length cv) vs u ((ms.take k).foldl (moreStep vs true) own1) wr)) (fun _ i _ => ms.length - (intOf i).toNat)
      case atStart => exact ⟨0, Nat.zero_le _, rfl, HM⟩
      case round =>
       clear HM
       obtain ⟨k, hk, rfl, HM⟩ := hrel
       by_cases hlt : k < ms.length
       ·obtain ⟨ad, rfl, g0, g1, g2, g3⟩ := at_T41 HC3.out (k : Int) (by omega) (by omega)
        rw [Int.toNat_natCast] at g0 g1 g2 g3
        have HRY : Hid (rd_T41 ms (k : Int) = ms.getD k z41) := Lib.hid rfl
        have HS := Lib.hid (show (ms.take (k + 1)).foldl (moreStep vs true) own1 = moreStep vs true ((ms.take k).foldl (moreStep vs true) own1) (ms.getD k z41) by rw [xbi ms z41 k hlt, List.foldl_append]; rfl)
        have HLL : Hid (((ms.take k).foldl (moreStep vs true) own1).length ≤ 2000000 + k) := Lib.hid (by have h1 := moreFold_len vs true (ms.take k) own1; have h2 := HL1.out; rw [List.length_take] at h1; omega)
        rw [← HRY.out] at HS
        generalize rd_T41 ms (k : Int) = y at *
        generalize (ms.take k).foldl (moreStep vs true) own1 = L at *
        clear HRY
        have HL9 : Hid (((L.length + 1) + (L.length + 1) / 4 + 192) * 48 ≤ 281474976710656) := Lib.hid (by have h := HLL.out; exact Nat.le_trans (Nat.mul_le_mul_right 48 (show _ ≤ 4000000000000 by omega)) (by decide))
        have HL8 : Hid ((([y].length + L.length) + ([y].length + L.length) / 4 + 192) * 48 ≤ 281474976710656) := Lib.hid (by have h := HLL.out; have e : [y].length = 1 := rfl; exact Nat.le_trans (Nat.mul_le_mul_right 48 (show _ ≤ 4000000000000 by omega)) (by decide))
        have f0 := xaj HM.out.below g0
        obtain ⟨Av', cv', hve, hcv, hCv⟩ := Kd.R_reads HM.out.vars
        obtain ⟨rfl, rfl⟩ : Av = Av' ∧ cv = cv' := by simpa using hve
        have HCV := Lib.hid hCv
        clear hCv hve
        go_wp2_with fail
        refine (hIn.out y.f0 wr Av cv HCV.out hcv).mono ?_
        rintro e w3 ⟨rfl, hb⟩
        replace HM := Lib.hid (HM.out.on hb)
        replace HCV := Lib.hid (Kd.C_below HCV.out hb)
        have d0 := xaj HM.out.below g0
        have d1 := xaj HM.out.below g1
        have d2 := xaj HM.out.below g2
        have d3 := xaj HM.out.below g3
        clear hb f0
        cases hin : inB vs y.f0 with
        | true =>
         have hone := C_one' (xau w3 (.cells #[.string y.f0, .int .i8 y.f1.f0, .int .i64 y.f1.f1, .string y.f1.f2] 41 (0, 0))) y (k41_mk _ _)
         have HMa := Lib.hid (HM.out.on (xab (Below.refl _ _) (.cells #[.string y.f0, .int .i8 y.f1.f0, .int .i64 y.f1.f1, .string y.f1.f2] 41 (0, 0))))
         go_wp2_with (at_builtin; go_loud (refine xbf k41 flat_bind (w0 := w) w.heap.size rfl (.tmp 134) (.tmp 139) 32 41 (.agg #[.string ⟨#[]⟩, .int .i8 0, .int .i64 0, .string ⟨#[]⟩]) 48 rfl Tryd.underlying32 (by kernel_rfl) (by decide) (by decide) (by decide) u10 L rfl HMa.out.own (some ⟨w3.heap.size, 0, none⟩) 1 1 [y] rfl hone HMa.out.below HMa.out.below.size HL9.out ?_); intro u1 w6 hR hB1 hG; have HM6 := Lib.hid (HMa.out.grown hR hB1 hG); clear hR hB1 hG)
         go_roundw
         case rel => exact ⟨k + 1, by omega, by go_num, by rw [HS.out, moreStep, if_pos (by rw [hin]; rfl)]; exact HM6⟩
         case measure => simp [intOf]; omega
        | false =>
         go_wp2_with fail
         refine (hIn.out y.f0 w3 Av cv HCV.out hcv).mono ?_
         rintro e w4 ⟨rfl, hb⟩
         replace HM := Lib.hid (HM.out.on hb)
         clear hb d0 d1 d2 d3
         have d0 := xaj HM.out.below g0
         have d1 := xaj HM.out.below g1
         have d2 := xaj HM.out.below g2
         have d3 := xaj HM.out.below g3
         rw [hin]
         have HMa := Lib.hid (HM.out.on (xab (Below.refl _ _) (.cells #[.string y.f0, .int .i8 y.f1.f0, .int .i64 y.f1.f1, .string y.f1.f2] 41 (0, 0))))
         have HOL : Hid (Kd.R k41 41 (w4.alloc (.cells #[.string y.f0, .int .i8 y.f1.f0, .int .i64 y.f1.f1, .string y.f1.f2] 41 (0, 0))) w.heap.size (fun _ => True) (.slice (some ⟨w4.heap.size, 0, none⟩) 1 1) [y]) := Lib.hid ⟨fun _ _ => trivial, OwnRow.lit (ps := [y]) (inner := [.string y.f0, .int .i8 y.f1.f0, .int .i64 y.f1.f1, .string y.f1.f2]) w4 w.heap.size (Reps.c4 (k41_mkM _ _ _ y) (Reps.none _ _)) HM.out.below.size (by simp)⟩
         obtain ⟨Ao, co, hvo', hcl, hCo⟩ := Kd.R_reads HMa.out.own
         subst hvo'
         have HCo := Lib.hid hCo
         clear hCo
         go_wp2_with (at_builtin; go_loud (refine xbf k41 flat_bind (w0 := w) w.heap.size rfl (.tmp 153) (.tmp 154) 32 41 (.agg #[.string ⟨#[]⟩, .int .i8 0, .int .i64 0, .string ⟨#[]⟩]) 48 rfl Tryd.underlying32 (by kernel_rfl) (by decide) (by decide) (by decide) (.slice (some ⟨w4.heap.size, 0, none⟩) 1 1) [y] rfl HOL.out Ao L.length co L rfl HCo.out HMa.out.below HMa.out.below.size HL8.out ?_); intro u1 w6 hR hB1 hG; have hG2 : (w4.alloc (.cells #[.string y.f0, .int .i8 y.f1.f0, .int .i64 y.f1.f1, .string y.f1.f2] 41 (0, 0))).grownBy w6 (some w4.heap.size) := hG; have HM6 := Lib.hid (HM.out.fresh hR (fresh_below hG2)); clear hG2; clear hR hB1 hG)
         go_roundw
         case rel => exact ⟨k + 1, by omega, by go_num, by rw [HS.out, moreStep, if_neg (by rw [hin]; simp), if_neg (by rw [hin]; simp)]; exact HM6⟩
         case measure => simp [intOf]; omega
       ·have hk3 : ms.take k = ms := List.take_of_length_le (by omega)
        rw [hk3] at HM
        have hq2 := hQ2.out (by simp)
        have HL2 : Hid ((ms.foldl (moreStep vs true) own1).length ≤ 2940000000000) := Lib.hid (by have h1 := moreFold_len vs true ms own1; have h2 := HL1.out; omega)
        generalize ms.foldl (moreStep vs true) own1 = own2 at *
        clear hk3
        obtain ⟨Ao', co', hv, hcl', hCo⟩ := Kd.R_reads HM.out.own
        subst hv
        have HCo := Lib.hid hCo
        clear hCo
        go_wp2_with ((with_reducible refine xap (N := 157) rfl ?_); (refine wpList_load_row rfl 31 (.tmp 3) rfl w.heap.size rfl 31 cx (0, 0) _ HM.out.ke Tryd.underlying31 rfl hix ?_))
        refine (hEv.out (by simp) wr Ao' co' _ hq2 HM.out.below HCo.out hcl').mono ?_
        rintro e v9 ⟨rfl, hb⟩
        replace HM := Lib.hid (HM.out.on hb)
        have HZ := Lib.hid (xau v9 (.cells #[.int .i8 0, .int .i64 0, .string ⟨#[]⟩] 26 (0, 0)))
        have HKX := Lib.hid (row_new v9 #[.int .i8 0, .int .i64 0, .string ⟨#[]⟩] #[.int .i8 r1, .int .i64 r2, .string r3] 26)
        replace HM := Lib.hid (HM.out.on (below_row v9 #[.int .i8 0, .int .i64 0, .string ⟨#[]⟩] #[.int .i8 r1, .int .i64 r2, .string r3] 26))
        clear hb HCo
        go_wp2_with first | ((with_reducible refine xbj (t := 26) (p := 18) rfl ?_); (refine wpList_store_row rfl 26 (.tmp 18) (.tmp 160) rfl v9.heap.size #[.int .i8 r1, .int .i64 r2, .string r3] rfl rfl 26 #[.int .i8 0, .int .i64 0, .string ⟨#[]⟩] HZ.out hiv (by rw [hvs]; rfl) hvo ?_)) | ((with_reducible refine xap (N := 162) rfl ?_); (refine wpList_load_row rfl 26 (.tmp 18) rfl v9.heap.size rfl 26 #[.int .i8 r1, .int .i64 r2, .string r3] (0, 0) _ HKX.out Tryd.underlying26 rfl hiv ?_)) | ((with_reducible refine xap (N := 163) rfl ?_); (refine wpList_load_row rfl 26 (.tmp 7) rfl gv rfl 26 #[.int .i8 r1, .int .i64 r2, .string r3] (0, 0) _ HM.out.kv Tryd.underlying26 rfl hiv ?_))
        generalize (v9.alloc (.cells #[.int .i8 0, .int .i64 0, .string ⟨#[]⟩] 26 (0, 0))).setRow v9.heap.size #[.int .i8 r1, .int .i64 r2, .string r3] = wz at *
        clear HZ HKX
        refine start_ (n := 11) (S := fun w' => w'.heap[w.heap.size]? = some (.cells cx 31 (0, 0)) ∧ Hid (Below wz.heap.size wz w')) (ds := [9]) #[false, false, false, false, false, false, false, false, false, false, false] (by kernel_rfl) rfl rfl ⟨HM.out.ke, (Lib.hid (xaw (Below.refl _ _)))⟩ (fun hHeld => ?_)
        refine pure_ (i := 0) (N := some 172) (v := ?_) (a' := ?_) #[true, false, false, false, false, false, false, false, false, false, false] rfl rfl (by kernel_rfl) (fun _ _ _ h => h) (Or.inl ⟨by rfl, ?_⟩) ?_ ?_
        rotate_left
        ·intro w'
         go_simp
         with_reducible rfl
        rotate_left
        ·simp only [Act.put, sI, sZ, sS, i64_w, i32_w]
         rfl
        refine take_ (i := 2) (N := some 174) (v := ?_) (a' := ?_) #[true, false, true, false, false, false, false, false, false, false, false] rfl rfl (by kernel_rfl) (fun _ _ _ h => h) (Or.inl ⟨by rfl, ?_⟩) hHeld ?_ ?_
        rotate_left
        ·rintro w' ⟨s0, s1⟩
         (refine exec_load_row 31 (.tmp 3) ?_ w.heap.size ?_ 31 cx _ s0 Tryd.underlying31 rfl hix <;> rfl)
        rotate_left
        ·simp only [Act.put, sI, sZ, sS, i64_w, i32_w]
         rfl
        refine join_ (σ := Value × Array Value × Nat) 2 #[true, true, true, true, true, true, true, true, true, false, false] (fun s_ => [(173, s_.1), (175, .agg s_.2.1), (176, .tuple #[.agg #[.int .i8 r1, .int .i64 r2, .string r3], .bool ok]), (20, .pointer (some ⟨s_.2.2, 0, none⟩)), (171, .tuple #[.agg #[.int .i8 r1, .int .i64 r2, .string r3], .bool ok]), (177, .agg #[.int .i8 r1, .int .i64 r2, .string r3]), (178, .bool ok)]) (fun s_ w' => w'.heap[w.heap.size]? = some (.cells cx 31 (0, 0)) ∧ Hid (Below wz.heap.size wz w') ∧ w'.heap[s_.2.2]? = some (.cells #[.int .i8 0, .int .i64 0, .string ⟨#[]⟩] 26 (0, 0)) ∧ wz.heap.size ≤ s_.2.2) ?_ ?_
        rotate_left
        ·intro hCont
         refine two_ (i := 1) (j := 8) (Ni := some 173) (Nj := some 20) #[true, true, true, false, false, false, false, false, false, false, false] #[true, false, true, false, false, false, false, false, true, false, false] rfl rfl rfl rfl (by kernel_rfl) (by decide) (by decide) (fun K hK => ?_) (fun K hK => ?_)
         ·skip
          obtain ⟨s0, s1⟩ := hHeld
          refine goes_ Tryd.func16 (by kernel_rfl) rfl #[.slice Ao' own2.length co'] (by rfl) rfl rfl (by simp only [List.map_toArray, List.map_cons, List.map_nil]; rfl) ?_
          with_reducible refine (hAP.out (by simp) (by simp) own2 _ Ao' co' (HM.out.on s1.out).below (R_readsC (HM.out.on s1.out).own) hcl' HL2.out).mono ?_
          rintro ee w10 ⟨pv, rfl, hap, hb⟩
          refine ⟨_, rfl, ?_⟩
          refine hK.out _ _ ⟨(xak s0 hb), (Lib.hid (xae s1.out hb))⟩ (fun hHeld => ?_)
          clear hK K
          refine norm_ (a' := ?_) ?_ ?_
          rotate_left
          ·show Act.put _ (some 173) _ = _
           simp only [Act.put, sI, sZ, sS, i64_w, i32_w]
           rfl
          refine two_ (i := 3) (j := 8) (Ni := some 175) (Nj := some 20) #[true, true, true, true, false, false, false, false, false, false, false] #[true, true, true, false, false, false, false, false, true, false, false] rfl rfl rfl rfl (by kernel_rfl) (by decide) (by decide) (fun K hK => ?_) (fun K hK => ?_)
          ·skip
           obtain ⟨s0, s1⟩ := hHeld
           refine goes_ Tryd.func15 (by kernel_rfl) rfl #[pv, .agg cx] (by rfl) rfl rfl (by simp only [List.map_toArray, List.map_cons, List.map_nil]; rfl) ?_
           with_reducible refine (hAE.out (by simp) (by simp) own2 pv _ (HM.out.on s1.out).below hap).mono ?_
           rintro ee w11 ⟨ct, rfl, hep, hb⟩
           refine ⟨_, rfl, ?_⟩
           refine hK.out _ _ ⟨(xak s0 hb), (Lib.hid (xae s1.out hb))⟩ (fun hHeld => ?_)
           clear hK K
           refine norm_ (a' := ?_) ?_ ?_
           rotate_left
           ·show Act.put _ (some 175) _ = _
            simp only [Act.put, sI, sZ, sS, i64_w, i32_w]
            rfl
           refine two_ (i := 4) (j := 8) (Ni := some 176) (Nj := some 20) #[true, true, true, true, true, false, false, false, false, false, false] #[true, true, true, true, false, false, false, false, true, false, false] rfl rfl rfl rfl (by kernel_rfl) (by decide) (by decide) (fun K hK => ?_) (fun K hK => ?_)
           ·skip
            obtain ⟨s0, s1⟩ := hHeld
            refine goes_ Tryd.func10 (by kernel_rfl) rfl #[.agg ct, .slice none 0 0] (by rfl) rfl rfl (by simp only [List.map_toArray, List.map_cons, List.map_nil]; rfl) ?_
            with_reducible refine (hEE.out (by simp) (by simp) (by simp) ct _ (HM.out.on s1.out).below hep).mono ?_
            rintro ee w12 ⟨rfl, hb⟩
            refine ⟨_, rfl, ?_⟩
            refine hK.out _ _ ⟨(xak s0 hb), (Lib.hid (xae s1.out hb))⟩ (fun hHeld => ?_)
            clear hK K
            refine norm_ (a' := ?_) ?_ ?_
            rotate_left
            ·show Act.put _ (some 176) _ = _
             simp only [Act.put, sI, sZ, sS, i64_w, i32_w]
             rfl
            refine pure_ (i := 5) (N := some 171) (v := ?_) (a' := ?_) #[true, true, true, true, true, true, false, false, false, false, false] rfl rfl (by kernel_rfl) (fun _ _ _ h => h) (Or.inl ⟨by rfl, ?_⟩) ?_ ?_
            rotate_left
            ·intro w'
             go_simp
             with_reducible rfl
            rotate_left
            ·simp only [Act.put, sI, sZ, sS, i64_w, i32_w]
             rfl
            refine pure_ (i := 6) (N := some 177) (v := ?_) (a' := ?_) #[true, true, true, true, true, true, true, false, false, false, false] rfl rfl (by kernel_rfl) (fun _ _ _ h => h) (Or.inl ⟨by rfl, ?_⟩) ?_ ?_
            rotate_left
            ·intro w'
             go_simp
             with_reducible rfl
            rotate_left
            ·simp only [Act.put, sI, sZ, sS, i64_w, i32_w]
             rfl
            refine pure_ (i := 7) (N := some 178) (v := ?_) (a' := ?_) #[true, true, true, true, true, true, true, true, false, false, false] rfl rfl (by kernel_rfl) (fun _ _ _ h => h) (Or.inl ⟨by rfl, ?_⟩) ?_ ?_
            rotate_left
            ·intro w'
             go_simp
             with_reducible rfl
            rotate_left
            ·simp only [Act.put, sI, sZ, sS, i64_w, i32_w]
             rfl
            refine one_ (i := 8) (N := some 20) #[true, true, true, true, true, true, true, true, true, false, false] rfl rfl (by kernel_rfl) (by decide) (fun K hK => ?_)
            refine value_ (w1 := ?_) (v := ?_) (by rfl) rfl ?_ ?_
            rotate_left 2
            ·go_simp
             constructor
             ·rfl
             ·rfl
            obtain ⟨s0, s1⟩ := hHeld
            have hgz := blk_newOf s1 (.cells #[.int .i8 0, .int .i64 0, .string ⟨#[]⟩] 26 (0, 0))
            have hgs := size_of s1
            refine hK.out _ _ ⟨(xad s0 _), (Lib.hid (xab s1.out _))⟩ (fun hHeld => ?_)
            clear hK K
            refine norm_ (a' := ?_) ?_ ?_
            rotate_left
            ·show Act.put _ (some 20) _ = _
             simp only [Act.put, sI, sZ, sS, i64_w, i32_w]
             rfl
            exact norm_ (by simp only [putAll, Act.put, sI, sZ, sS]) (hCont ⟨pv, ct, w12.heap.size⟩ _ ⟨hHeld.1, hHeld.2, hgz, hgs⟩)
           ·skip
            refine value_ (w1 := ?_) (v := ?_) (by rfl) rfl ?_ ?_
            rotate_left 2
            ·go_simp
             constructor
             ·rfl
             ·rfl
            obtain ⟨s0, s1⟩ := hHeld
            have hgz := blk_newOf s1 (.cells #[.int .i8 0, .int .i64 0, .string ⟨#[]⟩] 26 (0, 0))
            have hgs := size_of s1
            replace hep := hEPm.out _ _ _ _ hep (xab (Below.refl _ _) (.cells #[.int .i8 0, .int .i64 0, .string ⟨#[]⟩] 26 (0, 0)))
            refine hK.out _ _ ⟨(xad s0 _), (Lib.hid (xab s1.out _))⟩ (fun hHeld => ?_)
            clear hK K
            refine norm_ (a' := ?_) ?_ ?_
            rotate_left
            ·show Act.put _ (some 20) _ = _
             simp only [Act.put, sI, sZ, sS, i64_w, i32_w]
             rfl
            refine one_ (i := 4) (N := some 176) #[true, true, true, true, true, false, false, false, true, false, false] rfl rfl (by kernel_rfl) (by decide) (fun K hK => ?_)
            obtain ⟨s0, s1⟩ := hHeld
            refine goes_ Tryd.func10 (by kernel_rfl) rfl #[.agg ct, .slice none 0 0] (by rfl) rfl rfl (by simp only [List.map_toArray, List.map_cons, List.map_nil]; rfl) ?_
            with_reducible refine (hEE.out (by simp) (by simp) (by simp) ct _ (HM.out.on s1.out).below hep).mono ?_
            rintro ee w12 ⟨rfl, hb⟩
            refine ⟨_, rfl, ?_⟩
            replace hgz := xak hgz hb
            refine hK.out _ _ ⟨(xak s0 hb), (Lib.hid (xae s1.out hb))⟩ (fun hHeld => ?_)
            clear hK K
            refine norm_ (a' := ?_) ?_ ?_
            rotate_left
            ·show Act.put _ (some 176) _ = _
             simp only [Act.put, sI, sZ, sS, i64_w, i32_w]
             rfl
            refine pure_ (i := 5) (N := some 171) (v := ?_) (a' := ?_) #[true, true, true, true, true, true, false, false, true, false, false] rfl rfl (by kernel_rfl) (fun _ _ _ h => h) (Or.inl ⟨by rfl, ?_⟩) ?_ ?_
            rotate_left
            ·intro w'
             go_simp
             with_reducible rfl
            rotate_left
            ·simp only [Act.put, sI, sZ, sS, i64_w, i32_w]
             rfl
            refine pure_ (i := 6) (N := some 177) (v := ?_) (a' := ?_) #[true, true, true, true, true, true, true, false, true, false, false] rfl rfl (by kernel_rfl) (fun _ _ _ h => h) (Or.inl ⟨by rfl, ?_⟩) ?_ ?_
            rotate_left
            ·intro w'
             go_simp
             with_reducible rfl
            rotate_left
            ·simp only [Act.put, sI, sZ, sS, i64_w, i32_w]
             rfl
            refine pure_ (i := 7) (N := some 178) (v := ?_) (a' := ?_) #[true, true, true, true, true, true, true, true, true, false, false] rfl rfl (by kernel_rfl) (fun _ _ _ h => h) (Or.inl ⟨by rfl, ?_⟩) ?_ ?_
            rotate_left
            ·intro w'
             go_simp
             with_reducible rfl
            rotate_left
            ·simp only [Act.put, sI, sZ, sS, i64_w, i32_w]
             rfl
            exact norm_ (by simp only [putAll, Act.put, sI, sZ, sS]) (hCont ⟨pv, ct, w11.heap.size⟩ _ ⟨hHeld.1, hHeld.2, hgz, hgs⟩)
          ·skip
           refine value_ (w1 := ?_) (v := ?_) (by rfl) rfl ?_ ?_
           rotate_left 2
           ·go_simp
            constructor
            ·rfl
            ·rfl
           obtain ⟨s0, s1⟩ := hHeld
           have hgz := blk_newOf s1 (.cells #[.int .i8 0, .int .i64 0, .string ⟨#[]⟩] 26 (0, 0))
           have hgs := size_of s1
           replace hap := hAPm.out _ _ _ _ hap (xab (Below.refl _ _) (.cells #[.int .i8 0, .int .i64 0, .string ⟨#[]⟩] 26 (0, 0)))
           refine hK.out _ _ ⟨(xad s0 _), (Lib.hid (xab s1.out _))⟩ (fun hHeld => ?_)
           clear hK K
           refine norm_ (a' := ?_) ?_ ?_
           rotate_left
           ·show Act.put _ (some 20) _ = _
            simp only [Act.put, sI, sZ, sS, i64_w, i32_w]
            rfl
           refine one_ (i := 3) (N := some 175) #[true, true, true, true, false, false, false, false, true, false, false] rfl rfl (by kernel_rfl) (by decide) (fun K hK => ?_)
           obtain ⟨s0, s1⟩ := hHeld
           refine goes_ Tryd.func15 (by kernel_rfl) rfl #[pv, .agg cx] (by rfl) rfl rfl (by simp only [List.map_toArray, List.map_cons, List.map_nil]; rfl) ?_
           with_reducible refine (hAE.out (by simp) (by simp) own2 pv _ (HM.out.on s1.out).below hap).mono ?_
           rintro ee w11 ⟨ct, rfl, hep, hb⟩
           refine ⟨_, rfl, ?_⟩
           replace hgz := xak hgz hb
           refine hK.out _ _ ⟨(xak s0 hb), (Lib.hid (xae s1.out hb))⟩ (fun hHeld => ?_)
           clear hK K
           refine norm_ (a' := ?_) ?_ ?_
           rotate_left
           ·show Act.put _ (some 175) _ = _
            simp only [Act.put, sI, sZ, sS, i64_w, i32_w]
            rfl
           refine one_ (i := 4) (N := some 176) #[true, true, true, true, true, false, false, false, true, false, false] rfl rfl (by kernel_rfl) (by decide) (fun K hK => ?_)
           obtain ⟨s0, s1⟩ := hHeld
           refine goes_ Tryd.func10 (by kernel_rfl) rfl #[.agg ct, .slice none 0 0] (by rfl) rfl rfl (by simp only [List.map_toArray, List.map_cons, List.map_nil]; rfl) ?_
           with_reducible refine (hEE.out (by simp) (by simp) (by simp) ct _ (HM.out.on s1.out).below hep).mono ?_
           rintro ee w12 ⟨rfl, hb⟩
           refine ⟨_, rfl, ?_⟩
           replace hgz := xak hgz hb
           refine hK.out _ _ ⟨(xak s0 hb), (Lib.hid (xae s1.out hb))⟩ (fun hHeld => ?_)
           clear hK K
           refine norm_ (a' := ?_) ?_ ?_
           rotate_left
           ·show Act.put _ (some 176) _ = _
            simp only [Act.put, sI, sZ, sS, i64_w, i32_w]
            rfl
           refine pure_ (i := 5) (N := some 171) (v := ?_) (a' := ?_) #[true, true, true, true, true, true, false, false, true, false, false] rfl rfl (by kernel_rfl) (fun _ _ _ h => h) (Or.inl ⟨by rfl, ?_⟩) ?_ ?_
           rotate_left
           ·intro w'
            go_simp
            with_reducible rfl
           rotate_left
           ·simp only [Act.put, sI, sZ, sS, i64_w, i32_w]
            rfl
           refine pure_ (i := 6) (N := some 177) (v := ?_) (a' := ?_) #[true, true, true, true, true, true, true, false, true, false, false] rfl rfl (by kernel_rfl) (fun _ _ _ h => h) (Or.inl ⟨by rfl, ?_⟩) ?_ ?_
           rotate_left
           ·intro w'
            go_simp
            with_reducible rfl
           rotate_left
           ·simp only [Act.put, sI, sZ, sS, i64_w, i32_w]
            rfl
           refine pure_ (i := 7) (N := some 178) (v := ?_) (a' := ?_) #[true, true, true, true, true, true, true, true, true, false, false] rfl rfl (by kernel_rfl) (fun _ _ _ h => h) (Or.inl ⟨by rfl, ?_⟩) ?_ ?_
           rotate_left
           ·intro w'
            go_simp
            with_reducible rfl
           rotate_left
           ·simp only [Act.put, sI, sZ, sS, i64_w, i32_w]
            rfl
           exact norm_ (by simp only [putAll, Act.put, sI, sZ, sS]) (hCont ⟨pv, ct, w10.heap.size⟩ _ ⟨hHeld.1, hHeld.2, hgz, hgs⟩)
         ·skip
          refine value_ (w1 := ?_) (v := ?_) (by rfl) rfl ?_ ?_
          rotate_left 2
          ·go_simp
           constructor
           ·rfl
           ·rfl
          obtain ⟨s0, s1⟩ := hHeld
          have hgz := blk_newOf s1 (.cells #[.int .i8 0, .int .i64 0, .string ⟨#[]⟩] 26 (0, 0))
          have hgs := size_of s1
          refine hK.out _ _ ⟨(xad s0 _), (Lib.hid (xab s1.out _))⟩ (fun hHeld => ?_)
          clear hK K
          refine norm_ (a' := ?_) ?_ ?_
          rotate_left
          ·show Act.put _ (some 20) _ = _
           simp only [Act.put, sI, sZ, sS, i64_w, i32_w]
           rfl
          refine one_ (i := 1) (N := some 173) #[true, true, true, false, false, false, false, false, true, false, false] rfl rfl (by kernel_rfl) (by decide) (fun K hK => ?_)
          obtain ⟨s0, s1⟩ := hHeld
          refine goes_ Tryd.func16 (by kernel_rfl) rfl #[.slice Ao' own2.length co'] (by rfl) rfl rfl (by simp only [List.map_toArray, List.map_cons, List.map_nil]; rfl) ?_
          with_reducible refine (hAP.out (by simp) (by simp) own2 _ Ao' co' (HM.out.on s1.out).below (R_readsC (HM.out.on s1.out).own) hcl' HL2.out).mono ?_
          rintro ee w10 ⟨pv, rfl, hap, hb⟩
          refine ⟨_, rfl, ?_⟩
          replace hgz := xak hgz hb
          refine hK.out _ _ ⟨(xak s0 hb), (Lib.hid (xae s1.out hb))⟩ (fun hHeld => ?_)
          clear hK K
          refine norm_ (a' := ?_) ?_ ?_
          rotate_left
          ·show Act.put _ (some 173) _ = _
           simp only [Act.put, sI, sZ, sS, i64_w, i32_w]
           rfl
          refine one_ (i := 3) (N := some 175) #[true, true, true, true, false, false, false, false, true, false, false] rfl rfl (by kernel_rfl) (by decide) (fun K hK => ?_)
          obtain ⟨s0, s1⟩ := hHeld
          refine goes_ Tryd.func15 (by kernel_rfl) rfl #[pv, .agg cx] (by rfl) rfl rfl (by simp only [List.map_toArray, List.map_cons, List.map_nil]; rfl) ?_
          with_reducible refine (hAE.out (by simp) (by simp) own2 pv _ (HM.out.on s1.out).below hap).mono ?_
          rintro ee w11 ⟨ct, rfl, hep, hb⟩
          refine ⟨_, rfl, ?_⟩
          replace hgz := xak hgz hb
          refine hK.out _ _ ⟨(xak s0 hb), (Lib.hid (xae s1.out hb))⟩ (fun hHeld => ?_)
          clear hK K
          refine norm_ (a' := ?_) ?_ ?_
          rotate_left
          ·show Act.put _ (some 175) _ = _
           simp only [Act.put, sI, sZ, sS, i64_w, i32_w]
           rfl
          refine one_ (i := 4) (N := some 176) #[true, true, true, true, true, false, false, false, true, false, false] rfl rfl (by kernel_rfl) (by decide) (fun K hK => ?_)
          obtain ⟨s0, s1⟩ := hHeld
          refine goes_ Tryd.func10 (by kernel_rfl) rfl #[.agg ct, .slice none 0 0] (by rfl) rfl rfl (by simp only [List.map_toArray, List.map_cons, List.map_nil]; rfl) ?_
          with_reducible refine (hEE.out (by simp) (by simp) (by simp) ct _ (HM.out.on s1.out).below hep).mono ?_
          rintro ee w12 ⟨rfl, hb⟩
          refine ⟨_, rfl, ?_⟩
          replace hgz := xak hgz hb
          refine hK.out _ _ ⟨(xak s0 hb), (Lib.hid (xae s1.out hb))⟩ (fun hHeld => ?_)
          clear hK K
          refine norm_ (a' := ?_) ?_ ?_
          rotate_left
          ·show Act.put _ (some 176) _ = _
           simp only [Act.put, sI, sZ, sS, i64_w, i32_w]
           rfl
          refine pure_ (i := 5) (N := some 171) (v := ?_) (a' := ?_) #[true, true, true, true, true, true, false, false, true, false, false] rfl rfl (by kernel_rfl) (fun _ _ _ h => h) (Or.inl ⟨by rfl, ?_⟩) ?_ ?_
          rotate_left
          ·intro w'
           go_simp
           with_reducible rfl
          rotate_left
          ·simp only [Act.put, sI, sZ, sS, i64_w, i32_w]
           rfl
          refine pure_ (i := 6) (N := some 177) (v := ?_) (a' := ?_) #[true, true, true, true, true, true, true, false, true, false, false] rfl rfl (by kernel_rfl) (fun _ _ _ h => h) (Or.inl ⟨by rfl, ?_⟩) ?_ ?_
          rotate_left
          ·intro w'
           go_simp
           with_reducible rfl
          rotate_left
          ·simp only [Act.put, sI, sZ, sS, i64_w, i32_w]
           rfl
          refine pure_ (i := 7) (N := some 178) (v := ?_) (a' := ?_) #[true, true, true, true, true, true, true, true, true, false, false] rfl rfl (by kernel_rfl) (fun _ _ _ h => h) (Or.inl ⟨by rfl, ?_⟩) ?_ ?_
          rotate_left
          ·intro w'
           go_simp
           with_reducible rfl
          rotate_left
          ·simp only [Act.put, sI, sZ, sS, i64_w, i32_w]
           rfl
          exact norm_ (by simp only [putAll, Act.put, sI, sZ, sS]) (hCont ⟨pv, ct, wz.heap.size⟩ _ ⟨hHeld.1, hHeld.2, hgz, hgs⟩)
        rintro ⟨pv, ct, gz⟩ w14 ⟨h0, h1, h2, h3⟩
        have hHeld : w14.heap[w.heap.size]? = some (.cells cx 31 (0, 0)) ∧ Hid (Below wz.heap.size wz w14) := ⟨h0, h1⟩
        refine norm_ (a' := ?_) ?_ ?_
        rotate_left
        ·simp only [putAll, Act.put, sI, sZ, sS]
         rfl
        refine last_ (i := 9) (N := none) #[true, true, true, true, true, true, true, true, true, true, false] rfl rfl (by kernel_rfl) (by decide) (fun K hK => ?_)
        have z0 := (xag h2 0).trans rfl
        have z1 := (xag h2 1).trans rfl
        have z2 := (xag h2 2).trans rfl
        have y0 := xal h2 0
        have y1 := xal h2 1
        have y2 := xal h2 2
        refine skip_ (w1 := ?_) (by rfl) rfl ?_ ?_
        rotate_left
        ·go_simp
         rfl
        refine hK.out _ _ ?_
        clear hK K
        refine pure_ (i := 10) (N := some 21) (v := ?_) (a' := ?_) #[true, true, true, true, true, true, true, true, true, true, true] rfl rfl (by kernel_rfl) (fun _ _ _ h => h) (Or.inl ⟨by rfl, ?_⟩) ?_ ?_
        rotate_left
        ·intro w'
         go_simp
         with_reducible rfl
        rotate_left
        ·simp only [Act.put, sI, sZ, sS, i64_w, i32_w]
         rfl
        refine done_ (by kernel_rfl) ?_
        have HKX2 : Hid ((((w14.setCell ⟨gz, 0, none⟩ (.int .i8 r1)).setCell ⟨gz, 1, none⟩ (.int .i64 r2)).setCell ⟨gz, 2, none⟩ (.string r3)).heap[gz]? = some (.cells #[.int .i8 r1, .int .i64 r2, .string r3] 26 (0, 0))) := Lib.hid (by have := xbo (xbo (xbo h2 0 (.int .i8 r1)) 1 (.int .i64 r2)) 2 (.string r3); simpa using this)
        replace HM := Lib.hid (HM.out.on (xah (xah (xah h1.out h3 (j := 0) (v := .int .i8 r1)) h3 (j := 1) (v := .int .i64 r2)) h3 (j := 2) (v := .string r3)))
        clear h0 h1 h2 h3 z0 z1 z2 y0 y1 y2
        generalize (((w14.setCell ⟨gz, 0, none⟩ (.int .i8 r1)).setCell ⟨gz, 1, none⟩ (.int .i64 r2)).setCell ⟨gz, 2, none⟩ (.string r3)) = wz2 at *
        have e0 : wz2.cell? ⟨w.heap.size, 0, none⟩ = some (.int .i8 op) := (xag HM.out.ke 0).trans hx0
        by_cases hop : op = 0
        ·have hop1 : (op == 0) = true := by simpa using hop
         have e1 : wz2.cell? ⟨w.heap.size, 1, none⟩ = some (.string nm) := (xag HM.out.ke 1).trans hx1
         have e2 : wz2.cell? ⟨w.heap.size, 2, none⟩ = some (.int .i8 q1) := (xag HM.out.ke 2).trans hx2
         have e3 : wz2.cell? ⟨w.heap.size, 3, none⟩ = some (.int .i64 q2) := (xag HM.out.ke 3).trans hx3
         have e4 : wz2.cell? ⟨w.heap.size, 4, none⟩ = some (.string q3) := (xag HM.out.ke 4).trans hx4
         rcases hP4.out (by simp) hop with hnm | ⟨hnm, hz0, hz1, hz2, hz3⟩
         ·have hn1 : (nm.toList == ([] : List UInt8)) = false := by simpa using hnm
          have hn2 : nm.toList.isEmpty = false := by simpa using hnm
          clear hnm hop
          go_wp2_with first | ((with_reducible refine xap (N := 179) rfl ?_); (refine wpList_load_row rfl 26 (.tmp 20) rfl gz rfl 26 #[.int .i8 r1, .int .i64 r2, .string r3] (0, 0) _ HKX2.out Tryd.underlying26 rfl hiv ?_)) | ((with_reducible refine xap (N := 180) rfl ?_); (refine wpList_load_row rfl 26 (.tmp 7) rfl gv rfl 26 #[.int .i8 r1, .int .i64 r2, .string r3] (0, 0) _ HM.out.kv Tryd.underlying26 rfl hiv ?_))
          go_ret
          exact ⟨rfl, HM.out.below⟩
         ·have hn1 : (nm.toList == ([] : List UInt8)) = true := by simpa using hnm
          have hn2 : nm.toList.isEmpty = true := by rw [hnm]; rfl
          subst hz0 hz1 hz2 hz3
          clear hnm hop
          go_wp2_with first | ((with_reducible refine xap (N := 179) rfl ?_); (refine wpList_load_row rfl 26 (.tmp 20) rfl gz rfl 26 #[.int .i8 r1, .int .i64 r2, .string r3] (0, 0) _ HKX2.out Tryd.underlying26 rfl hiv ?_)) | ((with_reducible refine xap (N := 180) rfl ?_); (refine wpList_load_row rfl 26 (.tmp 7) rfl gv rfl 26 #[.int .i8 r1, .int .i64 r2, .string r3] (0, 0) _ HM.out.kv Tryd.underlying26 rfl hiv ?_)) | ((with_reducible refine xap (N := 197) rfl ?_); (refine xbn (by rfl) 26 (.tmp 7) rfl gv rfl 26 #[.int .i8 r1, .int .i64 r2, .string r3] (0, 0) _ HM.out.kv Tryd.underlying26 rfl hiv ?_))
          go_ret
          exact ⟨rfl, HM.out.below⟩
        ·have hop1 : (op == 0) = false := by simpa using hop
         have HOP := Lib.hid hop
         clear hop
         go_wp2_with first | ((with_reducible refine xap (N := 179) rfl ?_); (refine wpList_load_row rfl 26 (.tmp 20) rfl gz rfl 26 #[.int .i8 r1, .int .i64 r2, .string r3] (0, 0) _ HKX2.out Tryd.underlying26 rfl hiv ?_)) | ((with_reducible refine xap (N := 180) rfl ?_); (refine wpList_load_row rfl 26 (.tmp 7) rfl gv rfl 26 #[.int .i8 r1, .int .i64 r2, .string r3] (0, 0) _ HM.out.kv Tryd.underlying26 rfl hiv ?_))
         go_loopw [22, 23] (fun u i wr => ∃ k : Nat, k ≤ kids.length ∧ i = .int .i64 k ∧ Hid ((kids.take k).all (fun x => (ek x).2.2.2) = true) ∧ Hid (Kd.R k26 26 wr wz2.heap.size (fun _ => True) u ((kids.take k).map (fun x => asV (ek x)))) ∧ Hid (Below wz2.heap.size wz2 wr)) (fun _ i _ => kids.length - (intOf i).toNat)
         case atStart => exact ⟨0, Nat.zero_le _, rfl, Lib.hid rfl, Lib.hid (Kd.R_nil _ _ _ _ _), Lib.hid (Below.refl _ _)⟩
         case round =>
          clear e0
          obtain ⟨k, hk, rfl, HP, HO, HB⟩ := hrel
          have e5 : wr.cell? ⟨w.heap.size, 5, none⟩ = some (.slice A1 kids.length c1) := (xag (xak HM.out.ke HB.out) 5).trans hx5
          by_cases hlt : k < kids.length
          ·obtain ⟨ad, cs, ea, hsz, hK, hcell⟩ := C_row (Kd.C_below HKC.out (xae HM.out.below HB.out)) z31 k hlt
           subst ea
           have HCELL := Lib.hid hcell
           have hsz' : cs.size = 6 := hsz
           have hic : (Tryd.prog.info? 31).map (·.size) = some cs.size := by rw [hsz']; exact hin
           have HMEM : Hid (kids.getD k z31 ∈ kids) := Lib.hid (by rw [List.getD_eq_getElem?_getD, List.getElem?_eq_getElem hlt]; exact List.getElem_mem hlt)
           have HS := Lib.hid (all_snd (fun q => (ek q).2.2.2) kids z31 k hlt)
           have HMS := Lib.hid (map_snd (fun q => asV (ek q)) kids z31 k hlt)
           have HKE := Lib.hid hK
           clear hK hcell
           generalize kids.getD k z31 = y at *
           have HVL := Lib.hid (show ((kids.take k).map (fun q => asV (ek q))).length ≤ 2 by rw [List.length_map, List.length_take]; have := hKL.out (by simp); omega)
           generalize (kids.take k).map (fun q => asV (ek q)) = vals at *
           go_wp2_with ((with_reducible refine xap (N := 216) rfl ?_); (refine xbm rfl 31 (.tmp 215) rfl (ad.add (k * 6)) rfl cs _ HCELL.out Tryd.underlying31 rfl hic ?_))
           refine (hKE.out (by simp) (by simp) HOP.out y HMEM.out cs wr (xae HM.out.below HB.out) HKE.out).mono ?_
           rintro e w3 ⟨rfl, hb⟩
           have HB3 := Lib.hid (xae HB.out hb)
           have HO3 := Lib.hid (Kd.R_below HO.out hb)
           obtain ⟨Av', cv', hv⟩ := Kd.R_slice HO.out
           subst hv
           clear hb HO HB e5
           have HO4 := Lib.hid (Kd.R_alloc HO3.out (.cells #[.int .i8 (ek y).1, .int .i64 (ek y).2.1, .string (ek y).2.2.1] 26 (0, 0)))
           have HB4 := Lib.hid (xab HB3.out (.cells #[.int .i8 (ek y).1, .int .i64 (ek y).2.1, .string (ek y).2.2.1] 26 (0, 0)))
           have HSZ := Lib.hid (show (w3.alloc (.cells #[.int .i8 (ek y).1, .int .i64 (ek y).2.1, .string (ek y).2.2.1] 26 (0, 0))).heap.size = w3.heap.size + 1 by simp)
           cases hok : (ek y).2.2.2 with
           | false =>
            have hof := hP5.out (by simp) HOP.out y HMEM.out hok
            subst hof
            go_wp2_with fail
            go_ret
            exact ⟨rfl, xae HM.out.below HB4.out⟩
           | true =>
            have HP1 := Lib.hid (show (kids.take (k + 1)).all (fun q => (ek q).2.2.2) = true by rw [HS.out, HP.out, hok]; rfl)
            go_wp2_with (at_builtin; go_loud (refine Kd.R_append k26 (w0 := wz2) (W := (w3.alloc (.cells #[.int .i8 (ek y).1, .int .i64 (ek y).2.1, .string (ek y).2.2.1] 26 (0, 0)))) wz2.heap.size rfl (.tmp 225) (.tmp 227) 47 26 (.agg #[.int .i8 0, .int .i64 0, .string ⟨#[]⟩]) 32 rfl Tryd.underlying47 info26 rfl (by decide) (by decide) (.slice Av' vals.length cv') vals (asV (ek y)) [.int .i8 (ek y).1, .int .i64 (ek y).2.1, .string (ek y).2.2.1] (fun _ => True) (fun _ => False) rfl (by rw [HSZ.out]; rfl) (k26_mkM _ _ _ (asV (ek y))) (fun _ h => h.elim) (fun _ _ => trivial) HO4.out HB4.out HB4.out.size (by have := HVL.out; omega) ?_); intro v1 w4 hR hB1 hG _; have HO5 := Lib.hid hR; have HB5 := Lib.hid hB1; clear hR hB1 hG)
            go_roundw
            case rel => exact ⟨k + 1, by omega, by go_num, HP1, Lib.hid (by rw [HMS.out]; exact HO5.out), HB5⟩
            case measure => simp [intOf]; omega
          ·have hall := HP.out
           rw [List.take_of_length_le (by omega)] at hall
           have hO := HO.out
           rw [List.take_of_length_le (by omega)] at hO
           obtain ⟨Av', cv', hv, hcv', hCv⟩ := Kd.R_reads hO
           rw [List.length_map] at hv hcv' hCv
           subst hv
           have HCV := Lib.hid hCv
           have e0 : wr.cell? ⟨w.heap.size, 0, none⟩ = some (.int .i8 op) := (xag (xak HM.out.ke HB.out) 0).trans hx0
           clear hO hCv HP HO
           go_wp2_with fail
           refine (hAr.out (by simp) (by simp) HOP.out hall wr Av' cv' (xae HM.out.below HB.out) HCV.out hcv').mono ?_
           rintro e w9 ⟨rfl, hb⟩
           have HB9 := Lib.hid (xae (xae HM.out.below HB.out) hb)
           have HKV9 := Lib.hid (xad (xak (xak HM.out.kv HB.out) hb) (.cells #[.int .i8 r1, .int .i64 r2, .string r3] 26 (0, 0)))
           have HK26 := Lib.hid (xau w9 (.cells #[.int .i8 r1, .int .i64 r2, .string r3] 26 (0, 0)))
           have HBF := Lib.hid (xab HB9.out (.cells #[.int .i8 r1, .int .i64 r2, .string r3] 26 (0, 0)))
           clear hb HB9 HCV HB e0 hall
           cases ok with
           | false =>
            go_wp2_with fail
            go_ret
            exact ⟨rfl, HBF.out⟩
           | true =>
            go_wp2_with first | ((with_reducible refine xap (N := 243) rfl ?_); (refine xbn (by rfl) 26 (.tmp 7) rfl gv rfl 26 #[.int .i8 r1, .int .i64 r2, .string r3] (0, 0) _ HKV9.out Tryd.underlying26 rfl hiv ?_)) | ((with_reducible refine xap (N := 244) rfl ?_); (refine xbn (by rfl) 26 (.tmp 26) rfl w9.heap.size rfl 26 #[.int .i8 r1, .int .i64 r2, .string r3] (0, 0) _ HK26.out Tryd.underlying26 rfl hiv ?_))
            go_ret
            exact ⟨rfl, HBF.out⟩
     | false =>
      obtain rfl := HOK.out hal
      clear HOK
      go_wp2_with first | ((with_reducible refine xbj (t := 26) (p := 15) rfl ?_); (refine wpList_store_row rfl 26 (.tmp 15) (.tmp 101) rfl v7.heap.size #[.int .i8 r1, .int .i64 r2, .string r3] rfl rfl 26 #[.int .i8 0, .int .i64 0, .string ⟨#[]⟩] HZ.out hiv (by rw [hvs]; rfl) hvo ?_)) | ((with_reducible refine xap (N := 103) rfl ?_); (refine wpList_load_row rfl 26 (.tmp 7) rfl gv rfl 26 #[.int .i8 r1, .int .i64 r2, .string r3] (0, 0) _ HM.out.kv Tryd.underlying26 rfl hiv ?_)) | ((with_reducible refine xap (N := 104) rfl ?_); (refine wpList_load_row rfl 26 (.tmp 15) rfl v7.heap.size rfl 26 #[.int .i8 r1, .int .i64 r2, .string r3] (0, 0) _ HKX.out Tryd.underlying26 rfl hiv ?_))
      generalize (v7.alloc (.cells #[.int .i8 0, .int .i64 0, .string ⟨#[]⟩] 26 (0, 0))).setRow v7.heap.size #[.int .i8 r1, .int .i64 r2, .string r3] = v8 at *
      clear HZ HKX
      rw [hal] at hQ2 hEE
      go_loopw [10, 17] (fun u i wr => ∃ k : Nat, k ≤ ms.length ∧ i = .int .i64 k ∧ Hid (MS w cx #[.int .i8 r1, .int .i64 r2, .string r3] gv (.slice Av vs.length cv) vs u ((ms.take k).foldl (moreStep vs false) own1) wr)) (fun _ i _ => ms.length - (intOf i).toNat)
      case atStart => exact ⟨0, Nat.zero_le _, rfl, HM⟩
      case round =>
       clear HM
       obtain ⟨k, hk, rfl, HM⟩ := hrel
       by_cases hlt : k < ms.length
       ·obtain ⟨ad, rfl, g0, g1, g2, g3⟩ := at_T41 HC3.out (k : Int) (by omega) (by omega)
        rw [Int.toNat_natCast] at g0 g1 g2 g3
        have HRY : Hid (rd_T41 ms (k : Int) = ms.getD k z41) := Lib.hid rfl
        have HS := Lib.hid (show (ms.take (k + 1)).foldl (moreStep vs false) own1 = moreStep vs false ((ms.take k).foldl (moreStep vs false) own1) (ms.getD k z41) by rw [xbi ms z41 k hlt, List.foldl_append]; rfl)
        have HLL : Hid (((ms.take k).foldl (moreStep vs false) own1).length ≤ 2000000 + k) := Lib.hid (by have h1 := moreFold_len vs false (ms.take k) own1; have h2 := HL1.out; rw [List.length_take] at h1; omega)
        rw [← HRY.out] at HS
        generalize rd_T41 ms (k : Int) = y at *
        generalize (ms.take k).foldl (moreStep vs false) own1 = L at *
        clear HRY
        have HL9 : Hid (((L.length + 1) + (L.length + 1) / 4 + 192) * 48 ≤ 281474976710656) := Lib.hid (by have h := HLL.out; exact Nat.le_trans (Nat.mul_le_mul_right 48 (show _ ≤ 4000000000000 by omega)) (by decide))
        have HL8 : Hid ((([y].length + L.length) + ([y].length + L.length) / 4 + 192) * 48 ≤ 281474976710656) := Lib.hid (by have h := HLL.out; have e : [y].length = 1 := rfl; exact Nat.le_trans (Nat.mul_le_mul_right 48 (show _ ≤ 4000000000000 by omega)) (by decide))
        have f0 := xaj HM.out.below g0
        obtain ⟨Av', cv', hve, hcv, hCv⟩ := Kd.R_reads HM.out.vars
        obtain ⟨rfl, rfl⟩ : Av = Av' ∧ cv = cv' := by simpa using hve
        have HCV := Lib.hid hCv
        clear hCv hve
        go_wp2_with fail
        refine (hIn.out y.f0 wr Av cv HCV.out hcv).mono ?_
        rintro e w3 ⟨rfl, hb⟩
        replace HM := Lib.hid (HM.out.on hb)
        replace HCV := Lib.hid (Kd.C_below HCV.out hb)
        have d0 := xaj HM.out.below g0
        have d1 := xaj HM.out.below g1
        have d2 := xaj HM.out.below g2
        have d3 := xaj HM.out.below g3
        clear hb f0
        cases hin : inB vs y.f0 with
        | true =>
         go_wp2_with fail
         refine (hIn.out y.f0 w3 Av cv HCV.out hcv).mono ?_
         rintro e w4 ⟨rfl, hb⟩
         replace HM := Lib.hid (HM.out.on hb)
         clear hb d0 d1 d2 d3
         rw [hin]
         go_wp2_with fail
         go_roundw
         case rel => exact ⟨k + 1, by omega, by go_num, by rw [HS.out, moreStep, if_neg (by rw [hin]; simp), if_pos hin]; exact HM⟩
         case measure => simp [intOf]; omega
        | false =>
         go_wp2_with fail
         refine (hIn.out y.f0 w3 Av cv HCV.out hcv).mono ?_
         rintro e w4 ⟨rfl, hb⟩
         replace HM := Lib.hid (HM.out.on hb)
         clear hb d0 d1 d2 d3
         have d0 := xaj HM.out.below g0
         have d1 := xaj HM.out.below g1
         have d2 := xaj HM.out.below g2
         have d3 := xaj HM.out.below g3
         rw [hin]
         have HMa := Lib.hid (HM.out.on (xab (Below.refl _ _) (.cells #[.string y.f0, .int .i8 y.f1.f0, .int .i64 y.f1.f1, .string y.f1.f2] 41 (0, 0))))
         have HOL : Hid (Kd.R k41 41 (w4.alloc (.cells #[.string y.f0, .int .i8 y.f1.f0, .int .i64 y.f1.f1, .string y.f1.f2] 41 (0, 0))) w.heap.size (fun _ => True) (.slice (some ⟨w4.heap.size, 0, none⟩) 1 1) [y]) := Lib.hid ⟨fun _ _ => trivial, OwnRow.lit (ps := [y]) (inner := [.string y.f0, .int .i8 y.f1.f0, .int .i64 y.f1.f1, .string y.f1.f2]) w4 w.heap.size (Reps.c4 (k41_mkM _ _ _ y) (Reps.none _ _)) HM.out.below.size (by simp)⟩
         obtain ⟨Ao, co, hvo', hcl, hCo⟩ := Kd.R_reads HMa.out.own
         subst hvo'
         have HCo := Lib.hid hCo
         clear hCo
         go_wp2_with (at_builtin; go_loud (refine xbf k41 flat_bind (w0 := w) w.heap.size rfl (.tmp 153) (.tmp 154) 32 41 (.agg #[.string ⟨#[]⟩, .int .i8 0, .int .i64 0, .string ⟨#[]⟩]) 48 rfl Tryd.underlying32 (by kernel_rfl) (by decide) (by decide) (by decide) (.slice (some ⟨w4.heap.size, 0, none⟩) 1 1) [y] rfl HOL.out Ao L.length co L rfl HCo.out HMa.out.below HMa.out.below.size HL8.out ?_); intro u1 w6 hR hB1 hG; have hG2 : (w4.alloc (.cells #[.string y.f0, .int .i8 y.f1.f0, .int .i64 y.f1.f1, .string y.f1.f2] 41 (0, 0))).grownBy w6 (some w4.heap.size) := hG; have HM6 := Lib.hid (HM.out.fresh hR (fresh_below hG2)); clear hG2; clear hR hB1 hG)
         go_roundw
         case rel => exact ⟨k + 1, by omega, by go_num, by rw [HS.out, moreStep, if_neg (by rw [hin]; simp), if_neg (by rw [hin]; simp)]; exact HM6⟩
         case measure => simp [intOf]; omega
       ·have hk3 : ms.take k = ms := List.take_of_length_le (by omega)
        rw [hk3] at HM
        have hq2 := hQ2.out (by simp)
        have HL2 : Hid ((ms.foldl (moreStep vs false) own1).length ≤ 2940000000000) := Lib.hid (by have h1 := moreFold_len vs false ms own1; have h2 := HL1.out; omega)
        generalize ms.foldl (moreStep vs false) own1 = own2 at *
        clear hk3
        obtain ⟨Ao', co', hv, hcl', hCo⟩ := Kd.R_reads HM.out.own
        subst hv
        have HCo := Lib.hid hCo
        clear hCo
        go_wp2_with ((with_reducible refine xap (N := 157) rfl ?_); (refine wpList_load_row rfl 31 (.tmp 3) rfl w.heap.size rfl 31 cx (0, 0) _ HM.out.ke Tryd.underlying31 rfl hix ?_))
        refine (hEv.out (by simp) wr Ao' co' _ hq2 HM.out.below HCo.out hcl').mono ?_
        rintro e v9 ⟨rfl, hb⟩
        replace HM := Lib.hid (HM.out.on hb)
        have HZ := Lib.hid (xau v9 (.cells #[.int .i8 0, .int .i64 0, .string ⟨#[]⟩] 26 (0, 0)))
        have HKX := Lib.hid (row_new v9 #[.int .i8 0, .int .i64 0, .string ⟨#[]⟩] #[.int .i8 r1, .int .i64 r2, .string r3] 26)
        replace HM := Lib.hid (HM.out.on (below_row v9 #[.int .i8 0, .int .i64 0, .string ⟨#[]⟩] #[.int .i8 r1, .int .i64 r2, .string r3] 26))
        clear hb HCo
        have e0 : ((v9.alloc (.cells #[.int .i8 0, .int .i64 0, .string ⟨#[]⟩] 26 (0, 0))).setRow v9.heap.size #[.int .i8 r1, .int .i64 r2, .string r3]).cell? ⟨w.heap.size, 0, none⟩ = some (.int .i8 op) := (xag HM.out.ke 0).trans hx0
        by_cases hop : op = 0
        ·have hop1 : (op == 0) = true := by simpa using hop
         have e1 : ((v9.alloc (.cells #[.int .i8 0, .int .i64 0, .string ⟨#[]⟩] 26 (0, 0))).setRow v9.heap.size #[.int .i8 r1, .int .i64 r2, .string r3]).cell? ⟨w.heap.size, 1, none⟩ = some (.string nm) := (xag HM.out.ke 1).trans hx1
         have e2 : ((v9.alloc (.cells #[.int .i8 0, .int .i64 0, .string ⟨#[]⟩] 26 (0, 0))).setRow v9.heap.size #[.int .i8 r1, .int .i64 r2, .string r3]).cell? ⟨w.heap.size, 2, none⟩ = some (.int .i8 q1) := (xag HM.out.ke 2).trans hx2
         have e3 : ((v9.alloc (.cells #[.int .i8 0, .int .i64 0, .string ⟨#[]⟩] 26 (0, 0))).setRow v9.heap.size #[.int .i8 r1, .int .i64 r2, .string r3]).cell? ⟨w.heap.size, 3, none⟩ = some (.int .i64 q2) := (xag HM.out.ke 3).trans hx3
         have e4 : ((v9.alloc (.cells #[.int .i8 0, .int .i64 0, .string ⟨#[]⟩] 26 (0, 0))).setRow v9.heap.size #[.int .i8 r1, .int .i64 r2, .string r3]).cell? ⟨w.heap.size, 4, none⟩ = some (.string q3) := (xag HM.out.ke 4).trans hx4
         rcases hP4.out (by simp) hop with hnm | ⟨hnm, hz0, hz1, hz2, hz3⟩
         ·have hn1 : (nm.toList == ([] : List UInt8)) = false := by simpa using hnm
          have hn2 : nm.toList.isEmpty = false := by simpa using hnm
          clear hnm hop
          go_wp2_with first | ((with_reducible refine xbj (t := 26) (p := 18) rfl ?_); (refine wpList_store_row rfl 26 (.tmp 18) (.tmp 160) rfl v9.heap.size #[.int .i8 r1, .int .i64 r2, .string r3] rfl rfl 26 #[.int .i8 0, .int .i64 0, .string ⟨#[]⟩] HZ.out hiv (by rw [hvs]; rfl) hvo ?_)) | ((with_reducible refine xap (N := 162) rfl ?_); (refine wpList_load_row rfl 26 (.tmp 18) rfl v9.heap.size rfl 26 #[.int .i8 r1, .int .i64 r2, .string r3] (0, 0) _ HKX.out Tryd.underlying26 rfl hiv ?_)) | ((with_reducible refine xap (N := 163) rfl ?_); (refine wpList_load_row rfl 26 (.tmp 7) rfl gv rfl 26 #[.int .i8 r1, .int .i64 r2, .string r3] (0, 0) _ HM.out.kv Tryd.underlying26 rfl hiv ?_))
          go_ret
          exact ⟨rfl, HM.out.below⟩
         ·cases hz0
        ·have hop1 : (op == 0) = false := by simpa using hop
         have HOP := Lib.hid hop
         clear hop
         go_wp2_with first | ((with_reducible refine xbj (t := 26) (p := 18) rfl ?_); (refine wpList_store_row rfl 26 (.tmp 18) (.tmp 160) rfl v9.heap.size #[.int .i8 r1, .int .i64 r2, .string r3] rfl rfl 26 #[.int .i8 0, .int .i64 0, .string ⟨#[]⟩] HZ.out hiv (by rw [hvs]; rfl) hvo ?_)) | ((with_reducible refine xap (N := 162) rfl ?_); (refine wpList_load_row rfl 26 (.tmp 18) rfl v9.heap.size rfl 26 #[.int .i8 r1, .int .i64 r2, .string r3] (0, 0) _ HKX.out Tryd.underlying26 rfl hiv ?_)) | ((with_reducible refine xap (N := 163) rfl ?_); (refine wpList_load_row rfl 26 (.tmp 7) rfl gv rfl 26 #[.int .i8 r1, .int .i64 r2, .string r3] (0, 0) _ HM.out.kv Tryd.underlying26 rfl hiv ?_))
         generalize ((v9.alloc (.cells #[.int .i8 0, .int .i64 0, .string ⟨#[]⟩] 26 (0, 0))).setRow v9.heap.size #[.int .i8 r1, .int .i64 r2, .string r3]) = wz at *
         go_loopw [22, 23] (fun u i wr => ∃ k : Nat, k ≤ kids.length ∧ i = .int .i64 k ∧ Hid ((kids.take k).all (fun x => (ek x).2.2.2) = true) ∧ Hid (Kd.R k26 26 wr wz.heap.size (fun _ => True) u ((kids.take k).map (fun x => asV (ek x)))) ∧ Hid (Below wz.heap.size wz wr)) (fun _ i _ => kids.length - (intOf i).toNat)
         case atStart => exact ⟨0, Nat.zero_le _, rfl, Lib.hid rfl, Lib.hid (Kd.R_nil _ _ _ _ _), Lib.hid (Below.refl _ _)⟩
         case round =>
          clear e0
          obtain ⟨k, hk, rfl, HP, HO, HB⟩ := hrel
          have e5 : wr.cell? ⟨w.heap.size, 5, none⟩ = some (.slice A1 kids.length c1) := (xag (xak HM.out.ke HB.out) 5).trans hx5
          by_cases hlt : k < kids.length
          ·obtain ⟨ad, cs, ea, hsz, hK, hcell⟩ := C_row (Kd.C_below HKC.out (xae HM.out.below HB.out)) z31 k hlt
           subst ea
           have HCELL := Lib.hid hcell
           have hsz' : cs.size = 6 := hsz
           have hic : (Tryd.prog.info? 31).map (·.size) = some cs.size := by rw [hsz']; exact hin
           have HMEM : Hid (kids.getD k z31 ∈ kids) := Lib.hid (by rw [List.getD_eq_getElem?_getD, List.getElem?_eq_getElem hlt]; exact List.getElem_mem hlt)
           have HS := Lib.hid (all_snd (fun q => (ek q).2.2.2) kids z31 k hlt)
           have HMS := Lib.hid (map_snd (fun q => asV (ek q)) kids z31 k hlt)
           have HKE := Lib.hid hK
           clear hK hcell
           generalize kids.getD k z31 = y at *
           have HVL := Lib.hid (show ((kids.take k).map (fun q => asV (ek q))).length ≤ 2 by rw [List.length_map, List.length_take]; have := hKL.out (by simp); omega)
           generalize (kids.take k).map (fun q => asV (ek q)) = vals at *
           go_wp2_with ((with_reducible refine xap (N := 216) rfl ?_); (refine xbm rfl 31 (.tmp 215) rfl (ad.add (k * 6)) rfl cs _ HCELL.out Tryd.underlying31 rfl hic ?_))
           refine (hKE.out (by simp) (by simp) HOP.out y HMEM.out cs wr (xae HM.out.below HB.out) HKE.out).mono ?_
           rintro e w3 ⟨rfl, hb⟩
           have HB3 := Lib.hid (xae HB.out hb)
           have HO3 := Lib.hid (Kd.R_below HO.out hb)
           obtain ⟨Av', cv', hv⟩ := Kd.R_slice HO.out
           subst hv
           clear hb HO HB e5
           have HO4 := Lib.hid (Kd.R_alloc HO3.out (.cells #[.int .i8 (ek y).1, .int .i64 (ek y).2.1, .string (ek y).2.2.1] 26 (0, 0)))
           have HB4 := Lib.hid (xab HB3.out (.cells #[.int .i8 (ek y).1, .int .i64 (ek y).2.1, .string (ek y).2.2.1] 26 (0, 0)))
           have HSZ := Lib.hid (show (w3.alloc (.cells #[.int .i8 (ek y).1, .int .i64 (ek y).2.1, .string (ek y).2.2.1] 26 (0, 0))).heap.size = w3.heap.size + 1 by simp)
           cases hok : (ek y).2.2.2 with
           | false =>
            go_wp2_with fail
            go_ret
            exact ⟨rfl, xae HM.out.below HB4.out⟩
           | true =>
            have HP1 := Lib.hid (show (kids.take (k + 1)).all (fun q => (ek q).2.2.2) = true by rw [HS.out, HP.out, hok]; rfl)
            go_wp2_with (at_builtin; go_loud (refine Kd.R_append k26 (w0 := wz) (W := (w3.alloc (.cells #[.int .i8 (ek y).1, .int .i64 (ek y).2.1, .string (ek y).2.2.1] 26 (0, 0)))) wz.heap.size rfl (.tmp 225) (.tmp 227) 47 26 (.agg #[.int .i8 0, .int .i64 0, .string ⟨#[]⟩]) 32 rfl Tryd.underlying47 info26 rfl (by decide) (by decide) (.slice Av' vals.length cv') vals (asV (ek y)) [.int .i8 (ek y).1, .int .i64 (ek y).2.1, .string (ek y).2.2.1] (fun _ => True) (fun _ => False) rfl (by rw [HSZ.out]; rfl) (k26_mkM _ _ _ (asV (ek y))) (fun _ h => h.elim) (fun _ _ => trivial) HO4.out HB4.out HB4.out.size (by have := HVL.out; omega) ?_); intro v1 w4 hR hB1 hG _; have HO5 := Lib.hid hR; have HB5 := Lib.hid hB1; clear hR hB1 hG)
            go_roundw
            case rel => exact ⟨k + 1, by omega, by go_num, HP1, Lib.hid (by rw [HMS.out]; exact HO5.out), HB5⟩
            case measure => simp [intOf]; omega
          ·have hall := HP.out
           rw [List.take_of_length_le (by omega)] at hall
           have hO := HO.out
           rw [List.take_of_length_le (by omega)] at hO
           obtain ⟨Av', cv', hv, hcv', hCv⟩ := Kd.R_reads hO
           rw [List.length_map] at hv hcv' hCv
           subst hv
           have HCV := Lib.hid hCv
           have e0 : wr.cell? ⟨w.heap.size, 0, none⟩ = some (.int .i8 op) := (xag (xak HM.out.ke HB.out) 0).trans hx0
           clear hO hCv HP HO
           go_wp2_with fail
           refine (hAr.out (by simp) (by simp) HOP.out hall wr Av' cv' (xae HM.out.below HB.out) HCV.out hcv').mono ?_
           rintro e w9 ⟨rfl, hb⟩
           have HB9 := Lib.hid (xae (xae HM.out.below HB.out) hb)
           have HKV9 := Lib.hid (xad (xak (xak HM.out.kv HB.out) hb) (.cells #[.int .i8 r1, .int .i64 r2, .string r3] 26 (0, 0)))
           have HK26 := Lib.hid (xau w9 (.cells #[.int .i8 r1, .int .i64 r2, .string r3] 26 (0, 0)))
           have HBF := Lib.hid (xab HB9.out (.cells #[.int .i8 r1, .int .i64 r2, .string r3] 26 (0, 0)))
           clear hb HB9 HCV HB e0 hall
           go_wp2_with fail
           go_ret
           exact ⟨rfl, HBF.out⟩
  ·have hck1 : (ck == 0) = false := by simpa using hck
   have hck2 : (ck != 0) = true := by simpa using hck
   obtain ⟨rfl, rfl, rfl, rfl⟩ := hP0.out hck
   go_wp2_with ((with_reducible refine xap (N := 44) rfl ?_); (refine xbn (by rfl) 26 (.tmp 7) rfl gv rfl 26 #[.int .i8 0, .int .i64 0, .string ⟨#[]⟩] (0, 0) _ HKV.out Tryd.underlying26 rfl hiv ?_))
   go_ret
   exact ⟨rfl, HB.out⟩
theorem solid_blank {t : S28} (h : solidB t = true) : t.f0.toList ≠ [95] := by
 rw [solid_bad, Bool.and_eq_true, decide_eq_true_eq] at h
 exact h.1
theorem none_empty {t : S28} (h : noneB t = true) : t.f0.toList = [] := by
 have hN : noneB t = (t.f0.toList == ([] : List UInt8) && ((t.f1.f0 == 0 && (t.f1.f1 == 0 && (t.f1.f2.toList == ([] : List UInt8)))))) := rfl
 rw [hN, Bool.and_eq_true] at h
 simpa using h.1
theorem kids_mem {t : S28} : ∀ {l : List S31}, t ∈ kidsTermsL l ↔ ∃ k ∈ l, t ∈ exprTermsL k
 | [] => by simp [kidsTermsL]
 | e :: r => by
  rw [kidsTermsL, List.mem_append, kids_mem (l := r)]
  simp
theorem deep_up : ∀ (n : Nat) (x : S31), deepB n x = true → deepB (n + 1) x = true
 | 0, x, h => by simp [deepB] at h
 | n + 1, x, h => by
  rw [deepB] at h ⊢
  by_cases h0 : x.f0 = 0
  ·rw [if_pos h0] at h ⊢; exact h
  ·rw [if_neg h0, Bool.and_eq_true] at h
   rw [if_neg h0, Bool.and_eq_true]
   exact ⟨h.1, List.all_eq_true.2 (fun k hk => deep_up n k (List.all_eq_true.1 h.2 k hk))⟩
theorem evalN_up (bs : List S41) : ∀ (n : Nat) (x : S31), deepB n x = true → evalN bs (n + 1) x = evalN bs n x
 | 0, x, h => by simp [deepB] at h
 | n + 1, x, h => by
  rw [evalN, evalN.eq_def bs (n + 1)]
  rw [deepB] at h
  by_cases h0 : x.f0 = 0
  ·simp only [if_pos h0]
  ·rw [if_neg h0, Bool.and_eq_true] at h
   have hk : ∀ k ∈ x.f2, evalN bs (n + 1) k = evalN bs n k := fun k hk => evalN_up bs n k (List.all_eq_true.1 h.2 k hk)
   simp only [if_neg h0]
   rw [show x.f2.all (fun k => (evalN bs (n + 1) k).2.2.2) = x.f2.all (fun k => (evalN bs n k).2.2.2) from by rw [Bool.eq_iff_iff, List.all_eq_true, List.all_eq_true]; exact ⟨fun g k q => by rw [← hk k q]; exact g k q, fun g k q => by rw [hk k q]; exact g k q⟩,
    show x.f2.map (fun k => asV (evalN bs (n + 1) k)) = x.f2.map (fun k => asV (evalN bs n k)) from List.map_congr_left (fun k q => by rw [hk k q])]
abbrev Named (x : S31) (s : ByteArray) : Prop := ∃ t ∈ exprTermsL x, t.f0 = s ∧ t.f0.toList ≠ [] ∧ t.f0.toList ≠ [95]
theorem evalN_same (bs cs : List S41) : ∀ (n : Nat) (x : S31), deepB n x = true → (∀ s, Named x s → boundV bs s = boundV cs s) → evalN bs n x = evalN cs n x
 | 0, x, h, _ => by simp [deepB] at h
 | n + 1, x, h, hs => by
  rw [evalN, evalN]
  rw [deepB] at h
  by_cases h0 : x.f0 = 0
  ·rw [if_pos h0, Bool.and_eq_true] at h
   simp only [if_pos h0]
   by_cases h1 : x.f1.f0.toList = []
   ·simp only [if_pos h1]
   ·rw [hs x.f1.f0 ⟨x.f1, by rw [xbc]; exact List.mem_cons_self, rfl, h1, solid_blank h.2⟩]
  ·rw [if_neg h0, Bool.and_eq_true] at h
   have hk : ∀ k ∈ x.f2, evalN bs n k = evalN cs n k := fun k hk => evalN_same bs cs n k (List.all_eq_true.1 h.2 k hk) (fun s ⟨t, ht, h1⟩ => hs s ⟨t, by rw [xbc]; exact List.mem_cons_of_mem _ (kids_mem.2 ⟨k, hk, ht⟩), h1⟩)
   simp only [if_neg h0]
   rw [show x.f2.all (fun k => (evalN bs n k).2.2.2) = x.f2.all (fun k => (evalN cs n k).2.2.2) from by rw [Bool.eq_iff_iff, List.all_eq_true, List.all_eq_true]; exact ⟨fun g k q => by rw [← hk k q]; exact g k q, fun g k q => by rw [hk k q]; exact g k q⟩,
    show x.f2.map (fun k => asV (evalN bs n k)) = x.f2.map (fun k => asV (evalN cs n k)) from List.map_congr_left (fun k q => by rw [hk k q])]
theorem evalN_fails (bs : List S41) : ∀ (n : Nat) (x : S31) (s : ByteArray), deepB n x = true → Named x s → valueOk (boundV bs s) = false → evalN bs n x = (0, 0, ⟨#[]⟩, false)
 | 0, x, s, h, _, _ => by simp [deepB] at h
 | n + 1, x, s, h, ⟨t, ht, hts, h1, h2⟩, hv => by
  rw [evalN]
  rw [deepB] at h
  rw [xbc] at ht
  by_cases h0 : x.f0 = 0
  ·rw [if_pos h0, Bool.and_eq_true, decide_eq_true_eq] at h
   rw [List.length_eq_zero_iff.1 h.1, kidsTermsL, List.mem_singleton] at ht
   subst ht
   subst hts
   rw [if_pos h0, if_neg h1, if_neg (by rw [hv]; simp)]
  ·rw [if_neg h0, Bool.and_eq_true, Bool.and_eq_true] at h
   rcases List.mem_cons.1 ht with rfl | ht
   ·exact absurd (none_empty h.1.1) h1
   ·obtain ⟨k, hk, htk⟩ := kids_mem.1 ht
    have hf := evalN_fails bs n k s (List.all_eq_true.1 h.2 k hk) ⟨t, htk, hts, h1, h2⟩ hv
    rw [if_neg h0, if_neg (fun ha => by have := List.all_eq_true.1 ha k hk; rw [hf] at this; cases this)]
mutual
def mapE (f : S28 → S28) : S31 → S31
 | ⟨o, t, kids⟩ => ⟨o, f t, mapK f kids⟩
def mapK (f : S28 → S28) : List S31 → List S31
 | [] => []
 | e :: r => mapE f e :: mapK f r
end
theorem mapK_eq (f : S28 → S28) : ∀ l : List S31, mapK f l = l.map (mapE f)
 | [] => by rw [mapK]; rfl
 | e :: r => by rw [mapK, mapK_eq f r]; rfl
theorem mapE_eq (f : S28 → S28) (x : S31) : mapE f x = ⟨x.f0, f x.f1, x.f2.map (mapE f)⟩ := by cases x; rw [mapE, mapK_eq]
theorem solid_value {t : S28} (h : valueOk t.f1 = true) (h0 : t.f0.toList = []) : solidB t = true := by
 rw [solid_bad, Bool.and_eq_true, decide_eq_true_eq]
 refine ⟨by rw [h0]; simp, ?_⟩
 unfold termBad term_CheckTerm.f
 rw [if_pos h0]
 obtain ⟨r, hr, hv⟩ := valueOk_tot t.f1
 rw [hv] at h
 rw [hr, Option.bind_some, term_code.f]
 have h1 : r = 0 := by simpa using h
 subst h1
 rfl
theorem mapE_value (bs : List S41) (f : S28 → S28) (hf0 : ∀ t, t.f0.toList = [] → f t = t) : ∀ (n : Nat) (x : S31), deepB n x = true → (∀ t ∈ exprTermsL x, t.f0.toList ≠ [] → t.f0.toList ≠ [95] → f t = ⟨⟨#[]⟩, boundV bs t.f0⟩ ∧ valueOk (boundV bs t.f0) = true) →
  deepB n (mapE f x) = true ∧ evalN [] n (mapE f x) = evalN bs n x
 | 0, x, h, _ => by simp [deepB] at h
 | n + 1, x, h, hs => by
  rw [deepB] at h
  rw [mapE_eq, deepB, evalN, evalN]
  by_cases h0 : x.f0 = 0
  ·rw [if_pos h0, Bool.and_eq_true, decide_eq_true_eq] at h
   have hnil := List.length_eq_zero_iff.1 h.1
   simp only [if_pos h0, hnil, List.map_nil, List.length_nil, decide_true, Bool.true_and]
   by_cases h1 : x.f1.f0.toList = []
   ·rw [hf0 _ h1]
    simp only [if_pos h1]
    exact ⟨h.2, trivial⟩
   ·obtain ⟨e1, e2⟩ := hs x.f1 (by rw [xbc]; exact List.mem_cons_self) h1 (solid_blank h.2)
    rw [e1]
    have hz : (⟨#[]⟩ : ByteArray).toList = [] := by rw [xaz]
    simp only [if_neg h1, hz, if_true, e2]
    exact ⟨solid_value e2 hz, trivial⟩
  ·rw [if_neg h0, Bool.and_eq_true, Bool.and_eq_true] at h
   have hk : ∀ k ∈ x.f2, deepB n (mapE f k) = true ∧ evalN [] n (mapE f k) = evalN bs n k := fun k hk => mapE_value bs f hf0 n k (List.all_eq_true.1 h.2 k hk) (fun t ht => hs t (by rw [xbc]; exact List.mem_cons_of_mem _ (kids_mem.2 ⟨k, hk, ht⟩)))
   simp only [if_neg h0]
   rw [hf0 _ (none_empty h.1.1), List.length_map, Bool.and_eq_true, Bool.and_eq_true]
   refine ⟨⟨h.1, ?_⟩, ?_⟩
   ·rw [List.all_eq_true]
    intro y hy
    obtain ⟨k, hk', rfl⟩ := List.mem_map.1 hy
    exact (hk k hk').1
   ·rw [List.all_map, List.map_map]
    rw [show x.f2.all ((fun k => (evalN [] n k).2.2.2) ∘ mapE f) = x.f2.all (fun k => (evalN bs n k).2.2.2) from by rw [Bool.eq_iff_iff, List.all_eq_true, List.all_eq_true]; exact ⟨fun g k q => by rw [← (hk k q).2]; exact g k q, fun g k q => by show (evalN [] n (mapE f k)).2.2.2 = true; rw [(hk k q).2]; exact g k q⟩,
     show x.f2.map ((fun k => asV (evalN [] n k)) ∘ mapE f) = x.f2.map (fun k => asV (evalN bs n k)) from List.map_congr_left (fun k q => by show asV (evalN [] n (mapE f k)) = _; rw [(hk k q).2])]
theorem firstB_eq (bs : List S41) {s u : ByteArray} (h : s.data.toList = u.data.toList) : firstB bs s = firstB bs u := by unfold firstB; rw [h]
theorem firstB_name {bs : List S41} {s : ByteArray} {b : S41} (h : firstB bs s = some b) : b.f0.data.toList = s.data.toList ∧ b ∈ bs := by
 refine ⟨?_, List.mem_of_find?_eq_some h⟩
 have := List.find?_some h
 simpa using this
theorem ownOf_mem {bs : List S41} {vs : List ByteArray} {b : S41} (h : b ∈ ownOf bs vs) : firstB bs b.f0 = some b ∧ b ∈ bs := by
 obtain ⟨v, _, hv⟩ := List.mem_filterMap.1 h
 obtain ⟨h1, h2⟩ := firstB_name hv
 exact ⟨by rw [firstB_eq bs h1]; exact hv, h2⟩
theorem inB_mem {vs : List ByteArray} {s : ByteArray} (h : inB vs s = true) : ∃ v ∈ vs, v.data.toList = s.data.toList := by
 obtain ⟨v, hv, he⟩ := List.any_eq_true.1 h
 exact ⟨v, hv, by simpa using he⟩
theorem firstB_own (bs : List S41) (vs : List ByteArray) (s : ByteArray) (h : inB vs s = true) : firstB (ownOf bs vs) s = firstB bs s := by
 cases hq : firstB (ownOf bs vs) s with
 | some b =>
  obtain ⟨h1, h2⟩ := firstB_name hq
  rw [← (ownOf_mem h2).1, firstB_eq bs h1]
 | none =>
  cases hf : firstB bs s with
  | none => rfl
  | some b =>
   obtain ⟨v, hv, he⟩ := inB_mem h
   have hm : b ∈ ownOf bs vs := List.mem_filterMap.2 ⟨v, hv, by rw [firstB_eq bs he]; exact hf⟩
   have hn := List.find?_eq_none.1 hq b hm
   exact absurd (firstB_name hf).1 (by simpa using hn)
theorem inB_eq (vs : List ByteArray) {s u : ByteArray} (h : s.data.toList = u.data.toList) : inB vs s = inB vs u := by unfold inB; rw [h]
theorem firstB_more (vs : List ByteArray) (all : Bool) (s : ByteArray) (h : inB vs s = true) : ∀ (ms L : List S41), (all = true → (firstB L s).isSome = true) → firstB (ms.foldl (moreStep vs all) L) s = firstB L s
 | [], L, _ => rfl
 | m :: r, L, ha => by
  rw [List.foldl_cons]
  have h1 : firstB (moreStep vs all L m) s = firstB L s := by
   unfold moreStep
   split
   ·rename_i hc
    rw [Bool.and_eq_true] at hc
    have hs := ha hc.2
    unfold firstB at hs ⊢
    rw [List.find?_append]
    cases hq : L.find? (fun b => b.f0.data.toList == s.data.toList) with
    | some b => rfl
    | none => rw [hq] at hs; cases hs
   ·split
    ·rfl
    ·rename_i hn
     unfold firstB
     rw [List.singleton_append, List.find?_cons]
     have : (m.f0.data.toList == s.data.toList) = false := by
      cases hq : (m.f0.data.toList == s.data.toList) with
      | false => rfl
      | true => exact absurd (by rw [inB_eq vs (by simpa using hq)]; exact h) hn
     rw [this]
  rw [firstB_more vs all s h r _ (fun e => by rw [h1]; exact ha e), h1]
theorem xbp (bs : List S41) (s : ByteArray) : boundV bs s = ((firstB bs s).map (fun b => b.f1)).getD z26 := rfl
theorem okB_bound (bs : List S41) (s : ByteArray) : okB (firstB bs s) = valueOk (boundV bs s) := by
 rw [xbp]
 cases firstB bs s with
 | none => exact Eq.symm valueOk_zero
 | some b => rfl
theorem vars_fold : ∀ (ts : List S28) (L : List ByteArray), (∀ v ∈ L, v ∈ ts.foldl varStep L) ∧ (∀ v ∈ ts.foldl varStep L, v ∈ L ∨ ∃ t ∈ ts, t.f0 = v ∧ v.toList ≠ [] ∧ v.toList ≠ [95]) ∧ (∀ t ∈ ts, t.f0.toList ≠ [] → t.f0.toList ≠ [95] → inB (ts.foldl varStep L) t.f0 = true)
 | [], L => ⟨fun v h => h, fun v h => .inl h, fun t h => by cases h⟩
 | x :: r, L => by
  rw [List.foldl_cons]
  obtain ⟨h1, h2, h3⟩ := vars_fold r (varStep L x)
  have hs : ∀ v ∈ L, v ∈ varStep L x := fun v hv => by unfold varStep; split; exact hv; exact List.mem_append_left _ hv
  refine ⟨fun v hv => h1 v (hs v hv), fun v hv => ?_, fun t ht e1 e2 => ?_⟩
  ·rcases h2 v hv with h | ⟨t, ht, h⟩
   ·unfold varStep at h
    split at h
    ·exact .inl h
    ·rename_i hc
     rcases List.mem_append.1 h with h | h
     ·exact .inl h
     ·obtain rfl := List.mem_singleton.1 h
      exact .inr ⟨x, List.mem_cons_self, rfl, fun e => hc (.inl e), fun e => hc (.inr (.inl e))⟩
   ·exact .inr ⟨t, List.mem_cons_of_mem _ ht, h⟩
  ·rcases List.mem_cons.1 ht with rfl | ht
   ·have hin : inB (varStep L t) t.f0 = true := by
     unfold varStep
     split
     ·rename_i hc
      rcases hc with hc | hc | hc
      ·exact absurd hc e1
      ·exact absurd hc e2
      ·exact hc
     ·exact List.any_eq_true.2 ⟨t.f0, List.mem_append_right _ (List.mem_singleton.2 rfl), by simp⟩
    obtain ⟨v, hv, he⟩ := List.any_eq_true.1 hin
    exact List.any_eq_true.2 ⟨v, h1 v hv, he⟩
   ·exact h3 t ht e1 e2
theorem vars_in {ts : List S28} {t : S28} (ht : t ∈ ts) (h1 : t.f0.toList ≠ []) (h2 : t.f0.toList ≠ [95]) : inB (varsOf ts) t.f0 = true := (vars_fold ts []).2.2 t ht h1 h2
theorem vars_from {ts : List S28} {v : ByteArray} (hv : v ∈ varsOf ts) : ∃ t ∈ ts, t.f0 = v ∧ v.toList ≠ [] ∧ v.toList ≠ [95] := by
 rcases (vars_fold ts []).2.1 v hv with h | h
 ·cases h
 ·exact h
def putP (ps : List S82) (t : S28) : S28 := if t.f0.toList = [] ∨ t.f0.toList = [95] then t else match ps.find? (fun (p : S82) => p.f0.data.toList == t.f0.data.toList) with | some p => p.f1 | none => t
theorem find_pairs (bs : List S41) (s : ByteArray) : (bs.map pairB).find? (fun (p : S82) => p.f0.data.toList == s.data.toList) = (firstB bs s).map pairB := by
 unfold firstB
 rw [List.find?_map]
 rfl
theorem put_l0 (ps : List S82) (hps : ps.length ≤ 4000000000000) (t : S28) : ∀ (m i : Nat), ps.length - i = m → i ≤ ps.length → Ev (fun k => r4_Put.l0 k ps (i : Int) t.f0 t.f1.f0 t.f1.f1 t.f1.f2) (match (ps.drop i).find? (fun (p : S82) => p.f0.data.toList == t.f0.data.toList) with | some p => (p.f1.f0, p.f1.f1.f0, p.f1.f1.f1, p.f1.f1.f2) | none => (t.f0, t.f1.f0, t.f1.f1, t.f1.f2))
 | 0, i, hm, hi => by
  rw [List.drop_eq_nil_of_le (by omega)]
  exact Ev.of (fun k => by rw [r4_Put.l0, if_neg (by omega)]; rfl)
 | m + 1, i, hm, hi => by
  have hlt : i < ps.length := by omega
  have e : rd_T82 ps (i : Int) = ps[i] := by rw [rd_T82, List.getD_eq_getElem?_getD, Int.toNat_natCast, List.getElem?_eq_getElem hlt]; rfl
  have ih := put_l0 ps hps t m (i + 1) (by omega) (by omega)
  rw [List.drop_eq_getElem_cons hlt, List.find?_cons]
  by_cases h : ps[i].f0.toList = t.f0.toList
  ·have h2 : (ps[i].f0.data.toList == t.f0.data.toList) = true := by rw [xaz, xaz] at h; simpa using h
   rw [h2]
   exact Ev.of (fun k => by rw [r4_Put.l0, if_pos (by omega), if_pos (by omega), e, if_pos h])
  ·have h2 : (ps[i].f0.data.toList == t.f0.data.toList) = false := by rw [xaz, xaz] at h; simpa using h
   rw [h2]
   refine ih.step (fun k => ?_)
   rw [r4_Put.l0, if_pos (by omega), if_pos (by omega), e, if_neg h, w64 (by omega) (by omega)]
   rfl
theorem put_ev (ps : List S82) (hps : ps.length ≤ 4000000000000) (t : S28) : Ev (fun k => r4_Put.f k ps t.f0 t.f1.f0 t.f1.f1 t.f1.f2) ((putP ps t).f0, (putP ps t).f1.f0, (putP ps t).f1.f1, (putP ps t).f1.f2) := by
 have h := put_l0 ps hps t _ 0 rfl (Nat.zero_le _)
 rw [List.drop_zero] at h
 unfold putP
 by_cases h1 : t.f0.toList = []
 ·rw [if_pos (.inl h1)]
  exact Ev.of (fun k => by rw [r4_Put.f, if_pos h1, r4_Put.j0, if_pos rfl])
 ·by_cases h2 : t.f0.toList = [95]
  ·rw [if_pos (.inr h2)]
   exact Ev.of (fun k => by rw [r4_Put.f, if_neg h1, r4_Put.j0, if_pos (by simpa using h2)])
  ·rw [if_neg (by simp [h1, h2])]
   have h3 : Ev (fun k => r4_Put.l0 k ps 0 t.f0 t.f1.f0 t.f1.f1 t.f1.f2) ((match ps.find? (fun (p : S82) => p.f0.data.toList == t.f0.data.toList) with | some p => p.f1 | none => t).f0, (match ps.find? (fun (p : S82) => p.f0.data.toList == t.f0.data.toList) with | some p => p.f1 | none => t).f1.f0, (match ps.find? (fun (p : S82) => p.f0.data.toList == t.f0.data.toList) with | some p => p.f1 | none => t).f1.f1, (match ps.find? (fun (p : S82) => p.f0.data.toList == t.f0.data.toList) with | some p => p.f1 | none => t).f1.f2) := by
    cases hq : ps.find? (fun (p : S82) => p.f0.data.toList == t.f0.data.toList) with
    | none => rw [hq] at h; exact h
    | some p => rw [hq] at h; exact h
   exact h3.step (fun k => by rw [r4_Put.f, if_neg h1, r4_Put.j0, if_neg (by simpa using h2)])
abbrev tupE (y : S31) : Int × ByteArray × Int × Int × ByteArray × List S31 := (y.f0, y.f1.f0, y.f1.f1.f0, y.f1.f1.f1, y.f1.f1.f2, y.f2)
theorem apply_l0 (ps : List S82) (f : S31 → S31) (o : Int) (a : ByteArray) (b c : Int) (d : ByteArray) (l : List S31) (hl : l.length ≤ 1000) (o' : Int) (a' : ByteArray) (b' c' : Int) (d' : ByteArray)
  (ih : ∀ k ∈ l, Ev (fun q => r4_ApplyExpr.f q ps k.f0 k.f1.f0 k.f1.f1.f0 k.f1.f1.f1 k.f1.f1.f2 k.f2) (tupE (f k))) : ∀ (m i : Nat), l.length - i = m → i ≤ l.length →
   Ev (fun q => r4_ApplyExpr.l0 q ps (i : Int) o a b c d l o' a' b' c' d' ((l.take i).map f)) (o', a', b', c', d', l.map f)
 | 0, i, hm, hi => by
  rw [List.take_of_length_le (by omega)]
  exact Ev.of (fun k => by rw [r4_ApplyExpr.l0, if_neg (by omega)])
 | m + 1, i, hm, hi => by
  have hlt : i < l.length := by omega
  have er : rd_T31 l (i : Int) = l[i] := by rw [rd_T31, List.getD_eq_getElem?_getD, Int.toNat_natCast, List.getElem?_eq_getElem hlt]; rfl
  have hk := ih l[i] (List.getElem_mem hlt)
  have et : (l.take (i + 1)).map f = (l.take i).map f ++ [f l[i]] := by rw [List.take_add_one, List.getElem?_eq_getElem hlt, List.map_append]; rfl
  have h0 := apply_l0 ps f o a b c d l hl o' a' b' c' d' ih m (i + 1) (by omega) (by omega)
  rw [et] at h0
  have hlen : ((l.take i).map f).length < 1759218604441 := by rw [List.length_map, List.length_take]; omega
  have h2 := Ev.bind (g := fun k bt => if ((l.take i).map f).length < 1759218604441 then r4_ApplyExpr.l0 k ps (wrap64 ((i : Int) + 1)) o a b c d l o' a' b' c' d' ((l.take i).map f ++ [(⟨bt.1, ⟨bt.2.1, ⟨bt.2.2.1, bt.2.2.2.1, bt.2.2.2.2.1⟩⟩, bt.2.2.2.2.2⟩ : S31)]) else none) hk (h0.cong (fun k => by rw [if_pos hlen, w64 (by omega) (by omega)]; dsimp only [tupE]; rw [eta_expr]; rfl))
  exact h2.step (fun k => by rw [r4_ApplyExpr.l0, if_pos (by omega), if_pos (by omega), er])
theorem apply_ev (ps : List S82) (hps : ps.length ≤ 4000000000000) : ∀ (n : Nat) (x : S31), deepB n x = true → Ev (fun q => r4_ApplyExpr.f q ps x.f0 x.f1.f0 x.f1.f1.f0 x.f1.f1.f1 x.f1.f1.f2 x.f2) (tupE (mapE (putP ps) x))
 | 0, x, h => by simp [deepB] at h
 | n + 1, x, h => by
  have hk : (∀ k ∈ x.f2, deepB n k = true) ∧ x.f2.length ≤ 1000 := by
   rw [deepB] at h
   by_cases h0 : x.f0 = 0
   ·rw [if_pos h0, Bool.and_eq_true, decide_eq_true_eq] at h
    have hnil := List.length_eq_zero_iff.1 h.1
    rw [hnil]
    exact ⟨fun k hk => (by cases hk), by simp⟩
   ·rw [if_neg h0, Bool.and_eq_true, Bool.and_eq_true, decide_eq_true_eq] at h
    have har : arityOf x.f0 ≤ 2 := by unfold arityOf; repeat' split <;> omega
    exact ⟨List.all_eq_true.1 h.2, by have := h.1.2; omega⟩
  have h1 := apply_l0 ps (mapE (putP ps)) x.f0 x.f1.f0 x.f1.f1.f0 x.f1.f1.f1 x.f1.f1.f2 x.f2 hk.2 x.f0 (putP ps x.f1).f0 (putP ps x.f1).f1.f0 (putP ps x.f1).f1.f1 (putP ps x.f1).f1.f2 (fun k hk' => apply_ev ps hps n k (hk.1 k hk')) _ 0 rfl (Nat.zero_le _)
  have h2 := Ev.bind (g := fun k bt => r4_ApplyExpr.l0 k ps 0 x.f0 x.f1.f0 x.f1.f1.f0 x.f1.f1.f1 x.f1.f1.f2 x.f2 x.f0 bt.1 bt.2.1 bt.2.2.1 bt.2.2.2 []) (put_ev ps hps x.f1) h1
  rw [mapE_eq]
  exact h2.step (fun k => by rw [r4_ApplyExpr.f])
theorem ready_map (f : S28 → S28) : ∀ (n : Nat) (x : S31), ReadyE n x → (∀ t ∈ exprTermsL x, (f t).f0.size ≤ 140737488351232) → ReadyE n (mapE f x)
 | 0, x, h, _ => h
 | n + 1, x, h, hs => by
  obtain ⟨h1, h2, h3, h4, h5⟩ := h
  rw [mapE_eq]
  refine ⟨hs x.f1 (by rw [xbc]; exact List.mem_cons_self), h2, h3, by rw [List.length_map]; exact h4, fun y hy => ?_⟩
  obtain ⟨k, hk, rfl⟩ := List.mem_map.1 hy
  exact ready_map f n k (h5 k hk) (fun t ht => hs t (by rw [xbc]; exact List.mem_cons_of_mem _ (kids_mem.2 ⟨k, hk, ht⟩)))
theorem terms_small : ∀ (n : Nat) (x : S31), ReadyE n x → ∀ t ∈ exprTermsL x, t.f0.size ≤ 140737488351232
 | 0, x, h, _, _ => h.elim
 | n + 1, x, h, t, ht => by
  rw [xbc] at ht
  rcases List.mem_cons.1 ht with rfl | ht
  ·exact h.1
  ·obtain ⟨k, hk, ht⟩ := kids_mem.1 ht
   exact terms_small n k (h.2.2.2.2 k hk) t ht
theorem xbd {bs : List S41} {x : S31} (h : deepB 8 x = true) : evalTop bs x = evalN bs 8 x := by unfold evalTop; rw [if_pos h]
theorem bindsFit_of {bs : List S41} (h : ∀ b ∈ bs, b.f0.size ≤ maxLen) : bindsFit bs = true := List.all_eq_true.2 (fun b hb => by simpa using h b hb)
theorem FBs_fit {bs : List S41} (h : FBs bs) : ∀ b ∈ bs, b.f0.size ≤ maxLen := fun b hb => by
 have h1 : b.f0.size ≤ 140737488351232 := (h.2 b hb).1
 unfold maxLen
 omega
theorem more_mem (vs : List ByteArray) (all : Bool) : ∀ (ms L : List S41), ∀ b ∈ ms.foldl (moreStep vs all) L, b ∈ ms ∨ b ∈ L
 | [], L, b, h => .inr h
 | m :: r, L, b, h => by
  rw [List.foldl_cons] at h
  rcases more_mem vs all r _ b h with h | h
  ·exact .inl (List.mem_cons_of_mem _ h)
  ·unfold moreStep at h
   split at h
   ·rcases List.mem_append.1 h with h | h
    ·exact .inr h
    ·exact .inl (by rw [List.mem_singleton.1 h]; exact List.mem_cons_self)
   ·split at h
    ·exact .inr h
    ·rcases List.mem_append.1 h with h | h
     ·exact .inl (by rw [List.mem_singleton.1 h]; exact List.mem_cons_self)
     ·exact .inr h
theorem kids_two {x : S31} (h : deepB 8 x = true) : x.f2.length ≤ 2 := by
 rw [deepB] at h
 by_cases h0 : x.f0 = 0
 ·rw [if_pos h0, Bool.and_eq_true, decide_eq_true_eq] at h
  omega
 ·rw [if_neg h0, Bool.and_eq_true, Bool.and_eq_true, decide_eq_true_eq] at h
  have har : arityOf x.f0 ≤ 2 := by unfold arityOf; repeat' split <;> omega
  have := h.1.2
  omega
theorem kid_deep {x k : S31} (h : deepB 8 x = true) (h0 : x.f0 ≠ 0) (hk : k ∈ x.f2) : deepB 7 k = true := by
 rw [deepB, if_neg h0, Bool.and_eq_true] at h
 exact List.all_eq_true.1 h.2 k hk
theorem checkExpr_ev (x : S31) : Ev (fun k => r4_CheckExpr.f k x.f0 x.f1.f0 x.f1.f1.f0 x.f1.f1.f1 x.f1.f1.f2 x.f2) (if deepB 8 x then 0 else 40) := by
 refine Ev.bind (g := fun _ t => (r4_said.f t).bind fun t155 => some t155) (expr_ev 8 (by decide) x) (Ev.const (fun k => ?_))
 cases deepB 8 x <;> rfl
theorem exprVars_ev (x : S31) (h : (exprTermsL x).length < 1000000000) : Ev (fun k => r4_ExprVars.f k x.f0 x.f1.f0 x.f1.f1.f0 x.f1.f1.f1 x.f1.f1.f2 x.f2) (varsOf (exprTermsL x)) := by
 have h1 : r4_exprTerms.f [] x.f0 x.f1.f0 x.f1.f1.f0 x.f1.f1.f1 x.f1.f1.f2 x.f2 = some (exprTermsL x) := by
  rw [r4_exprTerms.f, eta_expr]
  try dsimp only
  rw [if_pos (by simp; omega)]
  rfl
 have h2 := Ev.of_bind (g := fun t => some t) (refVars_ev (exprTermsL x) (by omega)) rfl
 exact h2.cong (fun k => by rw [r4_ExprVars.f, h1]; rfl)
theorem kE_kids {w : World} {x : S31} {cs : Array Value} (h : k31.K w x cs.toList) : ∃ A c, cs = #[.int .i8 x.f0, .string x.f1.f0, .int .i8 x.f1.f1.f0, .int .i64 x.f1.f1.f1, .string x.f1.f1.f2, .slice A x.f2.length c] ∧ x.f2.length ≤ c ∧ Kd.C k31 w A x.f2.length x.f2 := by
 obtain ⟨A, c, he, hc, hC⟩ := k31_open h
 exact ⟨A, c, by rw [← Array.toArray_toList (xs := cs), he], hc, hC⟩
set_option maxHeartbeats 4000000 in
set_option maxRecDepth 100000 in
theorem TermMeans_walk (x : S31) (h : FX x) (bs ms : List S41) (hb : FBs bs) (hm : FBs ms) (A1 : Option Addr) (c1 : Nat) (A2 : Option Addr) (c2 : Nat) (A3 : Option Addr) (c3 : Nat) (w : World) (hr1 : Kd.C k31 w A1 x.f2.length x.f2) (hc1 : x.f2.length ≤ c1) (hr2 : Kd.C k41 w A2 bs.length bs) (hc2 : bs.length ≤ c2) (hr3 : Kd.C k41 w A3 ms.length ms) (hc3 : ms.length ≤ c3) (hA : TabA w) :
  Calls Tryd.prog 3 #[.agg #[.int .i8 x.f0, .string x.f1.f0, .int .i8 x.f1.f1.f0, .int .i64 x.f1.f1.f1, .string x.f1.f1.f2, .slice A1 x.f2.length c1], .slice A2 bs.length c2, .slice A3 ms.length c3] w fun e w' => e = .returned (.bool true) ∧ Below w.heap.size w w' := by
 obtain ⟨b, hev, hq⟩ := expr_bound x h
 obtain ⟨kb, hkb⟩ := hev.at
 have HA := Lib.hid hA
 have HR1 := Lib.hid hr1
 have HR2 := Lib.hid hr2
 clear hr1 hr2 hA
 have hlen : bs.length ≤ 4000000000000 := by have h1 : bs.length * 48 ≤ 140737488351232 := hb.1; omega
 have hrd : deepB 8 x = true → ReadyE 8 x ∧ RangeE 8 x := by
  obtain ⟨n, hn⟩ := h
  exact fun hd => ready_of 8 n x hd hn
 have hck : (if deepB 8 x = true then (0 : Int) else 40) = 0 → deepB 8 x = true := fun e => by
  cases hd : deepB 8 x with
  | true => rfl
  | false => rw [hd, if_neg (by simp)] at e; exact absurd e (by decide)
 have hvs : ∃ vs : List ByteArray, vs.length ≤ 2000000 ∧ (b = true → vs = []) ∧ (b = false → vs = varsOf (exprTermsL x)) := by
  cases hbb : b with
  | true => exact ⟨[], by simp, fun _ => rfl, fun e => by cases e⟩
  | false => exact ⟨_, Nat.le_trans (varsOf_len _) (Nat.le_of_lt (hq hbb)), (fun e => by cases e), fun _ => rfl⟩
 obtain ⟨vs, hvl, hv1, hv2⟩ := hvs
 have hname : b = false → ∀ s, Named x s → inB vs s = true := by
  rintro hb0 s ⟨t, ht, rfl, e1, e2⟩
  rw [hv2 hb0]
  exact vars_in ht e1 e2
 have hsame1 : b = false → ∀ s, Named x s → boundV (ownOf bs vs) s = boundV bs s := fun hb0 s hs => by
  rw [xbp, xbp, firstB_own bs vs s (hname hb0 s hs)]
 have hall : b = false → allOf bs vs = true → ∀ s, Named x s → (firstB bs s).isSome = true ∧ valueOk (boundV bs s) = true := fun hb0 ha s hs => by
  obtain ⟨v, hv, he⟩ := inB_mem (hname hb0 s hs)
  have h1 : okB (firstB bs v) = true := List.all_eq_true.1 ha v hv
  rw [firstB_eq bs he] at h1
  refine ⟨?_, by rw [← okB_bound]; exact h1⟩
  cases hf : firstB bs s with
  | some q => rfl
  | none => rw [hf] at h1; cases h1
 have hfirst2 : b = false → ∀ s, Named x s → firstB (ms.foldl (moreStep vs (allOf bs vs)) (ownOf bs vs)) s = firstB bs s := fun hb0 s hs => by
  rw [firstB_more vs _ s (hname hb0 s hs) ms _ (fun ha => by rw [firstB_own bs vs s (hname hb0 s hs)]; exact (hall hb0 ha s hs).1), firstB_own bs vs s (hname hb0 s hs)]
 have hfitO : ∀ q ∈ ownOf bs vs, q.f0.size ≤ maxLen := fun q hq => FBs_fit hb q (ownOf_mem hq).2
 have hfitM : ∀ q ∈ ms.foldl (moreStep vs (allOf bs vs)) (ownOf bs vs), q.f0.size ≤ maxLen := fun q hq => by
  rcases more_mem vs _ ms _ q hq with h | h
  ·exact FBs_fit hm q h
  ·exact hfitO q h
 have hml : ms.length * 48 ≤ 140737488351232 := hm.1
 refine TermMeans_gen #[.int .i8 x.f0, .string x.f1.f0, .int .i8 x.f1.f1.f0, .int .i64 x.f1.f1.f1, .string x.f1.f1.f2, .slice A1 x.f2.length c1] rfl x.f0 x.f1.f0 x.f1.f1.f0 x.f1.f1.f1 x.f1.f1.f2 A1 c1 x.f2 rfl rfl rfl rfl rfl rfl bs ms A2 A3 c2 c3 w HR1.out HR2.out hc2 hr3 hc3 b (evalTop bs x).2.2.2 (evalTop bs x).1 (evalTop bs x).2.1 (evalTop bs x).2.2.1 (if deepB 8 x = true then (0 : Int) else 40) vs hvl hml hlen
  (fun ys => b = false → evalTop ys x = evalTop bs x ∧ bindsFit ys = true) (fun y => evalTop bs y)
  (fun ys v w1 => ∃ base, Kd.R k82 82 w1 base (fun _ => True) v (ys.map pairB) ∧ ys.length ≤ 2940000000000)
  (fun ys ct w1 => k31.K w1 (mapE (putP (ys.map pairB)) x) ct.toList)
  (Lib.hid ?_) (Lib.hid ?_) (Lib.hid ?_) (Lib.hid ?_) (Lib.hid ?_) (Lib.hid ?_) (Lib.hid ?_) (Lib.hid ?_) (Lib.hid ?_) (Lib.hid ?_) (Lib.hid ?_) (Lib.hid ?_) (Lib.hid ?_) (Lib.hid ?_) (Lib.hid ?_) (Lib.hid ?_) (Lib.hid ?_) (Lib.hid ?_) (Lib.hid ?_) (Lib.hid ?_) (Lib.hid ?_)
 ·intro w1 hb1
  exact w1_BeyondExpr.calls (k := kb) (r := b) (hr0_5 := Kd.C_below HR1.out hb1) (hc0_5 := hc1) (h := hkb)
 ·intro w1 hb1
  exact w4_lives.calls true w1 (HA.out.below hb1) rfl
 ·intro hb0 w1 A c ys hQ hb1 hC hc
  obtain ⟨e1, e2⟩ := hQ hb0
  refine term_Eval.calls x.f0 x.f1.f0 x.f1.f1.f0 x.f1.f1.f1 x.f1.f1.f2 A1 c1 x.f2 A c ys _ _ _ _ w1 (Kd.C_below HR1.out hb1) hc1 hC hc (HA.out.below hb1) ?_
  rw [term_Eval.f, eta_expr, if_pos ⟨e2, fun hd => (readyB_iff _ _).2 (hrd hd).1⟩, e1]
 ·intro hb0 w1 hb1
  obtain ⟨k, hk⟩ := (checkExpr_ev x).at
  exact r4_CheckExpr.calls (k := k) (hr0_5 := Kd.C_below HR1.out hb1) (hc0_5 := hc1) (h := hk)
 ·intro hb0 w1 hb1
  rw [hv2 hb0]
  obtain ⟨k, hk⟩ := (exprVars_ev x (by have := hq hb0; omega)).at
  exact r4_ExprVars.calls (k := k) (hr0_5 := Kd.C_below HR1.out hb1) (hc0_5 := hc1) (h := hk)
 ·intro s w1 A c hC hc
  have hi := in_ev s vs (by omega) _ 0 rfl (Nat.zero_le _)
  rw [List.drop_zero] at hi
  obtain ⟨k, hk⟩ := hi.at
  exact (r4_In.calls (k := k) (a0 := s) (A1 := A) (c1 := c) (l1 := vs) (r := inB vs s) (w := w1) hC hc hk).mono fun e w' ⟨he, hd⟩ => ⟨he, hd.below⟩
 ·exact fun _ => ⟨rfl, bindsFit_of (FBs_fit hb)⟩
 ·intro e hb0
  have hd := hck e
  exact ⟨by rw [xbd hd, xbd hd]; exact evalN_same _ _ 8 x hd (hsame1 hb0), bindsFit_of hfitO⟩
 ·intro e hb0
  have hd := hck e
  exact ⟨by rw [xbd hd, xbd hd]; exact evalN_same _ _ 8 x hd (fun s hs => by rw [xbp, xbp, hfirst2 hb0 s hs]), bindsFit_of hfitM⟩
 ·intro e
  have hd : deepB 8 x = false := by
   cases hq : deepB 8 x with
   | false => rfl
   | true => rw [hq, if_pos rfl] at e; exact absurd rfl e
  have e1 : evalTop bs x = (0, 0, ⟨#[]⟩, false) := by unfold evalTop; rw [if_neg (by rw [hd]; simp)]
  rw [e1]
  exact ⟨rfl, rfl, rfl, rfl⟩
 ·intro e ha
  have hd := hck e
  have hb0 : b = false := by
   cases hbb : b with
   | false => rfl
   | true => rw [hv1 hbb] at ha; cases ha
  obtain ⟨v, hv, hn⟩ : ∃ v ∈ vs, okB (firstB bs v) = false := by
   unfold allOf at ha
   rw [List.all_eq_false] at ha
   obtain ⟨v, hv, hn⟩ := ha
   exact ⟨v, hv, by simpa using hn⟩
  rw [hv2 hb0] at hv
  obtain ⟨t, ht, e1, e2, e3⟩ := vars_from hv
  rw [xbd hd, evalN_fails bs 8 x v hd ⟨t, ht, e1, by rw [e1]; exact e2, by rw [e1]; exact e3⟩ (by rw [← okB_bound]; exact hn)]
 ·rintro ys v w1 w2 ⟨base, hR, hl⟩ hb1
  exact ⟨base, Kd.R_below hR hb1, hl⟩
 ·exact fun ys ct w1 w2 h hb => k31.K_below hb h
 ·intro hb0 e ys w1 A c hb1 hC hc hl
  refine (w4_pairsOf.calls A c ys (ys.map pairB) w1 hC hc ?_).mono fun e w' ⟨v, he, hR, hb2⟩ => ⟨v, he, ⟨_, hR, hl⟩, hb2⟩
  rw [w4_pairsOf.f, if_pos (Nat.le_trans (Nat.mul_le_mul_right 64 (show _ ≤ 3700000000000 by omega)) (by decide))]
 ·rintro hb0 e ys v w1 hb1 ⟨base, hR, hl⟩
  obtain ⟨A, c, rfl, hc, hC⟩ := Kd.R_reads hR
  obtain ⟨k, hk⟩ := (apply_ev (ys.map pairB) (by rw [List.length_map]; omega) 8 x (hck e)).at
  refine (r4_ApplyExpr.calls (k := k) A c (ys.map pairB) x.f0 x.f1.f0 x.f1.f1.f0 x.f1.f1.f1 x.f1.f1.f2 A1 c1 x.f2 _ _ _ _ _ _ w1 hC hc (Kd.C_below HR1.out hb1) hc1 hk).mono ?_
  rintro ee w' ⟨v5, rfl, hR5, hb2⟩
  obtain ⟨A5, c5, rfl, h5, hC5⟩ := Kd.R_reads hR5
  exact ⟨_, rfl, k31_mk w' (mapE (putP (ys.map pairB)) x) h5 hC5, hb2⟩
 ·intro hb0 e ha ct w1 hb1 hK
  have hd := hck e
  have hput : ∀ t ∈ exprTermsL x, t.f0.toList ≠ [] → t.f0.toList ≠ [95] → putP ((ms.foldl (moreStep vs (allOf bs vs)) (ownOf bs vs)).map pairB) t = ⟨⟨#[]⟩, boundV bs t.f0⟩ ∧ valueOk (boundV bs t.f0) = true := fun t ht e1 e2 => by
   have hN : Named x t.f0 := ⟨t, ht, rfl, e1, e2⟩
   obtain ⟨h1, h2⟩ := hall hb0 ha t.f0 hN
   refine ⟨?_, h2⟩
   unfold putP
   rw [if_neg (by simp [e1, e2]), find_pairs, hfirst2 hb0 t.f0 hN, xbp]
   cases hf : firstB bs t.f0 with
   | none => rw [hf] at h1; cases h1
   | some q => rfl
  have hz : ∀ t : S28, t.f0.toList = [] → putP ((ms.foldl (moreStep vs (allOf bs vs)) (ownOf bs vs)).map pairB) t = t := fun t ht => by unfold putP; rw [if_pos (.inl ht)]
  obtain ⟨g1, g2⟩ := mapE_value bs _ hz 8 x hd hput
  obtain ⟨A5, c5, rfl, h5, hC5⟩ := kE_kids hK
  have hrx : ReadyE 8 (mapE (putP ((ms.foldl (moreStep vs (allOf bs vs)) (ownOf bs vs)).map pairB)) x) := ready_map _ 8 x (hrd hd).1 (fun t ht => by
   by_cases e1 : t.f0.toList = []
   ·rw [hz t e1]; exact terms_small 8 x (hrd hd).1 t ht
   ·by_cases e2 : t.f0.toList = [95]
    ·unfold putP; rw [if_pos (.inr e2)]; exact terms_small 8 x (hrd hd).1 t ht
    ·rw [(hput t ht e1 e2).1]; exact Nat.zero_le _)
  generalize mapE (putP ((ms.foldl (moreStep vs (allOf bs vs)) (ownOf bs vs)).map pairB)) x = y at *
  refine term_Eval.calls y.f0 y.f1.f0 y.f1.f1.f0 y.f1.f1.f1 y.f1.f1.f2 A5 c5 y.f2 none 0 [] _ _ _ _ w1 hC5 h5 (Kd.C_nil _ _) (Nat.le_refl _) (HA.out.below hb1) ?_
  rw [term_Eval.f, eta_expr, if_pos ⟨rfl, fun _ => (readyB_iff _ _).2 hrx⟩, xbd g1, g2, xbd hd]
 ·intro e h0
  have hd := hck e
  by_cases hn : x.f1.f0.toList = []
  ·refine .inr ⟨hn, ?_⟩
   rw [xbd hd, evalN, if_pos h0, if_pos hn]
   exact ⟨rfl, rfl, rfl, rfl⟩
  ·exact .inl hn
 ·exact fun e => kids_two (hck e)
 ·intro hb0 e h0 y hy cs w1 hb1 hK
  have hd := hck e
  have hry : ReadyE 8 y := by
   obtain ⟨n, hn⟩ := h
   match n, hn with
   | 0, hn => exact hn.elim
   | n + 1, hn => exact (ready_of 8 n y (deep_up 7 y (kid_deep hd h0 hy)) (hn.2.2.2 y hy)).1
  obtain ⟨A5, c5, rfl, h5, hC5⟩ := kE_kids hK
  refine term_Eval.calls y.f0 y.f1.f0 y.f1.f1.f0 y.f1.f1.f1 y.f1.f1.f2 A5 c5 y.f2 A2 c2 bs _ _ _ _ w1 hC5 h5 (Kd.C_below HR2.out hb1) hc2 (HA.out.below hb1) ?_
  rw [term_Eval.f, eta_expr, if_pos ⟨bindsFit_of (FBs_fit hb), fun _ => (readyB_iff _ _).2 hry⟩]
 ·intro e h0 y hy hf
  have hd := hck e
  have hk7 := kid_deep hd h0 hy
  rw [xbd (deep_up 7 y hk7), evalN_up bs 7 y hk7] at hf
  rw [xbd hd, evalN, if_neg h0, if_neg (fun ha => by have := List.all_eq_true.1 ha y hy; rw [hf] at this; cases this)]
 ·intro hb0 e h0 hal w1 A c hb1 hC hc
  have hd := hck e
  have hk : ∀ y ∈ x.f2, evalTop bs y = evalN bs 7 y := fun y hy => by rw [xbd (deep_up 7 y (kid_deep hd h0 hy)), evalN_up bs 7 y (kid_deep hd h0 hy)]
  have hmap : x.f2.map (fun y => asV (evalTop bs y)) = x.f2.map (fun y => asV (evalN bs 7 y)) := List.map_congr_left (fun y hy => by rw [hk y hy])
  have hal2 : x.f2.all (fun y => (evalN bs 7 y).2.2.2) = true := List.all_eq_true.2 (fun y hy => by rw [← hk y hy]; exact List.all_eq_true.1 hal y hy)
  have hres : evalTop bs x = arithV x.f0 (x.f2.map (fun y => asV (evalTop bs y))) := by rw [xbd hd, evalN, if_neg h0, if_pos hal2, hmap]
  have hR := (hrd hd).1
  have hlm : (x.f2.map (fun y => asV (evalTop bs y))).length = x.f2.length := List.length_map _
  rw [← hlm] at hC hc ⊢
  refine value_Arith.calls x.f0 A c (x.f2.map (fun y => asV (evalTop bs y))) _ _ _ _ w1 hC hc ?_ (HA.out.below hb1)
  rw [value_Arith.f, if_pos ⟨hR.2.1, hR.2.2.1⟩, ← hres]
end Go.Proofs.YtllcmggmcogokaaDoor.PAll
end
section
namespace Go.Proofs.YtllcmggmcogokaaDoor.RowTermMeans
open Go.ChangeShapes Go.WideShapes Go.ChangeAt Go.RowKit Go.Proofs.YtllcmggmcogokaaDoorW.PrintWords Go.Proofs.YtllcmggmcogokaaDoor.PAll
theorem own : ownKnob Tryd.prog.godebug = none := by kernel_rfl
theorem laidOut : laidOutB Tryd.prog = true := by kernel_rfl
theorem aName : Tryd.prog.globalNamed "pedigree/value.takes" = some 0 := by kernel_rfl
theorem aType : (Tryd.prog.globals[0]?).map (·.type) = some 110 := by kernel_rfl
theorem cellsA : Tryd.prog.cellsOf 110 = 11 := by kernel_rfl
theorem cellsW : Tryd.prog.cellsOf 22 = 1 := by kernel_rfl
set_option maxRecDepth 100000 in
theorem tables {W : World} (h : laidMetH Tryd.prog Rows.termMeansRow.laid W) : TabA W := by
 have h' : laidMet Tryd.prog Rows.termMeansRow.laid W := h
 obtain ⟨ps, ⟨g4, t4, cs4, fuel4, p4, q4, hg4, ht4, hvar4, hd4, _, _⟩, _⟩ := h'
 obtain rfl := Option.some.inj (aName.symm.trans hg4)
 obtain rfl := Option.some.inj (aType.symm.trans ht4)
 have hd4' : DataW.trod (fun _ => ()) Tryd.prog W 0 (fun _ => true) false fuel4 110 cs4.toList = some (Lib.tabData .i8 [0, 1, 2, 2, 2, 2, 2, 4, 3, 3, 3], p4) := hd4
 unfold TabA Lib.TabIs
 rw [hvar4, ← Lib.cells_of_tab Tryd.underlying110 Tryd.underlying22 cellsW cellsA hd4']
set_option maxRecDepth 100000 in
theorem contract (H : Type) (enc : TypeId × Value → H) (W : World) (base : Nat) (args : Array Value) (ds gs : List (DataW H)) (before : List MemPlace)
  (hval : ∀ (j : Nat) t v, Tryd.f3.params[j]? = some t → args[j]? = some v → Value.okWide Tryd.prog W .any base t v)
  (hW : DataW.Whole enc Tryd.prog Tryd.f3.params.toList Rows.termMeansSpec.vars false W args.toList ds gs before)
  (hz : (DataW.weightsEach Tryd.prog (Tryd.f3.params.toList ++ Rows.termMeansSpec.plain.varTypes Tryd.prog) (ds ++ gs)).all (· ≤ reachBytes) = true) (hL : laidMetH Tryd.prog Rows.termMeansRow.laid W) :
  Calls Tryd.prog 3 args W fun e W' => ∃ v, e = .returned v ∧ Rows.termMeansSpec.post enc Tryd.prog Tryd.f3 false true false false W args v W' := by
 have hW' := hW
 obtain ⟨p, q, hA0, hV, rfl, hfz, hnd⟩ := hW
 have hA : DataW.TrodAll enc Tryd.prog W 0 (fun _ => true) true Tryd.f3.params.toList args.toList ds p := hA0
 rw [Tryd.params3] at hA hval
 obtain ⟨v0, vs0, d0, ds0, p0, q0, hargs, rfl, rfl, h0, r0⟩ := trodAll_cons hA
 obtain ⟨v1, vs1, d1, ds1, p1, q1, rfl, rfl, rfl, h1, r1⟩ := trodAll_cons r0
 obtain ⟨v2, vs2, d2, ds2, p2, q2, rfl, rfl, rfl, h2, r2⟩ := trodAll_cons r1
 obtain ⟨rfl, rfl, rfl⟩ := trodAll_nil r2
 obtain rfl : args = #[v0, v1, v2] := by rw [← Array.toArray_toList (xs := args), hargs]
 obtain ⟨rfl, rfl⟩ := trodVars_none hV
 obtain ⟨cs, rfl, hsz⟩ := okWide_struct Tryd.underlying31 (hval 0 31 v0 rfl rfl)
 obtain ⟨A2, len2, c2, rfl⟩ := okWide_slice Tryd.underlying32 (hval 1 32 v1 rfl rfl)
 obtain ⟨A3, len3, c3, rfl⟩ := okWide_slice Tryd.underlying32 (hval 2 32 v2 rfl rfl)
 have h0k := h0
 have h1k := h1
 have h2k := h2
 obtain ⟨fuel, hf⟩ := h0
 obtain ⟨fuel1, hf1⟩ := h1
 obtain ⟨fuel2, hf2⟩ := h2
 have hww : ∀ n, (n ∈ d0.weights Tryd.prog 31 ∨ n ∈ d1.weights Tryd.prog 32 ∨ n ∈ d2.weights Tryd.prog 32) → n ≤ reachBytes := by
  intro n hn
  have := List.all_eq_true.1 hz n (by
   rw [Tryd.params3]
   simp only [List.cons_append, List.nil_append, DataW.weightsEach]
   rcases hn with hn | hn | hn
   ·exact List.mem_append_left _ hn
   ·exact List.mem_append_right _ (List.mem_append_left _ hn)
   ·exact List.mem_append_right _ (List.mem_append_right _ (List.mem_append_left _ hn)))
  simpa using this
 obtain ⟨x, hK, hF⟩ := opens_expr fuel H enc W cs.toList (d0, p0) hf (fun n hn => hww n (.inl hn))
 obtain ⟨bs, hK1, hF1⟩ := opens_binds fuel1 H enc W _ (d1, p1) hf1 (fun n hn => hww n (.inr (.inl hn)))
 obtain ⟨ms, hK2, hF2⟩ := opens_binds fuel2 H enc W _ (d2, p2) hf2 (fun n hn => hww n (.inr (.inr hn)))
 obtain ⟨A1, c1, he, hc1, hr1⟩ := k31_open hK
 obtain rfl : cs = _ := by rw [← Array.toArray_toList (xs := cs), he]
 obtain ⟨B2, e2, he2, hc2, hr2⟩ := hK1
 obtain ⟨rfl, rfl, rfl⟩ : A2 = B2 ∧ len2 = bs.length ∧ c2 = e2 := by simpa [Value.cells] using he2
 obtain ⟨B3, e3, he3, hc3, hr3⟩ := hK2
 obtain ⟨rfl, rfl, rfl⟩ : A3 = B3 ∧ len3 = ms.length ∧ c3 = e3 := by simpa [Value.cells] using he3
 simp only [List.append_nil] at hW'
 have hTA := tables hL
 refine (TermMeans_walk x hF bs ms hF1 hF2 A1 c1 _ _ _ _ W hr1 hc1 hr2 hc2 hr3 hc3 hTA).mono fun ee W' ⟨he2, hb⟩ => ?_
 subst he2
 have hlt : ∀ y ∈ p0 ++ (p1 ++ p2), y.block < W.heap.size := fun y hy => by simpa using hW'.lt y (by simpa using hy)
 exact ⟨_, rfl, ⟨[d0, d1, d2], [], _, [], p0 ++ (p1 ++ p2), [], hW', trodAll_mk1 (shut_bool Tryd.underlying4 _), trodAll_mk3 (Below.trod laidOut (by kernel_rfl) (of_decide_eq_true (by kernel_rfl)) h0k hb (fun y hy => hlt y (List.mem_append_left _ hy))) (Below.trod laidOut (by kernel_rfl) (of_decide_eq_true (by kernel_rfl)) h1k hb (fun y hy => hlt y (List.mem_append_right _ (List.mem_append_left _ hy)))) (Below.trod laidOut (by kernel_rfl) (of_decide_eq_true (by kernel_rfl)) h2k hb (fun y hy => hlt y (List.mem_append_right _ (List.mem_append_right _ hy)))), rfl, hb.frame _, fun h => by cases h⟩⟩
noncomputable def laidHeap (h : Array Obj) : Array Obj :=
 h.modify 0 fun
   | .cells _ t frozen => .cells (([0, 1, 2, 2, 2, 2, 2, 4, 3, 3, 3] : List Int).map fun z => Value.int .i8 z).toArray t frozen
   | o => o
noncomputable def laidWorld (os : Os) : World :=
 { World.holding Tryd.prog os ⟨#[], #[], []⟩ with heap := laidHeap (World.holding Tryd.prog os ⟨#[], #[], []⟩).heap }
def lit0 : Value := .agg #[.int .i8 0, .string ⟨#[]⟩, .int .i8 0, .int .i64 0, .string ⟨#[]⟩, .slice none 0 0]
def lit1 : Value := .slice none 0 0
def dat0 {H : Type} : DataW H := .agg [.lit (.int .i8 0), .agg [.lit (.string []), .agg [.lit (.int .i8 0), .lit (.int .i64 0), .lit (.string [])]], .nil]
set_option maxRecDepth 100000 in
theorem laid_met (os : Os) : laidMet Tryd.prog Rows.termMeansRow.laid ((laidWorld os).forCall (fun _ _ => 0) ⟨#[], #[lit0, lit1, lit1], []⟩).memory :=
 laidMet_of_run' 8 (by kernel_rfl) (by kernel_rfl)
set_option maxRecDepth 100000 in
theorem reads (os : Os) {H : Type} (enc : TypeId × Value → H) : ∃ places, DataW.whole enc Tryd.prog ((laidWorld os).forCall (fun _ _ => 0) ⟨#[], #[lit0, lit1, lit1], []⟩).memory Tryd.f3.params.toList Rows.termMeansSpec.vars false #[lit0, lit1, lit1].toList 8 = some ([dat0, .nil, .nil], [], places) :=
 ⟨[], by kernel_rfl⟩
set_option maxRecDepth 100000 in
theorem lifted (os : Os) (started : os.Started) (H : Type) (enc : TypeId × Value → H) (F : Stop.Interp) :
  ReturnsInHanded {} Tryd.checked os 3 .any ((OpenSpec.ofChange Rows.termMeansSpec).preRow enc Tryd.prog Tryd.f3 Rows.termMeansRow.domain false Rows.termMeansRow.laid) (((OpenSpec.ofChange Rows.termMeansSpec).at F).post enc Tryd.prog Tryd.f3 false true false false) := by
 obtain ⟨places, hx⟩ := reads os enc
 refine returnsInHanded_of_row (C := Tryd.checked) (s := OpenSpec.ofChange Rows.termMeansSpec) own started (by kernel_rfl) Tryd.func3
  (witness_row_at (enc := enc) (C := Tryd.checked) false (laidWorld os) #[lit0, lit1, lit1] rfl (by kernel_rfl) (by kernel_rfl) (by kernel_rfl)
   (OpenSpec.preRow_of_cond 8 hx (by kernel_rfl) (fun k hk => by cases hk) (by kernel_rfl) (laid_met os))) ?_
 intro W base args ds gs before hval hW _ _ hz hL _ _
 exact contract H enc W base args ds gs before hval hW hz hL
theorem said : Rows.TermMeansSaid :=
 OpenClaim.holds_of_cond 3 Tryd.f3 rfl rfl rfl rfl rfl rfl rfl ⟨rfl, rfl, rfl, rfl, rfl⟩ rfl rfl rfl rfl rfl (by kernel_rfl) Tryd.func3 (by kernel_rfl)
  (of_decide_eq_true (by kernel_rfl)) (by unfold Func.isWrapper; first | (rw [if_pos (by decide +kernel)]; kernel_rfl) | (rw [if_neg (by decide +kernel)]; exact ⟨rfl, rfl⟩))
  (fun os started H enc _ F => by rw [OpenClaim.pre_eq_preRow]; exact lifted os started H enc F)
theorem plain (f : FuncId) (fn : Func) (hf : Tryd.pinned.checked.prog.funcNamed "pedigree/pedigreelaw04.TermMeans" = some f) (hfn : Tryd.pinned.checked.prog.funcs[f]? = some fn) :
  true = Tryd.pinned.checked.prog.looks [] ∧ ∀ (j : Nat) t, fn.params[j]? = some t → Tryd.pinned.checked.prog.wantsStandIn t = false := by
 obtain rfl : f = 3 := Option.some.inj ((show Tryd.prog.funcNamed "pedigree/pedigreelaw04.TermMeans" = some 3 by kernel_rfl).symm.trans hf) |>.symm
 obtain rfl : fn = Tryd.f3 := (Option.some.inj (Tryd.func3.symm.trans hfn)).symm
 refine ⟨by kernel_rfl, fun j t ht => ?_⟩
 rw [Tryd.params3] at ht
 have hm : t = 31 ∨ t = 32 ∨ t = 32 := by simpa using Array.mem_of_getElem? ht
 rcases hm with rfl | rfl | rfl
 ·exact (show Tryd.prog.wantsStandIn 31 = false by kernel_rfl)
 ·exact (show Tryd.prog.wantsStandIn 32 = false by kernel_rfl)
 ·exact (show Tryd.prog.wantsStandIn 32 = false by kernel_rfl)
theorem card : Rows.TermMeansCardSaid :=
 Claim7.holds_tied_plain_at .later [] _ _ _ _ said (fun _ h => by cases h) (by kernel_rfl) (fun _ h => by cases h) termMeans_row_tie rfl ⟨rfl, rfl⟩ (by kernel_rfl) rfl plain (by kernel_rfl)
end Go.Proofs.YtllcmggmcogokaaDoor.RowTermMeans
end
