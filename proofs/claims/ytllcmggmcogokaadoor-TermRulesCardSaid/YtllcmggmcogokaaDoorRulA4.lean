-- Written by programs of this work and by hand, joined by a program. Lean checks it.
import Derived.Lib.LaidTab
import Derived.WalkSmall
import Derived.Shelf.Strconv.Itoa1
import Derived.Shelf.Strconv.Itoa0
import Derived.Shelf.LaysM
import Derived.Shelf.Strconv.Itoa2
import Derived.Shelf.Strconv.Itoa3
import Derived.Test.YtllcmggmcogokaaDoorProg
import Derived.Test.YtllcmggmcogokaaDoorRulA3
set_option linter.unusedVariables false
set_option linter.unusedSimpArgs false
section
namespace Go.Proofs.YtllcmggmcogokaaDoor.PAll
open Go.RowKit Go.Proofs.YtllcmggmcogokaaDoorW.PrintWords Go.Proofs.YtllcmggmcogokaaDoorW.PrintLast Go.Proofs.YtllcmggmcogokaaDoorW.PrintMore
attribute [local go_sem] max2_int min2_int max_two min_two max_three min_three max_four min_four
set_option maxHeartbeats 4000000 in
set_option maxRecDepth 100000 in
theorem vars1_empty (w0 : World) (w : World) (p : Addr) (s : ByteArray) (h0 : w.cell? p = some (.string s)) (hs : s.toList = []) :
  Calls Tryd.prog 109 #[.pointer (some p), .pointer (some ⟨w0.heap.size + 2, 0, none⟩), .pointer (some ⟨w0.heap.size, 0, none⟩)] w fun e w' => e = .returned (.tuple #[]) ∧ w' = w.drew := by
 have hs1 : (s.toList == ([] : List UInt8)) = true := by rw [hs]; rfl
 have hs2 : s.toList.isEmpty = true := by rw [hs]; rfl
 clear hs
 go_enter Tryd.func109, Tryd.ntmps109
 go_wp2_with fail
 refine start_ (n := 21) (S := fun w' => w'.cell? p = some (.string s)) (ds := []) #[false, false, false, false, false, false, false, false, false, false, false, false, false, false, false, false, false, false, false, false, false] (by kernel_rfl) rfl rfl (h0) (fun hHeld => ?_)
 refine pure_ (i := 0) (N := some 4) (v := ?_) (a' := ?_) #[true, false, false, false, false, false, false, false, false, false, false, false, false, false, false, false, false, false, false, false, false] rfl rfl (by kernel_rfl) (fun _ _ _ h => h) (Or.inl ⟨by rfl, ?_⟩) ?_ ?_
 rotate_left
 ·intro w'
  go_simp
  with_reducible rfl
 rotate_left
 ·simp only [Act.put, sI, sZ, sS, i64_w, i32_w]
  rfl
 refine pure_ (i := 1) (N := some 5) (v := ?_) (a' := ?_) #[true, true, false, false, false, false, false, false, false, false, false, false, false, false, false, false, false, false, false, false, false] rfl rfl (by kernel_rfl) (fun _ _ _ h => h) (Or.inl ⟨by rfl, ?_⟩) ?_ ?_
 rotate_left
 ·intro w'
  go_simp
  with_reducible rfl
 rotate_left
 ·simp only [Act.put, sI, sZ, sS, i64_w, i32_w]
  rfl
 refine pure_ (i := 2) (N := some 6) (v := ?_) (a' := ?_) #[true, true, true, false, false, false, false, false, false, false, false, false, false, false, false, false, false, false, false, false, false] rfl rfl (by kernel_rfl) (fun _ _ _ h => h) (Or.inl ⟨by rfl, ?_⟩) ?_ ?_
 rotate_left
 ·intro w'
  go_simp
  with_reducible rfl
 rotate_left
 ·simp only [Act.put, sI, sZ, sS, i64_w, i32_w]
  rfl
 refine take_ (i := 3) (N := some 7) (v := ?_) (a' := ?_) #[true, true, true, true, false, false, false, false, false, false, false, false, false, false, false, false, false, false, false, false, false] rfl rfl (by kernel_rfl) (fun _ _ _ h => h) (Or.inl ⟨by rfl, ?_⟩) hHeld ?_ ?_
 rotate_left
 ·intro w' s0
  go_simp
  with_reducible rfl
 rotate_left
 ·simp only [Act.put, sI, sZ, sS, i64_w, i32_w]
  rfl
 refine pure_ (i := 4) (N := some 8) (v := ?_) (a' := ?_) #[true, true, true, true, true, false, false, false, false, false, false, false, false, false, false, false, false, false, false, false, false] rfl rfl (by kernel_rfl) (fun _ _ _ h => h) (Or.inl ⟨by rfl, ?_⟩) ?_ ?_
 rotate_left
 ·intro w'
  go_simp
  with_reducible rfl
 rotate_left
 ·simp only [Act.put, sI, sZ, sS, i64_w, i32_w]
  rfl
 refine pure_ (i := 5) (N := some 9) (v := ?_) (a' := ?_) #[true, true, true, true, true, true, false, false, false, false, false, false, false, false, false, false, false, false, false, false, false] rfl rfl (by kernel_rfl) (fun _ _ _ h => h) (Or.inl ⟨by rfl, ?_⟩) ?_ ?_
 rotate_left
 ·intro w'
  go_simp
  with_reducible rfl
 rotate_left
 ·simp only [Act.put, sI, sZ, sS, i64_w, i32_w]
  rfl
 refine pure_ (i := 6) (N := some 10) (v := undef) (a' := ?_) #[true, true, true, true, true, true, true, false, false, false, false, false, false, false, false, false, false, false, false, false, false] rfl rfl (by kernel_rfl) (fun _ _ _ h => h) (Or.inr ⟨by rfl, rfl⟩) ?_ ?_
 rotate_left
 ·simp only [Act.put, sI, sZ, sS, i64_w, i32_w]
  rfl
 refine pure_ (i := 7) (N := some 11) (v := undef) (a' := ?_) #[true, true, true, true, true, true, true, true, false, false, false, false, false, false, false, false, false, false, false, false, false] rfl rfl (by kernel_rfl) (fun _ _ _ h => h) (Or.inr ⟨by rfl, rfl⟩) ?_ ?_
 rotate_left
 ·simp only [Act.put, sI, sZ, sS, i64_w, i32_w]
  rfl
 refine pure_ (i := 8) (N := some 12) (v := undef) (a' := ?_) #[true, true, true, true, true, true, true, true, true, false, false, false, false, false, false, false, false, false, false, false, false] rfl rfl (by kernel_rfl) (fun _ _ _ h => h) (Or.inr ⟨by rfl, rfl⟩) ?_ ?_
 rotate_left
 ·simp only [Act.put, sI, sZ, sS, i64_w, i32_w]
  rfl
 refine pure_ (i := 9) (N := some 13) (v := undef) (a' := ?_) #[true, true, true, true, true, true, true, true, true, true, false, false, false, false, false, false, false, false, false, false, false] rfl rfl (by kernel_rfl) (fun _ _ _ h => h) (Or.inr ⟨by rfl, rfl⟩) ?_ ?_
 rotate_left
 ·simp only [Act.put, sI, sZ, sS, i64_w, i32_w]
  rfl
 refine pure_ (i := 10) (N := some 14) (v := undef) (a' := ?_) #[true, true, true, true, true, true, true, true, true, true, true, false, false, false, false, false, false, false, false, false, false] rfl rfl (by kernel_rfl) (fun _ _ _ h => h) (Or.inr ⟨by rfl, rfl⟩) ?_ ?_
 rotate_left
 ·simp only [Act.put, sI, sZ, sS, i64_w, i32_w]
  rfl
 refine pure_ (i := 11) (N := some 15) (v := ?_) (a' := ?_) #[true, true, true, true, true, true, true, true, true, true, true, true, false, false, false, false, false, false, false, false, false] rfl rfl (by kernel_rfl) (fun _ _ _ h => h) (Or.inl ⟨by rfl, ?_⟩) ?_ ?_
 rotate_left
 ·intro w'
  go_simp
  with_reducible rfl
 rotate_left
 ·simp only [Act.put, sI, sZ, sS, i64_w, i32_w]
  rfl
 refine pure_ (i := 12) (N := some 16) (v := ?_) (a' := ?_) #[true, true, true, true, true, true, true, true, true, true, true, true, true, false, false, false, false, false, false, false, false] rfl rfl (by kernel_rfl) (fun _ _ _ h => h) (Or.inl ⟨by rfl, ?_⟩) ?_ ?_
 rotate_left
 ·intro w'
  go_simp
  with_reducible rfl
 rotate_left
 ·simp only [Act.put, sI, sZ, sS, i64_w, i32_w]
  rfl
 refine pure_ (i := 13) (N := some 17) (v := undef) (a' := ?_) #[true, true, true, true, true, true, true, true, true, true, true, true, true, true, false, false, false, false, false, false, false] rfl rfl (by kernel_rfl) (fun _ _ _ h => h) (Or.inr ⟨by rfl, rfl⟩) ?_ ?_
 rotate_left
 ·simp only [Act.put, sI, sZ, sS, i64_w, i32_w]
  rfl
 refine pure_ (i := 14) (N := some 18) (v := undef) (a' := ?_) #[true, true, true, true, true, true, true, true, true, true, true, true, true, true, true, false, false, false, false, false, false] rfl rfl (by kernel_rfl) (fun _ _ _ h => h) (Or.inr ⟨by rfl, rfl⟩) ?_ ?_
 rotate_left
 ·simp only [Act.put, sI, sZ, sS, i64_w, i32_w]
  rfl
 refine pure_ (i := 15) (N := some 19) (v := undef) (a' := ?_) #[true, true, true, true, true, true, true, true, true, true, true, true, true, true, true, true, false, false, false, false, false] rfl rfl (by kernel_rfl) (fun _ _ _ h => h) (Or.inr ⟨by rfl, rfl⟩) ?_ ?_
 rotate_left
 ·simp only [Act.put, sI, sZ, sS, i64_w, i32_w]
  rfl
 refine pure_ (i := 16) (N := some 20) (v := undef) (a' := ?_) #[true, true, true, true, true, true, true, true, true, true, true, true, true, true, true, true, true, false, false, false, false] rfl rfl (by kernel_rfl) (fun _ _ _ h => h) (Or.inr ⟨by rfl, rfl⟩) ?_ ?_
 rotate_left
 ·simp only [Act.put, sI, sZ, sS, i64_w, i32_w]
  rfl
 refine pure_ (i := 17) (N := some 21) (v := undef) (a' := ?_) #[true, true, true, true, true, true, true, true, true, true, true, true, true, true, true, true, true, true, false, false, false] rfl rfl (by kernel_rfl) (fun _ _ _ h => h) (Or.inr ⟨by rfl, rfl⟩) ?_ ?_
 rotate_left
 ·simp only [Act.put, sI, sZ, sS, i64_w, i32_w]
  rfl
 refine pure_ (i := 18) (N := some 22) (v := undef) (a' := ?_) #[true, true, true, true, true, true, true, true, true, true, true, true, true, true, true, true, true, true, true, false, false] rfl rfl (by kernel_rfl) (fun _ _ _ h => h) (Or.inr ⟨by rfl, rfl⟩) ?_ ?_
 rotate_left
 ·simp only [Act.put, sI, sZ, sS, i64_w, i32_w]
  rfl
 refine pure_ (i := 19) (N := some 23) (v := undef) (a' := ?_) #[true, true, true, true, true, true, true, true, true, true, true, true, true, true, true, true, true, true, true, true, false] rfl rfl (by kernel_rfl) (fun _ _ _ h => h) (Or.inr ⟨by rfl, rfl⟩) ?_ ?_
 rotate_left
 ·simp only [Act.put, sI, sZ, sS, i64_w, i32_w]
  rfl
 refine pure_ (i := 20) (N := some 24) (v := ?_) (a' := ?_) #[true, true, true, true, true, true, true, true, true, true, true, true, true, true, true, true, true, true, true, true, true] rfl rfl (by kernel_rfl) (fun _ _ _ h => h) (Or.inl ⟨by rfl, ?_⟩) ?_ ?_
 rotate_left
 ·intro w'
  go_simp
  with_reducible rfl
 rotate_left
 ·simp only [Act.put, sI, sZ, sS, i64_w, i32_w]
  rfl
 refine done_ (by kernel_rfl) ?_
 go_wp2_with fail
 refine bodyPost_ret (results_none rfl _ _ _) rfl ?_
 exact ⟨rfl, rfl⟩
set_option maxHeartbeats 4000000 in
set_option maxRecDepth 100000 in
theorem vars1_blank (w0 : World) (w : World) (p : Addr) (s : ByteArray) (h0 : w.cell? p = some (.string s)) (hs : s.toList = [95]) :
  Calls Tryd.prog 109 #[.pointer (some p), .pointer (some ⟨w0.heap.size + 2, 0, none⟩), .pointer (some ⟨w0.heap.size, 0, none⟩)] w fun e w' => e = .returned (.tuple #[]) ∧ w' = w.drew := by
 have hs1 : (s.toList == ([] : List UInt8)) = false := by rw [hs]; rfl
 have hs2 : s.toList.isEmpty = false := by rw [hs]; rfl
 have hs3 : (s.toList == ([95] : List UInt8)) = true := by rw [hs]; rfl
 clear hs
 go_enter Tryd.func109, Tryd.ntmps109
 go_wp2_with fail
 refine start_ (n := 21) (S := fun w' => w'.cell? p = some (.string s)) (ds := []) #[false, false, false, false, false, false, false, false, false, false, false, false, false, false, false, false, false, false, false, false, false] (by kernel_rfl) rfl rfl (h0) (fun hHeld => ?_)
 refine pure_ (i := 0) (N := some 4) (v := ?_) (a' := ?_) #[true, false, false, false, false, false, false, false, false, false, false, false, false, false, false, false, false, false, false, false, false] rfl rfl (by kernel_rfl) (fun _ _ _ h => h) (Or.inl ⟨by rfl, ?_⟩) ?_ ?_
 rotate_left
 ·intro w'
  go_simp
  with_reducible rfl
 rotate_left
 ·simp only [Act.put, sI, sZ, sS, i64_w, i32_w]
  rfl
 refine pure_ (i := 1) (N := some 5) (v := ?_) (a' := ?_) #[true, true, false, false, false, false, false, false, false, false, false, false, false, false, false, false, false, false, false, false, false] rfl rfl (by kernel_rfl) (fun _ _ _ h => h) (Or.inl ⟨by rfl, ?_⟩) ?_ ?_
 rotate_left
 ·intro w'
  go_simp
  with_reducible rfl
 rotate_left
 ·simp only [Act.put, sI, sZ, sS, i64_w, i32_w]
  rfl
 refine pure_ (i := 2) (N := some 6) (v := ?_) (a' := ?_) #[true, true, true, false, false, false, false, false, false, false, false, false, false, false, false, false, false, false, false, false, false] rfl rfl (by kernel_rfl) (fun _ _ _ h => h) (Or.inl ⟨by rfl, ?_⟩) ?_ ?_
 rotate_left
 ·intro w'
  go_simp
  with_reducible rfl
 rotate_left
 ·simp only [Act.put, sI, sZ, sS, i64_w, i32_w]
  rfl
 refine take_ (i := 3) (N := some 7) (v := ?_) (a' := ?_) #[true, true, true, true, false, false, false, false, false, false, false, false, false, false, false, false, false, false, false, false, false] rfl rfl (by kernel_rfl) (fun _ _ _ h => h) (Or.inl ⟨by rfl, ?_⟩) hHeld ?_ ?_
 rotate_left
 ·intro w' s0
  go_simp
  with_reducible rfl
 rotate_left
 ·simp only [Act.put, sI, sZ, sS, i64_w, i32_w]
  rfl
 refine pure_ (i := 4) (N := some 8) (v := ?_) (a' := ?_) #[true, true, true, true, true, false, false, false, false, false, false, false, false, false, false, false, false, false, false, false, false] rfl rfl (by kernel_rfl) (fun _ _ _ h => h) (Or.inl ⟨by rfl, ?_⟩) ?_ ?_
 rotate_left
 ·intro w'
  go_simp
  with_reducible rfl
 rotate_left
 ·simp only [Act.put, sI, sZ, sS, i64_w, i32_w]
  rfl
 refine pure_ (i := 5) (N := some 9) (v := ?_) (a' := ?_) #[true, true, true, true, true, true, false, false, false, false, false, false, false, false, false, false, false, false, false, false, false] rfl rfl (by kernel_rfl) (fun _ _ _ h => h) (Or.inl ⟨by rfl, ?_⟩) ?_ ?_
 rotate_left
 ·intro w'
  go_simp
  with_reducible rfl
 rotate_left
 ·simp only [Act.put, sI, sZ, sS, i64_w, i32_w]
  rfl
 refine pure_ (i := 6) (N := some 10) (v := ?_) (a' := ?_) #[true, true, true, true, true, true, true, false, false, false, false, false, false, false, false, false, false, false, false, false, false] rfl rfl (by kernel_rfl) (fun _ _ _ h => h) (Or.inl ⟨by rfl, ?_⟩) ?_ ?_
 rotate_left
 ·intro w'
  go_simp
  with_reducible rfl
 rotate_left
 ·simp only [Act.put, sI, sZ, sS, i64_w, i32_w]
  rfl
 refine pure_ (i := 7) (N := some 11) (v := ?_) (a' := ?_) #[true, true, true, true, true, true, true, true, false, false, false, false, false, false, false, false, false, false, false, false, false] rfl rfl (by kernel_rfl) (fun _ _ _ h => h) (Or.inl ⟨by rfl, ?_⟩) ?_ ?_
 rotate_left
 ·intro w'
  go_simp
  with_reducible rfl
 rotate_left
 ·simp only [Act.put, sI, sZ, sS, i64_w, i32_w]
  rfl
 refine pure_ (i := 8) (N := some 12) (v := ?_) (a' := ?_) #[true, true, true, true, true, true, true, true, true, false, false, false, false, false, false, false, false, false, false, false, false] rfl rfl (by kernel_rfl) (fun _ _ _ h => h) (Or.inl ⟨by rfl, ?_⟩) ?_ ?_
 rotate_left
 ·intro w'
  go_simp
  with_reducible rfl
 rotate_left
 ·simp only [Act.put, sI, sZ, sS, i64_w, i32_w]
  rfl
 refine take_ (i := 9) (N := some 13) (v := ?_) (a' := ?_) #[true, true, true, true, true, true, true, true, true, true, false, false, false, false, false, false, false, false, false, false, false] rfl rfl (by kernel_rfl) (fun _ _ _ h => h) (Or.inl ⟨by rfl, ?_⟩) hHeld ?_ ?_
 rotate_left
 ·intro w' s0
  go_simp
  with_reducible rfl
 rotate_left
 ·simp only [Act.put, sI, sZ, sS, i64_w, i32_w]
  rfl
 refine pure_ (i := 10) (N := some 14) (v := ?_) (a' := ?_) #[true, true, true, true, true, true, true, true, true, true, true, false, false, false, false, false, false, false, false, false, false] rfl rfl (by kernel_rfl) (fun _ _ _ h => h) (Or.inl ⟨by rfl, ?_⟩) ?_ ?_
 rotate_left
 ·intro w'
  go_simp
  with_reducible rfl
 rotate_left
 ·simp only [Act.put, sI, sZ, sS, i64_w, i32_w]
  rfl
 refine pure_ (i := 11) (N := some 15) (v := ?_) (a' := ?_) #[true, true, true, true, true, true, true, true, true, true, true, true, false, false, false, false, false, false, false, false, false] rfl rfl (by kernel_rfl) (fun _ _ _ h => h) (Or.inl ⟨by rfl, ?_⟩) ?_ ?_
 rotate_left
 ·intro w'
  go_simp
  with_reducible rfl
 rotate_left
 ·simp only [Act.put, sI, sZ, sS, i64_w, i32_w]
  rfl
 refine pure_ (i := 12) (N := some 16) (v := ?_) (a' := ?_) #[true, true, true, true, true, true, true, true, true, true, true, true, true, false, false, false, false, false, false, false, false] rfl rfl (by kernel_rfl) (fun _ _ _ h => h) (Or.inl ⟨by rfl, ?_⟩) ?_ ?_
 rotate_left
 ·intro w'
  go_simp
  with_reducible rfl
 rotate_left
 ·simp only [Act.put, sI, sZ, sS, i64_w, i32_w]
  rfl
 refine pure_ (i := 13) (N := some 17) (v := undef) (a' := ?_) #[true, true, true, true, true, true, true, true, true, true, true, true, true, true, false, false, false, false, false, false, false] rfl rfl (by kernel_rfl) (fun _ _ _ h => h) (Or.inr ⟨by rfl, rfl⟩) ?_ ?_
 rotate_left
 ·simp only [Act.put, sI, sZ, sS, i64_w, i32_w]
  rfl
 refine pure_ (i := 14) (N := some 18) (v := undef) (a' := ?_) #[true, true, true, true, true, true, true, true, true, true, true, true, true, true, true, false, false, false, false, false, false] rfl rfl (by kernel_rfl) (fun _ _ _ h => h) (Or.inr ⟨by rfl, rfl⟩) ?_ ?_
 rotate_left
 ·simp only [Act.put, sI, sZ, sS, i64_w, i32_w]
  rfl
 refine pure_ (i := 15) (N := some 19) (v := undef) (a' := ?_) #[true, true, true, true, true, true, true, true, true, true, true, true, true, true, true, true, false, false, false, false, false] rfl rfl (by kernel_rfl) (fun _ _ _ h => h) (Or.inr ⟨by rfl, rfl⟩) ?_ ?_
 rotate_left
 ·simp only [Act.put, sI, sZ, sS, i64_w, i32_w]
  rfl
 refine pure_ (i := 16) (N := some 20) (v := undef) (a' := ?_) #[true, true, true, true, true, true, true, true, true, true, true, true, true, true, true, true, true, false, false, false, false] rfl rfl (by kernel_rfl) (fun _ _ _ h => h) (Or.inr ⟨by rfl, rfl⟩) ?_ ?_
 rotate_left
 ·simp only [Act.put, sI, sZ, sS, i64_w, i32_w]
  rfl
 refine pure_ (i := 17) (N := some 21) (v := undef) (a' := ?_) #[true, true, true, true, true, true, true, true, true, true, true, true, true, true, true, true, true, true, false, false, false] rfl rfl (by kernel_rfl) (fun _ _ _ h => h) (Or.inr ⟨by rfl, rfl⟩) ?_ ?_
 rotate_left
 ·simp only [Act.put, sI, sZ, sS, i64_w, i32_w]
  rfl
 refine pure_ (i := 18) (N := some 22) (v := undef) (a' := ?_) #[true, true, true, true, true, true, true, true, true, true, true, true, true, true, true, true, true, true, true, false, false] rfl rfl (by kernel_rfl) (fun _ _ _ h => h) (Or.inr ⟨by rfl, rfl⟩) ?_ ?_
 rotate_left
 ·simp only [Act.put, sI, sZ, sS, i64_w, i32_w]
  rfl
 refine pure_ (i := 19) (N := some 23) (v := undef) (a' := ?_) #[true, true, true, true, true, true, true, true, true, true, true, true, true, true, true, true, true, true, true, true, false] rfl rfl (by kernel_rfl) (fun _ _ _ h => h) (Or.inr ⟨by rfl, rfl⟩) ?_ ?_
 rotate_left
 ·simp only [Act.put, sI, sZ, sS, i64_w, i32_w]
  rfl
 refine pure_ (i := 20) (N := some 24) (v := ?_) (a' := ?_) #[true, true, true, true, true, true, true, true, true, true, true, true, true, true, true, true, true, true, true, true, true] rfl rfl (by kernel_rfl) (fun _ _ _ h => h) (Or.inl ⟨by rfl, ?_⟩) ?_ ?_
 rotate_left
 ·intro w'
  go_simp
  with_reducible rfl
 rotate_left
 ·simp only [Act.put, sI, sZ, sS, i64_w, i32_w]
  rfl
 refine done_ (by kernel_rfl) ?_
 go_wp2_with fail
 refine bodyPost_ret (results_none rfl _ _ _) rfl ?_
 exact ⟨rfl, rfl⟩
set_option maxHeartbeats 4000000 in
set_option maxRecDepth 100000 in
theorem vars1_old (w0 : World) (w : World) (p : Addr) (s : ByteArray) (n : Int) (h0 : w.cell? p = some (.string s)) (h1 : w.cell? ⟨w0.heap.size + 2, 0, none⟩ = some (.map (some (w0.heap.size + 1)))) (h2 : (Instr.lookup 154 (.map (some (w0.heap.size + 1))) (.string s) false).run Tryd.prog w.drew = .ok (.int .i64 n) w.drew) (hs : s.toList ≠ []) (hs' : s.toList ≠ [95]) (hn : 0 < n) :
  Calls Tryd.prog 109 #[.pointer (some p), .pointer (some ⟨w0.heap.size + 2, 0, none⟩), .pointer (some ⟨w0.heap.size, 0, none⟩)] w fun e w' => e = .returned (.tuple #[]) ∧ w' = w.drew := by
 have hs1 : (s.toList == ([] : List UInt8)) = false := by simpa using hs
 have hs2 : s.toList.isEmpty = false := by simpa using hs
 have hs3 : (s.toList == ([95] : List UInt8)) = false := by simpa using hs'
 have hn1 : decide (0 < n) = true := decide_eq_true hn
 clear hs hs'
 go_enter Tryd.func109, Tryd.ntmps109
 go_wp2_with fail
 refine start_ (n := 21) (S := fun w' => w'.cell? p = some (.string s) ∧ w'.cell? ⟨w0.heap.size + 2, 0, none⟩ = some (.map (some (w0.heap.size + 1))) ∧ (Instr.lookup 154 (.map (some (w0.heap.size + 1))) (.string s) false).run Tryd.prog w' = .ok (.int .i64 n) w') (ds := []) #[false, false, false, false, false, false, false, false, false, false, false, false, false, false, false, false, false, false, false, false, false] (by kernel_rfl) rfl rfl ⟨h0, h1, h2⟩ (fun hHeld => ?_)
 refine pure_ (i := 0) (N := some 4) (v := ?_) (a' := ?_) #[true, false, false, false, false, false, false, false, false, false, false, false, false, false, false, false, false, false, false, false, false] rfl rfl (by kernel_rfl) (fun _ _ _ h => h) (Or.inl ⟨by rfl, ?_⟩) ?_ ?_
 rotate_left
 ·intro w'
  go_simp
  with_reducible rfl
 rotate_left
 ·simp only [Act.put, sI, sZ, sS, i64_w, i32_w]
  rfl
 refine pure_ (i := 1) (N := some 5) (v := ?_) (a' := ?_) #[true, true, false, false, false, false, false, false, false, false, false, false, false, false, false, false, false, false, false, false, false] rfl rfl (by kernel_rfl) (fun _ _ _ h => h) (Or.inl ⟨by rfl, ?_⟩) ?_ ?_
 rotate_left
 ·intro w'
  go_simp
  with_reducible rfl
 rotate_left
 ·simp only [Act.put, sI, sZ, sS, i64_w, i32_w]
  rfl
 refine pure_ (i := 2) (N := some 6) (v := ?_) (a' := ?_) #[true, true, true, false, false, false, false, false, false, false, false, false, false, false, false, false, false, false, false, false, false] rfl rfl (by kernel_rfl) (fun _ _ _ h => h) (Or.inl ⟨by rfl, ?_⟩) ?_ ?_
 rotate_left
 ·intro w'
  go_simp
  with_reducible rfl
 rotate_left
 ·simp only [Act.put, sI, sZ, sS, i64_w, i32_w]
  rfl
 refine take_ (i := 3) (N := some 7) (v := ?_) (a' := ?_) #[true, true, true, true, false, false, false, false, false, false, false, false, false, false, false, false, false, false, false, false, false] rfl rfl (by kernel_rfl) (fun _ _ _ h => h) (Or.inl ⟨by rfl, ?_⟩) hHeld ?_ ?_
 rotate_left
 ·rintro w' ⟨s0, s1, s2⟩
  go_simp
  with_reducible rfl
 rotate_left
 ·simp only [Act.put, sI, sZ, sS, i64_w, i32_w]
  rfl
 refine pure_ (i := 4) (N := some 8) (v := ?_) (a' := ?_) #[true, true, true, true, true, false, false, false, false, false, false, false, false, false, false, false, false, false, false, false, false] rfl rfl (by kernel_rfl) (fun _ _ _ h => h) (Or.inl ⟨by rfl, ?_⟩) ?_ ?_
 rotate_left
 ·intro w'
  go_simp
  with_reducible rfl
 rotate_left
 ·simp only [Act.put, sI, sZ, sS, i64_w, i32_w]
  rfl
 refine pure_ (i := 5) (N := some 9) (v := ?_) (a' := ?_) #[true, true, true, true, true, true, false, false, false, false, false, false, false, false, false, false, false, false, false, false, false] rfl rfl (by kernel_rfl) (fun _ _ _ h => h) (Or.inl ⟨by rfl, ?_⟩) ?_ ?_
 rotate_left
 ·intro w'
  go_simp
  with_reducible rfl
 rotate_left
 ·simp only [Act.put, sI, sZ, sS, i64_w, i32_w]
  rfl
 refine pure_ (i := 6) (N := some 10) (v := ?_) (a' := ?_) #[true, true, true, true, true, true, true, false, false, false, false, false, false, false, false, false, false, false, false, false, false] rfl rfl (by kernel_rfl) (fun _ _ _ h => h) (Or.inl ⟨by rfl, ?_⟩) ?_ ?_
 rotate_left
 ·intro w'
  go_simp
  with_reducible rfl
 rotate_left
 ·simp only [Act.put, sI, sZ, sS, i64_w, i32_w]
  rfl
 refine pure_ (i := 7) (N := some 11) (v := ?_) (a' := ?_) #[true, true, true, true, true, true, true, true, false, false, false, false, false, false, false, false, false, false, false, false, false] rfl rfl (by kernel_rfl) (fun _ _ _ h => h) (Or.inl ⟨by rfl, ?_⟩) ?_ ?_
 rotate_left
 ·intro w'
  go_simp
  with_reducible rfl
 rotate_left
 ·simp only [Act.put, sI, sZ, sS, i64_w, i32_w]
  rfl
 refine pure_ (i := 8) (N := some 12) (v := ?_) (a' := ?_) #[true, true, true, true, true, true, true, true, true, false, false, false, false, false, false, false, false, false, false, false, false] rfl rfl (by kernel_rfl) (fun _ _ _ h => h) (Or.inl ⟨by rfl, ?_⟩) ?_ ?_
 rotate_left
 ·intro w'
  go_simp
  with_reducible rfl
 rotate_left
 ·simp only [Act.put, sI, sZ, sS, i64_w, i32_w]
  rfl
 refine take_ (i := 9) (N := some 13) (v := ?_) (a' := ?_) #[true, true, true, true, true, true, true, true, true, true, false, false, false, false, false, false, false, false, false, false, false] rfl rfl (by kernel_rfl) (fun _ _ _ h => h) (Or.inl ⟨by rfl, ?_⟩) hHeld ?_ ?_
 rotate_left
 ·rintro w' ⟨s0, s1, s2⟩
  go_simp
  with_reducible rfl
 rotate_left
 ·simp only [Act.put, sI, sZ, sS, i64_w, i32_w]
  rfl
 refine pure_ (i := 10) (N := some 14) (v := ?_) (a' := ?_) #[true, true, true, true, true, true, true, true, true, true, true, false, false, false, false, false, false, false, false, false, false] rfl rfl (by kernel_rfl) (fun _ _ _ h => h) (Or.inl ⟨by rfl, ?_⟩) ?_ ?_
 rotate_left
 ·intro w'
  go_simp
  with_reducible rfl
 rotate_left
 ·simp only [Act.put, sI, sZ, sS, i64_w, i32_w]
  rfl
 refine pure_ (i := 11) (N := some 15) (v := ?_) (a' := ?_) #[true, true, true, true, true, true, true, true, true, true, true, true, false, false, false, false, false, false, false, false, false] rfl rfl (by kernel_rfl) (fun _ _ _ h => h) (Or.inl ⟨by rfl, ?_⟩) ?_ ?_
 rotate_left
 ·intro w'
  go_simp
  with_reducible rfl
 rotate_left
 ·simp only [Act.put, sI, sZ, sS, i64_w, i32_w]
  rfl
 refine pure_ (i := 12) (N := some 16) (v := ?_) (a' := ?_) #[true, true, true, true, true, true, true, true, true, true, true, true, true, false, false, false, false, false, false, false, false] rfl rfl (by kernel_rfl) (fun _ _ _ h => h) (Or.inl ⟨by rfl, ?_⟩) ?_ ?_
 rotate_left
 ·intro w'
  go_simp
  with_reducible rfl
 rotate_left
 ·simp only [Act.put, sI, sZ, sS, i64_w, i32_w]
  rfl
 refine pure_ (i := 14) (N := some 18) (v := ?_) (a' := ?_) #[true, true, true, true, true, true, true, true, true, true, true, true, true, false, true, false, false, false, false, false, false] rfl rfl (by kernel_rfl) (fun _ _ _ h => h) (Or.inl ⟨by rfl, ?_⟩) ?_ ?_
 rotate_left
 ·intro w'
  go_simp
  with_reducible rfl
 rotate_left
 ·simp only [Act.put, sI, sZ, sS, i64_w, i32_w]
  rfl
 refine pure_ (i := 15) (N := some 19) (v := ?_) (a' := ?_) #[true, true, true, true, true, true, true, true, true, true, true, true, true, false, true, true, false, false, false, false, false] rfl rfl (by kernel_rfl) (fun _ _ _ h => h) (Or.inl ⟨by rfl, ?_⟩) ?_ ?_
 rotate_left
 ·intro w'
  go_simp
  with_reducible rfl
 rotate_left
 ·simp only [Act.put, sI, sZ, sS, i64_w, i32_w]
  rfl
 refine pure_ (i := 16) (N := some 20) (v := ?_) (a' := ?_) #[true, true, true, true, true, true, true, true, true, true, true, true, true, false, true, true, true, false, false, false, false] rfl rfl (by kernel_rfl) (fun _ _ _ h => h) (Or.inl ⟨by rfl, ?_⟩) ?_ ?_
 rotate_left
 ·intro w'
  go_simp
  with_reducible rfl
 rotate_left
 ·simp only [Act.put, sI, sZ, sS, i64_w, i32_w]
  rfl
 refine take_ (i := 13) (N := some 17) (v := ?_) (a' := ?_) #[true, true, true, true, true, true, true, true, true, true, true, true, true, true, true, true, true, false, false, false, false] rfl rfl (by kernel_rfl) (fun _ _ _ h => h) (Or.inl ⟨by rfl, ?_⟩) hHeld ?_ ?_
 rotate_left
 ·rintro w' ⟨s0, s1, s2⟩
  go_simp
  with_reducible rfl
 rotate_left
 ·simp only [Act.put, sI, sZ, sS, i64_w, i32_w]
  rfl
 refine take_ (i := 17) (N := some 21) (v := ?_) (a' := ?_) #[true, true, true, true, true, true, true, true, true, true, true, true, true, true, true, true, true, true, false, false, false] rfl rfl (by kernel_rfl) (fun _ _ _ h => h) (Or.inl ⟨by rfl, ?_⟩) hHeld ?_ ?_
 rotate_left
 ·rintro w' ⟨s0, s1, s2⟩
  go_simp
  with_reducible rfl
 rotate_left
 ·simp only [Act.put, sI, sZ, sS, i64_w, i32_w]
  rfl
 refine take_ (i := 18) (N := some 22) (v := ?_) (a' := ?_) #[true, true, true, true, true, true, true, true, true, true, true, true, true, true, true, true, true, true, true, false, false] rfl rfl (by kernel_rfl) (fun _ _ _ h => h) (Or.inl ⟨by rfl, ?_⟩) hHeld ?_ ?_
 rotate_left
 ·rintro w' ⟨s0, s1, s2⟩
  go_simp
  with_reducible rfl
 rotate_left
 ·simp only [Act.put, sI, sZ, sS, i64_w, i32_w]
  rfl
 refine pure_ (i := 19) (N := some 23) (v := ?_) (a' := ?_) #[true, true, true, true, true, true, true, true, true, true, true, true, true, true, true, true, true, true, true, true, false] rfl rfl (by kernel_rfl) (fun _ _ _ h => h) (Or.inl ⟨by rfl, ?_⟩) ?_ ?_
 rotate_left
 ·intro w'
  go_simp
  with_reducible rfl
 rotate_left
 ·simp only [Act.put, sI, sZ, sS, i64_w, i32_w]
  rfl
 refine pure_ (i := 20) (N := some 24) (v := ?_) (a' := ?_) #[true, true, true, true, true, true, true, true, true, true, true, true, true, true, true, true, true, true, true, true, true] rfl rfl (by kernel_rfl) (fun _ _ _ h => h) (Or.inl ⟨by rfl, ?_⟩) ?_ ?_
 rotate_left
 ·intro w'
  go_simp
  with_reducible rfl
 rotate_left
 ·simp only [Act.put, sI, sZ, sS, i64_w, i32_w]
  rfl
 refine done_ (by kernel_rfl) ?_
 go_wp2_with fail
 refine bodyPost_ret (results_none rfl _ _ _) rfl ?_
 exact ⟨rfl, rfl⟩
set_option maxHeartbeats 4000000 in
set_option maxRecDepth 100000 in
theorem vars1_new (w0 : World) (w : World) (L : List ByteArray) (v : Value) (p : Addr) (s : ByteArray) (hp : w0.cell? p = some (.string s)) (hV : VS w0 L L v v w) (h1 : w.cell? ⟨w0.heap.size + 2, 0, none⟩ = some (.map (some (w0.heap.size + 1)))) (h2 : (Instr.lookup 154 (.map (some (w0.heap.size + 1))) (.string s) false).run Tryd.prog w.drew = .ok (.int .i64 0) w.drew) (hs : s.toList ≠ []) (hs' : s.toList ≠ [95]) (hz : s.size ≤ 140737488351232) (hL : L.length < 4294967296) (hnew : L.any (fun y => y.data.toList == s.data.toList) = false) :
  Calls Tryd.prog 109 #[.pointer (some p), .pointer (some ⟨w0.heap.size + 2, 0, none⟩), .pointer (some ⟨w0.heap.size, 0, none⟩)] w fun e w' => e = .returned (.tuple #[]) ∧ ∃ v, VS w0 (L ++ [s]) (L ++ [s]) v v w' := by
 have hs1 : (s.toList == ([] : List UInt8)) = false := by simpa using hs
 have hs2 : s.toList.isEmpty = false := by simpa using hs
 have hs3 : (s.toList == ([95] : List UInt8)) = false := by simpa using hs'
 have h0 := xan hV.below hp
 have hb0 := (xae hV.bl 0).trans (rfl : #[v][0]? = some v)
 have HP := Lib.hid hp
 have HV := Lib.hid hV
 have HN := Lib.hid hnew
 have HSN := Lib.hid (placeOf_snoc L s HN.out)
 have HLN := Lib.hid (show ((L ++ [s]).length : Int) = (L.length : Int) + 1 by simp)
 have HLM := Lib.hid (show (L ++ [s]).length = L.length + 1 by simp)
 clear hs hs' hp hV hnew
 go_enter Tryd.func109, Tryd.ntmps109
 go_wp2_with fail
 refine start_ (n := 21) (S := fun w' => w'.cell? p = some (.string s) ∧ w'.cell? ⟨w0.heap.size + 2, 0, none⟩ = some (.map (some (w0.heap.size + 1))) ∧ (Instr.lookup 154 (.map (some (w0.heap.size + 1))) (.string s) false).run Tryd.prog w' = .ok (.int .i64 0) w') (ds := []) #[false, false, false, false, false, false, false, false, false, false, false, false, false, false, false, false, false, false, false, false, false] (by kernel_rfl) rfl rfl ⟨h0, h1, h2⟩ (fun hHeld => ?_)
 refine pure_ (i := 0) (N := some 4) (v := ?_) (a' := ?_) #[true, false, false, false, false, false, false, false, false, false, false, false, false, false, false, false, false, false, false, false, false] rfl rfl (by kernel_rfl) (fun _ _ _ h => h) (Or.inl ⟨by rfl, ?_⟩) ?_ ?_
 rotate_left
 ·intro w'
  go_simp
  with_reducible rfl
 rotate_left
 ·simp only [Act.put, sI, sZ, sS, i64_w, i32_w]
  rfl
 refine pure_ (i := 1) (N := some 5) (v := ?_) (a' := ?_) #[true, true, false, false, false, false, false, false, false, false, false, false, false, false, false, false, false, false, false, false, false] rfl rfl (by kernel_rfl) (fun _ _ _ h => h) (Or.inl ⟨by rfl, ?_⟩) ?_ ?_
 rotate_left
 ·intro w'
  go_simp
  with_reducible rfl
 rotate_left
 ·simp only [Act.put, sI, sZ, sS, i64_w, i32_w]
  rfl
 refine pure_ (i := 2) (N := some 6) (v := ?_) (a' := ?_) #[true, true, true, false, false, false, false, false, false, false, false, false, false, false, false, false, false, false, false, false, false] rfl rfl (by kernel_rfl) (fun _ _ _ h => h) (Or.inl ⟨by rfl, ?_⟩) ?_ ?_
 rotate_left
 ·intro w'
  go_simp
  with_reducible rfl
 rotate_left
 ·simp only [Act.put, sI, sZ, sS, i64_w, i32_w]
  rfl
 refine take_ (i := 3) (N := some 7) (v := ?_) (a' := ?_) #[true, true, true, true, false, false, false, false, false, false, false, false, false, false, false, false, false, false, false, false, false] rfl rfl (by kernel_rfl) (fun _ _ _ h => h) (Or.inl ⟨by rfl, ?_⟩) hHeld ?_ ?_
 rotate_left
 ·rintro w' ⟨s0, s1, s2⟩
  go_simp
  with_reducible rfl
 rotate_left
 ·simp only [Act.put, sI, sZ, sS, i64_w, i32_w]
  rfl
 refine pure_ (i := 4) (N := some 8) (v := ?_) (a' := ?_) #[true, true, true, true, true, false, false, false, false, false, false, false, false, false, false, false, false, false, false, false, false] rfl rfl (by kernel_rfl) (fun _ _ _ h => h) (Or.inl ⟨by rfl, ?_⟩) ?_ ?_
 rotate_left
 ·intro w'
  go_simp
  with_reducible rfl
 rotate_left
 ·simp only [Act.put, sI, sZ, sS, i64_w, i32_w]
  rfl
 refine pure_ (i := 5) (N := some 9) (v := ?_) (a' := ?_) #[true, true, true, true, true, true, false, false, false, false, false, false, false, false, false, false, false, false, false, false, false] rfl rfl (by kernel_rfl) (fun _ _ _ h => h) (Or.inl ⟨by rfl, ?_⟩) ?_ ?_
 rotate_left
 ·intro w'
  go_simp
  with_reducible rfl
 rotate_left
 ·simp only [Act.put, sI, sZ, sS, i64_w, i32_w]
  rfl
 refine pure_ (i := 6) (N := some 10) (v := ?_) (a' := ?_) #[true, true, true, true, true, true, true, false, false, false, false, false, false, false, false, false, false, false, false, false, false] rfl rfl (by kernel_rfl) (fun _ _ _ h => h) (Or.inl ⟨by rfl, ?_⟩) ?_ ?_
 rotate_left
 ·intro w'
  go_simp
  with_reducible rfl
 rotate_left
 ·simp only [Act.put, sI, sZ, sS, i64_w, i32_w]
  rfl
 refine pure_ (i := 7) (N := some 11) (v := ?_) (a' := ?_) #[true, true, true, true, true, true, true, true, false, false, false, false, false, false, false, false, false, false, false, false, false] rfl rfl (by kernel_rfl) (fun _ _ _ h => h) (Or.inl ⟨by rfl, ?_⟩) ?_ ?_
 rotate_left
 ·intro w'
  go_simp
  with_reducible rfl
 rotate_left
 ·simp only [Act.put, sI, sZ, sS, i64_w, i32_w]
  rfl
 refine pure_ (i := 8) (N := some 12) (v := ?_) (a' := ?_) #[true, true, true, true, true, true, true, true, true, false, false, false, false, false, false, false, false, false, false, false, false] rfl rfl (by kernel_rfl) (fun _ _ _ h => h) (Or.inl ⟨by rfl, ?_⟩) ?_ ?_
 rotate_left
 ·intro w'
  go_simp
  with_reducible rfl
 rotate_left
 ·simp only [Act.put, sI, sZ, sS, i64_w, i32_w]
  rfl
 refine take_ (i := 9) (N := some 13) (v := ?_) (a' := ?_) #[true, true, true, true, true, true, true, true, true, true, false, false, false, false, false, false, false, false, false, false, false] rfl rfl (by kernel_rfl) (fun _ _ _ h => h) (Or.inl ⟨by rfl, ?_⟩) hHeld ?_ ?_
 rotate_left
 ·rintro w' ⟨s0, s1, s2⟩
  go_simp
  with_reducible rfl
 rotate_left
 ·simp only [Act.put, sI, sZ, sS, i64_w, i32_w]
  rfl
 refine pure_ (i := 10) (N := some 14) (v := ?_) (a' := ?_) #[true, true, true, true, true, true, true, true, true, true, true, false, false, false, false, false, false, false, false, false, false] rfl rfl (by kernel_rfl) (fun _ _ _ h => h) (Or.inl ⟨by rfl, ?_⟩) ?_ ?_
 rotate_left
 ·intro w'
  go_simp
  with_reducible rfl
 rotate_left
 ·simp only [Act.put, sI, sZ, sS, i64_w, i32_w]
  rfl
 refine pure_ (i := 11) (N := some 15) (v := ?_) (a' := ?_) #[true, true, true, true, true, true, true, true, true, true, true, true, false, false, false, false, false, false, false, false, false] rfl rfl (by kernel_rfl) (fun _ _ _ h => h) (Or.inl ⟨by rfl, ?_⟩) ?_ ?_
 rotate_left
 ·intro w'
  go_simp
  with_reducible rfl
 rotate_left
 ·simp only [Act.put, sI, sZ, sS, i64_w, i32_w]
  rfl
 refine pure_ (i := 12) (N := some 16) (v := ?_) (a' := ?_) #[true, true, true, true, true, true, true, true, true, true, true, true, true, false, false, false, false, false, false, false, false] rfl rfl (by kernel_rfl) (fun _ _ _ h => h) (Or.inl ⟨by rfl, ?_⟩) ?_ ?_
 rotate_left
 ·intro w'
  go_simp
  with_reducible rfl
 rotate_left
 ·simp only [Act.put, sI, sZ, sS, i64_w, i32_w]
  rfl
 refine pure_ (i := 14) (N := some 18) (v := ?_) (a' := ?_) #[true, true, true, true, true, true, true, true, true, true, true, true, true, false, true, false, false, false, false, false, false] rfl rfl (by kernel_rfl) (fun _ _ _ h => h) (Or.inl ⟨by rfl, ?_⟩) ?_ ?_
 rotate_left
 ·intro w'
  go_simp
  with_reducible rfl
 rotate_left
 ·simp only [Act.put, sI, sZ, sS, i64_w, i32_w]
  rfl
 refine pure_ (i := 15) (N := some 19) (v := ?_) (a' := ?_) #[true, true, true, true, true, true, true, true, true, true, true, true, true, false, true, true, false, false, false, false, false] rfl rfl (by kernel_rfl) (fun _ _ _ h => h) (Or.inl ⟨by rfl, ?_⟩) ?_ ?_
 rotate_left
 ·intro w'
  go_simp
  with_reducible rfl
 rotate_left
 ·simp only [Act.put, sI, sZ, sS, i64_w, i32_w]
  rfl
 refine pure_ (i := 16) (N := some 20) (v := ?_) (a' := ?_) #[true, true, true, true, true, true, true, true, true, true, true, true, true, false, true, true, true, false, false, false, false] rfl rfl (by kernel_rfl) (fun _ _ _ h => h) (Or.inl ⟨by rfl, ?_⟩) ?_ ?_
 rotate_left
 ·intro w'
  go_simp
  with_reducible rfl
 rotate_left
 ·simp only [Act.put, sI, sZ, sS, i64_w, i32_w]
  rfl
 refine take_ (i := 13) (N := some 17) (v := ?_) (a' := ?_) #[true, true, true, true, true, true, true, true, true, true, true, true, true, true, true, true, true, false, false, false, false] rfl rfl (by kernel_rfl) (fun _ _ _ h => h) (Or.inl ⟨by rfl, ?_⟩) hHeld ?_ ?_
 rotate_left
 ·rintro w' ⟨s0, s1, s2⟩
  go_simp
  with_reducible rfl
 rotate_left
 ·simp only [Act.put, sI, sZ, sS, i64_w, i32_w]
  rfl
 refine take_ (i := 17) (N := some 21) (v := ?_) (a' := ?_) #[true, true, true, true, true, true, true, true, true, true, true, true, true, true, true, true, true, true, false, false, false] rfl rfl (by kernel_rfl) (fun _ _ _ h => h) (Or.inl ⟨by rfl, ?_⟩) hHeld ?_ ?_
 rotate_left
 ·rintro w' ⟨s0, s1, s2⟩
  go_simp
  with_reducible rfl
 rotate_left
 ·simp only [Act.put, sI, sZ, sS, i64_w, i32_w]
  rfl
 refine take_ (i := 18) (N := some 22) (v := ?_) (a' := ?_) #[true, true, true, true, true, true, true, true, true, true, true, true, true, true, true, true, true, true, true, false, false] rfl rfl (by kernel_rfl) (fun _ _ _ h => h) (Or.inl ⟨by rfl, ?_⟩) hHeld ?_ ?_
 rotate_left
 ·rintro w' ⟨s0, s1, s2⟩
  go_simp
  with_reducible rfl
 rotate_left
 ·simp only [Act.put, sI, sZ, sS, i64_w, i32_w]
  rfl
 refine pure_ (i := 19) (N := some 23) (v := ?_) (a' := ?_) #[true, true, true, true, true, true, true, true, true, true, true, true, true, true, true, true, true, true, true, true, false] rfl rfl (by kernel_rfl) (fun _ _ _ h => h) (Or.inl ⟨by rfl, ?_⟩) ?_ ?_
 rotate_left
 ·intro w'
  go_simp
  with_reducible rfl
 rotate_left
 ·simp only [Act.put, sI, sZ, sS, i64_w, i32_w]
  rfl
 refine pure_ (i := 20) (N := some 24) (v := ?_) (a' := ?_) #[true, true, true, true, true, true, true, true, true, true, true, true, true, true, true, true, true, true, true, true, true] rfl rfl (by kernel_rfl) (fun _ _ _ h => h) (Or.inl ⟨by rfl, ?_⟩) ?_ ?_
 rotate_left
 ·intro w'
  go_simp
  with_reducible rfl
 rotate_left
 ·simp only [Act.put, sI, sZ, sS, i64_w, i32_w]
  rfl
 refine done_ (by kernel_rfl) ?_
 clear hHeld
 go_wp2_with fail
 have HV1 := Lib.hid HV.out.drew
 have h0a : w.drew.cell? p = some (.string s) := h0
 have hb1 : w.drew.cell? ⟨w0.heap.size, 0, none⟩ = some v := hb0
 clear h0 h1 h2 hb0 HV
 generalize w.drew = wa at *
 refine start_ (n := 8) (S := fun w' => w'.cell? p = some (.string s) ∧ w'.cell? ⟨w0.heap.size, 0, none⟩ = some v) (ds := [7]) #[false, false, false, false, false, false, false, false] (by kernel_rfl) rfl rfl ⟨h0a, hb1⟩ (fun hHeld => ?_)
 refine pure_ (i := 1) (N := some 26) (v := ?_) (a' := ?_) #[false, true, false, false, false, false, false, false] rfl rfl (by kernel_rfl) (fun _ _ _ h => h) (Or.inl ⟨by rfl, ?_⟩) ?_ ?_
 rotate_left
 ·intro w'
  go_simp
  with_reducible rfl
 rotate_left
 ·simp only [Act.put, sI, sZ, sS, i64_w, i32_w]
  rfl
 refine pure_ (i := 2) (N := some 27) (v := ?_) (a' := ?_) #[false, true, true, false, false, false, false, false] rfl rfl (by kernel_rfl) (fun _ _ _ h => h) (Or.inl ⟨by rfl, ?_⟩) ?_ ?_
 rotate_left
 ·intro w'
  go_simp
  with_reducible rfl
 rotate_left
 ·simp only [Act.put, sI, sZ, sS, i64_w, i32_w]
  rfl
 refine pure_ (i := 3) (N := some 28) (v := ?_) (a' := ?_) #[false, true, true, true, false, false, false, false] rfl rfl (by kernel_rfl) (fun _ _ _ h => h) (Or.inl ⟨by rfl, ?_⟩) ?_ ?_
 rotate_left
 ·intro w'
  go_simp
  with_reducible rfl
 rotate_left
 ·simp only [Act.put, sI, sZ, sS, i64_w, i32_w]
  rfl
 refine take_ (i := 0) (N := some 25) (v := ?_) (a' := ?_) #[true, true, true, true, false, false, false, false] rfl rfl (by kernel_rfl) (fun _ _ _ h => h) (Or.inl ⟨by rfl, ?_⟩) hHeld ?_ ?_
 rotate_left
 ·rintro w' ⟨s0, s1⟩
  go_simp
  with_reducible rfl
 rotate_left
 ·simp only [Act.put, sI, sZ, sS, i64_w, i32_w]
  rfl
 refine take_ (i := 4) (N := some 29) (v := ?_) (a' := ?_) #[true, true, true, true, true, false, false, false] rfl rfl (by kernel_rfl) (fun _ _ _ h => h) (Or.inl ⟨by rfl, ?_⟩) hHeld ?_ ?_
 rotate_left
 ·rintro w' ⟨s0, s1⟩
  go_simp
  with_reducible rfl
 rotate_left
 ·simp only [Act.put, sI, sZ, sS, i64_w, i32_w]
  rfl
 refine one_ (i := 5) (N := some 30) #[true, true, true, true, true, true, false, false] rfl rfl (by kernel_rfl) (by decide) (fun K hK => ?_)
 refine value_ (w1 := ?_) (v := ?_) (by rfl) rfl ?_ ?_
 rotate_left 2
 ·go_simp
  constructor
  ·rfl
  ·rfl
 obtain ⟨s0, s1⟩ := hHeld
 refine hK.out _ _ ⟨(xan (xab (Below.refl _ _) _) s0), (xan (xab (Below.refl _ _) _) s1)⟩ (fun hHeld => ?_)
 clear hK K
 refine norm_ (a' := ?_) ?_ ?_
 rotate_left
 ·show Act.put _ (some 30) _ = _
  simp only [Act.put, sI, sZ, sS, i64_w, i32_w]
  rfl
 refine one_ (i := 6) (N := some 31) #[true, true, true, true, true, true, true, false] rfl rfl (by kernel_rfl) (by decide) (fun K hK => ?_)
 obtain ⟨s0, s1⟩ := hHeld
 refine Kd.R_append_step Kd.string (w0 := w0) w0.heap.size (by rfl) (.tmp 25) (.tmp 30) 39 9 (.string ⟨#[]⟩) 16 rfl Tryd.underlying39 info9 rfl (by decide) (by decide) v L s [.string s] (fun _ => True) (fun _ => some _ ≠ v.ownBlock) rfl rfl rfl (fun _ h => ⟨trivial, h⟩) (fun _ _ => trivial) HV1.out.drew.row HV1.out.drew.below HV1.out.drew.below.size (by omega) ?_
 intro u1 w1 hR hB hG _
 have HV2 := Lib.hid (HV1.out.drew.appended s hR hB hG)
 generalize hL2e : L ++ [s] = L2 at *
 have HLE := Lib.hid hL2e
 clear hL2e
 obtain ⟨A1, c1, rfl⟩ := Kd.R_slice hR
 have hc1 : w1.cell? ⟨w0.heap.size, 0, none⟩ = some v := (xae HV2.out.bl 0).trans rfl
 have hf1 := xal HV2.out.bl 0
 have hp1 := xan hB HP.out
 clear hR hB hG
 refine hK.out _ _ ⟨hp1, hc1⟩ (fun hHeld => ?_)
 clear hK K
 refine norm_ (a' := ?_) ?_ ?_
 rotate_left
 ·show Act.put _ (some 31) _ = _
  simp only [Act.put, sI, sZ, sS, i64_w, i32_w]
  rfl
 refine last_ (i := 7) (N := none) #[true, true, true, true, true, true, true, true] rfl rfl (by kernel_rfl) (by decide) (fun K hK => ?_)
 refine skip_ (w1 := ?_) (by rfl) rfl ?_ ?_
 rotate_left
 ·go_simp
  rfl
 refine hK.out _ _ ?_
 clear hK K
 refine done_ (by kernel_rfl) ?_
 rename_i hat_
 clear hat_
 have HV3 := Lib.hid HV2.out.stored.drew
 clear HV1 HV2 hc1 hf1 hp1 h0a hb1
 go_wp2_with fail
 generalize (w1.setCell ⟨w0.heap.size, 0, none⟩ (.slice A1 L2.length c1)) = wb at *
 have hl2 : L2.length ≤ 9223372036854775807 := by have := HLM.out; omega
 obtain ⟨w3, hrun, hS, hG⟩ := SMap.put (t := 154) (e := 3) HV3.out.sm Tryd.underlying9 (by kernel_rfl) (by unfold maxLen; omega) s (by unfold maxLen; omega) (.int .i64 (L2.length : Int))
 have HS : Hid (SMap Tryd.prog 9 w3 (w0.heap.size + 1) L2.length (placeOf L2)) := Lib.hid (by rw [HLM.out, ← HSN.out]; rw [HLN.out] at hS; exact hS)
 have HF := Lib.hid (HV3.out.mapped HS.out hG)
 have hp2 := xan HV3.out.below HP.out
 have hc2 : wb.drew.cell? ⟨w0.heap.size, 0, none⟩ = some (.slice A1 L2.length c1) := (xae HV3.out.bl 0).trans rfl
 have ht2 : wb.drew.cell? ⟨w0.heap.size + 2, 0, none⟩ = some (.map (some (w0.heap.size + 1))) := (xae HV3.out.bt 0).trans rfl
 clear hS hG HS HV3 HSN HLN HN
 refine start_ (n := 8) (S := fun w' => w'.cell? p = some (.string s) ∧ w'.cell? ⟨w0.heap.size, 0, none⟩ = some (.slice A1 L2.length c1) ∧ w'.cell? ⟨w0.heap.size + 2, 0, none⟩ = some (.map (some (w0.heap.size + 1)))) (ds := [7]) #[false, false, false, false, false, false, false, false] (by kernel_rfl) rfl rfl ⟨hp2, hc2, ht2⟩ (fun hHeld => ?_)
 refine pure_ (i := 1) (N := some 33) (v := ?_) (a' := ?_) #[false, true, false, false, false, false, false, false] rfl rfl (by kernel_rfl) (fun _ _ _ h => h) (Or.inl ⟨by rfl, ?_⟩) ?_ ?_
 rotate_left
 ·intro w'
  go_simp
  with_reducible rfl
 rotate_left
 ·simp only [Act.put, sI, sZ, sS, i64_w, i32_w]
  rfl
 refine pure_ (i := 2) (N := some 34) (v := ?_) (a' := ?_) #[false, true, true, false, false, false, false, false] rfl rfl (by kernel_rfl) (fun _ _ _ h => h) (Or.inl ⟨by rfl, ?_⟩) ?_ ?_
 rotate_left
 ·intro w'
  go_simp
  with_reducible rfl
 rotate_left
 ·simp only [Act.put, sI, sZ, sS, i64_w, i32_w]
  rfl
 refine pure_ (i := 3) (N := some 35) (v := ?_) (a' := ?_) #[false, true, true, true, false, false, false, false] rfl rfl (by kernel_rfl) (fun _ _ _ h => h) (Or.inl ⟨by rfl, ?_⟩) ?_ ?_
 rotate_left
 ·intro w'
  go_simp
  with_reducible rfl
 rotate_left
 ·simp only [Act.put, sI, sZ, sS, i64_w, i32_w]
  rfl
 refine take_ (i := 0) (N := some 32) (v := ?_) (a' := ?_) #[true, true, true, true, false, false, false, false] rfl rfl (by kernel_rfl) (fun _ _ _ h => h) (Or.inl ⟨by rfl, ?_⟩) hHeld ?_ ?_
 rotate_left
 ·rintro w' ⟨s0, s1, s2⟩
  go_simp
  with_reducible rfl
 rotate_left
 ·simp only [Act.put, sI, sZ, sS, i64_w, i32_w]
  rfl
 refine take_ (i := 4) (N := some 36) (v := ?_) (a' := ?_) #[true, true, true, true, true, false, false, false] rfl rfl (by kernel_rfl) (fun _ _ _ h => h) (Or.inl ⟨by rfl, ?_⟩) hHeld ?_ ?_
 rotate_left
 ·rintro w' ⟨s0, s1, s2⟩
  go_simp
  with_reducible rfl
 rotate_left
 ·simp only [Act.put, sI, sZ, sS, i64_w, i32_w]
  rfl
 refine take_ (i := 5) (N := some 37) (v := ?_) (a' := ?_) #[true, true, true, true, true, true, false, false] rfl rfl (by kernel_rfl) (fun _ _ _ h => h) (Or.inl ⟨by rfl, ?_⟩) hHeld ?_ ?_
 rotate_left
 ·rintro w' ⟨s0, s1, s2⟩
  go_simp
  with_reducible rfl
 rotate_left
 ·simp only [Act.put, sI, sZ, sS, i64_w, i32_w]
  rfl
 refine pure_ (i := 6) (N := some 38) (v := ?_) (a' := ?_) #[true, true, true, true, true, true, true, false] rfl rfl (by kernel_rfl) (fun _ _ _ h => h) (Or.inl ⟨by rfl, ?_⟩) ?_ ?_
 rotate_left
 ·intro w'
  go_simp
  with_reducible rfl
 rotate_left
 ·simp only [Act.put, sI, sZ, sS, i64_w, i32_w]
  rfl
 refine last_ (i := 7) (N := none) #[true, true, true, true, true, true, true, true] rfl rfl (by kernel_rfl) (by decide) (fun K hK => ?_)
 refine skip_ (w1 := ?_) (by rfl) rfl ?_ ?_
 rotate_left
 ·go_simp
  rfl
 refine hK.out _ _ ?_
 clear hK K
 refine done_ (by kernel_rfl) ?_
 go_wp2_with fail
 go_end0
 exact ⟨rfl, _, by rw [HLE.out]; exact HF.out⟩
theorem zero_int (w : World) : (zeroValue 3).run Tryd.prog w = .ok (.int .i64 0) w := by kernel_rfl
def varG (L : List ByteArray) (x : S28) : Prop := x.f0.size ≤ 140737488351232 ∧ L.length < 4294967296
theorem vars1_step (w0 : World) (L : List ByteArray) (w : World) (p : Addr) (x : S28) (hI : VarsI w0 L w) (hG : varG L x) (hx : w0.cell? p = some (.string x.f0)) :
  Calls Tryd.prog 109 #[.pointer (some p), .pointer (some ⟨w0.heap.size + 2, 0, none⟩), .pointer (some ⟨w0.heap.size, 0, none⟩)] w fun e w' => e = .returned (.tuple #[]) ∧ VarsI w0 (varStep L x) w' := by
 obtain ⟨hs, hl, v, hV⟩ := hI
 obtain ⟨hz, hL⟩ := hG
 have h0 := xan hV.below hx
 have hd : VarsI w0 L w.drew := ⟨hs, hl, v, hV.drew⟩
 unfold varStep
 by_cases e1 : x.f0.toList = []
 ·rw [if_pos (Or.inl e1)]
  exact (vars1_empty w0 w p x.f0 h0 e1).mono fun e w' ⟨he, hw⟩ => ⟨he, by rw [hw]; exact hd⟩
 ·by_cases e2 : x.f0.toList = [95]
  ·rw [if_pos (Or.inr (Or.inl e2))]
   exact (vars1_blank w0 w p x.f0 h0 e2).mono fun e w' ⟨he, hw⟩ => ⟨he, by rw [hw]; exact hd⟩
  ·have h1 : w.cell? ⟨w0.heap.size + 2, 0, none⟩ = some (.map (some (w0.heap.size + 1))) := (xae hV.bt 0).trans rfl
   have hlook := SMap.look (t := 154) (e := 3) hV.drew.sm Tryd.underlying9 (by kernel_rfl) (zero_int _) x.f0 (by unfold maxLen; omega)
   by_cases e3 : L.any (fun y => y.data.toList == x.f0.data.toList) = true
   ·rw [if_pos (Or.inr (Or.inr e3))]
    obtain ⟨i, hi, _⟩ := placeOf_some L _ e3
    rw [hi] at hlook
    exact (vars1_old w0 w p x.f0 ((i : Int) + 1) h0 h1 hlook e1 e2 (by omega)).mono fun e w' ⟨he, hw⟩ => ⟨he, by rw [hw]; exact hd⟩
   ·have e3' := Bool.eq_false_iff.mpr e3
    rw [if_neg (fun h => h.elim e1 (fun h => h.elim e2 e3))]
    rw [placeOf_none L _ e3'] at hlook
    refine (vars1_new w0 w L v p x.f0 hx hV h1 hlook e1 e2 hz hL e3').mono fun e w' ⟨he, v', hv'⟩ => ⟨he, ?_, ?_, v', hv'⟩
    ·intro y hy
     rcases List.mem_append.mp hy with hy | hy
     ·exact hs y hy
     ·rw [List.mem_singleton.mp hy]; exact hz
    ·simp; omega
theorem vars_taker (w0 : World) : Taker w0 109 Tryd.f109 #[] #[.pointer (some ⟨w0.heap.size + 2, 0, none⟩), .pointer (some ⟨w0.heap.size, 0, none⟩)] (List ByteArray) varStep varG (VarsI w0) where
 hf := by kernel_rfl
 hname := by rfl
 hb := by rfl
 below := fun st w h => by obtain ⟨_, _, v, hV⟩ := h; exact hV.below
 takes := fun st w p x hI hG hx => vars1_step w0 st w p x hI hG hx.c0
theorem vs_start (w : World) : VS w [] [] (.slice none 0 0) (.slice none 0 0) (((w.alloc (.cells #[.slice none 0 0] 39)).alloc (.map #[] 0)).alloc (.cells #[.map (some (w.heap.size + 1))] 154)) where
 below := xab (xab (xab (Below.refl _ _) _) _) _
 bt := by have := xaz ((w.alloc (.cells #[.slice none 0 0] 39)).alloc (.map #[] 0)) (.cells #[.map (some (w.heap.size + 1))] 154); simpa using this
 sm := by
  have h := (SMap.made Tryd.prog 9 (w.alloc (.cells #[.slice none 0 0] 39))).kept (World.grownBy_alloc _ (.cells #[.map (some (w.heap.size + 1))] 154) none) (by simp)
  have e : (w.alloc (.cells #[.slice none 0 0] 39)).heap.size = w.heap.size + 1 := by simp
  rw [e] at h
  exact h
 bl := xaf (xaf (xaz w _) _) _
 row := Kd.R_nil _ _ _ _ _
set_option maxHeartbeats 4000000 in
theorem vars_any (X : Value) (w : World) (ts : List S28) (hw : Hid (∀ w1, VarsI w [] w1 → Calls Tryd.prog 82 #[X, .func (.func 109) #[] #[.pointer (some ⟨w.heap.size + 2, 0, none⟩), .pointer (some ⟨w.heap.size, 0, none⟩)]] w1 fun e w' => e = .returned (.tuple #[]) ∧ VarsI w (ts.foldl varStep []) w')) :
  Calls Tryd.prog 68 #[X] w fun e w' => ∃ v, e = .returned v ∧ Kd.string.R 9 w' w.heap.size (fun _ => True) v (ts.foldl varStep []) ∧ Below w.heap.size w w' := by
 have hmm := @run_makeMap Tryd.prog
 go_enter Tryd.func68, Tryd.ntmps68
 go_wp2_with fail
 refine (hw.out _ ⟨by simp, by simp, .slice none 0 0, vs_start w⟩).mono ?_
 rintro e w1 ⟨rfl, _, _, v, hV⟩
 have HV := Lib.hid hV
 have hb1 : w1.cell? ⟨w.heap.size, 0, none⟩ = some v := (xae hV.bl 0).trans rfl
 obtain ⟨A, c, rfl⟩ := Kd.R_slice hV.row
 clear hV
 generalize hLe : ts.foldl varStep [] = L at *
 have HLE := Lib.hid hLe
 clear hLe
 go_wp2_with fail
 go_ret
 exact ⟨_, rfl, by rw [HLE.out]; exact HV.out.row, HV.out.below⟩
def varsOf (ts : List S28) : List ByteArray := ts.foldl varStep []
def varsFit (ts : List S28) : Bool := decide (ts.length ≤ 4294967295) && ts.all fun x => decide (x.f0.size ≤ 140737488351232)
theorem varStep_len (L : List ByteArray) (x : S28) : (varStep L x).length ≤ L.length + 1 := by
 unfold varStep
 split <;> simp
theorem allG_fit (ts : List S28) : ∀ L : List ByteArray, L.length + ts.length ≤ 4294967296 → (∀ x ∈ ts, x.f0.size ≤ 140737488351232) → AllG varStep varG L ts := by
 induction ts with
 | nil => intro L _ _; trivial
 | cons x r ih =>
  intro L h1 h2
  simp only [List.length_cons] at h1
  exact ⟨⟨h2 x List.mem_cons_self, by omega⟩, ih _ (by have := varStep_len L x; omega) (fun y hy => h2 y (List.mem_cons_of_mem _ hy))⟩
theorem allG_vars {ts : List S28} (h : varsFit ts = true) : AllG varStep varG [] ts := by
 unfold varsFit at h
 rw [Bool.and_eq_true, decide_eq_true_eq, List.all_eq_true] at h
 exact allG_fit ts [] (by simp; omega) (fun x hx => by simpa using h.2 x hx)
def r4_literalTerms.l0 : Nat → List (S28) → Int → Int → ByteArray → List (S28) → Int → Int → ByteArray → Int → Int → ByteArray → List (S31) → Int → ByteArray → Int → Int → ByteArray → List (S31) → Option ((List (S28)))
 | 0, _, _, _, _, _, _, _, _, _, _, _, _, _, _, _, _, _, _ => none
 | k + 1, x0, x5, x297000, x297001, x297002, x297003, x297004, x297005, x297006, x297007, x297008, x297009, x297010, x297011, x297012, x297013, x297014, x297015 => if x5 < (x297002.length : Int) then (if 0 ≤ x5 then (if x0.length < 2932031007402 then (r4_literalTerms.l0 k (x0 ++ [(⟨(rd_T28 x297002 x5).f0, (⟨(rd_T28 x297002 x5).f1.f0, (rd_T28 x297002 x5).f1.f1, (rd_T28 x297002 x5).f1.f2⟩ : S26)⟩ : S28)]) (wrap64 (x5 + 1)) x297000 x297001 x297002 x297003 x297004 x297005 x297006 x297007 x297008 x297009 x297010 x297011 x297012 x297013 x297014 x297015) else (none)) else (none)) else ((r4_exprTerms.f x0 x297004 x297005 x297006 x297007 x297008 x297009).bind fun t301 => ((r4_exprTerms.f t301 x297010 x297011 x297012 x297013 x297014 x297015).bind fun t304 => (some t304)))
def r4_literalTerms.f (k : Nat) (l0 : List (S28)) (a1_0 : Int) (a1_1 : ByteArray) (l1_2 : List (S28)) (a1_3 : Int) (a1_4 : Int) (a1_5 : ByteArray) (a1_6 : Int) (a1_7 : Int) (a1_8 : ByteArray) (l1_9 : List (S31)) (a1_10 : Int) (a1_11 : ByteArray) (a1_12 : Int) (a1_13 : Int) (a1_14 : ByteArray) (l1_15 : List (S31)) : Option ((List (S28))) := r4_literalTerms.l0 k l0 0 a1_0 a1_1 l1_2 a1_3 a1_4 a1_5 a1_6 a1_7 a1_8 l1_9 a1_10 a1_11 a1_12 a1_13 a1_14 l1_15
set_option maxHeartbeats 8000000 in
set_option maxRecDepth 100000 in
theorem r4_literalTerms.calls (k : Nat) (P0_ : Nat → Prop) (u9000_ : Value) (l0 : List (S28)) (a1_0 : Int) (a1_1 : ByteArray) (A1_2 : Option Addr) (c1_2 : Nat) (l1_2 : List (S28)) (a1_3 : Int) (a1_4 : Int) (a1_5 : ByteArray) (a1_6 : Int) (a1_7 : Int) (a1_8 : ByteArray) (A1_9 : Option Addr) (c1_9 : Nat) (l1_9 : List (S31)) (a1_10 : Int) (a1_11 : ByteArray) (a1_12 : Int) (a1_13 : Int) (a1_14 : ByteArray) (A1_15 : Option Addr) (c1_15 : Nat) (l1_15 : List (S31)) (r : List (S28)) (w0 w : World) (hB : Below w0.heap.size w0 w) (ho0 : Kd.R k28 28 w w0.heap.size P0_ u9000_ l0) (hr1_2 : ∀ W_, Kept w W_ (fun k_ => P0_ k_) → Kd.C k28 W_ A1_2 l1_2.length l1_2) (hc1_2 : l1_2.length ≤ c1_2) (hr1_9 : ∀ W_, Kept w W_ (fun k_ => P0_ k_) → Kd.C k31 W_ A1_9 l1_9.length l1_9) (hc1_9 : l1_9.length ≤ c1_9) (hr1_15 : ∀ W_, Kept w W_ (fun k_ => P0_ k_) → Kd.C k31 W_ A1_15 l1_15.length l1_15) (hc1_15 : l1_15.length ≤ c1_15) (h : r4_literalTerms.f k l0 a1_0 a1_1 l1_2 a1_3 a1_4 a1_5 a1_6 a1_7 a1_8 l1_9 a1_10 a1_11 a1_12 a1_13 a1_14 l1_15 = some r) :
  Calls Tryd.prog 69 #[u9000_, .agg #[.int .i8 a1_0, .string a1_1, .slice A1_2 l1_2.length c1_2, .int .i8 a1_3, .int .i8 a1_4, .string a1_5, .int .i8 a1_6, .int .i64 a1_7, .string a1_8, .slice A1_9 l1_9.length c1_9, .int .i8 a1_10, .string a1_11, .int .i8 a1_12, .int .i64 a1_13, .string a1_14, .slice A1_15 l1_15.length c1_15]] w fun e w' => ∃ v0_ : Value, e = .returned (v0_) ∧ Kd.R k28 28 w' w0.heap.size (fun k_ => (P0_ k_ ∨ w.heap.size ≤ k_)) v0_ r ∧ Below w0.heap.size w0 w' ∧ Kept w w' (fun k_ => P0_ k_) := by
 have hu56 := Tryd.underlying56
 have hu28 := Tryd.underlying28
 have hu31 := Tryd.underlying31
 have HO0 := Aside0.mk (show Kd.R k28 28 w w0.heap.size (fun k_ => (P0_ k_ ∨ w.heap.size ≤ k_)) u9000_ l0 from Kd.R_mono ho0 (fun k_ hk => (.inl hk)))
 have HR1_2 := Aside0.mk hr1_2
 have HC1_2 := Aside0.mk hc1_2
 clear hr1_2 hc1_2
 have HR1_9 := Aside0.mk hr1_9
 have HC1_9 := Aside0.mk hc1_9
 clear hr1_9 hc1_9
 have HR1_15 := Aside0.mk hr1_15
 have HC1_15 := Aside0.mk hc1_15
 clear hr1_15 hc1_15
 have HK := Aside0.mk (Kept.refl w (fun k_ => P0_ k_))
 have HW0 := Aside0.mk hB.size
 have HB := Aside0.mk hB
 clear hB
 have H : (r4_literalTerms.l0 k l0 0 a1_0 a1_1 l1_2 a1_3 a1_4 a1_5 a1_6 a1_7 a1_8 l1_9 a1_10 a1_11 a1_12 a1_13 a1_14 l1_15) = some r := h
 clear h
 have H' := Aside0.mk H
 clear H
 go_enter Tryd.func69, Tryd.ntmps69
 go_wp2_with (first | ((with_reducible refine xar (N := 3) rfl ?_); refine xap ?hg (N := 3) ?hd (cs := #[.int .i8 a1_0, .string a1_1, .slice A1_2 l1_2.length c1_2, .int .i8 a1_3, .int .i8 a1_4, .string a1_5, .int .i8 a1_6, .int .i64 a1_7, .string a1_8, .slice A1_9 l1_9.length c1_9, .int .i8 a1_10, .string a1_11, .int .i8 a1_12, .int .i64 a1_13, .string a1_14, .slice A1_15 l1_15.length c1_15]) (t := 56) ?hr ?_; (case hd => rfl); (case hg => rfl); (case hr => first | (go_simp; done) | (go_simp; rfl)); intro gb296 hg w3 hbox hb; have n0_ := Aside0.mk (Kd.R_below (by (with_reducible repeat (first | apply Kd.R_alloc | apply Kd.R_drewN | apply Kd.R_drew)); exact HO0.out) hb); have n1_ := Aside0.mk (Kept.below (S := (fun k_ => P0_ k_)) (by repeat (first | (with_reducible first | exact HK.out | apply Kept.alloc | apply Kept.drewN | apply Kept.drew) | exact HK.out)) hb); have n2_ := Aside0.mk (xah (by repeat (first | (with_reducible first | exact HB.out | apply xab | apply xaa | apply xac) | exact HB.out)) hb); have n3_ := Aside0.mk (hbox); have n4_ := Aside0.mk ((by rw [hg]; exact (by first | exact HK.out.1 | exact (show Kept w _ (fun k_ => P0_ k_) from by repeat (first | (with_reducible first | exact HK.out | apply Kept.alloc | apply Kept.drewN | apply Kept.drew) | exact HK.out)).1) : w.heap.size ≤ gb296)); have n5_ := Aside0.mk ((by rw [hg]; exact (xao (by repeat (first | (with_reducible first | exact HB.out | apply xab | apply xaa | apply xac) | exact HB.out))) : w0.heap.size ≤ gb296)); clear HO0; clear HK; clear HB; have HO0 := n0_; have HK := n1_; have HB := n2_; have BK296 := n3_; have GW296 := n4_; have GE296 := n5_; clear n0_ n1_ n2_ n3_ n4_ n5_; clear hb hbox hg))
 go_loopg [0, 5] k (fun kq v0 v5 w' => ∃ (x0_1 : List (S28)) (x5_1 : Int), v5 = .int .i64 x5_1 ∧ Aside0 (r4_literalTerms.l0 kq x0_1 x5_1 a1_0 a1_1 l1_2 a1_3 a1_4 a1_5 a1_6 a1_7 a1_8 l1_9 a1_10 a1_11 a1_12 a1_13 a1_14 l1_15 = some r) ∧ Aside0 (kq ≤ k) ∧ Aside0 (Kd.R k28 28 w' w0.heap.size (fun k_ => (P0_ k_ ∨ w.heap.size ≤ k_)) v0 x0_1) ∧ Aside0 (w'.heap[gb296]? = some (.cells #[.int .i8 a1_0, .string a1_1, (.slice A1_2 l1_2.length c1_2), .int .i8 a1_3, .int .i8 a1_4, .string a1_5, .int .i8 a1_6, .int .i64 a1_7, .string a1_8, (.slice A1_9 l1_9.length c1_9), .int .i8 a1_10, .string a1_11, .int .i8 a1_12, .int .i64 a1_13, .string a1_14, (.slice A1_15 l1_15.length c1_15)] 56 (0, 0))) ∧ Aside0 (Kept w w' (fun k_ => P0_ k_)) ∧ Aside0 (Below w0.heap.size w0 w'))
 case atStart => exact ⟨(l0), (0), (by first | rfl | (simp; done) | (simp [*]; done)), H', ⟨Nat.le_refl _⟩, ⟨by (with_reducible repeat (first | apply Kd.R_alloc | apply Kd.R_drewN | apply Kd.R_drew)); exact HO0.out⟩, ⟨by (with_reducible repeat (first | refine xag ?_ _ | refine xai ?_ | refine xaf ?_ _)); exact BK296.out⟩, ⟨by repeat (first | (with_reducible first | exact HK.out | apply Kept.alloc | apply Kept.drewN | apply Kept.drew | refine Kept.setCell ?_ (.inr GW296.out) _) | exact HK.out)⟩, ⟨by repeat (first | (with_reducible first | exact HB.out | apply xab | apply xaa | apply xac | refine xad ?_ GE296.out) | exact HB.out)⟩⟩
 case round =>
  clear H'
  try clear c1
  try clear p2
  obtain ⟨x0_1, x5_1, rfl, HA, HK1, HO_0, BK296, HK, HB⟩ := hrel
  cases gk with
  | zero => exact absurd HA.out (by simp [r4_literalTerms.l0])
  | succ k1 =>
   have H := HA.out
   clear HA
   simp only [r4_literalTerms.l0] at H
   by_cases c4 : x5_1 < (l1_2.length : Int)
   ·rw [if_pos c4] at H
    have c4b0 : decide (x5_1 < (l1_2.length : Int)) = true := decide_eq_true c4
    clear c4
    by_cases c5 : 0 ≤ x5_1
    ·rw [if_pos c5] at H
     have c5b0 : decide (0 ≤ x5_1) = true := decide_eq_true c5
     clear c5
     by_cases c6 : x0_1.length < 2932031007402
     ·rw [if_pos c6] at H
      have LMc6 := Aside0.mk c6
      clear c6
      obtain ⟨y298, hy298⟩ : ∃ y_ : List (S28), y_ = (x0_1 ++ [(⟨(rd_T28 l1_2 x5_1).f0, (⟨(rd_T28 l1_2 x5_1).f1.f0, (rd_T28 l1_2 x5_1).f1.f1, (rd_T28 l1_2 x5_1).f1.f2⟩ : S26)⟩ : S28)]) := ⟨_, rfl⟩
      replace H : (r4_literalTerms.l0 k1 y298 (wrap64 (x5_1 + 1)) a1_0 a1_1 l1_2 a1_3 a1_4 a1_5 a1_6 a1_7 a1_8 l1_9 a1_10 a1_11 a1_12 a1_13 a1_14 l1_15) = some r := by first | (rw [hy298]; with_reducible exact H) | (have H2_ := (Option.bind_some _ _).symm.trans H; rw [hy298]; with_reducible exact H2_) | (have H2_ := (Option.bind_some _ _).symm.trans H; with_reducible exact H2_) | with_reducible exact H | (rw [hy298]; exact H) | exact H
      have Ny298 := Aside0.mk hy298
      clear hy298
      have H' := Aside0.mk H
      clear H
      obtain ⟨hcz7_0, hcz7_1, hcz7_2, hcz7_3, hcz7_4, hcz7_5, hcz7_6, hcz7_7, hcz7_8, hcz7_9, hcz7_10, hcz7_11, hcz7_12, hcz7_13, hcz7_14, hcz7_15⟩ := cz16 BK296.out
      obtain ⟨hfz7_0, hfz7_1, hfz7_2, hfz7_3, hfz7_4, hfz7_5, hfz7_6, hfz7_7, hfz7_8, hfz7_9, hfz7_10, hfz7_11, hfz7_12, hfz7_13, hfz7_14, hfz7_15⟩ := fz16 BK296.out
      have p297 : 0 ≤ (x5_1 : Int) := of_decide_eq_true (by first | (with_reducible assumption) | assumption)
      have q297 : x5_1 < (l1_2.length : Int) := of_decide_eq_true (by first | (with_reducible assumption) | assumption)
      obtain ⟨ad297, e297, hx297_0, hx297_1, hx297_2, hx297_3⟩ := at_T28 (Kd.C_kept_now HR1_2.out HK.out) x5_1 p297 q297
      cases e297
      replace p297 := eq_true p297
      replace q297 := eq_true q297
      go_wp2_with (first | ((with_reducible refine gate_builtin (b := .append) (xs := #[.tmp 14, .tmp 21]) rfl ?_); at_builtin; refine Kd.R_append k28 (w0 := w0) w0.heap.size rfl (.tmp 14) (.tmp 21) 51 28 (.agg #[(.string ⟨#[]⟩), (.int .i8 0), (.int .i64 0), (.string ⟨#[]⟩)]) 48 rfl Tryd.underlying51 info28 rfl (by decide) (by omega) u0 x0_1 (⟨(rd_T28 l1_2 x5_1).f0, (⟨(rd_T28 l1_2 x5_1).f1.f0, (rd_T28 l1_2 x5_1).f1.f1, (rd_T28 l1_2 x5_1).f1.f2⟩ : S26)⟩ : S28) [.string ((rd_T28 l1_2 x5_1).f0), .int .i8 ((rd_T28 l1_2 x5_1).f1.f0), .int .i64 ((rd_T28 l1_2 x5_1).f1.f1), .string ((rd_T28 l1_2 x5_1).f1.f2)] (fun k_ => (P0_ k_ ∨ w.heap.size ≤ k_)) (fun _ => False) rfl rfl ?aP (fun _ hk => hk.elim) ?aF ?aO ?aB ?aS ?aL ?_; (case aP => exact k28_mkM _ _ _ (⟨(rd_T28 l1_2 x5_1).f0, (⟨(rd_T28 l1_2 x5_1).f1.f0, (rd_T28 l1_2 x5_1).f1.f1, (rd_T28 l1_2 x5_1).f1.f2⟩ : S26)⟩ : S28)); (case aB => exact (by repeat (first | (with_reducible first | exact HB.out | apply xab | apply xaa | apply xac | refine xad ?_ GE296.out) | exact HB.out))); (case aF => exact (fun k_ hk => (.inr (Nat.le_trans (by first | exact HK.out.1 | exact (show Kept w _ (fun k_ => P0_ k_) from by repeat (first | (with_reducible first | exact HK.out | apply Kept.alloc | apply Kept.drewN | apply Kept.drew | refine Kept.setCell ?_ (.inr GW296.out) _) | exact HK.out)).1) hk)))); (case aO => exact (by (with_reducible repeat (first | apply Kd.R_alloc | apply Kd.R_drewN | apply Kd.R_drew)); exact HO_0.out)); (case aS => exact (xao (by repeat (first | (with_reducible first | exact HB.out | apply xab | apply xaa | apply xac | refine xad ?_ GE296.out) | exact HB.out)))); (case aL => have := LMc6.out; omega); intro v299 w8 ho hb hg hat; rw [← Ny298.out] at ho; have n0_ := Aside0.mk (xbf (g := gb296) (o := .cells #[.int .i8 a1_0, .string a1_1, .slice (some ad297) l1_2.length c1_2, .int .i8 a1_3, .int .i8 a1_4, .string a1_5, .int .i8 a1_6, .int .i64 a1_7, .string a1_8, .slice A1_9 l1_9.length c1_9, .int .i8 a1_10, .string a1_11, .int .i8 a1_12, .int .i64 a1_13, .string a1_14, .slice A1_15 l1_15.length c1_15] 56 (0, 0)) (by (with_reducible repeat (first | refine xag ?_ _ | refine xai ?_ | refine xaf ?_ _)); exact BK296.out) hg (Kd.R_ne HO_0.out BK296.out (by decide))); have n1_ := Aside0.mk (hb); have n2_ := Aside0.mk (Kept.of_grown (S := (fun k_ => P0_ k_)) hg (by repeat (first | (with_reducible first | exact HK.out | apply Kept.alloc | apply Kept.drewN | apply Kept.drew | refine Kept.setCell ?_ (.inr GW296.out) _) | exact HK.out)) (fun k_ e_ => (HO_0.out.1 k_ e_))); have n3_ := Aside0.mk (ho); clear BK296; clear HB; clear HK; clear HO_0; have BK296 := n0_; have HB := n1_; have HK := n2_; have HO300 := n3_; clear n0_ n1_ n2_ n3_; clear ho hb hg hat))
      go_roundg k1
      case measure => have := HK1.out; omega
      case rel => exact ⟨(y298), (wrap64 (x5_1 + 1)), (by first | rfl | (simp; done) | (simp [*]; done)), H', ⟨by have := HK1.out; omega⟩, ⟨by (with_reducible repeat (first | apply Kd.R_alloc | apply Kd.R_drewN | apply Kd.R_drew)); exact HO300.out⟩, ⟨by (with_reducible repeat (first | refine xag ?_ _ | refine xai ?_ | refine xaf ?_ _)); exact BK296.out⟩, ⟨by repeat (first | (with_reducible first | exact HK.out | apply Kept.alloc | apply Kept.drewN | apply Kept.drew | refine Kept.setCell ?_ (.inr GW296.out) _) | exact HK.out)⟩, ⟨by repeat (first | (with_reducible first | exact HB.out | apply xab | apply xaa | apply xac | refine xad ?_ GE296.out) | exact HB.out)⟩⟩
     ·rw [if_neg c6] at H
      exact absurd H (by simp)
    ·rw [if_neg c5] at H
     exact absurd H (by simp)
   ·rw [if_neg c4] at H
    have c4b0 : decide (x5_1 < (l1_2.length : Int)) = false := decide_eq_false c4
    clear c4
    replace H := Option.bind_eq_some_iff.mp H
    obtain ⟨t301, A90, H⟩ := H
    replace H : ((r4_exprTerms.f t301 a1_10 a1_11 a1_12 a1_13 a1_14 l1_15).bind fun t304 => (some t304)) = some r := H
    have A9 := Aside0.mk A90
    clear A90
    replace H := Option.bind_eq_some_iff.mp H
    obtain ⟨t304, A100, H⟩ := H
    replace H : (some t304) = some r := H
    have A10 := Aside0.mk A100
    clear A100
    obtain rfl := Option.some.inj H
    obtain ⟨hcz11_0, hcz11_1, hcz11_2, hcz11_3, hcz11_4, hcz11_5, hcz11_6, hcz11_7, hcz11_8, hcz11_9, hcz11_10, hcz11_11, hcz11_12, hcz11_13, hcz11_14, hcz11_15⟩ := cz16 BK296.out
    obtain ⟨hfz11_0, hfz11_1, hfz11_2, hfz11_3, hfz11_4, hfz11_5, hfz11_6, hfz11_7, hfz11_8, hfz11_9, hfz11_10, hfz11_11, hfz11_12, hfz11_13, hfz11_14, hfz11_15⟩ := fz16 BK296.out
    obtain ⟨Ao12, co12, eo12⟩ := Kd.R_slice HO_0.out
    subst eo12
    go_wp2_with (first | ((with_reducible refine xau (f := 57) rfl ?_); refine goesL_ (some 26) rfl rfl Tryd.func57 (by kernel_rfl) rfl #[.slice Ao12 x0_1.length co12, .agg #[.int .i8 a1_4, .string a1_5, .int .i8 a1_6, .int .i64 a1_7, .string a1_8, .slice A1_9 l1_9.length c1_9]] rfl (by (try simp only [List.map_toArray, List.map_cons, List.map_nil]); first | done | rfl | (simp only [List.length_drop, List.length_take]; rfl)) ?_; (with_reducible refine (r4_exprTerms.calls (fun k_ => some k_ = (.slice Ao12 x0_1.length co12 : Value).ownBlock) (.slice Ao12 x0_1.length co12) x0_1 a1_4 a1_5 a1_6 a1_7 a1_8 _ _ l1_9 t301 w0 _ ?side1 ?side2 ?side3 ?side4 A9.out).mono ?_); (case side1 => repeat (first | (with_reducible first | exact HB.out | apply xab | apply xaa | apply xac | refine xad ?_ GE296.out) | exact HB.out)); (case side2 => exact Kd.R_tight rfl HO_0.out); (case side3 => exact Kd.C_kept_call HR1_9.out (by repeat (first | (with_reducible first | exact HK.out | apply Kept.alloc | apply Kept.drewN | apply Kept.drew | refine Kept.setCell ?_ (.inr GW296.out) _) | exact HK.out)) (fun k_ hs_ => (fun e_ => (HO_0.out.1 k_ e_.symm)) hs_)); (case side4 => exact HC1_9.out); rintro e w13 ⟨v302, rfl, ho0, hb, hkp⟩; refine ⟨_, rfl, ?_⟩; have n0_ := Aside0.mk (blk_kept (by (with_reducible repeat (first | refine xag ?_ _ | refine xai ?_ | refine xaf ?_ _)); exact BK296.out) hkp (fun hs_ => (fun e_ => (Kd.R_ne HO_0.out BK296.out (by decide)) e_) hs_)); have n1_ := Aside0.mk (Kd.R_mono (ok' := fun k_ => (P0_ k_ ∨ w.heap.size ≤ k_)) ho0 (fun k_ hk_ => Or.elim hk_ (fun hs_ => (HO_0.out.1 k_ (hs_).symm)) (fun hn_ => (.inr (Nat.le_trans (by first | exact HK.out.1 | exact (show Kept w _ (fun k_ => P0_ k_) from by repeat (first | (with_reducible first | exact HK.out | apply Kept.alloc | apply Kept.drewN | apply Kept.drew | refine Kept.setCell ?_ (.inr GW296.out) _) | exact HK.out)).1) hn_))))); have n2_ := Aside0.mk (Kept.then_ (S := (fun k_ => P0_ k_)) (by repeat (first | (with_reducible first | exact HK.out | apply Kept.alloc | apply Kept.drewN | apply Kept.drew | refine Kept.setCell ?_ (.inr GW296.out) _) | exact HK.out)) hkp (fun k_ hs_ => (fun e_ => (HO_0.out.1 k_ e_.symm)) hs_)); have n3_ := Aside0.mk (hb); clear BK296; clear HK; clear HB; clear HO_0; have BK296 := n0_; have HO303 := n1_; have HK := n2_; have HB := n3_; clear n0_ n1_ n2_ n3_; (try clear hb); (try clear hkp); (try clear ho0); obtain ⟨hcz14_0, hcz14_1, hcz14_2, hcz14_3, hcz14_4, hcz14_5, hcz14_6, hcz14_7, hcz14_8, hcz14_9, hcz14_10, hcz14_11, hcz14_12, hcz14_13, hcz14_14, hcz14_15⟩ := cz16 BK296.out; obtain ⟨hfz14_0, hfz14_1, hfz14_2, hfz14_3, hfz14_4, hfz14_5, hfz14_6, hfz14_7, hfz14_8, hfz14_9, hfz14_10, hfz14_11, hfz14_12, hfz14_13, hfz14_14, hfz14_15⟩ := fz16 BK296.out; obtain ⟨Ao15, co15, eo15⟩ := Kd.R_slice HO303.out; subst eo15) | ((with_reducible refine xau (f := 57) rfl ?_); refine goesL_ (some 30) rfl rfl Tryd.func57 (by kernel_rfl) rfl #[.slice Ao15 t301.length co15, .agg #[.int .i8 a1_10, .string a1_11, .int .i8 a1_12, .int .i64 a1_13, .string a1_14, .slice A1_15 l1_15.length c1_15]] rfl (by (try simp only [List.map_toArray, List.map_cons, List.map_nil]); first | done | rfl | (simp only [List.length_drop, List.length_take]; rfl)) ?_; (with_reducible refine (r4_exprTerms.calls (fun k_ => some k_ = (.slice Ao15 t301.length co15 : Value).ownBlock) (.slice Ao15 t301.length co15) t301 a1_10 a1_11 a1_12 a1_13 a1_14 _ _ l1_15 t304 w0 _ ?side1 ?side2 ?side3 ?side4 A10.out).mono ?_); (case side1 => repeat (first | (with_reducible first | exact HB.out | apply xab | apply xaa | apply xac | refine xad ?_ GE296.out) | exact HB.out)); (case side2 => exact Kd.R_tight rfl HO303.out); (case side3 => exact Kd.C_kept_call HR1_15.out (by repeat (first | (with_reducible first | exact HK.out | apply Kept.alloc | apply Kept.drewN | apply Kept.drew | refine Kept.setCell ?_ (.inr GW296.out) _) | exact HK.out)) (fun k_ hs_ => (fun e_ => (HO303.out.1 k_ e_.symm)) hs_)); (case side4 => exact HC1_15.out); rintro e w16 ⟨v305, rfl, ho0, hb, hkp⟩; refine ⟨_, rfl, ?_⟩; have n0_ := Aside0.mk (blk_kept (by (with_reducible repeat (first | refine xag ?_ _ | refine xai ?_ | refine xaf ?_ _)); exact BK296.out) hkp (fun hs_ => (fun e_ => (Kd.R_ne HO303.out BK296.out (by decide)) e_) hs_)); have n1_ := Aside0.mk (Kd.R_mono (ok' := fun k_ => (P0_ k_ ∨ w.heap.size ≤ k_)) ho0 (fun k_ hk_ => Or.elim hk_ (fun hs_ => (HO303.out.1 k_ (hs_).symm)) (fun hn_ => (.inr (Nat.le_trans (by first | exact HK.out.1 | exact (show Kept w _ (fun k_ => P0_ k_) from by repeat (first | (with_reducible first | exact HK.out | apply Kept.alloc | apply Kept.drewN | apply Kept.drew | refine Kept.setCell ?_ (.inr GW296.out) _) | exact HK.out)).1) hn_))))); have n2_ := Aside0.mk (Kept.then_ (S := (fun k_ => P0_ k_)) (by repeat (first | (with_reducible first | exact HK.out | apply Kept.alloc | apply Kept.drewN | apply Kept.drew | refine Kept.setCell ?_ (.inr GW296.out) _) | exact HK.out)) hkp (fun k_ hs_ => (fun e_ => (HO303.out.1 k_ e_.symm)) hs_)); have n3_ := Aside0.mk (hb); clear BK296; clear HK; clear HB; clear HO303; have BK296 := n0_; have HO306 := n1_; have HK := n2_; have HB := n3_; clear n0_ n1_ n2_ n3_; (try clear hb); (try clear hkp); (try clear ho0)))
    go_ret
    exact ⟨_, by first | rfl | (simp [xak, xaj] <;> rfl) | (simp [*, xak, xaj] <;> rfl), by (with_reducible repeat (first | apply Kd.R_alloc | apply Kd.R_drewN | apply Kd.R_drew)); exact HO306.out, by repeat (first | (with_reducible first | exact HB.out | apply xab | apply xaa | apply xac | refine xad ?_ GE296.out) | exact HB.out), by repeat (first | (with_reducible first | exact HK.out | apply Kept.alloc | apply Kept.drewN | apply Kept.drew | refine Kept.setCell ?_ (.inr GW296.out) _) | exact HK.out)⟩
theorem in_ev (s : ByteArray) (L : List ByteArray) (hL : L.length < 1000000000000000000) : ∀ (m i : Nat), L.length - i = m → i ≤ L.length → Ev (fun k => r4_In.l0 k s L (i : Int)) ((L.drop i).any (fun y => y.data.toList == s.data.toList))
 | 0, i, hm, hi => by
  refine Ev.of (fun k => ?_)
  rw [r4_In.l0, if_neg (by omega), List.drop_eq_nil_of_le (by omega)]
  rfl
 | m + 1, i, hm, hi => by
  have hlt : i < L.length := by omega
  have e : rdOf ByteArray.empty L (i : Int) = L[i] := by simp [rdOf, List.getD_eq_getElem?_getD, List.getElem?_eq_getElem hlt]
  have ih := in_ev s L hL m (i + 1) (by omega) (by omega)
  rw [List.drop_eq_getElem_cons hlt, List.any_cons]
  by_cases h : L[i].data.toList = s.data.toList
  ·rw [show (L[i].data.toList == s.data.toList) = true by simpa using h, Bool.true_or]
   refine Ev.of (fun k => ?_)
   rw [r4_In.l0, if_pos (by omega), if_pos (by omega), e, toList_eq_data, toList_eq_data, if_pos h]
  ·rw [show (L[i].data.toList == s.data.toList) = false by simpa using h, Bool.false_or]
   refine ih.step (fun k => ?_)
   rw [r4_In.l0, if_pos (by omega), if_pos (by omega), e, toList_eq_data, toList_eq_data, if_neg h, w64 (by omega) (by omega)]
   rfl
theorem vars_ev (ts : List S28) (hts : ts.length < 2000000000000) : ∀ (m i : Nat) (acc : List ByteArray), ts.length - i = m → i ≤ ts.length → acc.length + m < 2000000000000 → Ev (fun k => r4_vars.l0 k ts acc (i : Int)) ((ts.drop i).foldl varStep acc)
 | 0, i, acc, hm, hi, ha => by
  refine Ev.of (fun k => ?_)
  rw [r4_vars.l0, if_neg (by omega), List.drop_eq_nil_of_le (by omega)]
  rfl
 | m + 1, i, acc, hm, hi, ha => by
  have hlt : i < ts.length := by omega
  have e : rd_T28 ts (i : Int) = ts[i] := by rw [rd_T28, List.getD_eq_getElem?_getD, Int.toNat_natCast, List.getElem?_eq_getElem hlt]; rfl
  have ih := fun acc (ha : List.length acc + m < 2000000000000) => vars_ev ts hts m (i + 1) acc (by omega) (by omega) ha
  rw [List.drop_eq_getElem_cons hlt, List.foldl_cons]
  by_cases h1 : ts[i].f0.toList = []
  ·rw [show varStep acc ts[i] = acc by rw [varStep, if_pos (.inl h1)]]
   refine (ih acc (by omega)).step (fun k => ?_)
   rw [r4_vars.l0, if_pos (by omega), if_pos (by omega), e, if_pos h1, w64 (by omega) (by omega)]
   rfl
  ·by_cases h2 : ts[i].f0.toList = [95]
   ·rw [show varStep acc ts[i] = acc by rw [varStep, if_pos (.inr (.inl h2))]]
    refine (ih acc (by omega)).step (fun k => ?_)
    rw [r4_vars.l0, if_pos (by omega), if_pos (by omega), e, if_neg h1, if_pos h2, w64 (by omega) (by omega)]
    rfl
   ·have hin := in_ev ts[i].f0 acc (by omega) _ 0 rfl (Nat.zero_le _)
    rw [List.drop_zero] at hin
    have h3 : Ev (fun k => (r4_In.f k ts[i].f0 acc).bind fun t194 => (if t194 = true then (r4_vars.l0 k ts acc ((i + 1 : Nat) : Int)) else (if acc.length < 8796093022208 then (r4_vars.l0 k ts (acc ++ [ts[i].f0]) ((i + 1 : Nat) : Int)) else (none)))) ((ts.drop (i + 1)).foldl varStep (varStep acc ts[i])) := by
     refine Ev.bind (f := fun k => r4_In.f k ts[i].f0 acc) (g := fun k t194 => (if t194 = true then (r4_vars.l0 k ts acc ((i + 1 : Nat) : Int)) else (if acc.length < 8796093022208 then (r4_vars.l0 k ts (acc ++ [ts[i].f0]) ((i + 1 : Nat) : Int)) else (none)))) hin ?_
     cases hb : acc.any (fun y => y.data.toList == ts[i].f0.data.toList) with
     | true =>
      rw [show varStep acc ts[i] = acc by rw [varStep, if_pos (.inr (.inr hb))]]
      exact (ih acc (by omega)).cong (fun k => by rw [if_pos rfl])
     | false =>
      rw [show varStep acc ts[i] = acc ++ [ts[i].f0] by rw [varStep, if_neg (by rw [hb]; simp [h1, h2])]]
      exact (ih _ (by simp; omega)).cong (fun k => by rw [if_neg (by simp), if_pos (by omega)])
    refine h3.step (fun k => ?_)
    rw [r4_vars.l0, if_pos (by omega), if_pos (by omega), e, if_neg h1, if_neg h2, w64 (by omega) (by omega)]
    rfl
theorem refVars_ev (ts : List S28) (hts : ts.length < 2000000000000) : Ev (fun k => r4_vars.f k ts) (varsOf ts) := by
 have h := vars_ev ts hts _ 0 [] rfl (Nat.zero_le _) (by simp; omega)
 rw [List.drop_zero] at h
 exact h
theorem eta_term (y : S28) : (⟨y.f0, ⟨y.f1.f0, y.f1.f1, y.f1.f2⟩⟩ : S28) = y := rfl
theorem litTerms_l0 (x : S56) : ∀ (m i : Nat) (acc : List S28), x.f1.f1.length - i = m → i ≤ x.f1.f1.length → acc.length + m + (exprTermsL x.f3).length + (exprTermsL x.f4).length < 1000000000000 → x.f1.f1.length < 1000000000000 →
  Ev (fun k => r4_literalTerms.l0 k acc (i : Int) x.f0 x.f1.f0 x.f1.f1 x.f2 x.f3.f0 x.f3.f1.f0 x.f3.f1.f1.f0 x.f3.f1.f1.f1 x.f3.f1.f1.f2 x.f3.f2 x.f4.f0 x.f4.f1.f0 x.f4.f1.f1.f0 x.f4.f1.f1.f1 x.f4.f1.f1.f2 x.f4.f2) (acc ++ x.f1.f1.drop i ++ exprTermsL x.f3 ++ exprTermsL x.f4)
 | 0, i, acc, hm, hi, ha, hx => by
  refine Ev.of (fun k => ?_)
  rw [r4_literalTerms.l0, if_neg (by omega), List.drop_eq_nil_of_le (by omega), List.append_nil, r4_exprTerms.f, eta_expr]
  try dsimp only
  rw [if_pos (by omega)]
  show (r4_exprTerms.f (acc ++ exprTermsL x.f3) _ _ _ _ _ _).bind _ = _
  rw [r4_exprTerms.f, eta_expr]
  try dsimp only
  rw [if_pos (by rw [List.length_append]; omega)]
  rfl
 | m + 1, i, acc, hm, hi, ha, hx => by
  have hlt : i < x.f1.f1.length := by omega
  have e : rd_T28 x.f1.f1 (i : Int) = x.f1.f1[i] := by rw [rd_T28, List.getD_eq_getElem?_getD, Int.toNat_natCast, List.getElem?_eq_getElem hlt]; rfl
  have ih := litTerms_l0 x m (i + 1) (acc ++ [x.f1.f1[i]]) (by omega) (by omega) (by simp; omega) hx
  rw [List.drop_eq_getElem_cons hlt, show acc ++ x.f1.f1[i] :: x.f1.f1.drop (i + 1) = acc ++ [x.f1.f1[i]] ++ x.f1.f1.drop (i + 1) by simp]
  refine ih.step (fun k => ?_)
  rw [r4_literalTerms.l0, if_pos (by omega), if_pos (by omega), if_pos (by omega), eta_term, e, w64 (by omega) (by omega)]
  rfl
theorem sameTexts_l0 (l : List ByteArray) (hl : l.length < 1000000000000) : ∀ (m i : Nat), l.length - i = m → i ≤ l.length → Ev (fun k => w1_SameTexts.l0 k l l (i : Int)) true
 | 0, i, hm, hi => Ev.of (fun k => by rw [w1_SameTexts.l0, if_neg (by omega)])
 | m + 1, i, hm, hi => (sameTexts_l0 l hl m (i + 1) (by omega) (by omega)).step (fun k => by
   rw [w1_SameTexts.l0, if_pos (by omega), if_pos (by omega), if_pos (by omega), if_pos rfl, w64 (by omega) (by omega)]
   rfl)
theorem sameTexts_ev (l : List ByteArray) (hl : l.length < 1000000000000) : Ev (fun k => w1_SameTexts.f k l l) true :=
 (sameTexts_l0 l hl _ 0 rfl (Nat.zero_le _)).cong (fun k => by rw [w1_SameTexts.f, if_pos rfl]; rfl)
theorem varsOf_len (ts : List S28) : (varsOf ts).length ≤ ts.length := by
 have : ∀ (ts : List S28) (L : List ByteArray), (ts.foldl varStep L).length ≤ L.length + ts.length := by
  intro ts
  induction ts with
  | nil => intro L; simp
  | cons t r ih => intro L; rw [List.foldl_cons, List.length_cons]; have := ih (varStep L t); have := varStep_len L t; omega
 have h := this ts []
 rw [List.length_nil, Nat.zero_add] at h
 exact h
theorem FE_short {n : Nat} : ∀ {q : Nat} {x : S31}, FE n x → short q x := by
 induction n with
 | zero => exact fun h => h.elim
 | succ n ih =>
  intro q x h
  cases q with
  | zero => trivial
  | succ q =>
   refine ⟨?_, fun k hk => ih (h.2.2.2 k hk)⟩
   have := h.2.2.1
   have : x.f2.length * 80 ≤ 140737488351232 := this
   omega
theorem FE_terms {n : Nat} : ∀ {x : S31}, FE n x → ∀ t ∈ exprTermsL x, FT t := by
 induction n with
 | zero => exact fun h => h.elim
 | succ n ih =>
  intro x h t ht
  rw [xbc] at ht
  rcases List.mem_cons.1 ht with rfl | ht
  ·exact h.2.1
  ·have : ∀ l : List S31, (∀ k ∈ l, FE n k) → t ∈ kidsTermsL l → FT t := by
    intro l
    induction l with
    | nil => intro _ h; simp [kidsTermsL] at h
    | cons e r ihl =>
     intro hl h
     rw [kidsTermsL] at h
     rcases List.mem_append.1 h with h | h
     ·exact ih (hl e List.mem_cons_self) t h
     ·exact ihl (fun k hk => hl k (List.mem_cons_of_mem _ hk)) h
   exact this _ h.2.2.2 ht
theorem FL_short {x : S56} (h : FL x) : shortLit x := by
 obtain ⟨_, ⟨_, h2, _⟩, _, ⟨n, hn⟩, ⟨m, hm⟩⟩ := h
 have : x.f1.f1.length * 48 ≤ 140737488351232 := h2
 exact ⟨by omega, fun q => FE_short hn, fun q => FE_short hm⟩
theorem FL_terms {x : S56} (h : FL x) : ∀ t ∈ litTermsL x, FT t := by
 obtain ⟨_, ⟨_, _, h3⟩, _, ⟨n, hn⟩, ⟨m, hm⟩⟩ := h
 intro t ht
 rw [litTermsL] at ht
 rcases List.mem_append.1 ht with ht | ht
 ·rcases List.mem_append.1 ht with ht | ht
  ·exact h3 t ht
  ·exact FE_terms hn t ht
 ·exact FE_terms hm t ht
theorem fits_terms {l : List S28} (h : ∀ t ∈ l, FT t) (hl : l.length < 2000000) : varsFit l = true := by
 rw [varsFit, Bool.and_eq_true]
 refine ⟨by simp; omega, List.all_eq_true.2 (fun t ht => ?_)⟩
 have : t.f0.size ≤ 140737488351232 := (h t ht).1
 simpa using this
def term_argument.f (a0_0 : Int) (a0_1 : ByteArray) (a0_2 : Int) (a0_3 : Int) (a0_4 : ByteArray) : Option (Bool) := if a0_0 = 0 then ((term_solid.f a0_1 a0_2 a0_3 a0_4).bind fun t345 => (some t345)) else (if a0_0 = 1 then ((term_none.f a0_1 a0_2 a0_3 a0_4).bind fun t346 => (some t346)) else (if a0_0 = 2 then (if a0_1.toList = ([] : List UInt8) then (some false) else ((term_solid.f a0_1 a0_2 a0_3 a0_4).bind fun t347 => (some t347))) else (if a0_0 = 3 then (if a0_1.toList = ([] : List UInt8) then (some false) else ((term_solid.f a0_1 a0_2 a0_3 a0_4).bind fun t348 => (some t348))) else (if a0_0 = 4 then (if a0_1.toList = ([] : List UInt8) then (some false) else ((term_solid.f a0_1 a0_2 a0_3 a0_4).bind fun t349 => (some t349))) else (some false)))))
set_option maxHeartbeats 8000000 in
set_option maxRecDepth 100000 in
theorem term_argument.calls (a0_0 : Int) (a0_1 : ByteArray) (a0_2 : Int) (a0_3 : Int) (a0_4 : ByteArray) (r : Bool) (w : World) (h : term_argument.f a0_0 a0_1 a0_2 a0_3 a0_4 = some r) :
  Calls Tryd.prog 74 #[.agg #[.int .i8 a0_0, .string a0_1, .int .i8 a0_2, .int .i64 a0_3, .string a0_4]] w fun e w' => e = .returned (.bool r) ∧ Below w.heap.size w w' := by
 have hu125 := Tryd.underlying125
 have hu28 := Tryd.underlying28
 have HB := Aside0.mk (Below.refl w.heap.size w)
 have H : (if a0_0 = 0 then ((term_solid.f a0_1 a0_2 a0_3 a0_4).bind fun t345 => (some t345)) else (if a0_0 = 1 then ((term_none.f a0_1 a0_2 a0_3 a0_4).bind fun t346 => (some t346)) else (if a0_0 = 2 then (if a0_1.toList = ([] : List UInt8) then (some false) else ((term_solid.f a0_1 a0_2 a0_3 a0_4).bind fun t347 => (some t347))) else (if a0_0 = 3 then (if a0_1.toList = ([] : List UInt8) then (some false) else ((term_solid.f a0_1 a0_2 a0_3 a0_4).bind fun t348 => (some t348))) else (if a0_0 = 4 then (if a0_1.toList = ([] : List UInt8) then (some false) else ((term_solid.f a0_1 a0_2 a0_3 a0_4).bind fun t349 => (some t349))) else (some false)))))) = some r := h
 clear h
 by_cases c2 : a0_0 = 0
 ·rw [if_pos c2] at H
  have c2b0 : (a0_0 == 0) = true := beq_iff_eq.mpr c2
  have c2b1 : (a0_0 != 0) = false := bne_eq_false_iff_eq.mpr c2
  clear c2
  replace H := Option.bind_eq_some_iff.mp H
  obtain ⟨t345, A30, H⟩ := H
  replace H : (some t345) = some r := H
  have A3 := Aside0.mk A30
  clear A30
  obtain rfl := Option.some.inj H
  go_enter Tryd.func74, Tryd.ntmps74
  go_wp2_with (first | ((with_reducible refine xar (N := 1) rfl ?_); refine xap ?hg (N := 1) ?hd (cs := #[.int .i8 a0_0, .string a0_1, .int .i8 a0_2, .int .i64 a0_3, .string a0_4]) (t := 125) ?hr ?_; (case hd => rfl); (case hg => rfl); (case hr => first | (go_simp; done) | (go_simp; rfl)); intro gb344 hg w4 hbox hb; have n0_ := Aside0.mk (xah (by repeat (first | (with_reducible first | exact HB.out | apply xab | apply xaa | apply xac) | exact HB.out)) hb); have n1_ := Aside0.mk (hbox); have n2_ := Aside0.mk ((by rw [hg]; exact (xao (by repeat (first | (with_reducible first | exact HB.out | apply xab | apply xaa | apply xac) | exact HB.out))) : w.heap.size ≤ gb344)); have n3_ := n2_; clear HB; have HB := n0_; have BK344 := n1_; have GW344 := n2_; have GE344 := n3_; clear n0_ n1_ n2_ n3_; clear hb hbox hg; obtain ⟨hcz5_0, hcz5_1, hcz5_2, hcz5_3, hcz5_4⟩ := cz5 BK344.out; obtain ⟨hfz5_0, hfz5_1, hfz5_2, hfz5_3, hfz5_4⟩ := fz5 BK344.out) | ((with_reducible refine xau (f := 114) rfl ?_); refine goesL_ (some 9) rfl rfl Tryd.func114 (by kernel_rfl) rfl #[.agg #[.string a0_1, .int .i8 a0_2, .int .i64 a0_3, .string a0_4]] rfl (by (try simp only [List.map_toArray, List.map_cons, List.map_nil]); first | done | rfl | (simp only [List.length_drop, List.length_take]; rfl)) ?_; (with_reducible refine (term_solid.calls a0_1 a0_2 a0_3 a0_4 t345 _ A3.out).mono ?_); rintro e w6 ⟨rfl, hb⟩; refine ⟨_, rfl, ?_⟩; have n0_ := Aside0.mk (xam (g := gb344) (o := .cells #[.int .i8 a0_0, .string a0_1, .int .i8 a0_2, .int .i64 a0_3, .string a0_4] 125 (0, 0)) (by (with_reducible repeat (first | refine xag ?_ _ | refine xai ?_ | refine xaf ?_ _)); exact BK344.out) hb); have n1_ := Aside0.mk (xah (by repeat (first | (with_reducible first | exact HB.out | apply xab | apply xaa | apply xac | refine xad ?_ GE344.out) | exact HB.out)) hb); clear BK344; clear HB; have BK344 := n0_; have HB := n1_; clear n0_ n1_; (try clear hb); (try clear hb2); (try clear hk); (try clear hi)))
  go_ret
  exact ⟨by first | rfl | (simp [xak, xaj] <;> rfl) | (simp [*, xak, xaj] <;> rfl), by repeat (first | (with_reducible first | exact HB.out | apply xab | apply xaa | apply xac | refine xad ?_ GE344.out) | exact HB.out)⟩
 ·rw [if_neg c2] at H
  have c2b0 : (a0_0 == 0) = false := beq_eq_false_iff_ne.mpr c2
  have c2b1 : (a0_0 != 0) = true := bne_iff_ne.mpr c2
  by_cases c7 : a0_0 = 1
  ·rw [if_pos c7] at H
   have c7b0 : (a0_0 == 1) = true := beq_iff_eq.mpr c7
   have c7b1 : (a0_0 != 1) = false := bne_eq_false_iff_eq.mpr c7
   clear c7
   replace H := Option.bind_eq_some_iff.mp H
   obtain ⟨t346, A80, H⟩ := H
   replace H : (some t346) = some r := H
   have A8 := Aside0.mk A80
   clear A80
   obtain rfl := Option.some.inj H
   go_enter Tryd.func74, Tryd.ntmps74
   go_wp2_with (first | ((with_reducible refine xar (N := 1) rfl ?_); refine xap ?hg (N := 1) ?hd (cs := #[.int .i8 a0_0, .string a0_1, .int .i8 a0_2, .int .i64 a0_3, .string a0_4]) (t := 125) ?hr ?_; (case hd => rfl); (case hg => rfl); (case hr => first | (go_simp; done) | (go_simp; rfl)); intro gb344 hg w9 hbox hb; have n0_ := Aside0.mk (xah (by repeat (first | (with_reducible first | exact HB.out | apply xab | apply xaa | apply xac) | exact HB.out)) hb); have n1_ := Aside0.mk (hbox); have n2_ := Aside0.mk ((by rw [hg]; exact (xao (by repeat (first | (with_reducible first | exact HB.out | apply xab | apply xaa | apply xac) | exact HB.out))) : w.heap.size ≤ gb344)); have n3_ := n2_; clear HB; have HB := n0_; have BK344 := n1_; have GW344 := n2_; have GE344 := n3_; clear n0_ n1_ n2_ n3_; clear hb hbox hg; obtain ⟨hcz10_0, hcz10_1, hcz10_2, hcz10_3, hcz10_4⟩ := cz5 BK344.out; obtain ⟨hfz10_0, hfz10_1, hfz10_2, hfz10_3, hfz10_4⟩ := fz5 BK344.out) | ((with_reducible refine xau (f := 106) rfl ?_); refine goesL_ (some 14) rfl rfl Tryd.func106 (by kernel_rfl) rfl #[.agg #[.string a0_1, .int .i8 a0_2, .int .i64 a0_3, .string a0_4]] rfl (by (try simp only [List.map_toArray, List.map_cons, List.map_nil]); first | done | rfl | (simp only [List.length_drop, List.length_take]; rfl)) ?_; (with_reducible refine (term_none.calls a0_1 a0_2 a0_3 a0_4 t346 _ A8.out).mono ?_); rintro e w11 ⟨rfl, hb⟩; refine ⟨_, rfl, ?_⟩; have n0_ := Aside0.mk (xam (g := gb344) (o := .cells #[.int .i8 a0_0, .string a0_1, .int .i8 a0_2, .int .i64 a0_3, .string a0_4] 125 (0, 0)) (by (with_reducible repeat (first | refine xag ?_ _ | refine xai ?_ | refine xaf ?_ _)); exact BK344.out) hb); have n1_ := Aside0.mk (xah (by repeat (first | (with_reducible first | exact HB.out | apply xab | apply xaa | apply xac | refine xad ?_ GE344.out) | exact HB.out)) hb); clear BK344; clear HB; have BK344 := n0_; have HB := n1_; clear n0_ n1_; (try clear hb); (try clear hb2); (try clear hk); (try clear hi)))
   go_ret
   exact ⟨by first | rfl | (simp [xak, xaj] <;> rfl) | (simp [*, xak, xaj] <;> rfl), by repeat (first | (with_reducible first | exact HB.out | apply xab | apply xaa | apply xac | refine xad ?_ GE344.out) | exact HB.out)⟩
  ·rw [if_neg c7] at H
   have c7b0 : (a0_0 == 1) = false := beq_eq_false_iff_ne.mpr c7
   have c7b1 : (a0_0 != 1) = true := bne_iff_ne.mpr c7
   by_cases c12 : a0_0 = 2
   ·rw [if_pos c12] at H
    have c12b0 : (a0_0 == 2) = true := beq_iff_eq.mpr c12
    have c12b1 : (a0_0 != 2) = false := bne_eq_false_iff_eq.mpr c12
    clear c12
    by_cases c13 : a0_1.toList = ([] : List UInt8)
    ·rw [if_pos c13] at H
     have c13b0 : (a0_1.toList == ([] : List UInt8)) = true := beq_iff_eq.mpr c13
     have c13b1 : (a0_1.toList != ([] : List UInt8)) = false := bne_eq_false_iff_eq.mpr c13
     clear c13
     obtain rfl := Option.some.inj H
     go_enter Tryd.func74, Tryd.ntmps74
     go_wp2_with (first | ((with_reducible refine xar (N := 1) rfl ?_); refine xap ?hg (N := 1) ?hd (cs := #[.int .i8 a0_0, .string a0_1, .int .i8 a0_2, .int .i64 a0_3, .string a0_4]) (t := 125) ?hr ?_; (case hd => rfl); (case hg => rfl); (case hr => first | (go_simp; done) | (go_simp; rfl)); intro gb344 hg w14 hbox hb; have n0_ := Aside0.mk (xah (by repeat (first | (with_reducible first | exact HB.out | apply xab | apply xaa | apply xac) | exact HB.out)) hb); have n1_ := Aside0.mk (hbox); have n2_ := Aside0.mk ((by rw [hg]; exact (xao (by repeat (first | (with_reducible first | exact HB.out | apply xab | apply xaa | apply xac) | exact HB.out))) : w.heap.size ≤ gb344)); have n3_ := n2_; clear HB; have HB := n0_; have BK344 := n1_; have GW344 := n2_; have GE344 := n3_; clear n0_ n1_ n2_ n3_; clear hb hbox hg; obtain ⟨hcz15_0, hcz15_1, hcz15_2, hcz15_3, hcz15_4⟩ := cz5 BK344.out; obtain ⟨hfz15_0, hfz15_1, hfz15_2, hfz15_3, hfz15_4⟩ := fz5 BK344.out))
     go_ret
     exact ⟨by first | rfl | (simp [xak, xaj] <;> rfl) | (simp [*, xak, xaj] <;> rfl), by repeat (first | (with_reducible first | exact HB.out | apply xab | apply xaa | apply xac | refine xad ?_ GE344.out) | exact HB.out)⟩
    ·rw [if_neg c13] at H
     have c13b0 : (a0_1.toList == ([] : List UInt8)) = false := beq_eq_false_iff_ne.mpr c13
     have c13b1 : (a0_1.toList != ([] : List UInt8)) = true := bne_iff_ne.mpr c13
     replace H := Option.bind_eq_some_iff.mp H
     obtain ⟨t347, A160, H⟩ := H
     replace H : (some t347) = some r := H
     have A16 := Aside0.mk A160
     clear A160
     obtain rfl := Option.some.inj H
     go_enter Tryd.func74, Tryd.ntmps74
     go_wp2_with (first | ((with_reducible refine xar (N := 1) rfl ?_); refine xap ?hg (N := 1) ?hd (cs := #[.int .i8 a0_0, .string a0_1, .int .i8 a0_2, .int .i64 a0_3, .string a0_4]) (t := 125) ?hr ?_; (case hd => rfl); (case hg => rfl); (case hr => first | (go_simp; done) | (go_simp; rfl)); intro gb344 hg w17 hbox hb; have n0_ := Aside0.mk (xah (by repeat (first | (with_reducible first | exact HB.out | apply xab | apply xaa | apply xac) | exact HB.out)) hb); have n1_ := Aside0.mk (hbox); have n2_ := Aside0.mk ((by rw [hg]; exact (xao (by repeat (first | (with_reducible first | exact HB.out | apply xab | apply xaa | apply xac) | exact HB.out))) : w.heap.size ≤ gb344)); have n3_ := n2_; clear HB; have HB := n0_; have BK344 := n1_; have GW344 := n2_; have GE344 := n3_; clear n0_ n1_ n2_ n3_; clear hb hbox hg; obtain ⟨hcz18_0, hcz18_1, hcz18_2, hcz18_3, hcz18_4⟩ := cz5 BK344.out; obtain ⟨hfz18_0, hfz18_1, hfz18_2, hfz18_3, hfz18_4⟩ := fz5 BK344.out) | (go_at_call 114; (with_reducible refine (term_solid.calls a0_1 a0_2 a0_3 a0_4 t347 _ A16.out).mono ?_); rintro e w19 ⟨rfl, hb⟩; have n0_ := Aside0.mk (xam (g := gb344) (o := .cells #[.int .i8 a0_0, .string a0_1, .int .i8 a0_2, .int .i64 a0_3, .string a0_4] 125 (0, 0)) (by (with_reducible repeat (first | refine xag ?_ _ | refine xai ?_ | refine xaf ?_ _)); exact BK344.out) hb); have n1_ := Aside0.mk (xah (by repeat (first | (with_reducible first | exact HB.out | apply xab | apply xaa | apply xac | refine xad ?_ GE344.out) | exact HB.out)) hb); clear BK344; clear HB; have BK344 := n0_; have HB := n1_; clear n0_ n1_; (try clear hb); (try clear hb2); (try clear hk); (try clear hi)))
     go_ret
     exact ⟨by first | rfl | (simp [xak, xaj] <;> rfl) | (simp [*, xak, xaj] <;> rfl), by repeat (first | (with_reducible first | exact HB.out | apply xab | apply xaa | apply xac | refine xad ?_ GE344.out) | exact HB.out)⟩
   ·rw [if_neg c12] at H
    have c12b0 : (a0_0 == 2) = false := beq_eq_false_iff_ne.mpr c12
    have c12b1 : (a0_0 != 2) = true := bne_iff_ne.mpr c12
    by_cases c20 : a0_0 = 3
    ·rw [if_pos c20] at H
     have c20b0 : (a0_0 == 3) = true := beq_iff_eq.mpr c20
     have c20b1 : (a0_0 != 3) = false := bne_eq_false_iff_eq.mpr c20
     clear c20
     by_cases c21 : a0_1.toList = ([] : List UInt8)
     ·rw [if_pos c21] at H
      have c21b0 : (a0_1.toList == ([] : List UInt8)) = true := beq_iff_eq.mpr c21
      have c21b1 : (a0_1.toList != ([] : List UInt8)) = false := bne_eq_false_iff_eq.mpr c21
      clear c21
      obtain rfl := Option.some.inj H
      go_enter Tryd.func74, Tryd.ntmps74
      go_wp2_with (first | ((with_reducible refine xar (N := 1) rfl ?_); refine xap ?hg (N := 1) ?hd (cs := #[.int .i8 a0_0, .string a0_1, .int .i8 a0_2, .int .i64 a0_3, .string a0_4]) (t := 125) ?hr ?_; (case hd => rfl); (case hg => rfl); (case hr => first | (go_simp; done) | (go_simp; rfl)); intro gb344 hg w22 hbox hb; have n0_ := Aside0.mk (xah (by repeat (first | (with_reducible first | exact HB.out | apply xab | apply xaa | apply xac) | exact HB.out)) hb); have n1_ := Aside0.mk (hbox); have n2_ := Aside0.mk ((by rw [hg]; exact (xao (by repeat (first | (with_reducible first | exact HB.out | apply xab | apply xaa | apply xac) | exact HB.out))) : w.heap.size ≤ gb344)); have n3_ := n2_; clear HB; have HB := n0_; have BK344 := n1_; have GW344 := n2_; have GE344 := n3_; clear n0_ n1_ n2_ n3_; clear hb hbox hg; obtain ⟨hcz23_0, hcz23_1, hcz23_2, hcz23_3, hcz23_4⟩ := cz5 BK344.out; obtain ⟨hfz23_0, hfz23_1, hfz23_2, hfz23_3, hfz23_4⟩ := fz5 BK344.out))
      go_ret
      exact ⟨by first | rfl | (simp [xak, xaj] <;> rfl) | (simp [*, xak, xaj] <;> rfl), by repeat (first | (with_reducible first | exact HB.out | apply xab | apply xaa | apply xac | refine xad ?_ GE344.out) | exact HB.out)⟩
     ·rw [if_neg c21] at H
      have c21b0 : (a0_1.toList == ([] : List UInt8)) = false := beq_eq_false_iff_ne.mpr c21
      have c21b1 : (a0_1.toList != ([] : List UInt8)) = true := bne_iff_ne.mpr c21
      replace H := Option.bind_eq_some_iff.mp H
      obtain ⟨t348, A240, H⟩ := H
      replace H : (some t348) = some r := H
      have A24 := Aside0.mk A240
      clear A240
      obtain rfl := Option.some.inj H
      go_enter Tryd.func74, Tryd.ntmps74
      go_wp2_with (first | ((with_reducible refine xar (N := 1) rfl ?_); refine xap ?hg (N := 1) ?hd (cs := #[.int .i8 a0_0, .string a0_1, .int .i8 a0_2, .int .i64 a0_3, .string a0_4]) (t := 125) ?hr ?_; (case hd => rfl); (case hg => rfl); (case hr => first | (go_simp; done) | (go_simp; rfl)); intro gb344 hg w25 hbox hb; have n0_ := Aside0.mk (xah (by repeat (first | (with_reducible first | exact HB.out | apply xab | apply xaa | apply xac) | exact HB.out)) hb); have n1_ := Aside0.mk (hbox); have n2_ := Aside0.mk ((by rw [hg]; exact (xao (by repeat (first | (with_reducible first | exact HB.out | apply xab | apply xaa | apply xac) | exact HB.out))) : w.heap.size ≤ gb344)); have n3_ := n2_; clear HB; have HB := n0_; have BK344 := n1_; have GW344 := n2_; have GE344 := n3_; clear n0_ n1_ n2_ n3_; clear hb hbox hg; obtain ⟨hcz26_0, hcz26_1, hcz26_2, hcz26_3, hcz26_4⟩ := cz5 BK344.out; obtain ⟨hfz26_0, hfz26_1, hfz26_2, hfz26_3, hfz26_4⟩ := fz5 BK344.out) | (go_at_call 114; (with_reducible refine (term_solid.calls a0_1 a0_2 a0_3 a0_4 t348 _ A24.out).mono ?_); rintro e w27 ⟨rfl, hb⟩; have n0_ := Aside0.mk (xam (g := gb344) (o := .cells #[.int .i8 a0_0, .string a0_1, .int .i8 a0_2, .int .i64 a0_3, .string a0_4] 125 (0, 0)) (by (with_reducible repeat (first | refine xag ?_ _ | refine xai ?_ | refine xaf ?_ _)); exact BK344.out) hb); have n1_ := Aside0.mk (xah (by repeat (first | (with_reducible first | exact HB.out | apply xab | apply xaa | apply xac | refine xad ?_ GE344.out) | exact HB.out)) hb); clear BK344; clear HB; have BK344 := n0_; have HB := n1_; clear n0_ n1_; (try clear hb); (try clear hb2); (try clear hk); (try clear hi)))
      go_ret
      exact ⟨by first | rfl | (simp [xak, xaj] <;> rfl) | (simp [*, xak, xaj] <;> rfl), by repeat (first | (with_reducible first | exact HB.out | apply xab | apply xaa | apply xac | refine xad ?_ GE344.out) | exact HB.out)⟩
    ·rw [if_neg c20] at H
     have c20b0 : (a0_0 == 3) = false := beq_eq_false_iff_ne.mpr c20
     have c20b1 : (a0_0 != 3) = true := bne_iff_ne.mpr c20
     by_cases c28 : a0_0 = 4
     ·rw [if_pos c28] at H
      have c28b0 : (a0_0 == 4) = true := beq_iff_eq.mpr c28
      have c28b1 : (a0_0 != 4) = false := bne_eq_false_iff_eq.mpr c28
      clear c28
      by_cases c29 : a0_1.toList = ([] : List UInt8)
      ·rw [if_pos c29] at H
       have c29b0 : (a0_1.toList == ([] : List UInt8)) = true := beq_iff_eq.mpr c29
       have c29b1 : (a0_1.toList != ([] : List UInt8)) = false := bne_eq_false_iff_eq.mpr c29
       clear c29
       obtain rfl := Option.some.inj H
       go_enter Tryd.func74, Tryd.ntmps74
       go_wp2_with (first | ((with_reducible refine xar (N := 1) rfl ?_); refine xap ?hg (N := 1) ?hd (cs := #[.int .i8 a0_0, .string a0_1, .int .i8 a0_2, .int .i64 a0_3, .string a0_4]) (t := 125) ?hr ?_; (case hd => rfl); (case hg => rfl); (case hr => first | (go_simp; done) | (go_simp; rfl)); intro gb344 hg w30 hbox hb; have n0_ := Aside0.mk (xah (by repeat (first | (with_reducible first | exact HB.out | apply xab | apply xaa | apply xac) | exact HB.out)) hb); have n1_ := Aside0.mk (hbox); have n2_ := Aside0.mk ((by rw [hg]; exact (xao (by repeat (first | (with_reducible first | exact HB.out | apply xab | apply xaa | apply xac) | exact HB.out))) : w.heap.size ≤ gb344)); have n3_ := n2_; clear HB; have HB := n0_; have BK344 := n1_; have GW344 := n2_; have GE344 := n3_; clear n0_ n1_ n2_ n3_; clear hb hbox hg; obtain ⟨hcz31_0, hcz31_1, hcz31_2, hcz31_3, hcz31_4⟩ := cz5 BK344.out; obtain ⟨hfz31_0, hfz31_1, hfz31_2, hfz31_3, hfz31_4⟩ := fz5 BK344.out))
       go_ret
       exact ⟨by first | rfl | (simp [xak, xaj] <;> rfl) | (simp [*, xak, xaj] <;> rfl), by repeat (first | (with_reducible first | exact HB.out | apply xab | apply xaa | apply xac | refine xad ?_ GE344.out) | exact HB.out)⟩
      ·rw [if_neg c29] at H
       have c29b0 : (a0_1.toList == ([] : List UInt8)) = false := beq_eq_false_iff_ne.mpr c29
       have c29b1 : (a0_1.toList != ([] : List UInt8)) = true := bne_iff_ne.mpr c29
       replace H := Option.bind_eq_some_iff.mp H
       obtain ⟨t349, A320, H⟩ := H
       replace H : (some t349) = some r := H
       have A32 := Aside0.mk A320
       clear A320
       obtain rfl := Option.some.inj H
       go_enter Tryd.func74, Tryd.ntmps74
       go_wp2_with (first | ((with_reducible refine xar (N := 1) rfl ?_); refine xap ?hg (N := 1) ?hd (cs := #[.int .i8 a0_0, .string a0_1, .int .i8 a0_2, .int .i64 a0_3, .string a0_4]) (t := 125) ?hr ?_; (case hd => rfl); (case hg => rfl); (case hr => first | (go_simp; done) | (go_simp; rfl)); intro gb344 hg w33 hbox hb; have n0_ := Aside0.mk (xah (by repeat (first | (with_reducible first | exact HB.out | apply xab | apply xaa | apply xac) | exact HB.out)) hb); have n1_ := Aside0.mk (hbox); have n2_ := Aside0.mk ((by rw [hg]; exact (xao (by repeat (first | (with_reducible first | exact HB.out | apply xab | apply xaa | apply xac) | exact HB.out))) : w.heap.size ≤ gb344)); have n3_ := n2_; clear HB; have HB := n0_; have BK344 := n1_; have GW344 := n2_; have GE344 := n3_; clear n0_ n1_ n2_ n3_; clear hb hbox hg; obtain ⟨hcz34_0, hcz34_1, hcz34_2, hcz34_3, hcz34_4⟩ := cz5 BK344.out; obtain ⟨hfz34_0, hfz34_1, hfz34_2, hfz34_3, hfz34_4⟩ := fz5 BK344.out) | (go_at_call 114; (with_reducible refine (term_solid.calls a0_1 a0_2 a0_3 a0_4 t349 _ A32.out).mono ?_); rintro e w35 ⟨rfl, hb⟩; have n0_ := Aside0.mk (xam (g := gb344) (o := .cells #[.int .i8 a0_0, .string a0_1, .int .i8 a0_2, .int .i64 a0_3, .string a0_4] 125 (0, 0)) (by (with_reducible repeat (first | refine xag ?_ _ | refine xai ?_ | refine xaf ?_ _)); exact BK344.out) hb); have n1_ := Aside0.mk (xah (by repeat (first | (with_reducible first | exact HB.out | apply xab | apply xaa | apply xac | refine xad ?_ GE344.out) | exact HB.out)) hb); clear BK344; clear HB; have BK344 := n0_; have HB := n1_; clear n0_ n1_; (try clear hb); (try clear hb2); (try clear hk); (try clear hi)))
       go_ret
       exact ⟨by first | rfl | (simp [xak, xaj] <;> rfl) | (simp [*, xak, xaj] <;> rfl), by repeat (first | (with_reducible first | exact HB.out | apply xab | apply xaa | apply xac | refine xad ?_ GE344.out) | exact HB.out)⟩
     ·rw [if_neg c28] at H
      have c28b0 : (a0_0 == 4) = false := beq_eq_false_iff_ne.mpr c28
      have c28b1 : (a0_0 != 4) = true := bne_iff_ne.mpr c28
      obtain rfl := Option.some.inj H
      go_enter Tryd.func74, Tryd.ntmps74
      go_wp2_with (first | ((with_reducible refine xar (N := 1) rfl ?_); refine xap ?hg (N := 1) ?hd (cs := #[.int .i8 a0_0, .string a0_1, .int .i8 a0_2, .int .i64 a0_3, .string a0_4]) (t := 125) ?hr ?_; (case hd => rfl); (case hg => rfl); (case hr => first | (go_simp; done) | (go_simp; rfl)); intro gb344 hg w36 hbox hb; have n0_ := Aside0.mk (xah (by repeat (first | (with_reducible first | exact HB.out | apply xab | apply xaa | apply xac) | exact HB.out)) hb); have n1_ := Aside0.mk (hbox); have n2_ := Aside0.mk ((by rw [hg]; exact (xao (by repeat (first | (with_reducible first | exact HB.out | apply xab | apply xaa | apply xac) | exact HB.out))) : w.heap.size ≤ gb344)); have n3_ := n2_; clear HB; have HB := n0_; have BK344 := n1_; have GW344 := n2_; have GE344 := n3_; clear n0_ n1_ n2_ n3_; clear hb hbox hg; obtain ⟨hcz37_0, hcz37_1, hcz37_2, hcz37_3, hcz37_4⟩ := cz5 BK344.out; obtain ⟨hfz37_0, hfz37_1, hfz37_2, hfz37_3, hfz37_4⟩ := fz5 BK344.out))
      go_ret
      exact ⟨by first | rfl | (simp [xak, xaj] <;> rfl) | (simp [*, xak, xaj] <;> rfl), by repeat (first | (with_reducible first | exact HB.out | apply xab | apply xaa | apply xac | refine xad ?_ GE344.out) | exact HB.out)⟩
def term_RuleVars.f (a0_0 : ByteArray) (l0_1 : List (S125)) (l0_2 : List (S56)) : Option (List ByteArray) := let x : S67 := ⟨a0_0, l0_1, l0_2⟩; if varsFit (ruleTermsL x) = true then some (varsOf (ruleTermsL x)) else none
set_option maxHeartbeats 4000000 in
set_option maxRecDepth 100000 in
theorem term_RuleVars.calls (a0_0 : ByteArray) (A0_1 : Option Addr) (c0_1 : Nat) (l0_1 : List (S125)) (A0_2 : Option Addr) (c0_2 : Nat) (l0_2 : List (S56)) (r : List ByteArray) (w : World) (hr0_1 : Kd.C k125 w A0_1 l0_1.length l0_1) (hc0_1 : l0_1.length ≤ c0_1) (hr0_2 : Kd.C k56 w A0_2 l0_2.length l0_2) (hc0_2 : l0_2.length ≤ c0_2) (h : term_RuleVars.f a0_0 l0_1 l0_2 = some r) :
  Calls Tryd.prog 32 #[.agg #[.string a0_0, .slice A0_1 l0_1.length c0_1, .slice A0_2 l0_2.length c0_2]] w fun e w' => ∃ v0_ : Value, e = .returned (v0_) ∧ Kd.R Kd.string 9 w' w.heap.size (fun _ => True) v0_ r ∧ Below w.heap.size w w' := by
 obtain ⟨x, hx⟩ : ∃ x : S67, x = ⟨a0_0, l0_1, l0_2⟩ := ⟨_, rfl⟩
 have h' : (if varsFit (ruleTermsL x) = true then some (varsOf (ruleTermsL x)) else none) = some r := by rw [hx]; exact h
 clear h
 have hfit : varsFit (ruleTermsL x) = true := by
  rcases hv : varsFit (ruleTermsL x) with _ | _
  ·rw [hv] at h'; simp at h'
  ·rfl
 rw [if_pos hfit] at h'
 have HR := Lib.hid (Option.some.inj h')
 have HG := Lib.hid (allG_vars hfit)
 have hBK := xaz w (.cells #[.string a0_0, .slice A0_1 l0_1.length c0_1, .slice A0_2 l0_2.length c0_2] 67 (0, 0))
 have HBn := xab (Below.refl w.heap.size w) (.cells #[.string a0_0, .slice A0_1 l0_1.length c0_1, .slice A0_2 l0_2.length c0_2] 67 (0, 0))
 have HX : Hid (RuleAt (w.alloc (.cells #[.string a0_0, .slice A0_1 l0_1.length c0_1, .slice A0_2 l0_2.length c0_2] 67 (0, 0))) ⟨w.heap.size, 0, none⟩ x A0_1 c0_1 A0_2 c0_2) := Lib.hid (by
  have g := fun i => xae hBK i
  subst hx
  exact ⟨g 0, g 1, g 2, hc0_1, Kd.C_below hr0_1 HBn, hc0_2, Kd.C_below hr0_2 HBn⟩)
 have HB := Lib.hid HBn
 clear h' hBK HBn hfit hx hr0_1 hr0_2
 go_enter Tryd.func32, Tryd.ntmps32
 go_wp2_with fail
 generalize w.alloc (.cells #[.string a0_0, .slice A0_1 l0_1.length c0_1, .slice A0_2 l0_2.length c0_2] 67 (0, 0)) = wa at *
 have T := Lib.hid (vars_taker wa)
 refine (vars_any _ wa (ruleTermsL x) (Lib.hid (fun w1 hI => walk_rule T x _ A0_1 c0_1 A0_2 c0_2 [] w1 HX.out HG.out hI))).mono ?_
 rintro e w1 ⟨v, rfl, hR, hB⟩
 have HR1 := Lib.hid (Kd.R_lower hR HB.out.size)
 have HB1 := Lib.hid (xah HB.out hB)
 obtain ⟨A, c, rfl⟩ := Kd.R_slice hR
 clear hR hB
 have HE : Hid ((ruleTermsL x).foldl varStep [] = r) := HR
 generalize hLe : (ruleTermsL x).foldl varStep [] = L at *
 clear hLe
 go_wp2_with fail
 go_ret
 exact ⟨_, rfl, by rw [← HE.out]; exact HR1.out, HB1.out⟩
def argB (a : S125) : Bool := (term_argument.f a.f0 a.f1.f0 a.f1.f1.f0 a.f1.f1.f1 a.f1.f1.f2).getD false
theorem term_argument_tot (a : S125) : term_argument.f a.f0 a.f1.f0 a.f1.f1.f0 a.f1.f1.f1 a.f1.f1.f2 = some (argB a) := by
 unfold argB term_argument.f
 rw [term_solid_tot a.f1, term_none_tot a.f1]
 repeat' split
 all_goals rfl
def ruleB (x : S67) : Bool := nameB x.f0 && decide (x.f1.length ≤ 24) && decide (x.f2.length ≤ 16) && x.f1.all argB && x.f2.all litB && decide ((varsOf (ruleTermsL x)).length ≤ 24)
theorem all_take_succ {α : Type} (p : α → Bool) (l : List α) (z : α) (k : Nat) (hk : k < l.length) : (l.take (k + 1)).all p = ((l.take k).all p && p (l.getD k z)) := by
 rw [List.take_add_one, List.getElem?_eq_getElem hk, List.all_append]
 simp [List.getD_eq_getElem?_getD, List.getElem?_eq_getElem hk]
theorem all_no {α : Type} (p : α → Bool) (l : List α) (z : α) (k : Nat) (hk : k < l.length) (h : p (l.getD k z) = false) : l.all p = false := by
 have h2 : p l[k] = false := by rw [← h]; simp [List.getD_eq_getElem?_getD, List.getElem?_eq_getElem hk]
 exact List.all_eq_false.2 ⟨l[k], List.getElem_mem hk, by rw [h2]; simp⟩
theorem k56_CheckLiteral {x : S56} {w : World} {cs : Array Value} (h : k56.K w x cs.toList) :
  Calls Tryd.prog 20 #[.agg cs] w fun e w' => e = .returned (.int .i64 (if litB x then 0 else 40)) ∧ Below w.heap.size w w' := by
 obtain ⟨B0, d0, B1, d1, B2, d2, he, hd0, hD0, hd1, hD1, hd2, hD2⟩ := k56_open h
 obtain rfl : cs = _ := by rw [← Array.toArray_toList (xs := cs), he]
 obtain ⟨k, hk⟩ := (checkLiteral_ev x).at
 exact term_CheckLiteral.calls (k := k) (hr0_2 := hD0) (hc0_2 := hd0) (hr0_9 := hD1) (hc0_9 := hd1) (hr0_15 := hD2) (hc0_15 := hd2) (h := hk)
theorem k125_argument {x : S125} {w : World} {cs : Array Value} (h : k125.K w x cs.toList) :
  Calls Tryd.prog 74 #[.agg cs] w fun e w' => e = .returned (.bool (argB x)) ∧ Below w.heap.size w w' := by
 have he := k125_open h
 obtain rfl : cs = _ := by rw [← Array.toArray_toList (xs := cs), he]
 exact term_argument.calls _ _ _ _ _ _ w (term_argument_tot x)
set_option maxHeartbeats 4000000 in
set_option maxRecDepth 100000 in
theorem CheckRule_walk (x : S67) (rv : Int) (HV : Hid (rv = if ruleB x then 0 else 40)) (hfit : Hid (varsFit (ruleTermsL x) = true)) (A1 : Option Addr) (c1 : Nat) (A2 : Option Addr) (c2 : Nat) (w : World) (hr1 : Kd.C k125 w A1 x.f1.length x.f1) (hc1 : x.f1.length ≤ c1) (hr2 : Kd.C k56 w A2 x.f2.length x.f2) (hc2 : x.f2.length ≤ c2) :
  Calls Tryd.prog 30 #[.agg #[.string x.f0, .slice A1 x.f1.length c1, .slice A2 x.f2.length c2]] w fun e w' => e = .returned (.int .i64 rv) ∧ Below w.heap.size w w' := by
 have HN := Lib.hid (name_tot x.f0)
 have hm1 : x.f1.length ≤ 9223372036854775807 := hr1.2.1
 have hm2 : x.f2.length ≤ 9223372036854775807 := hr2.2.1
 have HBK := Lib.hid (xaz w (.cells #[.string x.f0, .slice A1 x.f1.length c1, .slice A2 x.f2.length c2] 67 (0, 0)))
 have HW := Lib.hid (xab (Below.refl w.heap.size w) (.cells #[.string x.f0, .slice A1 x.f1.length c1, .slice A2 x.f2.length c2] 67 (0, 0)))
 have HR1 := Lib.hid (Kd.C_below hr1 HW.out)
 have HR2 := Lib.hid (Kd.C_below hr2 HW.out)
 clear hr1 hr2
 have no : ∀ (W : World), Below w.heap.size w W → ruleB x = false → (rv = 40 ∧ Below w.heap.size w W) := fun W hW h => ⟨by rw [HV.out, h]; rfl, hW⟩
 have HNO := Lib.hid no
 clear no
 go_enter Tryd.func30, Tryd.ntmps30
 go_wp2_with fail
 generalize w.alloc (.cells #[.string x.f0, .slice A1 x.f1.length c1, .slice A2 x.f2.length c2] 67 (0, 0)) = wa at *
 refine (term_name.calls x.f0 _ _ HN.out).mono ?_
 rintro e w1 ⟨rfl, hb⟩
 have HBA := Lib.hid hb
 have HBK1 := Lib.hid (xam HBK.out hb)
 clear hb
 have s1 : w1.cell? ⟨w.heap.size, 1, none⟩ = some (.slice A1 x.f1.length c1) := (xae HBK1.out 1).trans rfl
 have s2 : w1.cell? ⟨w.heap.size, 2, none⟩ = some (.slice A2 x.f2.length c2) := (xae HBK1.out 2).trans rfl
 cases hN : nameB x.f0 with
 | false =>
  have hno : ruleB x = false := by rw [ruleB, hN]; rfl
  have HX := Lib.hid (HNO.out w1 (xah HW.out HBA.out) hno)
  clear HNO
  go_wp2_with fail
  go_ret
  exact ⟨by rw [HX.out.1]; rfl, HX.out.2⟩
 | true =>
 by_cases hl1 : x.f1.length ≤ 24
 case neg =>
  have hno : ruleB x = false := by rw [ruleB, hN, decide_eq_false hl1]; rfl
  have HX := Lib.hid (HNO.out w1 (xah HW.out HBA.out) hno)
  clear HNO
  have hd : decide (24 < (x.f1.length : Int)) = true := decide_eq_true (by omega)
  have hd2 : decide (24 < x.f1.length) = true := decide_eq_true (by omega)
  go_wp2_with fail
  go_ret
  exact ⟨by rw [HX.out.1]; rfl, HX.out.2⟩
 by_cases hl2 : x.f2.length ≤ 16
 case neg =>
  have hno : ruleB x = false := by rw [ruleB, hN, decide_eq_true hl1, decide_eq_false hl2]; rfl
  have HX := Lib.hid (HNO.out w1 (xah HW.out HBA.out) hno)
  clear HNO
  have hd : decide (24 < (x.f1.length : Int)) = false := decide_eq_false (by omega)
  have hd2 : decide (24 < x.f1.length) = false := decide_eq_false (by omega)
  have hd3 : decide (16 < (x.f2.length : Int)) = true := decide_eq_true (by omega)
  have hd4 : decide (16 < x.f2.length) = true := decide_eq_true (by omega)
  go_wp2_with fail
  go_ret
  exact ⟨by rw [HX.out.1]; rfl, HX.out.2⟩
 have HQ := Lib.hid (show ruleB x = (x.f1.all argB && x.f2.all litB && decide ((varsOf (ruleTermsL x)).length ≤ 24)) by rw [ruleB, hN, decide_eq_true hl1, decide_eq_true hl2]; rfl)
 have hd : decide (24 < (x.f1.length : Int)) = false := decide_eq_false (by omega)
 have hd2 : decide (24 < x.f1.length) = false := decide_eq_false (by omega)
 have hd3 : decide (16 < (x.f2.length : Int)) = false := decide_eq_false (by omega)
 have hd4 : decide (16 < x.f2.length) = false := decide_eq_false (by omega)
 clear hN
 have hi1 : (Tryd.prog.info? 125).map (·.size) = some 5 := by kernel_rfl
 have hi2 : (Tryd.prog.info? 56).map (·.size) = some 16 := by kernel_rfl
 go_wp2_with fail
 clear s1 s2 hd hd2 hd3 hd4
 go_loopw [27] (fun v wr => ∃ k : Nat, k ≤ x.f1.length ∧ v = .int .i64 k ∧ Hid ((x.f1.take k).all argB = true) ∧ Hid (Below wa.heap.size wa wr)) (fun v _ => x.f1.length - (intOf v).toNat)
 case atStart => exact ⟨0, Nat.zero_le _, rfl, Lib.hid rfl, Lib.hid HBA.out⟩
 case round =>
  obtain ⟨k, hk, rfl, HP, HB⟩ := hrel
  by_cases hlt : k < x.f1.length
  ·obtain ⟨ad, cs, e0, hsz, hK, hcell⟩ := C_row (Kd.C_below HR1.out HB.out) z125 k hlt
   subst e0
   have HK := Lib.hid hK
   have HCELL := Lib.hid hcell
   have hsz' : cs.size = 5 := hsz
   have hix : (Tryd.prog.info? 125).map (·.size) = some cs.size := by rw [hsz']; exact hi1
   have hone := K_ones hK
   have HS := Lib.hid (all_take_succ argB x.f1 z125 k hlt)
   have HNA := Lib.hid (all_no argB x.f1 z125 k hlt)
   clear hK hcell
   generalize x.f1.getD k z125 = y at *
   have HZ := Lib.hid (xaz wr (.cells #[.int .i8 0, .string ⟨#[]⟩, .int .i8 0, .int .i64 0, .string ⟨#[]⟩] 125 (0, 0)))
   have HZ2 := Lib.hid (row_new wr #[.int .i8 0, .string ⟨#[]⟩, .int .i8 0, .int .i64 0, .string ⟨#[]⟩] cs 125)
   have HZ3 := Lib.hid (below_row wr #[.int .i8 0, .string ⟨#[]⟩, .int .i8 0, .int .i64 0, .string ⟨#[]⟩] cs 125)
   go_wp2_with first | ((with_reducible refine xar (N := 30) rfl ?_); (refine wpList_load_at rfl 125 (.tmp 29) rfl (ad.add (k * 5)) rfl cs _ HCELL.out Tryd.underlying125 rfl hix ?_)) | ((with_reducible refine xay (t := 125) (p := 4) rfl ?_); (refine wpList_store_row rfl 125 (.tmp 4) (.tmp 30) rfl wr.heap.size cs rfl rfl 125 #[.int .i8 0, .string ⟨#[]⟩, .int .i8 0, .int .i64 0, .string ⟨#[]⟩] HZ.out hix (by rw [hsz']; rfl) hone ?_)) | ((with_reducible refine xar (N := 31) rfl ?_); (refine wpList_load_row rfl 125 (.tmp 4) rfl wr.heap.size rfl 125 cs (0, 0) _ HZ2.out Tryd.underlying125 rfl hix ?_))
   generalize ((wr.alloc (.cells #[.int .i8 0, .string ⟨#[]⟩, .int .i8 0, .int .i64 0, .string ⟨#[]⟩] 125 (0, 0))).setRow wr.heap.size cs) = w2 at *
   clear HZ HZ2
   refine (k125_argument (k125.K_below HZ3.out HK.out)).mono ?_
   rintro e w3 ⟨rfl, hb⟩
   have HB2 := Lib.hid (xah (xah HB.out HZ3.out) hb)
   clear hb
   cases hA : argB y with
   | false =>
    have hno : ruleB x = false := by rw [HQ.out, HNA.out hA]; rfl
    have HX := Lib.hid (HNO.out w3 (xah HW.out HB2.out) hno)
    clear HNO
    go_wp2_with fail
    go_ret
    exact ⟨by rw [HX.out.1]; rfl, HX.out.2⟩
   | true =>
    have HS1 := Lib.hid (show (x.f1.take (k + 1)).all argB = true by rw [HS.out, HP.out, hA]; rfl)
    clear hA
    go_wp2_with fail
    go_roundw
    case rel => exact ⟨k + 1, by omega, by go_num, HS1, HB2⟩
    case measure => simp [intOf]; omega
  ·have HA1 := Lib.hid (show x.f1.all argB = true by have := HP.out; rwa [List.take_of_length_le (by omega)] at this)
   have s2 : wr.cell? ⟨w.heap.size, 2, none⟩ = some (.slice A2 x.f2.length c2) := (xae (xam HBK.out HB.out) 2).trans rfl
   clear HP
   go_wp2_with fail
   clear s2
   go_loopw [38] (fun v wr => ∃ k : Nat, k ≤ x.f2.length ∧ v = .int .i64 k ∧ Hid ((x.f2.take k).all litB = true) ∧ Hid (Below wa.heap.size wa wr)) (fun v _ => x.f2.length - (intOf v).toNat)
   case atStart => exact ⟨0, Nat.zero_le _, rfl, Lib.hid rfl, HB⟩
   case round =>
    clear HB
    obtain ⟨k, hk, rfl, HP, HB⟩ := hrel
    by_cases hlt : k < x.f2.length
    ·obtain ⟨ad, cs, e0, hsz, hK, hcell⟩ := C_row (Kd.C_below HR2.out HB.out) z56 k hlt
     subst e0
     have HK := Lib.hid hK
     have HCELL := Lib.hid hcell
     have hsz' : cs.size = 16 := hsz
     have hix : (Tryd.prog.info? 56).map (·.size) = some cs.size := by rw [hsz']; exact hi2
     have hone := K_ones hK
     have HS := Lib.hid (all_take_succ litB x.f2 z56 k hlt)
     have HNA := Lib.hid (all_no litB x.f2 z56 k hlt)
     clear hK hcell
     generalize x.f2.getD k z56 = y at *
     have HZ := Lib.hid (xaz wr (.cells #[.int .i8 0, .string ⟨#[]⟩, .slice none 0 0, .int .i8 0, .int .i8 0, .string ⟨#[]⟩, .int .i8 0, .int .i64 0, .string ⟨#[]⟩, .slice none 0 0, .int .i8 0, .string ⟨#[]⟩, .int .i8 0, .int .i64 0, .string ⟨#[]⟩, .slice none 0 0] 56 (0, 0)))
     have HZ2 := Lib.hid (row_new wr #[.int .i8 0, .string ⟨#[]⟩, .slice none 0 0, .int .i8 0, .int .i8 0, .string ⟨#[]⟩, .int .i8 0, .int .i64 0, .string ⟨#[]⟩, .slice none 0 0, .int .i8 0, .string ⟨#[]⟩, .int .i8 0, .int .i64 0, .string ⟨#[]⟩, .slice none 0 0] cs 56)
     have HZ3 := Lib.hid (below_row wr #[.int .i8 0, .string ⟨#[]⟩, .slice none 0 0, .int .i8 0, .int .i8 0, .string ⟨#[]⟩, .int .i8 0, .int .i64 0, .string ⟨#[]⟩, .slice none 0 0, .int .i8 0, .string ⟨#[]⟩, .int .i8 0, .int .i64 0, .string ⟨#[]⟩, .slice none 0 0] cs 56)
     go_wp2_with first | ((with_reducible refine xar (N := 41) rfl ?_); (refine wpList_load_at rfl 56 (.tmp 40) rfl (ad.add (k * 16)) rfl cs _ HCELL.out Tryd.underlying56 rfl hix ?_)) | ((with_reducible refine xay (t := 56) (p := 6) rfl ?_); (refine wpList_store_row rfl 56 (.tmp 6) (.tmp 41) rfl wr.heap.size cs rfl rfl 56 #[.int .i8 0, .string ⟨#[]⟩, .slice none 0 0, .int .i8 0, .int .i8 0, .string ⟨#[]⟩, .int .i8 0, .int .i64 0, .string ⟨#[]⟩, .slice none 0 0, .int .i8 0, .string ⟨#[]⟩, .int .i8 0, .int .i64 0, .string ⟨#[]⟩, .slice none 0 0] HZ.out hix (by rw [hsz']; rfl) hone ?_)) | ((with_reducible refine xar (N := 42) rfl ?_); (refine wpList_load_row rfl 56 (.tmp 6) rfl wr.heap.size rfl 56 cs (0, 0) _ HZ2.out Tryd.underlying56 rfl hix ?_))
     generalize ((wr.alloc (.cells #[.int .i8 0, .string ⟨#[]⟩, .slice none 0 0, .int .i8 0, .int .i8 0, .string ⟨#[]⟩, .int .i8 0, .int .i64 0, .string ⟨#[]⟩, .slice none 0 0, .int .i8 0, .string ⟨#[]⟩, .int .i8 0, .int .i64 0, .string ⟨#[]⟩, .slice none 0 0] 56 (0, 0))).setRow wr.heap.size cs) = w2 at *
     clear HZ HZ2
     refine (k56_CheckLiteral (k56.K_below HZ3.out HK.out)).mono ?_
     rintro e w3 ⟨rfl, hb⟩
     have HB2 := Lib.hid (xah (xah HB.out HZ3.out) hb)
     clear hb
     cases hA : litB y with
     | false =>
      have hno : ruleB x = false := by rw [HQ.out, HA1.out, HNA.out hA]; rfl
      have HX := Lib.hid (HNO.out w3 (xah HW.out HB2.out) hno)
      clear HNO
      go_wp2_with fail
      go_ret
      exact ⟨by rw [HX.out.1]; rfl, HX.out.2⟩
     | true =>
      have HS1 := Lib.hid (show (x.f2.take (k + 1)).all litB = true by rw [HS.out, HP.out, hA]; rfl)
      clear hA
      go_wp2_with fail
      go_roundw
      case rel => exact ⟨k + 1, by omega, by go_num, HS1, HB2⟩
      case measure => simp [intOf]; omega
    ·have HA2 := Lib.hid (show x.f2.all litB = true by have := HP.out; rwa [List.take_of_length_le (by omega)] at this)
     have HBKq := Lib.hid (xam HBK.out HB.out)
     have s0 : wr.cell? ⟨w.heap.size, 0, none⟩ = some (.string x.f0) := (xae HBKq.out 0).trans rfl
     have s1 : wr.cell? ⟨w.heap.size, 1, none⟩ = some (.slice A1 x.f1.length c1) := (xae HBKq.out 1).trans rfl
     have s2 : wr.cell? ⟨w.heap.size, 2, none⟩ = some (.slice A2 x.f2.length c2) := (xae HBKq.out 2).trans rfl
     clear HP
     go_wp2_with fail
     refine (term_RuleVars.calls x.f0 A1 c1 x.f1 A2 c2 x.f2 (varsOf (ruleTermsL x)) wr (Kd.C_below HR1.out HB.out) hc1 (Kd.C_below HR2.out HB.out) hc2 (by rw [term_RuleVars.f]; exact if_pos hfit.out)).mono ?_
     rintro e w3 ⟨v, rfl, hR, hb⟩
     obtain ⟨E, j, rfl, hj, hE⟩ := Kd.R_reads hR
     have HB2 := Lib.hid (xah HB.out hb)
     have HL := Lib.hid (show ruleB x = decide (((varsOf (ruleTermsL x)).length : Int) ≤ 24) by rw [HQ.out, HA1.out, HA2.out]; simp; omega)
     clear hb hR hE s0 s1 s2
     generalize (varsOf (ruleTermsL x)).length = nv at *
     go_wp2_with fail
     refine (term_code.calls (decide ((nv : Int) ≤ 24)) rv w3 (by rw [HV.out, HL.out, term_code.f]; split <;> rfl)).mono ?_
     rintro e w4 ⟨rfl, hd⟩
     have HB3 := Lib.hid (xah HB2.out hd.below)
     clear hd
     go_wp2_with fail
     go_ret
     exact ⟨rfl, xah HW.out HB3.out⟩
mutual
def r4_ruleTerms.l0 : Nat → List (S28) → Int → ByteArray → List (S125) → List (S56) → Option ((List (S28)))
 | 0, _, _, _, _, _ => none
 | k + 1, x3, x4, x351000, x351001, x351002 => if x4 < (x351001.length : Int) then (if 0 ≤ x4 then (if x3.length < 2932031007402 then (r4_ruleTerms.l0 k (x3 ++ [(⟨(xaq x351001 x4).f1.f0, (⟨(xaq x351001 x4).f1.f1.f0, (xaq x351001 x4).f1.f1.f1, (xaq x351001 x4).f1.f1.f2⟩ : S26)⟩ : S28)]) (wrap64 (x4 + 1)) x351000 x351001 x351002) else (none)) else (none)) else (r4_ruleTerms.l1 k x3 0 x351000 x351001 x351002)
def r4_ruleTerms.l1 : Nat → List (S28) → Int → ByteArray → List (S125) → List (S56) → Option ((List (S28)))
 | 0, _, _, _, _, _ => none
 | k + 1, x3, x5, x351000, x351001, x351002 => if x5 < (x351002.length : Int) then (if 0 ≤ x5 then ((r4_literalTerms.f k x3 ((rd_T56 x351002 x5).f0) ((rd_T56 x351002 x5).f1.f0) ((rd_T56 x351002 x5).f1.f1) ((rd_T56 x351002 x5).f2) ((rd_T56 x351002 x5).f3.f0) ((rd_T56 x351002 x5).f3.f1.f0) ((rd_T56 x351002 x5).f3.f1.f1.f0) ((rd_T56 x351002 x5).f3.f1.f1.f1) ((rd_T56 x351002 x5).f3.f1.f1.f2) ((rd_T56 x351002 x5).f3.f2) ((rd_T56 x351002 x5).f4.f0) ((rd_T56 x351002 x5).f4.f1.f0) ((rd_T56 x351002 x5).f4.f1.f1.f0) ((rd_T56 x351002 x5).f4.f1.f1.f1) ((rd_T56 x351002 x5).f4.f1.f1.f2) ((rd_T56 x351002 x5).f4.f2)).bind fun t356 => (r4_ruleTerms.l1 k t356 (wrap64 (x5 + 1)) x351000 x351001 x351002)) else (none)) else (some x3)
end
def r4_ruleTerms.f (k : Nat) (a0_0 : ByteArray) (l0_1 : List (S125)) (l0_2 : List (S56)) : Option ((List (S28))) := r4_ruleTerms.l0 k ([] : List (S28)) 0 a0_0 l0_1 l0_2
set_option maxHeartbeats 8000000 in
set_option maxRecDepth 100000 in
theorem r4_ruleTerms.calls (k : Nat) (a0_0 : ByteArray) (A0_1 : Option Addr) (c0_1 : Nat) (l0_1 : List (S125)) (A0_2 : Option Addr) (c0_2 : Nat) (l0_2 : List (S56)) (r : List (S28)) (w : World) (hr0_1 : Kd.C k125 w A0_1 l0_1.length l0_1) (hc0_1 : l0_1.length ≤ c0_1) (hr0_2 : Kd.C k56 w A0_2 l0_2.length l0_2) (hc0_2 : l0_2.length ≤ c0_2) (h : r4_ruleTerms.f k a0_0 l0_1 l0_2 = some r) :
  Calls Tryd.prog 77 #[.agg #[.string a0_0, .slice A0_1 l0_1.length c0_1, .slice A0_2 l0_2.length c0_2]] w fun e w' => ∃ v0_ : Value, e = .returned (v0_) ∧ Kd.R k28 28 w' w.heap.size (fun _ => True) v0_ r ∧ Below w.heap.size w w' := by
 have hu67 := Tryd.underlying67
 have hu28 := Tryd.underlying28
 have hu56 := Tryd.underlying56
 have HR0_1 := Aside0.mk hr0_1
 have HC0_1 := Aside0.mk hc0_1
 clear hr0_1 hc0_1
 have HR0_2 := Aside0.mk hr0_2
 have HC0_2 := Aside0.mk hc0_2
 clear hr0_2 hc0_2
 have HB := Aside0.mk (Below.refl w.heap.size w)
 have H : (r4_ruleTerms.l0 k ([] : List (S28)) 0 a0_0 l0_1 l0_2) = some r := h
 clear h
 have H' := Aside0.mk H
 clear H
 go_enter Tryd.func77, Tryd.ntmps77
 go_wp2_with (first | ((with_reducible refine xar (N := 1) rfl ?_); refine xap ?hg (N := 1) ?hd (cs := #[.string a0_0, .slice A0_1 l0_1.length c0_1, .slice A0_2 l0_2.length c0_2]) (t := 67) ?hr ?_; (case hd => rfl); (case hg => rfl); (case hr => first | (go_simp; done) | (go_simp; rfl)); intro gb350 hg w2 hbox hb; have n0_ := Aside0.mk (xah (by repeat (first | (with_reducible first | exact HB.out | apply xab | apply xaa | apply xac) | exact HB.out)) hb); have n1_ := Aside0.mk (hbox); have n2_ := Aside0.mk ((by rw [hg]; exact (xao (by repeat (first | (with_reducible first | exact HB.out | apply xab | apply xaa | apply xac) | exact HB.out))) : w.heap.size ≤ gb350)); have n3_ := n2_; clear HB; have HB := n0_; have BK350 := n1_; have GW350 := n2_; have GE350 := n3_; clear n0_ n1_ n2_ n3_; clear hb hbox hg))
 go_loopg [3, 4] k (fun kq v3 v4 w' => ∃ (x3_1 : List (S28)) (x4_1 : Int), v4 = .int .i64 x4_1 ∧ Aside0 (r4_ruleTerms.l0 kq x3_1 x4_1 a0_0 l0_1 l0_2 = some r) ∧ Aside0 (kq ≤ k) ∧ Aside0 (Kd.R k28 28 w' w.heap.size (fun _ => True) v3 x3_1) ∧ Aside0 (w'.heap[gb350]? = some (.cells #[.string a0_0, (.slice A0_1 l0_1.length c0_1), (.slice A0_2 l0_2.length c0_2)] 67 (0, 0))) ∧ Aside0 (Below w.heap.size w w'))
 case atStart => exact ⟨(([] : List (S28))), (0), (by first | rfl | (simp; done) | (simp [*]; done)), H', ⟨Nat.le_refl _⟩, ⟨by first | exact Kd.R_nil _ _ _ _ _ | exact Kd.N_nil _ _ _ _ _ | exact Kd.V_nil _ _ _ _ _ | exact Kd.Q_nil _ _ _ _ _ | exact Kd.S_nil _ _ _ _ _⟩, ⟨by (with_reducible repeat (first | refine xag ?_ _ | refine xai ?_ | refine xaf ?_ _)); exact BK350.out⟩, ⟨by repeat (first | (with_reducible first | exact HB.out | apply xab | apply xaa | apply xac | refine xad ?_ GE350.out) | exact HB.out)⟩⟩
 case round =>
  clear H'
  try clear p2
  obtain ⟨x3_1, x4_1, rfl, HA, HK1, HO_3, BK350, HB⟩ := hrel
  cases gk with
  | zero => exact absurd HA.out (by simp [r4_ruleTerms.l0])
  | succ k1 =>
   have H := HA.out
   clear HA
   simp only [r4_ruleTerms.l0] at H
   by_cases c3 : x4_1 < (l0_1.length : Int)
   ·rw [if_pos c3] at H
    have c3b0 : decide (x4_1 < (l0_1.length : Int)) = true := decide_eq_true c3
    clear c3
    by_cases c4 : 0 ≤ x4_1
    ·rw [if_pos c4] at H
     have c4b0 : decide (0 ≤ x4_1) = true := decide_eq_true c4
     clear c4
     by_cases c5 : x3_1.length < 2932031007402
     ·rw [if_pos c5] at H
      have LMc5 := Aside0.mk c5
      clear c5
      obtain ⟨y352, hy352⟩ : ∃ y_ : List (S28), y_ = (x3_1 ++ [(⟨(xaq l0_1 x4_1).f1.f0, (⟨(xaq l0_1 x4_1).f1.f1.f0, (xaq l0_1 x4_1).f1.f1.f1, (xaq l0_1 x4_1).f1.f1.f2⟩ : S26)⟩ : S28)]) := ⟨_, rfl⟩
      replace H : (r4_ruleTerms.l0 k1 y352 (wrap64 (x4_1 + 1)) a0_0 l0_1 l0_2) = some r := by first | (rw [hy352]; with_reducible exact H) | (have H2_ := (Option.bind_some _ _).symm.trans H; rw [hy352]; with_reducible exact H2_) | (have H2_ := (Option.bind_some _ _).symm.trans H; with_reducible exact H2_) | with_reducible exact H | (rw [hy352]; exact H) | exact H
      have Ny352 := Aside0.mk hy352
      clear hy352
      have H' := Aside0.mk H
      clear H
      obtain ⟨hcz6_0, hcz6_1, hcz6_2⟩ := cz3 BK350.out
      obtain ⟨hfz6_0, hfz6_1, hfz6_2⟩ := fz3 BK350.out
      have p351 : 0 ≤ (x4_1 : Int) := of_decide_eq_true (by first | (with_reducible assumption) | assumption)
      have q351 : x4_1 < (l0_1.length : Int) := of_decide_eq_true (by first | (with_reducible assumption) | assumption)
      obtain ⟨ad351, e351, hx351_0, hx351_1, hx351_2, hx351_3, hx351_4⟩ := xbp HR0_1.out x4_1 p351 q351
      cases e351
      replace hx351_0 := (HB.out.cell (World.block_lt_of_cell? w _ hx351_0)).trans hx351_0
      replace hx351_1 := (HB.out.cell (World.block_lt_of_cell? w _ hx351_1)).trans hx351_1
      replace hx351_2 := (HB.out.cell (World.block_lt_of_cell? w _ hx351_2)).trans hx351_2
      replace hx351_3 := (HB.out.cell (World.block_lt_of_cell? w _ hx351_3)).trans hx351_3
      replace hx351_4 := (HB.out.cell (World.block_lt_of_cell? w _ hx351_4)).trans hx351_4
      replace p351 := eq_true p351
      replace q351 := eq_true q351
      go_wp2_with (first | ((with_reducible refine gate_builtin (b := .append) (xs := #[.tmp 13, .tmp 20]) rfl ?_); at_builtin; refine Kd.R_append k28 (w0 := w) w.heap.size rfl (.tmp 13) (.tmp 20) 51 28 (.agg #[(.string ⟨#[]⟩), (.int .i8 0), (.int .i64 0), (.string ⟨#[]⟩)]) 48 rfl Tryd.underlying51 info28 rfl (by decide) (by omega) u3 x3_1 (⟨(xaq l0_1 x4_1).f1.f0, (⟨(xaq l0_1 x4_1).f1.f1.f0, (xaq l0_1 x4_1).f1.f1.f1, (xaq l0_1 x4_1).f1.f1.f2⟩ : S26)⟩ : S28) [.string ((xaq l0_1 x4_1).f1.f0), .int .i8 ((xaq l0_1 x4_1).f1.f1.f0), .int .i64 ((xaq l0_1 x4_1).f1.f1.f1), .string ((xaq l0_1 x4_1).f1.f1.f2)] (fun _ => True) (fun _ => False) rfl rfl ?aP (fun _ hk => hk.elim) ?aF ?aO ?aB ?aS ?aL ?_; (case aP => exact k28_mkM _ _ _ (⟨(xaq l0_1 x4_1).f1.f0, (⟨(xaq l0_1 x4_1).f1.f1.f0, (xaq l0_1 x4_1).f1.f1.f1, (xaq l0_1 x4_1).f1.f1.f2⟩ : S26)⟩ : S28)); (case aB => exact (by repeat (first | (with_reducible first | exact HB.out | apply xab | apply xaa | apply xac | refine xad ?_ GE350.out) | exact HB.out))); (case aF => exact (fun _ _ => trivial)); (case aO => exact (by (with_reducible repeat (first | apply Kd.R_alloc | apply Kd.R_drewN | apply Kd.R_drew)); exact HO_3.out)); (case aS => exact (xao (by repeat (first | (with_reducible first | exact HB.out | apply xab | apply xaa | apply xac | refine xad ?_ GE350.out) | exact HB.out)))); (case aL => have := LMc5.out; omega); intro v353 w7 ho hb hg hat; rw [← Ny352.out] at ho; have n0_ := Aside0.mk (xbf (g := gb350) (o := .cells #[.string a0_0, .slice (some ad351) l0_1.length c0_1, .slice A0_2 l0_2.length c0_2] 67 (0, 0)) (by (with_reducible repeat (first | refine xag ?_ _ | refine xai ?_ | refine xaf ?_ _)); exact BK350.out) hg (Kd.R_ne HO_3.out BK350.out (by decide))); have n1_ := Aside0.mk (hb); have n2_ := Aside0.mk (ho); clear BK350; clear HB; clear HO_3; have BK350 := n0_; have HB := n1_; have HO354 := n2_; clear n0_ n1_ n2_; clear ho hb hg hat))
      go_roundg k1
      case measure => have := HK1.out; omega
      case rel => exact ⟨(y352), (wrap64 (x4_1 + 1)), (by first | rfl | (simp; done) | (simp [*]; done)), H', ⟨by have := HK1.out; omega⟩, ⟨by (with_reducible repeat (first | apply Kd.R_alloc | apply Kd.R_drewN | apply Kd.R_drew)); exact HO354.out⟩, ⟨by (with_reducible repeat (first | refine xag ?_ _ | refine xai ?_ | refine xaf ?_ _)); exact BK350.out⟩, ⟨by repeat (first | (with_reducible first | exact HB.out | apply xab | apply xaa | apply xac | refine xad ?_ GE350.out) | exact HB.out)⟩⟩
     ·rw [if_neg c5] at H
      exact absurd H (by simp)
    ·rw [if_neg c4] at H
     exact absurd H (by simp)
   ·rw [if_neg c3] at H
    have c3b0 : decide (x4_1 < (l0_1.length : Int)) = false := decide_eq_false c3
    clear c3
    have H' := Aside0.mk H
    clear H
    obtain ⟨hcz8_0, hcz8_1, hcz8_2⟩ := cz3 BK350.out
    obtain ⟨hfz8_0, hfz8_1, hfz8_2⟩ := fz3 BK350.out
    go_wp2
    go_loopg [3, 5] k1 (fun kq v3 v5 w' => ∃ (x3_2 : List (S28)) (x5_2 : Int), v5 = .int .i64 x5_2 ∧ Aside0 (r4_ruleTerms.l1 kq x3_2 x5_2 a0_0 l0_1 l0_2 = some r) ∧ Aside0 (kq ≤ k1) ∧ Aside0 (Kd.R k28 28 w' w.heap.size (fun _ => True) v3 x3_2) ∧ Aside0 (w'.heap[gb350]? = some (.cells #[.string a0_0, (.slice A0_1 l0_1.length c0_1), (.slice A0_2 l0_2.length c0_2)] 67 (0, 0))) ∧ Aside0 (Below w.heap.size w w'))
    case atStart => exact ⟨(x3_1), (0), (by first | rfl | (simp; done) | (simp [*]; done)), H', ⟨Nat.le_refl _⟩, ⟨by (with_reducible repeat (first | apply Kd.R_alloc | apply Kd.R_drewN | apply Kd.R_drew)); exact HO_3.out⟩, ⟨by (with_reducible repeat (first | refine xag ?_ _ | refine xai ?_ | refine xaf ?_ _)); exact BK350.out⟩, ⟨by repeat (first | (with_reducible first | exact HB.out | apply xab | apply xaa | apply xac | refine xad ?_ GE350.out) | exact HB.out)⟩⟩
    case round =>
     clear H'
     try clear p2
     try clear c3
     try clear c3b0
     try clear p3
     try clear q3
     try clear hx3
     try clear c4
     try clear c4b0
     try clear c5
     try clear p6
     try clear c7
     try clear hcz6_0
     try clear hcz6_1
     try clear hcz6_2
     try clear hcz8_0
     try clear hcz8_1
     try clear hcz8_2
     try clear hfz6_0
     try clear hfz6_1
     try clear hfz6_2
     try clear hfz8_0
     try clear hfz8_1
     try clear hfz8_2
     try clear hx351_0
     try clear hx351_1
     try clear hx351_2
     try clear hx351_3
     try clear hx351_4
     try clear p2
     try clear p351
     try clear q351
     obtain ⟨x3_2, x5_2, rfl, HA, HK2, HO_3, BK350, HB⟩ := hrel
     cases gk with
     | zero => exact absurd HA.out (by simp [r4_ruleTerms.l1])
     | succ k2 =>
      have H := HA.out
      clear HA
      simp only [r4_ruleTerms.l1] at H
      by_cases c9 : x5_2 < (l0_2.length : Int)
      ·rw [if_pos c9] at H
       have c9b0 : decide (x5_2 < (l0_2.length : Int)) = true := decide_eq_true c9
       clear c9
       by_cases c10 : 0 ≤ x5_2
       ·rw [if_pos c10] at H
        have c10b0 : decide (0 ≤ x5_2) = true := decide_eq_true c10
        clear c10
        replace H := Option.bind_eq_some_iff.mp H
        obtain ⟨t356, A110, H⟩ := H
        replace H : (r4_ruleTerms.l1 k2 t356 (wrap64 (x5_2 + 1)) a0_0 l0_1 l0_2) = some r := H
        have A11 := Aside0.mk A110
        clear A110
        have H' := Aside0.mk H
        clear H
        obtain ⟨hcz12_0, hcz12_1, hcz12_2⟩ := cz3 BK350.out
        obtain ⟨hfz12_0, hfz12_1, hfz12_2⟩ := fz3 BK350.out
        have p355 : 0 ≤ (x5_2 : Int) := of_decide_eq_true (by first | (with_reducible assumption) | assumption)
        have q355 : x5_2 < (l0_2.length : Int) := of_decide_eq_true (by first | (with_reducible assumption) | assumption)
        obtain ⟨ad355, A355_2, c355_2, A355_9, c355_9, A355_15, c355_15, e355, hx355_0, hx355_1, hx355_2, hx355_3, hx355_4, hx355_5, hx355_6, hx355_7, hx355_8, hx355_9, hx355_10, hx355_11, hx355_12, hx355_13, hx355_14, hx355_15, hl355_2, hi355_2, hl355_9, hi355_9, hl355_15, hi355_15⟩ := at_T56 HR0_2.out x5_2 p355 q355
        cases e355
        replace hx355_0 := (HB.out.cell (World.block_lt_of_cell? w _ hx355_0)).trans hx355_0
        replace hx355_1 := (HB.out.cell (World.block_lt_of_cell? w _ hx355_1)).trans hx355_1
        replace hx355_2 := (HB.out.cell (World.block_lt_of_cell? w _ hx355_2)).trans hx355_2
        replace hx355_3 := (HB.out.cell (World.block_lt_of_cell? w _ hx355_3)).trans hx355_3
        replace hx355_4 := (HB.out.cell (World.block_lt_of_cell? w _ hx355_4)).trans hx355_4
        replace hx355_5 := (HB.out.cell (World.block_lt_of_cell? w _ hx355_5)).trans hx355_5
        replace hx355_6 := (HB.out.cell (World.block_lt_of_cell? w _ hx355_6)).trans hx355_6
        replace hx355_7 := (HB.out.cell (World.block_lt_of_cell? w _ hx355_7)).trans hx355_7
        replace hx355_8 := (HB.out.cell (World.block_lt_of_cell? w _ hx355_8)).trans hx355_8
        replace hx355_9 := (HB.out.cell (World.block_lt_of_cell? w _ hx355_9)).trans hx355_9
        replace hx355_10 := (HB.out.cell (World.block_lt_of_cell? w _ hx355_10)).trans hx355_10
        replace hx355_11 := (HB.out.cell (World.block_lt_of_cell? w _ hx355_11)).trans hx355_11
        replace hx355_12 := (HB.out.cell (World.block_lt_of_cell? w _ hx355_12)).trans hx355_12
        replace hx355_13 := (HB.out.cell (World.block_lt_of_cell? w _ hx355_13)).trans hx355_13
        replace hx355_14 := (HB.out.cell (World.block_lt_of_cell? w _ hx355_14)).trans hx355_14
        replace hx355_15 := (HB.out.cell (World.block_lt_of_cell? w _ hx355_15)).trans hx355_15
        have HR355_2 := Aside0.mk hi355_2
        have HC355_2 := Aside0.mk hl355_2
        clear hi355_2 hl355_2
        have HR355_9 := Aside0.mk hi355_9
        have HC355_9 := Aside0.mk hl355_9
        clear hi355_9 hl355_9
        have HR355_15 := Aside0.mk hi355_15
        have HC355_15 := Aside0.mk hl355_15
        clear hi355_15 hl355_15
        replace p355 := eq_true p355
        replace q355 := eq_true q355
        obtain ⟨Ao13, co13, eo13⟩ := Kd.R_slice HO_3.out
        subst eo13
        go_wp2_with (first | ((with_reducible refine xau (f := 69) rfl ?_); refine goesL_ (some 35) rfl rfl Tryd.func69 (by kernel_rfl) rfl #[.slice Ao13 x3_2.length co13, .agg #[.int .i8 ((rd_T56 l0_2 x5_2).f0), .string ((rd_T56 l0_2 x5_2).f1.f0), .slice A355_2 ((rd_T56 l0_2 x5_2).f1.f1).length c355_2, .int .i8 ((rd_T56 l0_2 x5_2).f2), .int .i8 ((rd_T56 l0_2 x5_2).f3.f0), .string ((rd_T56 l0_2 x5_2).f3.f1.f0), .int .i8 ((rd_T56 l0_2 x5_2).f3.f1.f1.f0), .int .i64 ((rd_T56 l0_2 x5_2).f3.f1.f1.f1), .string ((rd_T56 l0_2 x5_2).f3.f1.f1.f2), .slice A355_9 ((rd_T56 l0_2 x5_2).f3.f2).length c355_9, .int .i8 ((rd_T56 l0_2 x5_2).f4.f0), .string ((rd_T56 l0_2 x5_2).f4.f1.f0), .int .i8 ((rd_T56 l0_2 x5_2).f4.f1.f1.f0), .int .i64 ((rd_T56 l0_2 x5_2).f4.f1.f1.f1), .string ((rd_T56 l0_2 x5_2).f4.f1.f1.f2), .slice A355_15 ((rd_T56 l0_2 x5_2).f4.f2).length c355_15]] rfl (by (try simp only [List.map_toArray, List.map_cons, List.map_nil]); first | done | rfl | (simp only [List.length_drop, List.length_take]; rfl)) ?_; (with_reducible refine (r4_literalTerms.calls k2 (fun k_ => some k_ = (.slice Ao13 x3_2.length co13 : Value).ownBlock) (.slice Ao13 x3_2.length co13) x3_2 ((rd_T56 l0_2 x5_2).f0) ((rd_T56 l0_2 x5_2).f1.f0) _ _ ((rd_T56 l0_2 x5_2).f1.f1) ((rd_T56 l0_2 x5_2).f2) ((rd_T56 l0_2 x5_2).f3.f0) ((rd_T56 l0_2 x5_2).f3.f1.f0) ((rd_T56 l0_2 x5_2).f3.f1.f1.f0) ((rd_T56 l0_2 x5_2).f3.f1.f1.f1) ((rd_T56 l0_2 x5_2).f3.f1.f1.f2) _ _ ((rd_T56 l0_2 x5_2).f3.f2) ((rd_T56 l0_2 x5_2).f4.f0) ((rd_T56 l0_2 x5_2).f4.f1.f0) ((rd_T56 l0_2 x5_2).f4.f1.f1.f0) ((rd_T56 l0_2 x5_2).f4.f1.f1.f1) ((rd_T56 l0_2 x5_2).f4.f1.f1.f2) _ _ ((rd_T56 l0_2 x5_2).f4.f2) t356 w _ ?side1 ?side2 ?side3 ?side4 ?side5 ?side6 ?side7 ?side8 A11.out).mono ?_); (case side1 => repeat (first | (with_reducible first | exact HB.out | apply xab | apply xaa | apply xac | refine xad ?_ GE350.out) | exact HB.out)); (case side2 => exact Kd.R_tight rfl HO_3.out); (case side3 => exact Kd.C_kept_came k28_heap HR355_2.out (by repeat (first | (with_reducible first | exact HB.out | apply xab | apply xaa | apply xac | refine xad ?_ GE350.out) | exact HB.out)) (fun k_ hs_ => (fun e_ => Kd.R_base HO_3.out k_ e_.symm) hs_)); (case side4 => exact HC355_2.out); (case side5 => exact Kd.C_kept_came k31_heap HR355_9.out (by repeat (first | (with_reducible first | exact HB.out | apply xab | apply xaa | apply xac | refine xad ?_ GE350.out) | exact HB.out)) (fun k_ hs_ => (fun e_ => Kd.R_base HO_3.out k_ e_.symm) hs_)); (case side6 => exact HC355_9.out); (case side7 => exact Kd.C_kept_came k31_heap HR355_15.out (by repeat (first | (with_reducible first | exact HB.out | apply xab | apply xaa | apply xac | refine xad ?_ GE350.out) | exact HB.out)) (fun k_ hs_ => (fun e_ => Kd.R_base HO_3.out k_ e_.symm) hs_)); (case side8 => exact HC355_15.out); rintro e w14 ⟨v357, rfl, ho0, hb, hkp⟩; refine ⟨_, rfl, ?_⟩; have n0_ := Aside0.mk (blk_kept (by (with_reducible repeat (first | refine xag ?_ _ | refine xai ?_ | refine xaf ?_ _)); exact BK350.out) hkp (fun hs_ => (fun e_ => (Kd.R_ne HO_3.out BK350.out (by decide)) e_) hs_)); have n1_ := Aside0.mk (Kd.R_mono (ok' := fun k_ => True) ho0 (fun k_ hk_ => trivial)); have n2_ := Aside0.mk (hb); clear BK350; clear HB; clear HO_3; have BK350 := n0_; have HO358 := n1_; have HB := n2_; clear n0_ n1_ n2_; (try clear hb); (try clear hkp); (try clear ho0)))
        go_roundg k2
        case measure => have := HK1.out; have := HK2.out; omega
        case rel => exact ⟨(t356), (wrap64 (x5_2 + 1)), (by first | rfl | (simp; done) | (simp [*]; done)), H', ⟨by have := HK1.out; have := HK2.out; omega⟩, ⟨by (with_reducible repeat (first | apply Kd.R_alloc | apply Kd.R_drewN | apply Kd.R_drew)); exact HO358.out⟩, ⟨by (with_reducible repeat (first | refine xag ?_ _ | refine xai ?_ | refine xaf ?_ _)); exact BK350.out⟩, ⟨by repeat (first | (with_reducible first | exact HB.out | apply xab | apply xaa | apply xac | refine xad ?_ GE350.out) | exact HB.out)⟩⟩
       ·rw [if_neg c10] at H
        exact absurd H (by simp)
      ·rw [if_neg c9] at H
       have c9b0 : decide (x5_2 < (l0_2.length : Int)) = false := decide_eq_false c9
       clear c9
       obtain rfl := Option.some.inj H
       obtain ⟨hcz15_0, hcz15_1, hcz15_2⟩ := cz3 BK350.out
       obtain ⟨hfz15_0, hfz15_1, hfz15_2⟩ := fz3 BK350.out
       go_wp2
       go_ret
       exact ⟨_, by first | rfl | (simp [xak, xaj] <;> rfl) | (simp [*, xak, xaj] <;> rfl), by (with_reducible repeat (first | apply Kd.R_alloc | apply Kd.R_drewN | apply Kd.R_drew)); exact HO_3.out, by repeat (first | (with_reducible first | exact HB.out | apply xab | apply xaa | apply xac | refine xad ?_ GE350.out) | exact HB.out)⟩
def r4_RuleVars.f (k : Nat) (a0_0 : ByteArray) (l0_1 : List (S125)) (l0_2 : List (S56)) : Option (List ByteArray) := (r4_ruleTerms.f k a0_0 l0_1 l0_2).bind fun t360 => ((r4_vars.f k t360).bind fun t363 => (some t363))
set_option maxHeartbeats 8000000 in
set_option maxRecDepth 100000 in
theorem r4_RuleVars.calls (k : Nat) (a0_0 : ByteArray) (A0_1 : Option Addr) (c0_1 : Nat) (l0_1 : List (S125)) (A0_2 : Option Addr) (c0_2 : Nat) (l0_2 : List (S56)) (r : List ByteArray) (w : World) (hr0_1 : Kd.C k125 w A0_1 l0_1.length l0_1) (hc0_1 : l0_1.length ≤ c0_1) (hr0_2 : Kd.C k56 w A0_2 l0_2.length l0_2) (hc0_2 : l0_2.length ≤ c0_2) (h : r4_RuleVars.f k a0_0 l0_1 l0_2 = some r) :
  Calls Tryd.prog 33 #[.agg #[.string a0_0, .slice A0_1 l0_1.length c0_1, .slice A0_2 l0_2.length c0_2]] w fun e w' => ∃ v0_ : Value, e = .returned (v0_) ∧ Kd.R Kd.string 9 w' w.heap.size (fun _ => True) v0_ r ∧ Below w.heap.size w w' := by
 have hu67 := Tryd.underlying67
 have HR0_1 := Aside0.mk hr0_1
 have HC0_1 := Aside0.mk hc0_1
 clear hr0_1 hc0_1
 have HR0_2 := Aside0.mk hr0_2
 have HC0_2 := Aside0.mk hc0_2
 clear hr0_2 hc0_2
 have HB := Aside0.mk (Below.refl w.heap.size w)
 have H : ((r4_ruleTerms.f k a0_0 l0_1 l0_2).bind fun t360 => ((r4_vars.f k t360).bind fun t363 => (some t363))) = some r := h
 clear h
 replace H := Option.bind_eq_some_iff.mp H
 obtain ⟨t360, A20, H⟩ := H
 replace H : ((r4_vars.f k t360).bind fun t363 => (some t363)) = some r := H
 have A2 := Aside0.mk A20
 clear A20
 replace H := Option.bind_eq_some_iff.mp H
 obtain ⟨t363, A30, H⟩ := H
 replace H : (some t363) = some r := H
 have A3 := Aside0.mk A30
 clear A30
 obtain rfl := Option.some.inj H
 go_enter Tryd.func33, Tryd.ntmps33
 go_wp2_with (first | ((with_reducible refine xar (N := 1) rfl ?_); refine xap ?hg (N := 1) ?hd (cs := #[.string a0_0, .slice A0_1 l0_1.length c0_1, .slice A0_2 l0_2.length c0_2]) (t := 67) ?hr ?_; (case hd => rfl); (case hg => rfl); (case hr => first | (go_simp; done) | (go_simp; rfl)); intro gb359 hg w4 hbox hb; have n0_ := Aside0.mk (xah (by repeat (first | (with_reducible first | exact HB.out | apply xab | apply xaa | apply xac) | exact HB.out)) hb); have n1_ := Aside0.mk (hbox); have n2_ := Aside0.mk ((by rw [hg]; exact (xao (by repeat (first | (with_reducible first | exact HB.out | apply xab | apply xaa | apply xac) | exact HB.out))) : w.heap.size ≤ gb359)); have n3_ := n2_; clear HB; have HB := n0_; have BK359 := n1_; have GW359 := n2_; have GE359 := n3_; clear n0_ n1_ n2_ n3_; clear hb hbox hg; obtain ⟨hcz5_0, hcz5_1, hcz5_2⟩ := cz3 BK359.out; obtain ⟨hfz5_0, hfz5_1, hfz5_2⟩ := fz3 BK359.out) | ((with_reducible refine xau (f := 77) rfl ?_); refine goesL_ (some 4) rfl rfl Tryd.func77 (by kernel_rfl) rfl #[.agg #[.string a0_0, .slice A0_1 l0_1.length c0_1, .slice A0_2 l0_2.length c0_2]] rfl (by (try simp only [List.map_toArray, List.map_cons, List.map_nil]); first | done | rfl | (simp only [List.length_drop, List.length_take]; rfl)) ?_; (with_reducible refine (r4_ruleTerms.calls k a0_0 _ _ l0_1 _ _ l0_2 t360 _ ?side1 ?side2 ?side3 ?side4 A2.out).mono ?_); (case side1 => repeat (first | exact (Kd.C_below HR0_1.out HB.out) | (with_reducible refine Kd.C_alloc ?_ _) | (with_reducible refine Kd.C_drewN ?_ _) | (with_reducible refine Kd.C_drew ?_))); (case side2 => exact HC0_1.out); (case side3 => repeat (first | exact (Kd.C_below HR0_2.out HB.out) | (with_reducible refine Kd.C_alloc ?_ _) | (with_reducible refine Kd.C_drewN ?_ _) | (with_reducible refine Kd.C_drew ?_))); (case side4 => exact HC0_2.out); rintro e w6 ⟨v361, rfl, ho0, hb⟩; refine ⟨_, rfl, ?_⟩; have n0_ := Aside0.mk (Kd.R_lower ho0 (xao (by repeat (first | (with_reducible first | exact HB.out | apply xab | apply xaa | apply xac | refine xad ?_ GE359.out) | exact HB.out)))); have n1_ := Aside0.mk (xam (g := gb359) (o := .cells #[.string a0_0, .slice A0_1 l0_1.length c0_1, .slice A0_2 l0_2.length c0_2] 67 (0, 0)) (by (with_reducible repeat (first | refine xag ?_ _ | refine xai ?_ | refine xaf ?_ _)); exact BK359.out) hb); have n2_ := Aside0.mk (xah (by repeat (first | (with_reducible first | exact HB.out | apply xab | apply xaa | apply xac | refine xad ?_ GE359.out) | exact HB.out)) hb); clear BK359; clear HB; have HO362 := n0_; have BK359 := n1_; have HB := n2_; clear n0_ n1_ n2_; (try clear hb); (try clear hb2); (try clear hk); (try clear hi); (try clear ho0); obtain ⟨Ao7, co7, eo7⟩ := Kd.R_slice HO362.out; subst eo7) | ((with_reducible refine xau (f := 56) rfl ?_); refine goesL_ (some 5) rfl rfl Tryd.func56 (by kernel_rfl) rfl #[.slice Ao7 t360.length co7] rfl (by (try simp only [List.map_toArray, List.map_cons, List.map_nil]); first | done | rfl | (simp only [List.length_drop, List.length_take]; rfl)) ?_; (with_reducible refine (r4_vars.calls k _ _ t360 t363 _ ?side1 ?side2 A3.out).mono ?_); (case side1 => repeat (first | exact (Kd.R_reads' HO362.out).2.2 | (with_reducible refine Kd.C_alloc ?_ _) | (with_reducible refine Kd.C_drewN ?_ _) | (with_reducible refine Kd.C_drew ?_))); (case side2 => exact (Kd.R_reads' HO362.out).2.1); rintro e w8 ⟨v364, rfl, ho0, hb⟩; refine ⟨_, rfl, ?_⟩; have n0_ := Aside0.mk (Kd.R_below (by (with_reducible repeat (first | apply Kd.R_alloc | apply Kd.R_drewN | apply Kd.R_drew)); exact HO362.out) hb); have n1_ := Aside0.mk (Kd.R_lower ho0 (xao (by repeat (first | (with_reducible first | exact HB.out | apply xab | apply xaa | apply xac | refine xad ?_ GE359.out) | exact HB.out)))); have n2_ := Aside0.mk (xam (g := gb359) (o := .cells #[.string a0_0, .slice A0_1 l0_1.length c0_1, .slice A0_2 l0_2.length c0_2] 67 (0, 0)) (by (with_reducible repeat (first | refine xag ?_ _ | refine xai ?_ | refine xaf ?_ _)); exact BK359.out) hb); have n3_ := Aside0.mk (xah (by repeat (first | (with_reducible first | exact HB.out | apply xab | apply xaa | apply xac | refine xad ?_ GE359.out) | exact HB.out)) hb); clear HO362; clear BK359; clear HB; have HO362 := n0_; have HO365 := n1_; have BK359 := n2_; have HB := n3_; clear n0_ n1_ n2_ n3_; (try clear hb); (try clear hb2); (try clear hk); (try clear hi); (try clear ho0)))
 go_ret
 exact ⟨_, by first | rfl | (simp [xak, xaj] <;> rfl) | (simp [*, xak, xaj] <;> rfl), by (with_reducible repeat (first | apply Kd.R_alloc | apply Kd.R_drewN | apply Kd.R_drew)); exact HO365.out, by repeat (first | (with_reducible first | exact HB.out | apply xab | apply xaa | apply xac | refine xad ?_ GE359.out) | exact HB.out)⟩
end Go.Proofs.YtllcmggmcogokaaDoor.PAll
end
section
namespace Go.Proofs.YtllcmggmcogokaaDoor.PAll
open Go.RowKit Go.Proofs.YtllcmggmcogokaaDoorW.PrintWords Go.Proofs.YtllcmggmcogokaaDoorW.PrintLast Go.Proofs.YtllcmggmcogokaaDoorW.PrintMore
attribute [local go_sem] max2_int min2_int max_two min_two max_three min_three max_four min_four
attribute [local go_sem high] eqA28
def r4_argument.f (k : Nat) (a0_0 : Int) (a0_1 : ByteArray) (a0_2 : Int) (a0_3 : Int) (a0_4 : ByteArray) : Option (Bool) := if a0_0 = 0 then (if a0_1.toList = ([95] : List UInt8) then (some false) else ((r4_term.f k a0_1 a0_2 a0_3 a0_4).bind fun t368 => (some t368))) else (if a0_0 = 1 then (some (a0_1.toList == ([] : List UInt8) && ((a0_2 == 0 && (a0_3 == 0 && (a0_4.toList == ([] : List UInt8))))))) else (if a0_0 = 2 then (if a0_1.toList = ([] : List UInt8) then (some false) else (if a0_1.toList = ([95] : List UInt8) then (some false) else ((r4_term.f k a0_1 a0_2 a0_3 a0_4).bind fun t369 => (some t369)))) else (if a0_0 = 3 then (if a0_1.toList = ([] : List UInt8) then (some false) else (if a0_1.toList = ([95] : List UInt8) then (some false) else ((r4_term.f k a0_1 a0_2 a0_3 a0_4).bind fun t370 => (some t370)))) else (if a0_0 = 4 then (if a0_1.toList = ([] : List UInt8) then (some false) else (if a0_1.toList = ([95] : List UInt8) then (some false) else ((r4_term.f k a0_1 a0_2 a0_3 a0_4).bind fun t371 => (some t371)))) else (some false)))))
set_option maxHeartbeats 8000000 in
set_option maxRecDepth 100000 in
theorem r4_argument.calls (k : Nat) (a0_0 : Int) (a0_1 : ByteArray) (a0_2 : Int) (a0_3 : Int) (a0_4 : ByteArray) (r : Bool) (w : World) (h : r4_argument.f k a0_0 a0_1 a0_2 a0_3 a0_4 = some r) :
  Calls Tryd.prog 116 #[.agg #[.int .i8 a0_0, .string a0_1, .int .i8 a0_2, .int .i64 a0_3, .string a0_4]] w fun e w' => e = .returned (.bool r) ∧ Below w.heap.size w w' := by
 have hu125 := Tryd.underlying125
 have hu28 := Tryd.underlying28
 have HB := Aside0.mk (Below.refl w.heap.size w)
 have H : (if a0_0 = 0 then (if a0_1.toList = ([95] : List UInt8) then (some false) else ((r4_term.f k a0_1 a0_2 a0_3 a0_4).bind fun t368 => (some t368))) else (if a0_0 = 1 then (some (a0_1.toList == ([] : List UInt8) && ((a0_2 == 0 && (a0_3 == 0 && (a0_4.toList == ([] : List UInt8))))))) else (if a0_0 = 2 then (if a0_1.toList = ([] : List UInt8) then (some false) else (if a0_1.toList = ([95] : List UInt8) then (some false) else ((r4_term.f k a0_1 a0_2 a0_3 a0_4).bind fun t369 => (some t369)))) else (if a0_0 = 3 then (if a0_1.toList = ([] : List UInt8) then (some false) else (if a0_1.toList = ([95] : List UInt8) then (some false) else ((r4_term.f k a0_1 a0_2 a0_3 a0_4).bind fun t370 => (some t370)))) else (if a0_0 = 4 then (if a0_1.toList = ([] : List UInt8) then (some false) else (if a0_1.toList = ([95] : List UInt8) then (some false) else ((r4_term.f k a0_1 a0_2 a0_3 a0_4).bind fun t371 => (some t371)))) else (some false)))))) = some r := h
 clear h
 by_cases c2 : a0_0 = 0
 ·rw [if_pos c2] at H
  have c2b0 : (a0_0 == 0) = true := beq_iff_eq.mpr c2
  have c2b1 : (a0_0 != 0) = false := bne_eq_false_iff_eq.mpr c2
  clear c2
  by_cases c3 : a0_1.toList = ([95] : List UInt8)
  ·rw [if_pos c3] at H
   have c3b0 : (a0_1.toList == ([95] : List UInt8)) = true := beq_iff_eq.mpr c3
   have c3b1 : (a0_1.toList != ([95] : List UInt8)) = false := bne_eq_false_iff_eq.mpr c3
   clear c3
   obtain rfl := Option.some.inj H
   go_enter Tryd.func116, Tryd.ntmps116
   go_wp2_with (first | ((with_reducible refine xar (N := 1) rfl ?_); refine xap ?hg (N := 1) ?hd (cs := #[.int .i8 a0_0, .string a0_1, .int .i8 a0_2, .int .i64 a0_3, .string a0_4]) (t := 125) ?hr ?_; (case hd => rfl); (case hg => rfl); (case hr => first | (go_simp; done) | (go_simp; rfl)); intro gb366 hg w4 hbox hb; have n0_ := Aside0.mk (xah (by repeat (first | (with_reducible first | exact HB.out | apply xab | apply xaa | apply xac) | exact HB.out)) hb); have n1_ := Aside0.mk (hbox); have n2_ := Aside0.mk ((by rw [hg]; exact (xao (by repeat (first | (with_reducible first | exact HB.out | apply xab | apply xaa | apply xac) | exact HB.out))) : w.heap.size ≤ gb366)); have n3_ := n2_; clear HB; have HB := n0_; have BK366 := n1_; have GW366 := n2_; have GE366 := n3_; clear n0_ n1_ n2_ n3_; clear hb hbox hg) | ((with_reducible refine xar (N := 3) rfl ?_); refine xap ?hg (N := 3) ?hd (cs := #[.string (⟨#[]⟩ : ByteArray), .int .i8 0, .int .i64 0, .string (⟨#[]⟩ : ByteArray)]) (t := 28) ?hr ?_; (case hd => rfl); (case hg => rfl); (case hr => first | (go_simp; done) | (go_simp; rfl)); intro gb367 hg w5 hbox hb; have n0_ := Aside0.mk (xam (g := gb366) (o := .cells #[.int .i8 a0_0, .string a0_1, .int .i8 a0_2, .int .i64 a0_3, .string a0_4] 125 (0, 0)) (by (with_reducible repeat (first | refine xag ?_ _ | refine xai ?_ | refine xaf ?_ _)); exact BK366.out) hb); have n1_ := Aside0.mk (xah (by repeat (first | (with_reducible first | exact HB.out | apply xab | apply xaa | apply xac | refine xad ?_ GE366.out) | exact HB.out)) hb); have n2_ := Aside0.mk (hbox); have n3_ := Aside0.mk ((by rw [hg]; exact (xao (by repeat (first | (with_reducible first | exact HB.out | apply xab | apply xaa | apply xac | refine xad ?_ GE366.out) | exact HB.out))) : w.heap.size ≤ gb367)); have n4_ := n3_; have n5_ := Aside0.mk ((by rw [hg]; exact Nat.ne_of_lt (blk_lt (g := gb366) (o := .cells #[.int .i8 a0_0, .string a0_1, .int .i8 a0_2, .int .i64 a0_3, .string a0_4] 125 (0, 0)) (by (with_reducible repeat (first | refine xag ?_ _ | refine xai ?_ | refine xaf ?_ _)); exact BK366.out)) : gb366 ≠ gb367)); have n6_ := Aside0.mk ((by rw [hg]; exact Nat.ne_of_gt (blk_lt (g := gb366) (o := .cells #[.int .i8 a0_0, .string a0_1, .int .i8 a0_2, .int .i64 a0_3, .string a0_4] 125 (0, 0)) (by (with_reducible repeat (first | refine xag ?_ _ | refine xai ?_ | refine xaf ?_ _)); exact BK366.out)) : gb367 ≠ gb366)); clear BK366; clear HB; have BK366 := n0_; have HB := n1_; have BK367 := n2_; have GW367 := n3_; have GE367 := n4_; have NB366_367 := n5_; have NB367_366 := n6_; clear n0_ n1_ n2_ n3_ n4_ n5_ n6_; clear hb hbox hg; have hnb6 := NB367_366.out; have hnc6 := NB366_367.out; obtain ⟨hcz7_0, hcz7_1, hcz7_2, hcz7_3⟩ := cz4 BK367.out; obtain ⟨hfz7_0, hfz7_1, hfz7_2, hfz7_3⟩ := fz4 BK367.out; obtain ⟨hcz8_0, hcz8_1, hcz8_2, hcz8_3, hcz8_4⟩ := cz5 BK366.out; obtain ⟨hfz8_0, hfz8_1, hfz8_2, hfz8_3, hfz8_4⟩ := fz5 BK366.out))
   go_ret
   exact ⟨by first | rfl | (simp [xak, xaj] <;> rfl) | (simp [*, xak, xaj] <;> rfl), by repeat (first | (with_reducible first | exact HB.out | apply xab | apply xaa | apply xac | refine xad ?_ GE366.out | refine xad ?_ GE367.out) | exact HB.out)⟩
  ·rw [if_neg c3] at H
   have c3b0 : (a0_1.toList == ([95] : List UInt8)) = false := beq_eq_false_iff_ne.mpr c3
   have c3b1 : (a0_1.toList != ([95] : List UInt8)) = true := bne_iff_ne.mpr c3
   replace H := Option.bind_eq_some_iff.mp H
   obtain ⟨t368, A90, H⟩ := H
   replace H : (some t368) = some r := H
   have A9 := Aside0.mk A90
   clear A90
   obtain rfl := Option.some.inj H
   go_enter Tryd.func116, Tryd.ntmps116
   go_wp2_with (first | ((with_reducible refine xar (N := 1) rfl ?_); refine xap ?hg (N := 1) ?hd (cs := #[.int .i8 a0_0, .string a0_1, .int .i8 a0_2, .int .i64 a0_3, .string a0_4]) (t := 125) ?hr ?_; (case hd => rfl); (case hg => rfl); (case hr => first | (go_simp; done) | (go_simp; rfl)); intro gb366 hg w10 hbox hb; have n0_ := Aside0.mk (xah (by repeat (first | (with_reducible first | exact HB.out | apply xab | apply xaa | apply xac) | exact HB.out)) hb); have n1_ := Aside0.mk (hbox); have n2_ := Aside0.mk ((by rw [hg]; exact (xao (by repeat (first | (with_reducible first | exact HB.out | apply xab | apply xaa | apply xac) | exact HB.out))) : w.heap.size ≤ gb366)); have n3_ := n2_; clear HB; have HB := n0_; have BK366 := n1_; have GW366 := n2_; have GE366 := n3_; clear n0_ n1_ n2_ n3_; clear hb hbox hg) | ((with_reducible refine xar (N := 3) rfl ?_); refine xap ?hg (N := 3) ?hd (cs := #[.string (⟨#[]⟩ : ByteArray), .int .i8 0, .int .i64 0, .string (⟨#[]⟩ : ByteArray)]) (t := 28) ?hr ?_; (case hd => rfl); (case hg => rfl); (case hr => first | (go_simp; done) | (go_simp; rfl)); intro gb367 hg w11 hbox hb; have n0_ := Aside0.mk (xam (g := gb366) (o := .cells #[.int .i8 a0_0, .string a0_1, .int .i8 a0_2, .int .i64 a0_3, .string a0_4] 125 (0, 0)) (by (with_reducible repeat (first | refine xag ?_ _ | refine xai ?_ | refine xaf ?_ _)); exact BK366.out) hb); have n1_ := Aside0.mk (xah (by repeat (first | (with_reducible first | exact HB.out | apply xab | apply xaa | apply xac | refine xad ?_ GE366.out) | exact HB.out)) hb); have n2_ := Aside0.mk (hbox); have n3_ := Aside0.mk ((by rw [hg]; exact (xao (by repeat (first | (with_reducible first | exact HB.out | apply xab | apply xaa | apply xac | refine xad ?_ GE366.out) | exact HB.out))) : w.heap.size ≤ gb367)); have n4_ := n3_; have n5_ := Aside0.mk ((by rw [hg]; exact Nat.ne_of_lt (blk_lt (g := gb366) (o := .cells #[.int .i8 a0_0, .string a0_1, .int .i8 a0_2, .int .i64 a0_3, .string a0_4] 125 (0, 0)) (by (with_reducible repeat (first | refine xag ?_ _ | refine xai ?_ | refine xaf ?_ _)); exact BK366.out)) : gb366 ≠ gb367)); have n6_ := Aside0.mk ((by rw [hg]; exact Nat.ne_of_gt (blk_lt (g := gb366) (o := .cells #[.int .i8 a0_0, .string a0_1, .int .i8 a0_2, .int .i64 a0_3, .string a0_4] 125 (0, 0)) (by (with_reducible repeat (first | refine xag ?_ _ | refine xai ?_ | refine xaf ?_ _)); exact BK366.out)) : gb367 ≠ gb366)); clear BK366; clear HB; have BK366 := n0_; have HB := n1_; have BK367 := n2_; have GW367 := n3_; have GE367 := n4_; have NB366_367 := n5_; have NB367_366 := n6_; clear n0_ n1_ n2_ n3_ n4_ n5_ n6_; clear hb hbox hg; have hnb12 := NB367_366.out; have hnc12 := NB366_367.out; obtain ⟨hcz13_0, hcz13_1, hcz13_2, hcz13_3⟩ := cz4 BK367.out; obtain ⟨hfz13_0, hfz13_1, hfz13_2, hfz13_3⟩ := fz4 BK367.out; obtain ⟨hcz14_0, hcz14_1, hcz14_2, hcz14_3, hcz14_4⟩ := cz5 BK366.out; obtain ⟨hfz14_0, hfz14_1, hfz14_2, hfz14_3, hfz14_4⟩ := fz5 BK366.out) | (go_at_call 100; (with_reducible refine (r4_term.calls k a0_1 a0_2 a0_3 a0_4 t368 _ A9.out).mono ?_); rintro e w15 ⟨rfl, hb⟩; have n0_ := Aside0.mk (xam (g := gb366) (o := .cells #[.int .i8 a0_0, .string a0_1, .int .i8 a0_2, .int .i64 a0_3, .string a0_4] 125 (0, 0)) (by (with_reducible repeat (first | refine xag ?_ _ | refine xai ?_ | refine xaf ?_ _)); refine xax ?_ NB366_367.out _; (with_reducible repeat (first | refine xag ?_ _ | refine xai ?_ | refine xaf ?_ _)); refine xax ?_ NB366_367.out _; (with_reducible repeat (first | refine xag ?_ _ | refine xai ?_ | refine xaf ?_ _)); refine xax ?_ NB366_367.out _; (with_reducible repeat (first | refine xag ?_ _ | refine xai ?_ | refine xaf ?_ _)); refine xax ?_ NB366_367.out _; (with_reducible repeat (first | refine xag ?_ _ | refine xai ?_ | refine xaf ?_ _)); exact BK366.out) hb); have n1_ := Aside0.mk (xam (g := gb367) (o := .cells #[.string (⟨#[]⟩ : ByteArray), .int .i8 0, .int .i64 0, .string (⟨#[]⟩ : ByteArray)] 28 (0, 0)) (by (with_reducible repeat (first | refine xag ?_ _ | refine xai ?_ | refine xaf ?_ _)); refine xas (cs := #[.string (⟨#[]⟩ : ByteArray), .int .i8 0, .int .i64 0, .string (⟨#[]⟩ : ByteArray)]) ?_ 3 _ rfl; (with_reducible repeat (first | refine xag ?_ _ | refine xai ?_ | refine xaf ?_ _)); refine xas (cs := #[.string (⟨#[]⟩ : ByteArray), .int .i8 0, .int .i64 0, .string (⟨#[]⟩ : ByteArray)]) ?_ 2 _ rfl; (with_reducible repeat (first | refine xag ?_ _ | refine xai ?_ | refine xaf ?_ _)); refine xas (cs := #[.string (⟨#[]⟩ : ByteArray), .int .i8 0, .int .i64 0, .string (⟨#[]⟩ : ByteArray)]) ?_ 1 _ rfl; (with_reducible repeat (first | refine xag ?_ _ | refine xai ?_ | refine xaf ?_ _)); refine xas (cs := #[.string (⟨#[]⟩ : ByteArray), .int .i8 0, .int .i64 0, .string (⟨#[]⟩ : ByteArray)]) ?_ 0 _ rfl; (with_reducible repeat (first | refine xag ?_ _ | refine xai ?_ | refine xaf ?_ _)); exact BK367.out) hb); have n2_ := Aside0.mk (xah (by repeat (first | (with_reducible first | exact HB.out | apply xab | apply xaa | apply xac | refine xad ?_ GE366.out | refine xad ?_ GE367.out) | exact HB.out)) hb); clear BK366; clear BK367; clear HB; have BK366 := n0_; have BK367 := n1_; have HB := n2_; clear n0_ n1_ n2_; (try clear hb); (try clear hb2); (try clear hk); (try clear hi)))
   go_ret
   exact ⟨by first | rfl | (simp [xak, xaj] <;> rfl) | (simp [*, xak, xaj] <;> rfl), by repeat (first | (with_reducible first | exact HB.out | apply xab | apply xaa | apply xac | refine xad ?_ GE366.out | refine xad ?_ GE367.out) | exact HB.out)⟩
 ·rw [if_neg c2] at H
  have c2b0 : (a0_0 == 0) = false := beq_eq_false_iff_ne.mpr c2
  have c2b1 : (a0_0 != 0) = true := bne_iff_ne.mpr c2
  by_cases c16 : a0_0 = 1
  ·rw [if_pos c16] at H
   have c16b0 : (a0_0 == 1) = true := beq_iff_eq.mpr c16
   have c16b1 : (a0_0 != 1) = false := bne_eq_false_iff_eq.mpr c16
   clear c16
   obtain rfl := Option.some.inj H
   go_enter Tryd.func116, Tryd.ntmps116
   go_wp2_with (first | ((with_reducible refine xar (N := 1) rfl ?_); refine xap ?hg (N := 1) ?hd (cs := #[.int .i8 a0_0, .string a0_1, .int .i8 a0_2, .int .i64 a0_3, .string a0_4]) (t := 125) ?hr ?_; (case hd => rfl); (case hg => rfl); (case hr => first | (go_simp; done) | (go_simp; rfl)); intro gb366 hg w17 hbox hb; have n0_ := Aside0.mk (xah (by repeat (first | (with_reducible first | exact HB.out | apply xab | apply xaa | apply xac) | exact HB.out)) hb); have n1_ := Aside0.mk (hbox); have n2_ := Aside0.mk ((by rw [hg]; exact (xao (by repeat (first | (with_reducible first | exact HB.out | apply xab | apply xaa | apply xac) | exact HB.out))) : w.heap.size ≤ gb366)); have n3_ := n2_; clear HB; have HB := n0_; have BK366 := n1_; have GW366 := n2_; have GE366 := n3_; clear n0_ n1_ n2_ n3_; clear hb hbox hg) | ((with_reducible refine xar (N := 3) rfl ?_); refine xap ?hg (N := 3) ?hd (cs := #[.string (⟨#[]⟩ : ByteArray), .int .i8 0, .int .i64 0, .string (⟨#[]⟩ : ByteArray)]) (t := 28) ?hr ?_; (case hd => rfl); (case hg => rfl); (case hr => first | (go_simp; done) | (go_simp; rfl)); intro gb367 hg w18 hbox hb; have n0_ := Aside0.mk (xam (g := gb366) (o := .cells #[.int .i8 a0_0, .string a0_1, .int .i8 a0_2, .int .i64 a0_3, .string a0_4] 125 (0, 0)) (by (with_reducible repeat (first | refine xag ?_ _ | refine xai ?_ | refine xaf ?_ _)); exact BK366.out) hb); have n1_ := Aside0.mk (xah (by repeat (first | (with_reducible first | exact HB.out | apply xab | apply xaa | apply xac | refine xad ?_ GE366.out) | exact HB.out)) hb); have n2_ := Aside0.mk (hbox); have n3_ := Aside0.mk ((by rw [hg]; exact (xao (by repeat (first | (with_reducible first | exact HB.out | apply xab | apply xaa | apply xac | refine xad ?_ GE366.out) | exact HB.out))) : w.heap.size ≤ gb367)); have n4_ := n3_; have n5_ := Aside0.mk ((by rw [hg]; exact Nat.ne_of_lt (blk_lt (g := gb366) (o := .cells #[.int .i8 a0_0, .string a0_1, .int .i8 a0_2, .int .i64 a0_3, .string a0_4] 125 (0, 0)) (by (with_reducible repeat (first | refine xag ?_ _ | refine xai ?_ | refine xaf ?_ _)); exact BK366.out)) : gb366 ≠ gb367)); have n6_ := Aside0.mk ((by rw [hg]; exact Nat.ne_of_gt (blk_lt (g := gb366) (o := .cells #[.int .i8 a0_0, .string a0_1, .int .i8 a0_2, .int .i64 a0_3, .string a0_4] 125 (0, 0)) (by (with_reducible repeat (first | refine xag ?_ _ | refine xai ?_ | refine xaf ?_ _)); exact BK366.out)) : gb367 ≠ gb366)); clear BK366; clear HB; have BK366 := n0_; have HB := n1_; have BK367 := n2_; have GW367 := n3_; have GE367 := n4_; have NB366_367 := n5_; have NB367_366 := n6_; clear n0_ n1_ n2_ n3_ n4_ n5_ n6_; clear hb hbox hg; have hnb19 := NB367_366.out; have hnc19 := NB366_367.out; obtain ⟨hcz20_0, hcz20_1, hcz20_2, hcz20_3⟩ := cz4 BK367.out; obtain ⟨hfz20_0, hfz20_1, hfz20_2, hfz20_3⟩ := fz4 BK367.out; obtain ⟨hcz21_0, hcz21_1, hcz21_2, hcz21_3, hcz21_4⟩ := cz5 BK366.out; obtain ⟨hfz21_0, hfz21_1, hfz21_2, hfz21_3, hfz21_4⟩ := fz5 BK366.out))
   go_ret
   exact ⟨by first | rfl | (simp [xak, xaj] <;> rfl) | (simp [*, xak, xaj] <;> rfl), by repeat (first | (with_reducible first | exact HB.out | apply xab | apply xaa | apply xac | refine xad ?_ GE366.out | refine xad ?_ GE367.out) | exact HB.out)⟩
  ·rw [if_neg c16] at H
   have c16b0 : (a0_0 == 1) = false := beq_eq_false_iff_ne.mpr c16
   have c16b1 : (a0_0 != 1) = true := bne_iff_ne.mpr c16
   by_cases c22 : a0_0 = 2
   ·rw [if_pos c22] at H
    have c22b0 : (a0_0 == 2) = true := beq_iff_eq.mpr c22
    have c22b1 : (a0_0 != 2) = false := bne_eq_false_iff_eq.mpr c22
    clear c22
    by_cases c23 : a0_1.toList = ([] : List UInt8)
    ·rw [if_pos c23] at H
     have c23b0 : (a0_1.toList == ([] : List UInt8)) = true := beq_iff_eq.mpr c23
     have c23b1 : (a0_1.toList != ([] : List UInt8)) = false := bne_eq_false_iff_eq.mpr c23
     clear c23
     obtain rfl := Option.some.inj H
     go_enter Tryd.func116, Tryd.ntmps116
     go_wp2_with (first | ((with_reducible refine xar (N := 1) rfl ?_); refine xap ?hg (N := 1) ?hd (cs := #[.int .i8 a0_0, .string a0_1, .int .i8 a0_2, .int .i64 a0_3, .string a0_4]) (t := 125) ?hr ?_; (case hd => rfl); (case hg => rfl); (case hr => first | (go_simp; done) | (go_simp; rfl)); intro gb366 hg w24 hbox hb; have n0_ := Aside0.mk (xah (by repeat (first | (with_reducible first | exact HB.out | apply xab | apply xaa | apply xac) | exact HB.out)) hb); have n1_ := Aside0.mk (hbox); have n2_ := Aside0.mk ((by rw [hg]; exact (xao (by repeat (first | (with_reducible first | exact HB.out | apply xab | apply xaa | apply xac) | exact HB.out))) : w.heap.size ≤ gb366)); have n3_ := n2_; clear HB; have HB := n0_; have BK366 := n1_; have GW366 := n2_; have GE366 := n3_; clear n0_ n1_ n2_ n3_; clear hb hbox hg) | ((with_reducible refine xar (N := 3) rfl ?_); refine xap ?hg (N := 3) ?hd (cs := #[.string (⟨#[]⟩ : ByteArray), .int .i8 0, .int .i64 0, .string (⟨#[]⟩ : ByteArray)]) (t := 28) ?hr ?_; (case hd => rfl); (case hg => rfl); (case hr => first | (go_simp; done) | (go_simp; rfl)); intro gb367 hg w25 hbox hb; have n0_ := Aside0.mk (xam (g := gb366) (o := .cells #[.int .i8 a0_0, .string a0_1, .int .i8 a0_2, .int .i64 a0_3, .string a0_4] 125 (0, 0)) (by (with_reducible repeat (first | refine xag ?_ _ | refine xai ?_ | refine xaf ?_ _)); exact BK366.out) hb); have n1_ := Aside0.mk (xah (by repeat (first | (with_reducible first | exact HB.out | apply xab | apply xaa | apply xac | refine xad ?_ GE366.out) | exact HB.out)) hb); have n2_ := Aside0.mk (hbox); have n3_ := Aside0.mk ((by rw [hg]; exact (xao (by repeat (first | (with_reducible first | exact HB.out | apply xab | apply xaa | apply xac | refine xad ?_ GE366.out) | exact HB.out))) : w.heap.size ≤ gb367)); have n4_ := n3_; have n5_ := Aside0.mk ((by rw [hg]; exact Nat.ne_of_lt (blk_lt (g := gb366) (o := .cells #[.int .i8 a0_0, .string a0_1, .int .i8 a0_2, .int .i64 a0_3, .string a0_4] 125 (0, 0)) (by (with_reducible repeat (first | refine xag ?_ _ | refine xai ?_ | refine xaf ?_ _)); exact BK366.out)) : gb366 ≠ gb367)); have n6_ := Aside0.mk ((by rw [hg]; exact Nat.ne_of_gt (blk_lt (g := gb366) (o := .cells #[.int .i8 a0_0, .string a0_1, .int .i8 a0_2, .int .i64 a0_3, .string a0_4] 125 (0, 0)) (by (with_reducible repeat (first | refine xag ?_ _ | refine xai ?_ | refine xaf ?_ _)); exact BK366.out)) : gb367 ≠ gb366)); clear BK366; clear HB; have BK366 := n0_; have HB := n1_; have BK367 := n2_; have GW367 := n3_; have GE367 := n4_; have NB366_367 := n5_; have NB367_366 := n6_; clear n0_ n1_ n2_ n3_ n4_ n5_ n6_; clear hb hbox hg; have hnb26 := NB367_366.out; have hnc26 := NB366_367.out; obtain ⟨hcz27_0, hcz27_1, hcz27_2, hcz27_3⟩ := cz4 BK367.out; obtain ⟨hfz27_0, hfz27_1, hfz27_2, hfz27_3⟩ := fz4 BK367.out; obtain ⟨hcz28_0, hcz28_1, hcz28_2, hcz28_3, hcz28_4⟩ := cz5 BK366.out; obtain ⟨hfz28_0, hfz28_1, hfz28_2, hfz28_3, hfz28_4⟩ := fz5 BK366.out))
     go_ret
     exact ⟨by first | rfl | (simp [xak, xaj] <;> rfl) | (simp [*, xak, xaj] <;> rfl), by repeat (first | (with_reducible first | exact HB.out | apply xab | apply xaa | apply xac | refine xad ?_ GE366.out | refine xad ?_ GE367.out) | exact HB.out)⟩
    ·rw [if_neg c23] at H
     have c23b0 : (a0_1.toList == ([] : List UInt8)) = false := beq_eq_false_iff_ne.mpr c23
     have c23b1 : (a0_1.toList != ([] : List UInt8)) = true := bne_iff_ne.mpr c23
     by_cases c29 : a0_1.toList = ([95] : List UInt8)
     ·rw [if_pos c29] at H
      have c29b0 : (a0_1.toList == ([95] : List UInt8)) = true := beq_iff_eq.mpr c29
      have c29b1 : (a0_1.toList != ([95] : List UInt8)) = false := bne_eq_false_iff_eq.mpr c29
      clear c29
      obtain rfl := Option.some.inj H
      go_enter Tryd.func116, Tryd.ntmps116
      go_wp2_with (first | ((with_reducible refine xar (N := 1) rfl ?_); refine xap ?hg (N := 1) ?hd (cs := #[.int .i8 a0_0, .string a0_1, .int .i8 a0_2, .int .i64 a0_3, .string a0_4]) (t := 125) ?hr ?_; (case hd => rfl); (case hg => rfl); (case hr => first | (go_simp; done) | (go_simp; rfl)); intro gb366 hg w30 hbox hb; have n0_ := Aside0.mk (xah (by repeat (first | (with_reducible first | exact HB.out | apply xab | apply xaa | apply xac) | exact HB.out)) hb); have n1_ := Aside0.mk (hbox); have n2_ := Aside0.mk ((by rw [hg]; exact (xao (by repeat (first | (with_reducible first | exact HB.out | apply xab | apply xaa | apply xac) | exact HB.out))) : w.heap.size ≤ gb366)); have n3_ := n2_; clear HB; have HB := n0_; have BK366 := n1_; have GW366 := n2_; have GE366 := n3_; clear n0_ n1_ n2_ n3_; clear hb hbox hg) | ((with_reducible refine xar (N := 3) rfl ?_); refine xap ?hg (N := 3) ?hd (cs := #[.string (⟨#[]⟩ : ByteArray), .int .i8 0, .int .i64 0, .string (⟨#[]⟩ : ByteArray)]) (t := 28) ?hr ?_; (case hd => rfl); (case hg => rfl); (case hr => first | (go_simp; done) | (go_simp; rfl)); intro gb367 hg w31 hbox hb; have n0_ := Aside0.mk (xam (g := gb366) (o := .cells #[.int .i8 a0_0, .string a0_1, .int .i8 a0_2, .int .i64 a0_3, .string a0_4] 125 (0, 0)) (by (with_reducible repeat (first | refine xag ?_ _ | refine xai ?_ | refine xaf ?_ _)); exact BK366.out) hb); have n1_ := Aside0.mk (xah (by repeat (first | (with_reducible first | exact HB.out | apply xab | apply xaa | apply xac | refine xad ?_ GE366.out) | exact HB.out)) hb); have n2_ := Aside0.mk (hbox); have n3_ := Aside0.mk ((by rw [hg]; exact (xao (by repeat (first | (with_reducible first | exact HB.out | apply xab | apply xaa | apply xac | refine xad ?_ GE366.out) | exact HB.out))) : w.heap.size ≤ gb367)); have n4_ := n3_; have n5_ := Aside0.mk ((by rw [hg]; exact Nat.ne_of_lt (blk_lt (g := gb366) (o := .cells #[.int .i8 a0_0, .string a0_1, .int .i8 a0_2, .int .i64 a0_3, .string a0_4] 125 (0, 0)) (by (with_reducible repeat (first | refine xag ?_ _ | refine xai ?_ | refine xaf ?_ _)); exact BK366.out)) : gb366 ≠ gb367)); have n6_ := Aside0.mk ((by rw [hg]; exact Nat.ne_of_gt (blk_lt (g := gb366) (o := .cells #[.int .i8 a0_0, .string a0_1, .int .i8 a0_2, .int .i64 a0_3, .string a0_4] 125 (0, 0)) (by (with_reducible repeat (first | refine xag ?_ _ | refine xai ?_ | refine xaf ?_ _)); exact BK366.out)) : gb367 ≠ gb366)); clear BK366; clear HB; have BK366 := n0_; have HB := n1_; have BK367 := n2_; have GW367 := n3_; have GE367 := n4_; have NB366_367 := n5_; have NB367_366 := n6_; clear n0_ n1_ n2_ n3_ n4_ n5_ n6_; clear hb hbox hg; have hnb32 := NB367_366.out; have hnc32 := NB366_367.out; obtain ⟨hcz33_0, hcz33_1, hcz33_2, hcz33_3⟩ := cz4 BK367.out; obtain ⟨hfz33_0, hfz33_1, hfz33_2, hfz33_3⟩ := fz4 BK367.out; obtain ⟨hcz34_0, hcz34_1, hcz34_2, hcz34_3, hcz34_4⟩ := cz5 BK366.out; obtain ⟨hfz34_0, hfz34_1, hfz34_2, hfz34_3, hfz34_4⟩ := fz5 BK366.out))
      go_ret
      exact ⟨by first | rfl | (simp [xak, xaj] <;> rfl) | (simp [*, xak, xaj] <;> rfl), by repeat (first | (with_reducible first | exact HB.out | apply xab | apply xaa | apply xac | refine xad ?_ GE366.out | refine xad ?_ GE367.out) | exact HB.out)⟩
     ·rw [if_neg c29] at H
      have c29b0 : (a0_1.toList == ([95] : List UInt8)) = false := beq_eq_false_iff_ne.mpr c29
      have c29b1 : (a0_1.toList != ([95] : List UInt8)) = true := bne_iff_ne.mpr c29
      replace H := Option.bind_eq_some_iff.mp H
      obtain ⟨t369, A350, H⟩ := H
      replace H : (some t369) = some r := H
      have A35 := Aside0.mk A350
      clear A350
      obtain rfl := Option.some.inj H
      go_enter Tryd.func116, Tryd.ntmps116
      go_wp2_with (first | ((with_reducible refine xar (N := 1) rfl ?_); refine xap ?hg (N := 1) ?hd (cs := #[.int .i8 a0_0, .string a0_1, .int .i8 a0_2, .int .i64 a0_3, .string a0_4]) (t := 125) ?hr ?_; (case hd => rfl); (case hg => rfl); (case hr => first | (go_simp; done) | (go_simp; rfl)); intro gb366 hg w36 hbox hb; have n0_ := Aside0.mk (xah (by repeat (first | (with_reducible first | exact HB.out | apply xab | apply xaa | apply xac) | exact HB.out)) hb); have n1_ := Aside0.mk (hbox); have n2_ := Aside0.mk ((by rw [hg]; exact (xao (by repeat (first | (with_reducible first | exact HB.out | apply xab | apply xaa | apply xac) | exact HB.out))) : w.heap.size ≤ gb366)); have n3_ := n2_; clear HB; have HB := n0_; have BK366 := n1_; have GW366 := n2_; have GE366 := n3_; clear n0_ n1_ n2_ n3_; clear hb hbox hg) | ((with_reducible refine xar (N := 3) rfl ?_); refine xap ?hg (N := 3) ?hd (cs := #[.string (⟨#[]⟩ : ByteArray), .int .i8 0, .int .i64 0, .string (⟨#[]⟩ : ByteArray)]) (t := 28) ?hr ?_; (case hd => rfl); (case hg => rfl); (case hr => first | (go_simp; done) | (go_simp; rfl)); intro gb367 hg w37 hbox hb; have n0_ := Aside0.mk (xam (g := gb366) (o := .cells #[.int .i8 a0_0, .string a0_1, .int .i8 a0_2, .int .i64 a0_3, .string a0_4] 125 (0, 0)) (by (with_reducible repeat (first | refine xag ?_ _ | refine xai ?_ | refine xaf ?_ _)); exact BK366.out) hb); have n1_ := Aside0.mk (xah (by repeat (first | (with_reducible first | exact HB.out | apply xab | apply xaa | apply xac | refine xad ?_ GE366.out) | exact HB.out)) hb); have n2_ := Aside0.mk (hbox); have n3_ := Aside0.mk ((by rw [hg]; exact (xao (by repeat (first | (with_reducible first | exact HB.out | apply xab | apply xaa | apply xac | refine xad ?_ GE366.out) | exact HB.out))) : w.heap.size ≤ gb367)); have n4_ := n3_; have n5_ := Aside0.mk ((by rw [hg]; exact Nat.ne_of_lt (blk_lt (g := gb366) (o := .cells #[.int .i8 a0_0, .string a0_1, .int .i8 a0_2, .int .i64 a0_3, .string a0_4] 125 (0, 0)) (by (with_reducible repeat (first | refine xag ?_ _ | refine xai ?_ | refine xaf ?_ _)); exact BK366.out)) : gb366 ≠ gb367)); have n6_ := Aside0.mk ((by rw [hg]; exact Nat.ne_of_gt (blk_lt (g := gb366) (o := .cells #[.int .i8 a0_0, .string a0_1, .int .i8 a0_2, .int .i64 a0_3, .string a0_4] 125 (0, 0)) (by (with_reducible repeat (first | refine xag ?_ _ | refine xai ?_ | refine xaf ?_ _)); exact BK366.out)) : gb367 ≠ gb366)); clear BK366; clear HB; have BK366 := n0_; have HB := n1_; have BK367 := n2_; have GW367 := n3_; have GE367 := n4_; have NB366_367 := n5_; have NB367_366 := n6_; clear n0_ n1_ n2_ n3_ n4_ n5_ n6_; clear hb hbox hg; have hnb38 := NB367_366.out; have hnc38 := NB366_367.out; obtain ⟨hcz39_0, hcz39_1, hcz39_2, hcz39_3⟩ := cz4 BK367.out; obtain ⟨hfz39_0, hfz39_1, hfz39_2, hfz39_3⟩ := fz4 BK367.out; obtain ⟨hcz40_0, hcz40_1, hcz40_2, hcz40_3, hcz40_4⟩ := cz5 BK366.out; obtain ⟨hfz40_0, hfz40_1, hfz40_2, hfz40_3, hfz40_4⟩ := fz5 BK366.out) | (go_at_call 100; (with_reducible refine (r4_term.calls k a0_1 a0_2 a0_3 a0_4 t369 _ A35.out).mono ?_); rintro e w41 ⟨rfl, hb⟩; have n0_ := Aside0.mk (xam (g := gb366) (o := .cells #[.int .i8 a0_0, .string a0_1, .int .i8 a0_2, .int .i64 a0_3, .string a0_4] 125 (0, 0)) (by (with_reducible repeat (first | refine xag ?_ _ | refine xai ?_ | refine xaf ?_ _)); refine xax ?_ NB366_367.out _; (with_reducible repeat (first | refine xag ?_ _ | refine xai ?_ | refine xaf ?_ _)); refine xax ?_ NB366_367.out _; (with_reducible repeat (first | refine xag ?_ _ | refine xai ?_ | refine xaf ?_ _)); refine xax ?_ NB366_367.out _; (with_reducible repeat (first | refine xag ?_ _ | refine xai ?_ | refine xaf ?_ _)); refine xax ?_ NB366_367.out _; (with_reducible repeat (first | refine xag ?_ _ | refine xai ?_ | refine xaf ?_ _)); exact BK366.out) hb); have n1_ := Aside0.mk (xam (g := gb367) (o := .cells #[.string (⟨#[]⟩ : ByteArray), .int .i8 0, .int .i64 0, .string (⟨#[]⟩ : ByteArray)] 28 (0, 0)) (by (with_reducible repeat (first | refine xag ?_ _ | refine xai ?_ | refine xaf ?_ _)); refine xas (cs := #[.string (⟨#[]⟩ : ByteArray), .int .i8 0, .int .i64 0, .string (⟨#[]⟩ : ByteArray)]) ?_ 3 _ rfl; (with_reducible repeat (first | refine xag ?_ _ | refine xai ?_ | refine xaf ?_ _)); refine xas (cs := #[.string (⟨#[]⟩ : ByteArray), .int .i8 0, .int .i64 0, .string (⟨#[]⟩ : ByteArray)]) ?_ 2 _ rfl; (with_reducible repeat (first | refine xag ?_ _ | refine xai ?_ | refine xaf ?_ _)); refine xas (cs := #[.string (⟨#[]⟩ : ByteArray), .int .i8 0, .int .i64 0, .string (⟨#[]⟩ : ByteArray)]) ?_ 1 _ rfl; (with_reducible repeat (first | refine xag ?_ _ | refine xai ?_ | refine xaf ?_ _)); refine xas (cs := #[.string (⟨#[]⟩ : ByteArray), .int .i8 0, .int .i64 0, .string (⟨#[]⟩ : ByteArray)]) ?_ 0 _ rfl; (with_reducible repeat (first | refine xag ?_ _ | refine xai ?_ | refine xaf ?_ _)); exact BK367.out) hb); have n2_ := Aside0.mk (xah (by repeat (first | (with_reducible first | exact HB.out | apply xab | apply xaa | apply xac | refine xad ?_ GE366.out | refine xad ?_ GE367.out) | exact HB.out)) hb); clear BK366; clear BK367; clear HB; have BK366 := n0_; have BK367 := n1_; have HB := n2_; clear n0_ n1_ n2_; (try clear hb); (try clear hb2); (try clear hk); (try clear hi)))
      go_ret
      exact ⟨by first | rfl | (simp [xak, xaj] <;> rfl) | (simp [*, xak, xaj] <;> rfl), by repeat (first | (with_reducible first | exact HB.out | apply xab | apply xaa | apply xac | refine xad ?_ GE366.out | refine xad ?_ GE367.out) | exact HB.out)⟩
   ·rw [if_neg c22] at H
    have c22b0 : (a0_0 == 2) = false := beq_eq_false_iff_ne.mpr c22
    have c22b1 : (a0_0 != 2) = true := bne_iff_ne.mpr c22
    by_cases c42 : a0_0 = 3
    ·rw [if_pos c42] at H
     have c42b0 : (a0_0 == 3) = true := beq_iff_eq.mpr c42
     have c42b1 : (a0_0 != 3) = false := bne_eq_false_iff_eq.mpr c42
     clear c42
     by_cases c43 : a0_1.toList = ([] : List UInt8)
     ·rw [if_pos c43] at H
      have c43b0 : (a0_1.toList == ([] : List UInt8)) = true := beq_iff_eq.mpr c43
      have c43b1 : (a0_1.toList != ([] : List UInt8)) = false := bne_eq_false_iff_eq.mpr c43
      clear c43
      obtain rfl := Option.some.inj H
      go_enter Tryd.func116, Tryd.ntmps116
      go_wp2_with (first | ((with_reducible refine xar (N := 1) rfl ?_); refine xap ?hg (N := 1) ?hd (cs := #[.int .i8 a0_0, .string a0_1, .int .i8 a0_2, .int .i64 a0_3, .string a0_4]) (t := 125) ?hr ?_; (case hd => rfl); (case hg => rfl); (case hr => first | (go_simp; done) | (go_simp; rfl)); intro gb366 hg w44 hbox hb; have n0_ := Aside0.mk (xah (by repeat (first | (with_reducible first | exact HB.out | apply xab | apply xaa | apply xac) | exact HB.out)) hb); have n1_ := Aside0.mk (hbox); have n2_ := Aside0.mk ((by rw [hg]; exact (xao (by repeat (first | (with_reducible first | exact HB.out | apply xab | apply xaa | apply xac) | exact HB.out))) : w.heap.size ≤ gb366)); have n3_ := n2_; clear HB; have HB := n0_; have BK366 := n1_; have GW366 := n2_; have GE366 := n3_; clear n0_ n1_ n2_ n3_; clear hb hbox hg) | ((with_reducible refine xar (N := 3) rfl ?_); refine xap ?hg (N := 3) ?hd (cs := #[.string (⟨#[]⟩ : ByteArray), .int .i8 0, .int .i64 0, .string (⟨#[]⟩ : ByteArray)]) (t := 28) ?hr ?_; (case hd => rfl); (case hg => rfl); (case hr => first | (go_simp; done) | (go_simp; rfl)); intro gb367 hg w45 hbox hb; have n0_ := Aside0.mk (xam (g := gb366) (o := .cells #[.int .i8 a0_0, .string a0_1, .int .i8 a0_2, .int .i64 a0_3, .string a0_4] 125 (0, 0)) (by (with_reducible repeat (first | refine xag ?_ _ | refine xai ?_ | refine xaf ?_ _)); exact BK366.out) hb); have n1_ := Aside0.mk (xah (by repeat (first | (with_reducible first | exact HB.out | apply xab | apply xaa | apply xac | refine xad ?_ GE366.out) | exact HB.out)) hb); have n2_ := Aside0.mk (hbox); have n3_ := Aside0.mk ((by rw [hg]; exact (xao (by repeat (first | (with_reducible first | exact HB.out | apply xab | apply xaa | apply xac | refine xad ?_ GE366.out) | exact HB.out))) : w.heap.size ≤ gb367)); have n4_ := n3_; have n5_ := Aside0.mk ((by rw [hg]; exact Nat.ne_of_lt (blk_lt (g := gb366) (o := .cells #[.int .i8 a0_0, .string a0_1, .int .i8 a0_2, .int .i64 a0_3, .string a0_4] 125 (0, 0)) (by (with_reducible repeat (first | refine xag ?_ _ | refine xai ?_ | refine xaf ?_ _)); exact BK366.out)) : gb366 ≠ gb367)); have n6_ := Aside0.mk ((by rw [hg]; exact Nat.ne_of_gt (blk_lt (g := gb366) (o := .cells #[.int .i8 a0_0, .string a0_1, .int .i8 a0_2, .int .i64 a0_3, .string a0_4] 125 (0, 0)) (by (with_reducible repeat (first | refine xag ?_ _ | refine xai ?_ | refine xaf ?_ _)); exact BK366.out)) : gb367 ≠ gb366)); clear BK366; clear HB; have BK366 := n0_; have HB := n1_; have BK367 := n2_; have GW367 := n3_; have GE367 := n4_; have NB366_367 := n5_; have NB367_366 := n6_; clear n0_ n1_ n2_ n3_ n4_ n5_ n6_; clear hb hbox hg; have hnb46 := NB367_366.out; have hnc46 := NB366_367.out; obtain ⟨hcz47_0, hcz47_1, hcz47_2, hcz47_3⟩ := cz4 BK367.out; obtain ⟨hfz47_0, hfz47_1, hfz47_2, hfz47_3⟩ := fz4 BK367.out; obtain ⟨hcz48_0, hcz48_1, hcz48_2, hcz48_3, hcz48_4⟩ := cz5 BK366.out; obtain ⟨hfz48_0, hfz48_1, hfz48_2, hfz48_3, hfz48_4⟩ := fz5 BK366.out))
      go_ret
      exact ⟨by first | rfl | (simp [xak, xaj] <;> rfl) | (simp [*, xak, xaj] <;> rfl), by repeat (first | (with_reducible first | exact HB.out | apply xab | apply xaa | apply xac | refine xad ?_ GE366.out | refine xad ?_ GE367.out) | exact HB.out)⟩
     ·rw [if_neg c43] at H
      have c43b0 : (a0_1.toList == ([] : List UInt8)) = false := beq_eq_false_iff_ne.mpr c43
      have c43b1 : (a0_1.toList != ([] : List UInt8)) = true := bne_iff_ne.mpr c43
      by_cases c49 : a0_1.toList = ([95] : List UInt8)
      ·rw [if_pos c49] at H
       have c49b0 : (a0_1.toList == ([95] : List UInt8)) = true := beq_iff_eq.mpr c49
       have c49b1 : (a0_1.toList != ([95] : List UInt8)) = false := bne_eq_false_iff_eq.mpr c49
       clear c49
       obtain rfl := Option.some.inj H
       go_enter Tryd.func116, Tryd.ntmps116
       go_wp2_with (first | ((with_reducible refine xar (N := 1) rfl ?_); refine xap ?hg (N := 1) ?hd (cs := #[.int .i8 a0_0, .string a0_1, .int .i8 a0_2, .int .i64 a0_3, .string a0_4]) (t := 125) ?hr ?_; (case hd => rfl); (case hg => rfl); (case hr => first | (go_simp; done) | (go_simp; rfl)); intro gb366 hg w50 hbox hb; have n0_ := Aside0.mk (xah (by repeat (first | (with_reducible first | exact HB.out | apply xab | apply xaa | apply xac) | exact HB.out)) hb); have n1_ := Aside0.mk (hbox); have n2_ := Aside0.mk ((by rw [hg]; exact (xao (by repeat (first | (with_reducible first | exact HB.out | apply xab | apply xaa | apply xac) | exact HB.out))) : w.heap.size ≤ gb366)); have n3_ := n2_; clear HB; have HB := n0_; have BK366 := n1_; have GW366 := n2_; have GE366 := n3_; clear n0_ n1_ n2_ n3_; clear hb hbox hg) | ((with_reducible refine xar (N := 3) rfl ?_); refine xap ?hg (N := 3) ?hd (cs := #[.string (⟨#[]⟩ : ByteArray), .int .i8 0, .int .i64 0, .string (⟨#[]⟩ : ByteArray)]) (t := 28) ?hr ?_; (case hd => rfl); (case hg => rfl); (case hr => first | (go_simp; done) | (go_simp; rfl)); intro gb367 hg w51 hbox hb; have n0_ := Aside0.mk (xam (g := gb366) (o := .cells #[.int .i8 a0_0, .string a0_1, .int .i8 a0_2, .int .i64 a0_3, .string a0_4] 125 (0, 0)) (by (with_reducible repeat (first | refine xag ?_ _ | refine xai ?_ | refine xaf ?_ _)); exact BK366.out) hb); have n1_ := Aside0.mk (xah (by repeat (first | (with_reducible first | exact HB.out | apply xab | apply xaa | apply xac | refine xad ?_ GE366.out) | exact HB.out)) hb); have n2_ := Aside0.mk (hbox); have n3_ := Aside0.mk ((by rw [hg]; exact (xao (by repeat (first | (with_reducible first | exact HB.out | apply xab | apply xaa | apply xac | refine xad ?_ GE366.out) | exact HB.out))) : w.heap.size ≤ gb367)); have n4_ := n3_; have n5_ := Aside0.mk ((by rw [hg]; exact Nat.ne_of_lt (blk_lt (g := gb366) (o := .cells #[.int .i8 a0_0, .string a0_1, .int .i8 a0_2, .int .i64 a0_3, .string a0_4] 125 (0, 0)) (by (with_reducible repeat (first | refine xag ?_ _ | refine xai ?_ | refine xaf ?_ _)); exact BK366.out)) : gb366 ≠ gb367)); have n6_ := Aside0.mk ((by rw [hg]; exact Nat.ne_of_gt (blk_lt (g := gb366) (o := .cells #[.int .i8 a0_0, .string a0_1, .int .i8 a0_2, .int .i64 a0_3, .string a0_4] 125 (0, 0)) (by (with_reducible repeat (first | refine xag ?_ _ | refine xai ?_ | refine xaf ?_ _)); exact BK366.out)) : gb367 ≠ gb366)); clear BK366; clear HB; have BK366 := n0_; have HB := n1_; have BK367 := n2_; have GW367 := n3_; have GE367 := n4_; have NB366_367 := n5_; have NB367_366 := n6_; clear n0_ n1_ n2_ n3_ n4_ n5_ n6_; clear hb hbox hg; have hnb52 := NB367_366.out; have hnc52 := NB366_367.out; obtain ⟨hcz53_0, hcz53_1, hcz53_2, hcz53_3⟩ := cz4 BK367.out; obtain ⟨hfz53_0, hfz53_1, hfz53_2, hfz53_3⟩ := fz4 BK367.out; obtain ⟨hcz54_0, hcz54_1, hcz54_2, hcz54_3, hcz54_4⟩ := cz5 BK366.out; obtain ⟨hfz54_0, hfz54_1, hfz54_2, hfz54_3, hfz54_4⟩ := fz5 BK366.out))
       go_ret
       exact ⟨by first | rfl | (simp [xak, xaj] <;> rfl) | (simp [*, xak, xaj] <;> rfl), by repeat (first | (with_reducible first | exact HB.out | apply xab | apply xaa | apply xac | refine xad ?_ GE366.out | refine xad ?_ GE367.out) | exact HB.out)⟩
      ·rw [if_neg c49] at H
       have c49b0 : (a0_1.toList == ([95] : List UInt8)) = false := beq_eq_false_iff_ne.mpr c49
       have c49b1 : (a0_1.toList != ([95] : List UInt8)) = true := bne_iff_ne.mpr c49
       replace H := Option.bind_eq_some_iff.mp H
       obtain ⟨t370, A550, H⟩ := H
       replace H : (some t370) = some r := H
       have A55 := Aside0.mk A550
       clear A550
       obtain rfl := Option.some.inj H
       go_enter Tryd.func116, Tryd.ntmps116
       go_wp2_with (first | ((with_reducible refine xar (N := 1) rfl ?_); refine xap ?hg (N := 1) ?hd (cs := #[.int .i8 a0_0, .string a0_1, .int .i8 a0_2, .int .i64 a0_3, .string a0_4]) (t := 125) ?hr ?_; (case hd => rfl); (case hg => rfl); (case hr => first | (go_simp; done) | (go_simp; rfl)); intro gb366 hg w56 hbox hb; have n0_ := Aside0.mk (xah (by repeat (first | (with_reducible first | exact HB.out | apply xab | apply xaa | apply xac) | exact HB.out)) hb); have n1_ := Aside0.mk (hbox); have n2_ := Aside0.mk ((by rw [hg]; exact (xao (by repeat (first | (with_reducible first | exact HB.out | apply xab | apply xaa | apply xac) | exact HB.out))) : w.heap.size ≤ gb366)); have n3_ := n2_; clear HB; have HB := n0_; have BK366 := n1_; have GW366 := n2_; have GE366 := n3_; clear n0_ n1_ n2_ n3_; clear hb hbox hg) | ((with_reducible refine xar (N := 3) rfl ?_); refine xap ?hg (N := 3) ?hd (cs := #[.string (⟨#[]⟩ : ByteArray), .int .i8 0, .int .i64 0, .string (⟨#[]⟩ : ByteArray)]) (t := 28) ?hr ?_; (case hd => rfl); (case hg => rfl); (case hr => first | (go_simp; done) | (go_simp; rfl)); intro gb367 hg w57 hbox hb; have n0_ := Aside0.mk (xam (g := gb366) (o := .cells #[.int .i8 a0_0, .string a0_1, .int .i8 a0_2, .int .i64 a0_3, .string a0_4] 125 (0, 0)) (by (with_reducible repeat (first | refine xag ?_ _ | refine xai ?_ | refine xaf ?_ _)); exact BK366.out) hb); have n1_ := Aside0.mk (xah (by repeat (first | (with_reducible first | exact HB.out | apply xab | apply xaa | apply xac | refine xad ?_ GE366.out) | exact HB.out)) hb); have n2_ := Aside0.mk (hbox); have n3_ := Aside0.mk ((by rw [hg]; exact (xao (by repeat (first | (with_reducible first | exact HB.out | apply xab | apply xaa | apply xac | refine xad ?_ GE366.out) | exact HB.out))) : w.heap.size ≤ gb367)); have n4_ := n3_; have n5_ := Aside0.mk ((by rw [hg]; exact Nat.ne_of_lt (blk_lt (g := gb366) (o := .cells #[.int .i8 a0_0, .string a0_1, .int .i8 a0_2, .int .i64 a0_3, .string a0_4] 125 (0, 0)) (by (with_reducible repeat (first | refine xag ?_ _ | refine xai ?_ | refine xaf ?_ _)); exact BK366.out)) : gb366 ≠ gb367)); have n6_ := Aside0.mk ((by rw [hg]; exact Nat.ne_of_gt (blk_lt (g := gb366) (o := .cells #[.int .i8 a0_0, .string a0_1, .int .i8 a0_2, .int .i64 a0_3, .string a0_4] 125 (0, 0)) (by (with_reducible repeat (first | refine xag ?_ _ | refine xai ?_ | refine xaf ?_ _)); exact BK366.out)) : gb367 ≠ gb366)); clear BK366; clear HB; have BK366 := n0_; have HB := n1_; have BK367 := n2_; have GW367 := n3_; have GE367 := n4_; have NB366_367 := n5_; have NB367_366 := n6_; clear n0_ n1_ n2_ n3_ n4_ n5_ n6_; clear hb hbox hg; have hnb58 := NB367_366.out; have hnc58 := NB366_367.out; obtain ⟨hcz59_0, hcz59_1, hcz59_2, hcz59_3⟩ := cz4 BK367.out; obtain ⟨hfz59_0, hfz59_1, hfz59_2, hfz59_3⟩ := fz4 BK367.out; obtain ⟨hcz60_0, hcz60_1, hcz60_2, hcz60_3, hcz60_4⟩ := cz5 BK366.out; obtain ⟨hfz60_0, hfz60_1, hfz60_2, hfz60_3, hfz60_4⟩ := fz5 BK366.out) | (go_at_call 100; (with_reducible refine (r4_term.calls k a0_1 a0_2 a0_3 a0_4 t370 _ A55.out).mono ?_); rintro e w61 ⟨rfl, hb⟩; have n0_ := Aside0.mk (xam (g := gb366) (o := .cells #[.int .i8 a0_0, .string a0_1, .int .i8 a0_2, .int .i64 a0_3, .string a0_4] 125 (0, 0)) (by (with_reducible repeat (first | refine xag ?_ _ | refine xai ?_ | refine xaf ?_ _)); refine xax ?_ NB366_367.out _; (with_reducible repeat (first | refine xag ?_ _ | refine xai ?_ | refine xaf ?_ _)); refine xax ?_ NB366_367.out _; (with_reducible repeat (first | refine xag ?_ _ | refine xai ?_ | refine xaf ?_ _)); refine xax ?_ NB366_367.out _; (with_reducible repeat (first | refine xag ?_ _ | refine xai ?_ | refine xaf ?_ _)); refine xax ?_ NB366_367.out _; (with_reducible repeat (first | refine xag ?_ _ | refine xai ?_ | refine xaf ?_ _)); exact BK366.out) hb); have n1_ := Aside0.mk (xam (g := gb367) (o := .cells #[.string (⟨#[]⟩ : ByteArray), .int .i8 0, .int .i64 0, .string (⟨#[]⟩ : ByteArray)] 28 (0, 0)) (by (with_reducible repeat (first | refine xag ?_ _ | refine xai ?_ | refine xaf ?_ _)); refine xas (cs := #[.string (⟨#[]⟩ : ByteArray), .int .i8 0, .int .i64 0, .string (⟨#[]⟩ : ByteArray)]) ?_ 3 _ rfl; (with_reducible repeat (first | refine xag ?_ _ | refine xai ?_ | refine xaf ?_ _)); refine xas (cs := #[.string (⟨#[]⟩ : ByteArray), .int .i8 0, .int .i64 0, .string (⟨#[]⟩ : ByteArray)]) ?_ 2 _ rfl; (with_reducible repeat (first | refine xag ?_ _ | refine xai ?_ | refine xaf ?_ _)); refine xas (cs := #[.string (⟨#[]⟩ : ByteArray), .int .i8 0, .int .i64 0, .string (⟨#[]⟩ : ByteArray)]) ?_ 1 _ rfl; (with_reducible repeat (first | refine xag ?_ _ | refine xai ?_ | refine xaf ?_ _)); refine xas (cs := #[.string (⟨#[]⟩ : ByteArray), .int .i8 0, .int .i64 0, .string (⟨#[]⟩ : ByteArray)]) ?_ 0 _ rfl; (with_reducible repeat (first | refine xag ?_ _ | refine xai ?_ | refine xaf ?_ _)); exact BK367.out) hb); have n2_ := Aside0.mk (xah (by repeat (first | (with_reducible first | exact HB.out | apply xab | apply xaa | apply xac | refine xad ?_ GE366.out | refine xad ?_ GE367.out) | exact HB.out)) hb); clear BK366; clear BK367; clear HB; have BK366 := n0_; have BK367 := n1_; have HB := n2_; clear n0_ n1_ n2_; (try clear hb); (try clear hb2); (try clear hk); (try clear hi)))
       go_ret
       exact ⟨by first | rfl | (simp [xak, xaj] <;> rfl) | (simp [*, xak, xaj] <;> rfl), by repeat (first | (with_reducible first | exact HB.out | apply xab | apply xaa | apply xac | refine xad ?_ GE366.out | refine xad ?_ GE367.out) | exact HB.out)⟩
    ·rw [if_neg c42] at H
     have c42b0 : (a0_0 == 3) = false := beq_eq_false_iff_ne.mpr c42
     have c42b1 : (a0_0 != 3) = true := bne_iff_ne.mpr c42
     by_cases c62 : a0_0 = 4
     ·rw [if_pos c62] at H
      have c62b0 : (a0_0 == 4) = true := beq_iff_eq.mpr c62
      have c62b1 : (a0_0 != 4) = false := bne_eq_false_iff_eq.mpr c62
      clear c62
      by_cases c63 : a0_1.toList = ([] : List UInt8)
      ·rw [if_pos c63] at H
       have c63b0 : (a0_1.toList == ([] : List UInt8)) = true := beq_iff_eq.mpr c63
       have c63b1 : (a0_1.toList != ([] : List UInt8)) = false := bne_eq_false_iff_eq.mpr c63
       clear c63
       obtain rfl := Option.some.inj H
       go_enter Tryd.func116, Tryd.ntmps116
       go_wp2_with (first | ((with_reducible refine xar (N := 1) rfl ?_); refine xap ?hg (N := 1) ?hd (cs := #[.int .i8 a0_0, .string a0_1, .int .i8 a0_2, .int .i64 a0_3, .string a0_4]) (t := 125) ?hr ?_; (case hd => rfl); (case hg => rfl); (case hr => first | (go_simp; done) | (go_simp; rfl)); intro gb366 hg w64 hbox hb; have n0_ := Aside0.mk (xah (by repeat (first | (with_reducible first | exact HB.out | apply xab | apply xaa | apply xac) | exact HB.out)) hb); have n1_ := Aside0.mk (hbox); have n2_ := Aside0.mk ((by rw [hg]; exact (xao (by repeat (first | (with_reducible first | exact HB.out | apply xab | apply xaa | apply xac) | exact HB.out))) : w.heap.size ≤ gb366)); have n3_ := n2_; clear HB; have HB := n0_; have BK366 := n1_; have GW366 := n2_; have GE366 := n3_; clear n0_ n1_ n2_ n3_; clear hb hbox hg) | ((with_reducible refine xar (N := 3) rfl ?_); refine xap ?hg (N := 3) ?hd (cs := #[.string (⟨#[]⟩ : ByteArray), .int .i8 0, .int .i64 0, .string (⟨#[]⟩ : ByteArray)]) (t := 28) ?hr ?_; (case hd => rfl); (case hg => rfl); (case hr => first | (go_simp; done) | (go_simp; rfl)); intro gb367 hg w65 hbox hb; have n0_ := Aside0.mk (xam (g := gb366) (o := .cells #[.int .i8 a0_0, .string a0_1, .int .i8 a0_2, .int .i64 a0_3, .string a0_4] 125 (0, 0)) (by (with_reducible repeat (first | refine xag ?_ _ | refine xai ?_ | refine xaf ?_ _)); exact BK366.out) hb); have n1_ := Aside0.mk (xah (by repeat (first | (with_reducible first | exact HB.out | apply xab | apply xaa | apply xac | refine xad ?_ GE366.out) | exact HB.out)) hb); have n2_ := Aside0.mk (hbox); have n3_ := Aside0.mk ((by rw [hg]; exact (xao (by repeat (first | (with_reducible first | exact HB.out | apply xab | apply xaa | apply xac | refine xad ?_ GE366.out) | exact HB.out))) : w.heap.size ≤ gb367)); have n4_ := n3_; have n5_ := Aside0.mk ((by rw [hg]; exact Nat.ne_of_lt (blk_lt (g := gb366) (o := .cells #[.int .i8 a0_0, .string a0_1, .int .i8 a0_2, .int .i64 a0_3, .string a0_4] 125 (0, 0)) (by (with_reducible repeat (first | refine xag ?_ _ | refine xai ?_ | refine xaf ?_ _)); exact BK366.out)) : gb366 ≠ gb367)); have n6_ := Aside0.mk ((by rw [hg]; exact Nat.ne_of_gt (blk_lt (g := gb366) (o := .cells #[.int .i8 a0_0, .string a0_1, .int .i8 a0_2, .int .i64 a0_3, .string a0_4] 125 (0, 0)) (by (with_reducible repeat (first | refine xag ?_ _ | refine xai ?_ | refine xaf ?_ _)); exact BK366.out)) : gb367 ≠ gb366)); clear BK366; clear HB; have BK366 := n0_; have HB := n1_; have BK367 := n2_; have GW367 := n3_; have GE367 := n4_; have NB366_367 := n5_; have NB367_366 := n6_; clear n0_ n1_ n2_ n3_ n4_ n5_ n6_; clear hb hbox hg; have hnb66 := NB367_366.out; have hnc66 := NB366_367.out; obtain ⟨hcz67_0, hcz67_1, hcz67_2, hcz67_3⟩ := cz4 BK367.out; obtain ⟨hfz67_0, hfz67_1, hfz67_2, hfz67_3⟩ := fz4 BK367.out; obtain ⟨hcz68_0, hcz68_1, hcz68_2, hcz68_3, hcz68_4⟩ := cz5 BK366.out; obtain ⟨hfz68_0, hfz68_1, hfz68_2, hfz68_3, hfz68_4⟩ := fz5 BK366.out))
       go_ret
       exact ⟨by first | rfl | (simp [xak, xaj] <;> rfl) | (simp [*, xak, xaj] <;> rfl), by repeat (first | (with_reducible first | exact HB.out | apply xab | apply xaa | apply xac | refine xad ?_ GE366.out | refine xad ?_ GE367.out) | exact HB.out)⟩
      ·rw [if_neg c63] at H
       have c63b0 : (a0_1.toList == ([] : List UInt8)) = false := beq_eq_false_iff_ne.mpr c63
       have c63b1 : (a0_1.toList != ([] : List UInt8)) = true := bne_iff_ne.mpr c63
       by_cases c69 : a0_1.toList = ([95] : List UInt8)
       ·rw [if_pos c69] at H
        have c69b0 : (a0_1.toList == ([95] : List UInt8)) = true := beq_iff_eq.mpr c69
        have c69b1 : (a0_1.toList != ([95] : List UInt8)) = false := bne_eq_false_iff_eq.mpr c69
        clear c69
        obtain rfl := Option.some.inj H
        go_enter Tryd.func116, Tryd.ntmps116
        go_wp2_with (first | ((with_reducible refine xar (N := 1) rfl ?_); refine xap ?hg (N := 1) ?hd (cs := #[.int .i8 a0_0, .string a0_1, .int .i8 a0_2, .int .i64 a0_3, .string a0_4]) (t := 125) ?hr ?_; (case hd => rfl); (case hg => rfl); (case hr => first | (go_simp; done) | (go_simp; rfl)); intro gb366 hg w70 hbox hb; have n0_ := Aside0.mk (xah (by repeat (first | (with_reducible first | exact HB.out | apply xab | apply xaa | apply xac) | exact HB.out)) hb); have n1_ := Aside0.mk (hbox); have n2_ := Aside0.mk ((by rw [hg]; exact (xao (by repeat (first | (with_reducible first | exact HB.out | apply xab | apply xaa | apply xac) | exact HB.out))) : w.heap.size ≤ gb366)); have n3_ := n2_; clear HB; have HB := n0_; have BK366 := n1_; have GW366 := n2_; have GE366 := n3_; clear n0_ n1_ n2_ n3_; clear hb hbox hg) | ((with_reducible refine xar (N := 3) rfl ?_); refine xap ?hg (N := 3) ?hd (cs := #[.string (⟨#[]⟩ : ByteArray), .int .i8 0, .int .i64 0, .string (⟨#[]⟩ : ByteArray)]) (t := 28) ?hr ?_; (case hd => rfl); (case hg => rfl); (case hr => first | (go_simp; done) | (go_simp; rfl)); intro gb367 hg w71 hbox hb; have n0_ := Aside0.mk (xam (g := gb366) (o := .cells #[.int .i8 a0_0, .string a0_1, .int .i8 a0_2, .int .i64 a0_3, .string a0_4] 125 (0, 0)) (by (with_reducible repeat (first | refine xag ?_ _ | refine xai ?_ | refine xaf ?_ _)); exact BK366.out) hb); have n1_ := Aside0.mk (xah (by repeat (first | (with_reducible first | exact HB.out | apply xab | apply xaa | apply xac | refine xad ?_ GE366.out) | exact HB.out)) hb); have n2_ := Aside0.mk (hbox); have n3_ := Aside0.mk ((by rw [hg]; exact (xao (by repeat (first | (with_reducible first | exact HB.out | apply xab | apply xaa | apply xac | refine xad ?_ GE366.out) | exact HB.out))) : w.heap.size ≤ gb367)); have n4_ := n3_; have n5_ := Aside0.mk ((by rw [hg]; exact Nat.ne_of_lt (blk_lt (g := gb366) (o := .cells #[.int .i8 a0_0, .string a0_1, .int .i8 a0_2, .int .i64 a0_3, .string a0_4] 125 (0, 0)) (by (with_reducible repeat (first | refine xag ?_ _ | refine xai ?_ | refine xaf ?_ _)); exact BK366.out)) : gb366 ≠ gb367)); have n6_ := Aside0.mk ((by rw [hg]; exact Nat.ne_of_gt (blk_lt (g := gb366) (o := .cells #[.int .i8 a0_0, .string a0_1, .int .i8 a0_2, .int .i64 a0_3, .string a0_4] 125 (0, 0)) (by (with_reducible repeat (first | refine xag ?_ _ | refine xai ?_ | refine xaf ?_ _)); exact BK366.out)) : gb367 ≠ gb366)); clear BK366; clear HB; have BK366 := n0_; have HB := n1_; have BK367 := n2_; have GW367 := n3_; have GE367 := n4_; have NB366_367 := n5_; have NB367_366 := n6_; clear n0_ n1_ n2_ n3_ n4_ n5_ n6_; clear hb hbox hg; have hnb72 := NB367_366.out; have hnc72 := NB366_367.out; obtain ⟨hcz73_0, hcz73_1, hcz73_2, hcz73_3⟩ := cz4 BK367.out; obtain ⟨hfz73_0, hfz73_1, hfz73_2, hfz73_3⟩ := fz4 BK367.out; obtain ⟨hcz74_0, hcz74_1, hcz74_2, hcz74_3, hcz74_4⟩ := cz5 BK366.out; obtain ⟨hfz74_0, hfz74_1, hfz74_2, hfz74_3, hfz74_4⟩ := fz5 BK366.out))
        go_ret
        exact ⟨by first | rfl | (simp [xak, xaj] <;> rfl) | (simp [*, xak, xaj] <;> rfl), by repeat (first | (with_reducible first | exact HB.out | apply xab | apply xaa | apply xac | refine xad ?_ GE366.out | refine xad ?_ GE367.out) | exact HB.out)⟩
       ·rw [if_neg c69] at H
        have c69b0 : (a0_1.toList == ([95] : List UInt8)) = false := beq_eq_false_iff_ne.mpr c69
        have c69b1 : (a0_1.toList != ([95] : List UInt8)) = true := bne_iff_ne.mpr c69
        replace H := Option.bind_eq_some_iff.mp H
        obtain ⟨t371, A750, H⟩ := H
        replace H : (some t371) = some r := H
        have A75 := Aside0.mk A750
        clear A750
        obtain rfl := Option.some.inj H
        go_enter Tryd.func116, Tryd.ntmps116
        go_wp2_with (first | ((with_reducible refine xar (N := 1) rfl ?_); refine xap ?hg (N := 1) ?hd (cs := #[.int .i8 a0_0, .string a0_1, .int .i8 a0_2, .int .i64 a0_3, .string a0_4]) (t := 125) ?hr ?_; (case hd => rfl); (case hg => rfl); (case hr => first | (go_simp; done) | (go_simp; rfl)); intro gb366 hg w76 hbox hb; have n0_ := Aside0.mk (xah (by repeat (first | (with_reducible first | exact HB.out | apply xab | apply xaa | apply xac) | exact HB.out)) hb); have n1_ := Aside0.mk (hbox); have n2_ := Aside0.mk ((by rw [hg]; exact (xao (by repeat (first | (with_reducible first | exact HB.out | apply xab | apply xaa | apply xac) | exact HB.out))) : w.heap.size ≤ gb366)); have n3_ := n2_; clear HB; have HB := n0_; have BK366 := n1_; have GW366 := n2_; have GE366 := n3_; clear n0_ n1_ n2_ n3_; clear hb hbox hg) | ((with_reducible refine xar (N := 3) rfl ?_); refine xap ?hg (N := 3) ?hd (cs := #[.string (⟨#[]⟩ : ByteArray), .int .i8 0, .int .i64 0, .string (⟨#[]⟩ : ByteArray)]) (t := 28) ?hr ?_; (case hd => rfl); (case hg => rfl); (case hr => first | (go_simp; done) | (go_simp; rfl)); intro gb367 hg w77 hbox hb; have n0_ := Aside0.mk (xam (g := gb366) (o := .cells #[.int .i8 a0_0, .string a0_1, .int .i8 a0_2, .int .i64 a0_3, .string a0_4] 125 (0, 0)) (by (with_reducible repeat (first | refine xag ?_ _ | refine xai ?_ | refine xaf ?_ _)); exact BK366.out) hb); have n1_ := Aside0.mk (xah (by repeat (first | (with_reducible first | exact HB.out | apply xab | apply xaa | apply xac | refine xad ?_ GE366.out) | exact HB.out)) hb); have n2_ := Aside0.mk (hbox); have n3_ := Aside0.mk ((by rw [hg]; exact (xao (by repeat (first | (with_reducible first | exact HB.out | apply xab | apply xaa | apply xac | refine xad ?_ GE366.out) | exact HB.out))) : w.heap.size ≤ gb367)); have n4_ := n3_; have n5_ := Aside0.mk ((by rw [hg]; exact Nat.ne_of_lt (blk_lt (g := gb366) (o := .cells #[.int .i8 a0_0, .string a0_1, .int .i8 a0_2, .int .i64 a0_3, .string a0_4] 125 (0, 0)) (by (with_reducible repeat (first | refine xag ?_ _ | refine xai ?_ | refine xaf ?_ _)); exact BK366.out)) : gb366 ≠ gb367)); have n6_ := Aside0.mk ((by rw [hg]; exact Nat.ne_of_gt (blk_lt (g := gb366) (o := .cells #[.int .i8 a0_0, .string a0_1, .int .i8 a0_2, .int .i64 a0_3, .string a0_4] 125 (0, 0)) (by (with_reducible repeat (first | refine xag ?_ _ | refine xai ?_ | refine xaf ?_ _)); exact BK366.out)) : gb367 ≠ gb366)); clear BK366; clear HB; have BK366 := n0_; have HB := n1_; have BK367 := n2_; have GW367 := n3_; have GE367 := n4_; have NB366_367 := n5_; have NB367_366 := n6_; clear n0_ n1_ n2_ n3_ n4_ n5_ n6_; clear hb hbox hg; have hnb78 := NB367_366.out; have hnc78 := NB366_367.out; obtain ⟨hcz79_0, hcz79_1, hcz79_2, hcz79_3⟩ := cz4 BK367.out; obtain ⟨hfz79_0, hfz79_1, hfz79_2, hfz79_3⟩ := fz4 BK367.out; obtain ⟨hcz80_0, hcz80_1, hcz80_2, hcz80_3, hcz80_4⟩ := cz5 BK366.out; obtain ⟨hfz80_0, hfz80_1, hfz80_2, hfz80_3, hfz80_4⟩ := fz5 BK366.out) | (go_at_call 100; (with_reducible refine (r4_term.calls k a0_1 a0_2 a0_3 a0_4 t371 _ A75.out).mono ?_); rintro e w81 ⟨rfl, hb⟩; have n0_ := Aside0.mk (xam (g := gb366) (o := .cells #[.int .i8 a0_0, .string a0_1, .int .i8 a0_2, .int .i64 a0_3, .string a0_4] 125 (0, 0)) (by (with_reducible repeat (first | refine xag ?_ _ | refine xai ?_ | refine xaf ?_ _)); refine xax ?_ NB366_367.out _; (with_reducible repeat (first | refine xag ?_ _ | refine xai ?_ | refine xaf ?_ _)); refine xax ?_ NB366_367.out _; (with_reducible repeat (first | refine xag ?_ _ | refine xai ?_ | refine xaf ?_ _)); refine xax ?_ NB366_367.out _; (with_reducible repeat (first | refine xag ?_ _ | refine xai ?_ | refine xaf ?_ _)); refine xax ?_ NB366_367.out _; (with_reducible repeat (first | refine xag ?_ _ | refine xai ?_ | refine xaf ?_ _)); exact BK366.out) hb); have n1_ := Aside0.mk (xam (g := gb367) (o := .cells #[.string (⟨#[]⟩ : ByteArray), .int .i8 0, .int .i64 0, .string (⟨#[]⟩ : ByteArray)] 28 (0, 0)) (by (with_reducible repeat (first | refine xag ?_ _ | refine xai ?_ | refine xaf ?_ _)); refine xas (cs := #[.string (⟨#[]⟩ : ByteArray), .int .i8 0, .int .i64 0, .string (⟨#[]⟩ : ByteArray)]) ?_ 3 _ rfl; (with_reducible repeat (first | refine xag ?_ _ | refine xai ?_ | refine xaf ?_ _)); refine xas (cs := #[.string (⟨#[]⟩ : ByteArray), .int .i8 0, .int .i64 0, .string (⟨#[]⟩ : ByteArray)]) ?_ 2 _ rfl; (with_reducible repeat (first | refine xag ?_ _ | refine xai ?_ | refine xaf ?_ _)); refine xas (cs := #[.string (⟨#[]⟩ : ByteArray), .int .i8 0, .int .i64 0, .string (⟨#[]⟩ : ByteArray)]) ?_ 1 _ rfl; (with_reducible repeat (first | refine xag ?_ _ | refine xai ?_ | refine xaf ?_ _)); refine xas (cs := #[.string (⟨#[]⟩ : ByteArray), .int .i8 0, .int .i64 0, .string (⟨#[]⟩ : ByteArray)]) ?_ 0 _ rfl; (with_reducible repeat (first | refine xag ?_ _ | refine xai ?_ | refine xaf ?_ _)); exact BK367.out) hb); have n2_ := Aside0.mk (xah (by repeat (first | (with_reducible first | exact HB.out | apply xab | apply xaa | apply xac | refine xad ?_ GE366.out | refine xad ?_ GE367.out) | exact HB.out)) hb); clear BK366; clear BK367; clear HB; have BK366 := n0_; have BK367 := n1_; have HB := n2_; clear n0_ n1_ n2_; (try clear hb); (try clear hb2); (try clear hk); (try clear hi)))
        go_ret
        exact ⟨by first | rfl | (simp [xak, xaj] <;> rfl) | (simp [*, xak, xaj] <;> rfl), by repeat (first | (with_reducible first | exact HB.out | apply xab | apply xaa | apply xac | refine xad ?_ GE366.out | refine xad ?_ GE367.out) | exact HB.out)⟩
     ·rw [if_neg c62] at H
      have c62b0 : (a0_0 == 4) = false := beq_eq_false_iff_ne.mpr c62
      have c62b1 : (a0_0 != 4) = true := bne_iff_ne.mpr c62
      obtain rfl := Option.some.inj H
      go_enter Tryd.func116, Tryd.ntmps116
      go_wp2_with (first | ((with_reducible refine xar (N := 1) rfl ?_); refine xap ?hg (N := 1) ?hd (cs := #[.int .i8 a0_0, .string a0_1, .int .i8 a0_2, .int .i64 a0_3, .string a0_4]) (t := 125) ?hr ?_; (case hd => rfl); (case hg => rfl); (case hr => first | (go_simp; done) | (go_simp; rfl)); intro gb366 hg w82 hbox hb; have n0_ := Aside0.mk (xah (by repeat (first | (with_reducible first | exact HB.out | apply xab | apply xaa | apply xac) | exact HB.out)) hb); have n1_ := Aside0.mk (hbox); have n2_ := Aside0.mk ((by rw [hg]; exact (xao (by repeat (first | (with_reducible first | exact HB.out | apply xab | apply xaa | apply xac) | exact HB.out))) : w.heap.size ≤ gb366)); have n3_ := n2_; clear HB; have HB := n0_; have BK366 := n1_; have GW366 := n2_; have GE366 := n3_; clear n0_ n1_ n2_ n3_; clear hb hbox hg) | ((with_reducible refine xar (N := 3) rfl ?_); refine xap ?hg (N := 3) ?hd (cs := #[.string (⟨#[]⟩ : ByteArray), .int .i8 0, .int .i64 0, .string (⟨#[]⟩ : ByteArray)]) (t := 28) ?hr ?_; (case hd => rfl); (case hg => rfl); (case hr => first | (go_simp; done) | (go_simp; rfl)); intro gb367 hg w83 hbox hb; have n0_ := Aside0.mk (xam (g := gb366) (o := .cells #[.int .i8 a0_0, .string a0_1, .int .i8 a0_2, .int .i64 a0_3, .string a0_4] 125 (0, 0)) (by (with_reducible repeat (first | refine xag ?_ _ | refine xai ?_ | refine xaf ?_ _)); exact BK366.out) hb); have n1_ := Aside0.mk (xah (by repeat (first | (with_reducible first | exact HB.out | apply xab | apply xaa | apply xac | refine xad ?_ GE366.out) | exact HB.out)) hb); have n2_ := Aside0.mk (hbox); have n3_ := Aside0.mk ((by rw [hg]; exact (xao (by repeat (first | (with_reducible first | exact HB.out | apply xab | apply xaa | apply xac | refine xad ?_ GE366.out) | exact HB.out))) : w.heap.size ≤ gb367)); have n4_ := n3_; have n5_ := Aside0.mk ((by rw [hg]; exact Nat.ne_of_lt (blk_lt (g := gb366) (o := .cells #[.int .i8 a0_0, .string a0_1, .int .i8 a0_2, .int .i64 a0_3, .string a0_4] 125 (0, 0)) (by (with_reducible repeat (first | refine xag ?_ _ | refine xai ?_ | refine xaf ?_ _)); exact BK366.out)) : gb366 ≠ gb367)); have n6_ := Aside0.mk ((by rw [hg]; exact Nat.ne_of_gt (blk_lt (g := gb366) (o := .cells #[.int .i8 a0_0, .string a0_1, .int .i8 a0_2, .int .i64 a0_3, .string a0_4] 125 (0, 0)) (by (with_reducible repeat (first | refine xag ?_ _ | refine xai ?_ | refine xaf ?_ _)); exact BK366.out)) : gb367 ≠ gb366)); clear BK366; clear HB; have BK366 := n0_; have HB := n1_; have BK367 := n2_; have GW367 := n3_; have GE367 := n4_; have NB366_367 := n5_; have NB367_366 := n6_; clear n0_ n1_ n2_ n3_ n4_ n5_ n6_; clear hb hbox hg; have hnb84 := NB367_366.out; have hnc84 := NB366_367.out; obtain ⟨hcz85_0, hcz85_1, hcz85_2, hcz85_3⟩ := cz4 BK367.out; obtain ⟨hfz85_0, hfz85_1, hfz85_2, hfz85_3⟩ := fz4 BK367.out; obtain ⟨hcz86_0, hcz86_1, hcz86_2, hcz86_3, hcz86_4⟩ := cz5 BK366.out; obtain ⟨hfz86_0, hfz86_1, hfz86_2, hfz86_3, hfz86_4⟩ := fz5 BK366.out))
      go_ret
      exact ⟨by first | rfl | (simp [xak, xaj] <;> rfl) | (simp [*, xak, xaj] <;> rfl), by repeat (first | (with_reducible first | exact HB.out | apply xab | apply xaa | apply xac | refine xad ?_ GE366.out | refine xad ?_ GE367.out) | exact HB.out)⟩
end Go.Proofs.YtllcmggmcogokaaDoor.PAll
end
section
namespace Go.Proofs.YtllcmggmcogokaaDoor.PAll
open Go.RowKit Go.Proofs.YtllcmggmcogokaaDoorW.PrintWords Go.Proofs.YtllcmggmcogokaaDoorW.PrintLast Go.Proofs.YtllcmggmcogokaaDoorW.PrintMore
attribute [local go_sem] max2_int min2_int max_two min_two max_three min_three max_four min_four
mutual
def r4_rule.j0 : Nat → Bool → ByteArray → List (S125) → List (S56) → Option (Bool)
 | 0, _, _, _, _ => none
 | k + 1, x20, x373000, x373001, x373002 => if x20 = true then (some false) else (r4_rule.l0 k 0 x373000 x373001 x373002)
def r4_rule.l0 : Nat → Int → ByteArray → List (S125) → List (S56) → Option (Bool)
 | 0, _, _, _, _ => none
 | k + 1, x3, x373000, x373001, x373002 => if x3 < (x373001.length : Int) then (if 0 ≤ x3 then ((r4_argument.f k ((xaq x373001 x3).f0) ((xaq x373001 x3).f1.f0) ((xaq x373001 x3).f1.f1.f0) ((xaq x373001 x3).f1.f1.f1) ((xaq x373001 x3).f1.f1.f2)).bind fun t375 => (if t375 = true then (r4_rule.l0 k (wrap64 (x3 + 1)) x373000 x373001 x373002) else (some false))) else (none)) else (r4_rule.l1 k 0 x373000 x373001 x373002)
def r4_rule.l1 : Nat → Int → ByteArray → List (S125) → List (S56) → Option (Bool)
 | 0, _, _, _, _ => none
 | k + 1, x4, x373000, x373001, x373002 => if x4 < (x373002.length : Int) then (if 0 ≤ x4 then ((r4_literal.f k ((rd_T56 x373002 x4).f0) ((rd_T56 x373002 x4).f1.f0) ((rd_T56 x373002 x4).f1.f1) ((rd_T56 x373002 x4).f2) ((rd_T56 x373002 x4).f3.f0) ((rd_T56 x373002 x4).f3.f1.f0) ((rd_T56 x373002 x4).f3.f1.f1.f0) ((rd_T56 x373002 x4).f3.f1.f1.f1) ((rd_T56 x373002 x4).f3.f1.f1.f2) ((rd_T56 x373002 x4).f3.f2) ((rd_T56 x373002 x4).f4.f0) ((rd_T56 x373002 x4).f4.f1.f0) ((rd_T56 x373002 x4).f4.f1.f1.f0) ((rd_T56 x373002 x4).f4.f1.f1.f1) ((rd_T56 x373002 x4).f4.f1.f1.f2) ((rd_T56 x373002 x4).f4.f2)).bind fun t377 => (if t377 = true then (r4_rule.l1 k (wrap64 (x4 + 1)) x373000 x373001 x373002) else (some false))) else (none)) else ((r4_RuleVars.f k x373000 x373001 x373002).bind fun t378 => (some (decide ((t378.length : Int) ≤ 24))))
end
def r4_rule.f (k : Nat) (a0_0 : ByteArray) (l0_1 : List (S125)) (l0_2 : List (S56)) : Option (Bool) := (r1_Name.f k a0_0).bind fun t373 => (if t373 = true then (if (l0_1.length : Int) > 24 then (r4_rule.j0 k true a0_0 l0_1 l0_2) else (r4_rule.j0 k (decide ((l0_2.length : Int) > 16)) a0_0 l0_1 l0_2)) else (r4_rule.j0 k true a0_0 l0_1 l0_2))
set_option maxHeartbeats 8000000 in
set_option maxRecDepth 100000 in
theorem r4_rule.calls (k : Nat) (a0_0 : ByteArray) (A0_1 : Option Addr) (c0_1 : Nat) (l0_1 : List (S125)) (A0_2 : Option Addr) (c0_2 : Nat) (l0_2 : List (S56)) (r : Bool) (w : World) (hr0_1 : Kd.C k125 w A0_1 l0_1.length l0_1) (hc0_1 : l0_1.length ≤ c0_1) (hr0_2 : Kd.C k56 w A0_2 l0_2.length l0_2) (hc0_2 : l0_2.length ≤ c0_2) (h : r4_rule.f k a0_0 l0_1 l0_2 = some r) :
  Calls Tryd.prog 76 #[.agg #[.string a0_0, .slice A0_1 l0_1.length c0_1, .slice A0_2 l0_2.length c0_2]] w fun e w' => e = .returned (.bool r) ∧ Below w.heap.size w w' := by
 have hu67 := Tryd.underlying67
 have hu125 := Tryd.underlying125
 have hu56 := Tryd.underlying56
 have HR0_1 := Aside0.mk hr0_1
 have HC0_1 := Aside0.mk hc0_1
 clear hr0_1 hc0_1
 have HR0_2 := Aside0.mk hr0_2
 have HC0_2 := Aside0.mk hc0_2
 clear hr0_2 hc0_2
 have HB := Aside0.mk (Below.refl w.heap.size w)
 have H : ((r1_Name.f k a0_0).bind fun t373 => (if t373 = true then (if (l0_1.length : Int) > 24 then (r4_rule.j0 k true a0_0 l0_1 l0_2) else (r4_rule.j0 k (decide ((l0_2.length : Int) > 16)) a0_0 l0_1 l0_2)) else (r4_rule.j0 k true a0_0 l0_1 l0_2))) = some r := h
 clear h
 have HC2 := Aside0.mk H
 clear H
 go_enter Tryd.func76, Tryd.ntmps76
 go_upto_region 1 with (first | ((with_reducible refine xar (N := 1) rfl ?_); (try (refine xav (by rfl) ?_; dsimp only)); refine xap ?hg (N := 1) ?hd (cs := #[.string a0_0, .slice A0_1 l0_1.length c0_1, .slice A0_2 l0_2.length c0_2]) (t := 67) ?hr ?_; (case hd => rfl); (case hg => rfl); (case hr => first | (go_simp; done) | (go_simp; rfl)); intro gb372 hg w3 hbox hb; have n0_ := Aside0.mk (xah (by repeat (first | (with_reducible first | exact HB.out | apply xab | apply xaa | apply xac) | exact HB.out)) hb); have n1_ := Aside0.mk (hbox); have n2_ := Aside0.mk ((by rw [hg]; exact (xao (by repeat (first | (with_reducible first | exact HB.out | apply xab | apply xaa | apply xac) | exact HB.out))) : w.heap.size ≤ gb372)); have n3_ := n2_; clear HB; have HB := n0_; have BK372 := n1_; have GW372 := n2_; have GE372 := n3_; clear n0_ n1_ n2_ n3_; clear hb hbox hg))
 (try simp only [Act.put, sI, sZ, sS])
 go_cut [20] (fun v20 wc => ∃ (kq : Nat) (x20_1 : Bool), v20 = .bool x20_1 ∧ Aside0 (r4_rule.j0 kq x20_1 a0_0 l0_1 l0_2 = some r) ∧ Aside0 (kq ≤ k) ∧ Aside0 (wc.heap[gb372]? = some (.cells #[.string a0_0, (.slice A0_1 l0_1.length c0_1), (.slice A0_2 l0_2.length c0_2)] 67 (0, 0))) ∧ Aside0 (Below w.heap.size w wc))
 case first =>
  have H := HC2.out
  clear HC2
  replace H := Option.bind_eq_some_iff.mp H
  obtain ⟨t373, A40, H⟩ := H
  replace H : (if t373 = true then (if (l0_1.length : Int) > 24 then (r4_rule.j0 k true a0_0 l0_1 l0_2) else (r4_rule.j0 k (decide ((l0_2.length : Int) > 16)) a0_0 l0_1 l0_2)) else (r4_rule.j0 k true a0_0 l0_1 l0_2)) = some r := H
  have A4 := Aside0.mk A40
  clear A40
  by_cases c5 : t373 = true
  ·subst c5
   have H1 : (if (l0_1.length : Int) > 24 then (r4_rule.j0 k true a0_0 l0_1 l0_2) else (r4_rule.j0 k (decide ((l0_2.length : Int) > 16)) a0_0 l0_1 l0_2)) = some r := by rw [if_pos rfl] at H; exact H
   clear H
   have H := H1
   clear H1
   by_cases c6 : (l0_1.length : Int) > 24
   ·rw [if_pos c6] at H
    have c6b0 : decide (24 < (l0_1.length : Int)) = true := decide_eq_true c6
    have c6b1 : decide (24 < l0_1.length) = true := decide_eq_true (by omega)
    clear c6
    (first | rw [c6b0] | (simp only [i64_w, i32_w]; rw [c6b0]) | skip)
    have H' := Aside0.mk H
    clear H
    obtain ⟨hcz7_0, hcz7_1, hcz7_2⟩ := cz3 BK372.out
    obtain ⟨hfz7_0, hfz7_1, hfz7_2⟩ := fz3 BK372.out
    go_wp2_with (first | ((with_reducible refine xau (f := 115) rfl ?_); refine goesL_ (some 7) rfl rfl Tryd.func115 (by kernel_rfl) rfl #[.string a0_0] rfl (by (try simp only [List.map_toArray, List.map_cons, List.map_nil]); first | done | rfl | (simp only [List.length_drop, List.length_take]; rfl)) ?_; (with_reducible refine (r1_Name.calls k a0_0 true _ A4.out).mono ?_); rintro e w' ⟨rfl, ⟨nd, rfl⟩⟩; refine ⟨_, rfl, ?_⟩))
    go_meet
    case rel => exact ⟨_, (true), (by first | rfl | (simp; done) | (simp [*]; done)), H', ⟨by first | omega | exact Nat.le_refl _⟩, ⟨by (with_reducible repeat (first | refine xag ?_ _ | refine xai ?_ | refine xaf ?_ _)); exact BK372.out⟩, ⟨by repeat (first | (with_reducible first | exact HB.out | apply xab | apply xaa | apply xac | refine xad ?_ GE372.out) | exact HB.out)⟩⟩
   ·rw [if_neg c6] at H
    have c6b0 : decide (24 < (l0_1.length : Int)) = false := decide_eq_false c6
    have c6b1 : decide (24 < l0_1.length) = false := decide_eq_false (by omega)
    clear c6
    (first | rw [c6b0] | (simp only [i64_w, i32_w]; rw [c6b0]) | skip)
    have H' := Aside0.mk H
    clear H
    obtain ⟨hcz8_0, hcz8_1, hcz8_2⟩ := cz3 BK372.out
    obtain ⟨hfz8_0, hfz8_1, hfz8_2⟩ := fz3 BK372.out
    go_wp2_with (first | ((with_reducible refine xau (f := 115) rfl ?_); refine goesL_ (some 7) rfl rfl Tryd.func115 (by kernel_rfl) rfl #[.string a0_0] rfl (by (try simp only [List.map_toArray, List.map_cons, List.map_nil]); first | done | rfl | (simp only [List.length_drop, List.length_take]; rfl)) ?_; (with_reducible refine (r1_Name.calls k a0_0 true _ A4.out).mono ?_); rintro e w' ⟨rfl, ⟨nd, rfl⟩⟩; refine ⟨_, rfl, ?_⟩))
    go_meet
    case rel => exact ⟨_, (decide ((l0_2.length : Int) > 16)), (by first | rfl | (simp; done) | (simp [*]; done)), H', ⟨by first | omega | exact Nat.le_refl _⟩, ⟨by (with_reducible repeat (first | refine xag ?_ _ | refine xai ?_ | refine xaf ?_ _)); exact BK372.out⟩, ⟨by repeat (first | (with_reducible first | exact HB.out | apply xab | apply xaa | apply xac | refine xad ?_ GE372.out) | exact HB.out)⟩⟩
  ·replace c5 := Bool.eq_false_iff.mpr c5
   subst c5
   have H1 : (r4_rule.j0 k true a0_0 l0_1 l0_2) = some r := by rw [if_neg (show ¬ (false = true) by decide)] at H; exact H
   clear H
   have H := H1
   clear H1
   have H' := Aside0.mk H
   clear H
   obtain ⟨hcz9_0, hcz9_1, hcz9_2⟩ := cz3 BK372.out
   obtain ⟨hfz9_0, hfz9_1, hfz9_2⟩ := fz3 BK372.out
   go_wp2_with (first | ((with_reducible refine xau (f := 115) rfl ?_); refine goesL_ (some 7) rfl rfl Tryd.func115 (by kernel_rfl) rfl #[.string a0_0] rfl (by (try simp only [List.map_toArray, List.map_cons, List.map_nil]); first | done | rfl | (simp only [List.length_drop, List.length_take]; rfl)) ?_; (with_reducible refine (r1_Name.calls k a0_0 false _ A4.out).mono ?_); rintro e w' ⟨rfl, ⟨nd, rfl⟩⟩; refine ⟨_, rfl, ?_⟩))
   go_meet
   case rel => exact ⟨_, (true), (by first | rfl | (simp; done) | (simp [*]; done)), H', ⟨by first | omega | exact Nat.le_refl _⟩, ⟨by (with_reducible repeat (first | refine xag ?_ _ | refine xai ?_ | refine xaf ?_ _)); exact BK372.out⟩, ⟨by repeat (first | (with_reducible first | exact HB.out | apply xab | apply xaa | apply xac | refine xad ?_ GE372.out) | exact HB.out)⟩⟩
 case rest =>
  clear HC2
  try clear c1
  try clear p2
  try clear c5
  try clear c6
  try clear c6b0
  try clear c6b1
  try clear c7
  try clear hcz7_0
  try clear hcz7_1
  try clear hcz7_2
  try clear hcz8_0
  try clear hcz8_1
  try clear hcz8_2
  try clear hcz9_0
  try clear hcz9_1
  try clear hcz9_2
  try clear hfz7_0
  try clear hfz7_1
  try clear hfz7_2
  try clear hfz8_0
  try clear hfz8_1
  try clear hfz8_2
  try clear hfz9_0
  try clear hfz9_1
  try clear hfz9_2
  obtain ⟨kq, x20_1, rfl, HA, HJ1, BK372, HB⟩ := hcut
  cases kq with
  | zero => exact absurd HA.out (by simp [r4_rule.j0])
  | succ kj1 =>
   have H := HA.out
   clear HA
   simp only [r4_rule.j0] at H
   by_cases c10 : x20_1 = true
   ·subst c10
    have H1 : (some false) = some r := by rw [if_pos rfl] at H; exact H
    clear H
    have H := H1
    clear H1
    obtain rfl := Option.some.inj H
    go_wp2
    go_ret
    exact ⟨by first | rfl | (simp [xak, xaj] <;> rfl) | (simp [*, xak, xaj] <;> rfl), by repeat (first | (with_reducible first | exact HB.out | apply xab | apply xaa | apply xac | refine xad ?_ GE372.out) | exact HB.out)⟩
   ·replace c10 := Bool.eq_false_iff.mpr c10
    subst c10
    have H1 : (r4_rule.l0 kj1 0 a0_0 l0_1 l0_2) = some r := by rw [if_neg (show ¬ (false = true) by decide)] at H; exact H
    clear H
    have H := H1
    clear H1
    have H' := Aside0.mk H
    clear H
    go_wp2
    go_loopg [3] kj1 (fun kq v3 w' => ∃ (x3_2 : Int), v3 = .int .i64 x3_2 ∧ Aside0 (r4_rule.l0 kq x3_2 a0_0 l0_1 l0_2 = some r) ∧ Aside0 (kq ≤ kj1) ∧ Aside0 (w'.heap[gb372]? = some (.cells #[.string a0_0, (.slice A0_1 l0_1.length c0_1), (.slice A0_2 l0_2.length c0_2)] 67 (0, 0))) ∧ Aside0 (Below w.heap.size w w'))
    case atStart => exact ⟨(0), (by first | rfl | (simp; done) | (simp [*]; done)), H', ⟨Nat.le_refl _⟩, ⟨by (with_reducible repeat (first | refine xag ?_ _ | refine xai ?_ | refine xaf ?_ _)); exact BK372.out⟩, ⟨by repeat (first | (with_reducible first | exact HB.out | apply xab | apply xaa | apply xac | refine xad ?_ GE372.out) | exact HB.out)⟩⟩
    case round =>
     clear H'
     try clear c1
     try clear p2
     try clear c5
     try clear c6
     try clear c6b0
     try clear c6b1
     try clear c7
     try clear c10
     try clear hcz7_0
     try clear hcz7_1
     try clear hcz7_2
     try clear hcz8_0
     try clear hcz8_1
     try clear hcz8_2
     try clear hcz9_0
     try clear hcz9_1
     try clear hcz9_2
     try clear hfz7_0
     try clear hfz7_1
     try clear hfz7_2
     try clear hfz8_0
     try clear hfz8_1
     try clear hfz8_2
     try clear hfz9_0
     try clear hfz9_1
     try clear hfz9_2
     try clear p2
     obtain ⟨x3_2, rfl, HA, HK2, BK372, HB⟩ := hrel
     cases gk with
     | zero => exact absurd HA.out (by simp [r4_rule.l0])
     | succ k2 =>
      have H := HA.out
      clear HA
      simp only [r4_rule.l0] at H
      by_cases c11 : x3_2 < (l0_1.length : Int)
      ·rw [if_pos c11] at H
       have c11b0 : decide (x3_2 < (l0_1.length : Int)) = true := decide_eq_true c11
       clear c11
       by_cases c12 : 0 ≤ x3_2
       ·rw [if_pos c12] at H
        have c12b0 : decide (0 ≤ x3_2) = true := decide_eq_true c12
        clear c12
        replace H := Option.bind_eq_some_iff.mp H
        obtain ⟨t375, A130, H⟩ := H
        replace H : (if t375 = true then (r4_rule.l0 k2 (wrap64 (x3_2 + 1)) a0_0 l0_1 l0_2) else (some false)) = some r := H
        have A13 := Aside0.mk A130
        clear A130
        by_cases c14 : t375 = true
        ·subst c14
         have H1 : (r4_rule.l0 k2 (wrap64 (x3_2 + 1)) a0_0 l0_1 l0_2) = some r := by rw [if_pos rfl] at H; exact H
         clear H
         have H := H1
         clear H1
         have H' := Aside0.mk H
         clear H
         obtain ⟨hcz15_0, hcz15_1, hcz15_2⟩ := cz3 BK372.out
         obtain ⟨hfz15_0, hfz15_1, hfz15_2⟩ := fz3 BK372.out
         have p374 : 0 ≤ (x3_2 : Int) := of_decide_eq_true (by first | (with_reducible assumption) | assumption)
         have q374 : x3_2 < (l0_1.length : Int) := of_decide_eq_true (by first | (with_reducible assumption) | assumption)
         obtain ⟨ad374, e374, hx374_0, hx374_1, hx374_2, hx374_3, hx374_4⟩ := xbp HR0_1.out x3_2 p374 q374
         cases e374
         replace hx374_0 := (HB.out.cell (World.block_lt_of_cell? w _ hx374_0)).trans hx374_0
         replace hx374_1 := (HB.out.cell (World.block_lt_of_cell? w _ hx374_1)).trans hx374_1
         replace hx374_2 := (HB.out.cell (World.block_lt_of_cell? w _ hx374_2)).trans hx374_2
         replace hx374_3 := (HB.out.cell (World.block_lt_of_cell? w _ hx374_3)).trans hx374_3
         replace hx374_4 := (HB.out.cell (World.block_lt_of_cell? w _ hx374_4)).trans hx374_4
         replace p374 := eq_true p374
         replace q374 := eq_true q374
         go_wp2_with (first | ((with_reducible refine xau (f := 116) rfl ?_); refine goesL_ (some 33) rfl rfl Tryd.func116 (by kernel_rfl) rfl #[.agg #[.int .i8 ((xaq l0_1 x3_2).f0), .string ((xaq l0_1 x3_2).f1.f0), .int .i8 ((xaq l0_1 x3_2).f1.f1.f0), .int .i64 ((xaq l0_1 x3_2).f1.f1.f1), .string ((xaq l0_1 x3_2).f1.f1.f2)]] rfl (by (try simp only [List.map_toArray, List.map_cons, List.map_nil]); first | done | rfl | (simp only [List.length_drop, List.length_take]; rfl)) ?_; (with_reducible refine (r4_argument.calls k2 ((xaq l0_1 x3_2).f0) ((xaq l0_1 x3_2).f1.f0) ((xaq l0_1 x3_2).f1.f1.f0) ((xaq l0_1 x3_2).f1.f1.f1) ((xaq l0_1 x3_2).f1.f1.f2) true _ A13.out).mono ?_); rintro e w16 ⟨rfl, hb⟩; refine ⟨_, rfl, ?_⟩; have n0_ := Aside0.mk (xam (g := gb372) (o := .cells #[.string a0_0, .slice (some ad374) l0_1.length c0_1, .slice A0_2 l0_2.length c0_2] 67 (0, 0)) (by (with_reducible repeat (first | refine xag ?_ _ | refine xai ?_ | refine xaf ?_ _)); exact BK372.out) hb); have n1_ := Aside0.mk (xah (by repeat (first | (with_reducible first | exact HB.out | apply xab | apply xaa | apply xac | refine xad ?_ GE372.out) | exact HB.out)) hb); clear BK372; clear HB; have BK372 := n0_; have HB := n1_; clear n0_ n1_; (try clear hb); (try clear hb2); (try clear hk); (try clear hi)))
         go_roundg k2
         case measure => have := HJ1.out; have := HK2.out; omega
         case rel => exact ⟨(wrap64 (x3_2 + 1)), (by first | rfl | (simp; done) | (simp [*]; done)), H', ⟨by have := HJ1.out; have := HK2.out; omega⟩, ⟨by (with_reducible repeat (first | refine xag ?_ _ | refine xai ?_ | refine xaf ?_ _)); exact BK372.out⟩, ⟨by repeat (first | (with_reducible first | exact HB.out | apply xab | apply xaa | apply xac | refine xad ?_ GE372.out) | exact HB.out)⟩⟩
        ·replace c14 := Bool.eq_false_iff.mpr c14
         subst c14
         have H1 : (some false) = some r := by rw [if_neg (show ¬ (false = true) by decide)] at H; exact H
         clear H
         have H := H1
         clear H1
         obtain rfl := Option.some.inj H
         obtain ⟨hcz17_0, hcz17_1, hcz17_2⟩ := cz3 BK372.out
         obtain ⟨hfz17_0, hfz17_1, hfz17_2⟩ := fz3 BK372.out
         have p374 : 0 ≤ (x3_2 : Int) := of_decide_eq_true (by first | (with_reducible assumption) | assumption)
         have q374 : x3_2 < (l0_1.length : Int) := of_decide_eq_true (by first | (with_reducible assumption) | assumption)
         obtain ⟨ad374, e374, hx374_0, hx374_1, hx374_2, hx374_3, hx374_4⟩ := xbp HR0_1.out x3_2 p374 q374
         cases e374
         replace hx374_0 := (HB.out.cell (World.block_lt_of_cell? w _ hx374_0)).trans hx374_0
         replace hx374_1 := (HB.out.cell (World.block_lt_of_cell? w _ hx374_1)).trans hx374_1
         replace hx374_2 := (HB.out.cell (World.block_lt_of_cell? w _ hx374_2)).trans hx374_2
         replace hx374_3 := (HB.out.cell (World.block_lt_of_cell? w _ hx374_3)).trans hx374_3
         replace hx374_4 := (HB.out.cell (World.block_lt_of_cell? w _ hx374_4)).trans hx374_4
         replace p374 := eq_true p374
         replace q374 := eq_true q374
         go_wp2_with (first | ((with_reducible refine xau (f := 116) rfl ?_); refine goesL_ (some 33) rfl rfl Tryd.func116 (by kernel_rfl) rfl #[.agg #[.int .i8 ((xaq l0_1 x3_2).f0), .string ((xaq l0_1 x3_2).f1.f0), .int .i8 ((xaq l0_1 x3_2).f1.f1.f0), .int .i64 ((xaq l0_1 x3_2).f1.f1.f1), .string ((xaq l0_1 x3_2).f1.f1.f2)]] rfl (by (try simp only [List.map_toArray, List.map_cons, List.map_nil]); first | done | rfl | (simp only [List.length_drop, List.length_take]; rfl)) ?_; (with_reducible refine (r4_argument.calls k2 ((xaq l0_1 x3_2).f0) ((xaq l0_1 x3_2).f1.f0) ((xaq l0_1 x3_2).f1.f1.f0) ((xaq l0_1 x3_2).f1.f1.f1) ((xaq l0_1 x3_2).f1.f1.f2) false _ A13.out).mono ?_); rintro e w18 ⟨rfl, hb⟩; refine ⟨_, rfl, ?_⟩; have n0_ := Aside0.mk (xam (g := gb372) (o := .cells #[.string a0_0, .slice (some ad374) l0_1.length c0_1, .slice A0_2 l0_2.length c0_2] 67 (0, 0)) (by (with_reducible repeat (first | refine xag ?_ _ | refine xai ?_ | refine xaf ?_ _)); exact BK372.out) hb); have n1_ := Aside0.mk (xah (by repeat (first | (with_reducible first | exact HB.out | apply xab | apply xaa | apply xac | refine xad ?_ GE372.out) | exact HB.out)) hb); clear BK372; clear HB; have BK372 := n0_; have HB := n1_; clear n0_ n1_; (try clear hb); (try clear hb2); (try clear hk); (try clear hi)))
         go_ret
         exact ⟨by first | rfl | (simp [xak, xaj] <;> rfl) | (simp [*, xak, xaj] <;> rfl), by repeat (first | (with_reducible first | exact HB.out | apply xab | apply xaa | apply xac | refine xad ?_ GE372.out) | exact HB.out)⟩
       ·rw [if_neg c12] at H
        exact absurd H (by simp)
      ·rw [if_neg c11] at H
       have c11b0 : decide (x3_2 < (l0_1.length : Int)) = false := decide_eq_false c11
       clear c11
       have H' := Aside0.mk H
       clear H
       obtain ⟨hcz19_0, hcz19_1, hcz19_2⟩ := cz3 BK372.out
       obtain ⟨hfz19_0, hfz19_1, hfz19_2⟩ := fz3 BK372.out
       go_wp2
       go_loopg [4] k2 (fun kq v4 w' => ∃ (x4_3 : Int), v4 = .int .i64 x4_3 ∧ Aside0 (r4_rule.l1 kq x4_3 a0_0 l0_1 l0_2 = some r) ∧ Aside0 (kq ≤ k2) ∧ Aside0 (w'.heap[gb372]? = some (.cells #[.string a0_0, (.slice A0_1 l0_1.length c0_1), (.slice A0_2 l0_2.length c0_2)] 67 (0, 0))) ∧ Aside0 (Below w.heap.size w w'))
       case atStart => exact ⟨(0), (by first | rfl | (simp; done) | (simp [*]; done)), H', ⟨Nat.le_refl _⟩, ⟨by (with_reducible repeat (first | refine xag ?_ _ | refine xai ?_ | refine xaf ?_ _)); exact BK372.out⟩, ⟨by repeat (first | (with_reducible first | exact HB.out | apply xab | apply xaa | apply xac | refine xad ?_ GE372.out) | exact HB.out)⟩⟩
       case round =>
        clear H'
        try clear c1
        try clear p2
        try clear p3
        try clear q3
        try clear hx3
        try clear c5
        try clear c6
        try clear c6b0
        try clear c6b1
        try clear p6
        try clear c7
        try clear c10
        try clear c11
        try clear c11b0
        try clear c12
        try clear c12b0
        try clear c14
        try clear hcz15_0
        try clear hcz15_1
        try clear hcz15_2
        try clear hcz17_0
        try clear hcz17_1
        try clear hcz17_2
        try clear hcz19_0
        try clear hcz19_1
        try clear hcz19_2
        try clear hcz7_0
        try clear hcz7_1
        try clear hcz7_2
        try clear hcz8_0
        try clear hcz8_1
        try clear hcz8_2
        try clear hcz9_0
        try clear hcz9_1
        try clear hcz9_2
        try clear hfz15_0
        try clear hfz15_1
        try clear hfz15_2
        try clear hfz17_0
        try clear hfz17_1
        try clear hfz17_2
        try clear hfz19_0
        try clear hfz19_1
        try clear hfz19_2
        try clear hfz7_0
        try clear hfz7_1
        try clear hfz7_2
        try clear hfz8_0
        try clear hfz8_1
        try clear hfz8_2
        try clear hfz9_0
        try clear hfz9_1
        try clear hfz9_2
        try clear hx374_0
        try clear hx374_1
        try clear hx374_2
        try clear hx374_3
        try clear hx374_4
        try clear p2
        try clear p374
        try clear q374
        obtain ⟨x4_3, rfl, HA, HK3, BK372, HB⟩ := hrel
        cases gk with
        | zero => exact absurd HA.out (by simp [r4_rule.l1])
        | succ k3 =>
         have H := HA.out
         clear HA
         simp only [r4_rule.l1] at H
         by_cases c20 : x4_3 < (l0_2.length : Int)
         ·rw [if_pos c20] at H
          have c20b0 : decide (x4_3 < (l0_2.length : Int)) = true := decide_eq_true c20
          clear c20
          by_cases c21 : 0 ≤ x4_3
          ·rw [if_pos c21] at H
           have c21b0 : decide (0 ≤ x4_3) = true := decide_eq_true c21
           clear c21
           replace H := Option.bind_eq_some_iff.mp H
           obtain ⟨t377, A220, H⟩ := H
           replace H : (if t377 = true then (r4_rule.l1 k3 (wrap64 (x4_3 + 1)) a0_0 l0_1 l0_2) else (some false)) = some r := H
           have A22 := Aside0.mk A220
           clear A220
           by_cases c23 : t377 = true
           ·subst c23
            have H1 : (r4_rule.l1 k3 (wrap64 (x4_3 + 1)) a0_0 l0_1 l0_2) = some r := by rw [if_pos rfl] at H; exact H
            clear H
            have H := H1
            clear H1
            have H' := Aside0.mk H
            clear H
            obtain ⟨hcz24_0, hcz24_1, hcz24_2⟩ := cz3 BK372.out
            obtain ⟨hfz24_0, hfz24_1, hfz24_2⟩ := fz3 BK372.out
            have p376 : 0 ≤ (x4_3 : Int) := of_decide_eq_true (by first | (with_reducible assumption) | assumption)
            have q376 : x4_3 < (l0_2.length : Int) := of_decide_eq_true (by first | (with_reducible assumption) | assumption)
            obtain ⟨ad376, A376_2, c376_2, A376_9, c376_9, A376_15, c376_15, e376, hx376_0, hx376_1, hx376_2, hx376_3, hx376_4, hx376_5, hx376_6, hx376_7, hx376_8, hx376_9, hx376_10, hx376_11, hx376_12, hx376_13, hx376_14, hx376_15, hl376_2, hi376_2, hl376_9, hi376_9, hl376_15, hi376_15⟩ := at_T56 HR0_2.out x4_3 p376 q376
            cases e376
            replace hx376_0 := (HB.out.cell (World.block_lt_of_cell? w _ hx376_0)).trans hx376_0
            replace hx376_1 := (HB.out.cell (World.block_lt_of_cell? w _ hx376_1)).trans hx376_1
            replace hx376_2 := (HB.out.cell (World.block_lt_of_cell? w _ hx376_2)).trans hx376_2
            replace hx376_3 := (HB.out.cell (World.block_lt_of_cell? w _ hx376_3)).trans hx376_3
            replace hx376_4 := (HB.out.cell (World.block_lt_of_cell? w _ hx376_4)).trans hx376_4
            replace hx376_5 := (HB.out.cell (World.block_lt_of_cell? w _ hx376_5)).trans hx376_5
            replace hx376_6 := (HB.out.cell (World.block_lt_of_cell? w _ hx376_6)).trans hx376_6
            replace hx376_7 := (HB.out.cell (World.block_lt_of_cell? w _ hx376_7)).trans hx376_7
            replace hx376_8 := (HB.out.cell (World.block_lt_of_cell? w _ hx376_8)).trans hx376_8
            replace hx376_9 := (HB.out.cell (World.block_lt_of_cell? w _ hx376_9)).trans hx376_9
            replace hx376_10 := (HB.out.cell (World.block_lt_of_cell? w _ hx376_10)).trans hx376_10
            replace hx376_11 := (HB.out.cell (World.block_lt_of_cell? w _ hx376_11)).trans hx376_11
            replace hx376_12 := (HB.out.cell (World.block_lt_of_cell? w _ hx376_12)).trans hx376_12
            replace hx376_13 := (HB.out.cell (World.block_lt_of_cell? w _ hx376_13)).trans hx376_13
            replace hx376_14 := (HB.out.cell (World.block_lt_of_cell? w _ hx376_14)).trans hx376_14
            replace hx376_15 := (HB.out.cell (World.block_lt_of_cell? w _ hx376_15)).trans hx376_15
            have HR376_2 := Aside0.mk hi376_2
            have HC376_2 := Aside0.mk hl376_2
            clear hi376_2 hl376_2
            have HR376_9 := Aside0.mk hi376_9
            have HC376_9 := Aside0.mk hl376_9
            clear hi376_9 hl376_9
            have HR376_15 := Aside0.mk hi376_15
            have HC376_15 := Aside0.mk hl376_15
            clear hi376_15 hl376_15
            replace p376 := eq_true p376
            replace q376 := eq_true q376
            go_wp2_with (first | ((with_reducible refine xau (f := 67) rfl ?_); refine goesL_ (some 47) rfl rfl Tryd.func67 (by kernel_rfl) rfl #[.agg #[.int .i8 ((rd_T56 l0_2 x4_3).f0), .string ((rd_T56 l0_2 x4_3).f1.f0), .slice A376_2 ((rd_T56 l0_2 x4_3).f1.f1).length c376_2, .int .i8 ((rd_T56 l0_2 x4_3).f2), .int .i8 ((rd_T56 l0_2 x4_3).f3.f0), .string ((rd_T56 l0_2 x4_3).f3.f1.f0), .int .i8 ((rd_T56 l0_2 x4_3).f3.f1.f1.f0), .int .i64 ((rd_T56 l0_2 x4_3).f3.f1.f1.f1), .string ((rd_T56 l0_2 x4_3).f3.f1.f1.f2), .slice A376_9 ((rd_T56 l0_2 x4_3).f3.f2).length c376_9, .int .i8 ((rd_T56 l0_2 x4_3).f4.f0), .string ((rd_T56 l0_2 x4_3).f4.f1.f0), .int .i8 ((rd_T56 l0_2 x4_3).f4.f1.f1.f0), .int .i64 ((rd_T56 l0_2 x4_3).f4.f1.f1.f1), .string ((rd_T56 l0_2 x4_3).f4.f1.f1.f2), .slice A376_15 ((rd_T56 l0_2 x4_3).f4.f2).length c376_15]] rfl (by (try simp only [List.map_toArray, List.map_cons, List.map_nil]); first | done | rfl | (simp only [List.length_drop, List.length_take]; rfl)) ?_; (with_reducible refine (r4_literal.calls k3 ((rd_T56 l0_2 x4_3).f0) ((rd_T56 l0_2 x4_3).f1.f0) _ _ ((rd_T56 l0_2 x4_3).f1.f1) ((rd_T56 l0_2 x4_3).f2) ((rd_T56 l0_2 x4_3).f3.f0) ((rd_T56 l0_2 x4_3).f3.f1.f0) ((rd_T56 l0_2 x4_3).f3.f1.f1.f0) ((rd_T56 l0_2 x4_3).f3.f1.f1.f1) ((rd_T56 l0_2 x4_3).f3.f1.f1.f2) _ _ ((rd_T56 l0_2 x4_3).f3.f2) ((rd_T56 l0_2 x4_3).f4.f0) ((rd_T56 l0_2 x4_3).f4.f1.f0) ((rd_T56 l0_2 x4_3).f4.f1.f1.f0) ((rd_T56 l0_2 x4_3).f4.f1.f1.f1) ((rd_T56 l0_2 x4_3).f4.f1.f1.f2) _ _ ((rd_T56 l0_2 x4_3).f4.f2) true _ ?side1 ?side2 ?side3 ?side4 ?side5 ?side6 A22.out).mono ?_); (case side1 => repeat (first | exact (Kd.C_below HR376_2.out HB.out) | (with_reducible refine Kd.C_alloc ?_ _) | (with_reducible refine Kd.C_drewN ?_ _) | (with_reducible refine Kd.C_drew ?_))); (case side2 => exact HC376_2.out); (case side3 => repeat (first | exact (Kd.C_below HR376_9.out HB.out) | (with_reducible refine Kd.C_alloc ?_ _) | (with_reducible refine Kd.C_drewN ?_ _) | (with_reducible refine Kd.C_drew ?_))); (case side4 => exact HC376_9.out); (case side5 => repeat (first | exact (Kd.C_below HR376_15.out HB.out) | (with_reducible refine Kd.C_alloc ?_ _) | (with_reducible refine Kd.C_drewN ?_ _) | (with_reducible refine Kd.C_drew ?_))); (case side6 => exact HC376_15.out); rintro e w25 ⟨rfl, hb⟩; refine ⟨_, rfl, ?_⟩; have n0_ := Aside0.mk (xam (g := gb372) (o := .cells #[.string a0_0, .slice A0_1 l0_1.length c0_1, .slice (some ad376) l0_2.length c0_2] 67 (0, 0)) (by (with_reducible repeat (first | refine xag ?_ _ | refine xai ?_ | refine xaf ?_ _)); exact BK372.out) hb); have n1_ := Aside0.mk (xah (by repeat (first | (with_reducible first | exact HB.out | apply xab | apply xaa | apply xac | refine xad ?_ GE372.out) | exact HB.out)) hb); clear BK372; clear HB; have BK372 := n0_; have HB := n1_; clear n0_ n1_; (try clear hb); (try clear hb2); (try clear hk); (try clear hi)))
            go_roundg k3
            case measure => have := HJ1.out; have := HK2.out; have := HK3.out; omega
            case rel => exact ⟨(wrap64 (x4_3 + 1)), (by first | rfl | (simp; done) | (simp [*]; done)), H', ⟨by have := HJ1.out; have := HK2.out; have := HK3.out; omega⟩, ⟨by (with_reducible repeat (first | refine xag ?_ _ | refine xai ?_ | refine xaf ?_ _)); exact BK372.out⟩, ⟨by repeat (first | (with_reducible first | exact HB.out | apply xab | apply xaa | apply xac | refine xad ?_ GE372.out) | exact HB.out)⟩⟩
           ·replace c23 := Bool.eq_false_iff.mpr c23
            subst c23
            have H1 : (some false) = some r := by rw [if_neg (show ¬ (false = true) by decide)] at H; exact H
            clear H
            have H := H1
            clear H1
            obtain rfl := Option.some.inj H
            obtain ⟨hcz26_0, hcz26_1, hcz26_2⟩ := cz3 BK372.out
            obtain ⟨hfz26_0, hfz26_1, hfz26_2⟩ := fz3 BK372.out
            have p376 : 0 ≤ (x4_3 : Int) := of_decide_eq_true (by first | (with_reducible assumption) | assumption)
            have q376 : x4_3 < (l0_2.length : Int) := of_decide_eq_true (by first | (with_reducible assumption) | assumption)
            obtain ⟨ad376, A376_2, c376_2, A376_9, c376_9, A376_15, c376_15, e376, hx376_0, hx376_1, hx376_2, hx376_3, hx376_4, hx376_5, hx376_6, hx376_7, hx376_8, hx376_9, hx376_10, hx376_11, hx376_12, hx376_13, hx376_14, hx376_15, hl376_2, hi376_2, hl376_9, hi376_9, hl376_15, hi376_15⟩ := at_T56 HR0_2.out x4_3 p376 q376
            cases e376
            replace hx376_0 := (HB.out.cell (World.block_lt_of_cell? w _ hx376_0)).trans hx376_0
            replace hx376_1 := (HB.out.cell (World.block_lt_of_cell? w _ hx376_1)).trans hx376_1
            replace hx376_2 := (HB.out.cell (World.block_lt_of_cell? w _ hx376_2)).trans hx376_2
            replace hx376_3 := (HB.out.cell (World.block_lt_of_cell? w _ hx376_3)).trans hx376_3
            replace hx376_4 := (HB.out.cell (World.block_lt_of_cell? w _ hx376_4)).trans hx376_4
            replace hx376_5 := (HB.out.cell (World.block_lt_of_cell? w _ hx376_5)).trans hx376_5
            replace hx376_6 := (HB.out.cell (World.block_lt_of_cell? w _ hx376_6)).trans hx376_6
            replace hx376_7 := (HB.out.cell (World.block_lt_of_cell? w _ hx376_7)).trans hx376_7
            replace hx376_8 := (HB.out.cell (World.block_lt_of_cell? w _ hx376_8)).trans hx376_8
            replace hx376_9 := (HB.out.cell (World.block_lt_of_cell? w _ hx376_9)).trans hx376_9
            replace hx376_10 := (HB.out.cell (World.block_lt_of_cell? w _ hx376_10)).trans hx376_10
            replace hx376_11 := (HB.out.cell (World.block_lt_of_cell? w _ hx376_11)).trans hx376_11
            replace hx376_12 := (HB.out.cell (World.block_lt_of_cell? w _ hx376_12)).trans hx376_12
            replace hx376_13 := (HB.out.cell (World.block_lt_of_cell? w _ hx376_13)).trans hx376_13
            replace hx376_14 := (HB.out.cell (World.block_lt_of_cell? w _ hx376_14)).trans hx376_14
            replace hx376_15 := (HB.out.cell (World.block_lt_of_cell? w _ hx376_15)).trans hx376_15
            have HR376_2 := Aside0.mk hi376_2
            have HC376_2 := Aside0.mk hl376_2
            clear hi376_2 hl376_2
            have HR376_9 := Aside0.mk hi376_9
            have HC376_9 := Aside0.mk hl376_9
            clear hi376_9 hl376_9
            have HR376_15 := Aside0.mk hi376_15
            have HC376_15 := Aside0.mk hl376_15
            clear hi376_15 hl376_15
            replace p376 := eq_true p376
            replace q376 := eq_true q376
            go_wp2_with (first | ((with_reducible refine xau (f := 67) rfl ?_); refine goesL_ (some 47) rfl rfl Tryd.func67 (by kernel_rfl) rfl #[.agg #[.int .i8 ((rd_T56 l0_2 x4_3).f0), .string ((rd_T56 l0_2 x4_3).f1.f0), .slice A376_2 ((rd_T56 l0_2 x4_3).f1.f1).length c376_2, .int .i8 ((rd_T56 l0_2 x4_3).f2), .int .i8 ((rd_T56 l0_2 x4_3).f3.f0), .string ((rd_T56 l0_2 x4_3).f3.f1.f0), .int .i8 ((rd_T56 l0_2 x4_3).f3.f1.f1.f0), .int .i64 ((rd_T56 l0_2 x4_3).f3.f1.f1.f1), .string ((rd_T56 l0_2 x4_3).f3.f1.f1.f2), .slice A376_9 ((rd_T56 l0_2 x4_3).f3.f2).length c376_9, .int .i8 ((rd_T56 l0_2 x4_3).f4.f0), .string ((rd_T56 l0_2 x4_3).f4.f1.f0), .int .i8 ((rd_T56 l0_2 x4_3).f4.f1.f1.f0), .int .i64 ((rd_T56 l0_2 x4_3).f4.f1.f1.f1), .string ((rd_T56 l0_2 x4_3).f4.f1.f1.f2), .slice A376_15 ((rd_T56 l0_2 x4_3).f4.f2).length c376_15]] rfl (by (try simp only [List.map_toArray, List.map_cons, List.map_nil]); first | done | rfl | (simp only [List.length_drop, List.length_take]; rfl)) ?_; (with_reducible refine (r4_literal.calls k3 ((rd_T56 l0_2 x4_3).f0) ((rd_T56 l0_2 x4_3).f1.f0) _ _ ((rd_T56 l0_2 x4_3).f1.f1) ((rd_T56 l0_2 x4_3).f2) ((rd_T56 l0_2 x4_3).f3.f0) ((rd_T56 l0_2 x4_3).f3.f1.f0) ((rd_T56 l0_2 x4_3).f3.f1.f1.f0) ((rd_T56 l0_2 x4_3).f3.f1.f1.f1) ((rd_T56 l0_2 x4_3).f3.f1.f1.f2) _ _ ((rd_T56 l0_2 x4_3).f3.f2) ((rd_T56 l0_2 x4_3).f4.f0) ((rd_T56 l0_2 x4_3).f4.f1.f0) ((rd_T56 l0_2 x4_3).f4.f1.f1.f0) ((rd_T56 l0_2 x4_3).f4.f1.f1.f1) ((rd_T56 l0_2 x4_3).f4.f1.f1.f2) _ _ ((rd_T56 l0_2 x4_3).f4.f2) false _ ?side1 ?side2 ?side3 ?side4 ?side5 ?side6 A22.out).mono ?_); (case side1 => repeat (first | exact (Kd.C_below HR376_2.out HB.out) | (with_reducible refine Kd.C_alloc ?_ _) | (with_reducible refine Kd.C_drewN ?_ _) | (with_reducible refine Kd.C_drew ?_))); (case side2 => exact HC376_2.out); (case side3 => repeat (first | exact (Kd.C_below HR376_9.out HB.out) | (with_reducible refine Kd.C_alloc ?_ _) | (with_reducible refine Kd.C_drewN ?_ _) | (with_reducible refine Kd.C_drew ?_))); (case side4 => exact HC376_9.out); (case side5 => repeat (first | exact (Kd.C_below HR376_15.out HB.out) | (with_reducible refine Kd.C_alloc ?_ _) | (with_reducible refine Kd.C_drewN ?_ _) | (with_reducible refine Kd.C_drew ?_))); (case side6 => exact HC376_15.out); rintro e w27 ⟨rfl, hb⟩; refine ⟨_, rfl, ?_⟩; have n0_ := Aside0.mk (xam (g := gb372) (o := .cells #[.string a0_0, .slice A0_1 l0_1.length c0_1, .slice (some ad376) l0_2.length c0_2] 67 (0, 0)) (by (with_reducible repeat (first | refine xag ?_ _ | refine xai ?_ | refine xaf ?_ _)); exact BK372.out) hb); have n1_ := Aside0.mk (xah (by repeat (first | (with_reducible first | exact HB.out | apply xab | apply xaa | apply xac | refine xad ?_ GE372.out) | exact HB.out)) hb); clear BK372; clear HB; have BK372 := n0_; have HB := n1_; clear n0_ n1_; (try clear hb); (try clear hb2); (try clear hk); (try clear hi)))
            go_ret
            exact ⟨by first | rfl | (simp [xak, xaj] <;> rfl) | (simp [*, xak, xaj] <;> rfl), by repeat (first | (with_reducible first | exact HB.out | apply xab | apply xaa | apply xac | refine xad ?_ GE372.out) | exact HB.out)⟩
          ·rw [if_neg c21] at H
           exact absurd H (by simp)
         ·rw [if_neg c20] at H
          have c20b0 : decide (x4_3 < (l0_2.length : Int)) = false := decide_eq_false c20
          clear c20
          replace H := Option.bind_eq_some_iff.mp H
          obtain ⟨t378, A280, H⟩ := H
          replace H : (some (decide ((t378.length : Int) ≤ 24))) = some r := H
          have A28 := Aside0.mk A280
          clear A280
          obtain rfl := Option.some.inj H
          obtain ⟨hcz29_0, hcz29_1, hcz29_2⟩ := cz3 BK372.out
          obtain ⟨hfz29_0, hfz29_1, hfz29_2⟩ := fz3 BK372.out
          go_wp2_with (first | ((with_reducible refine xau (f := 33) rfl ?_); refine goesL_ (some 50) rfl rfl Tryd.func33 (by kernel_rfl) rfl #[.agg #[.string a0_0, .slice A0_1 l0_1.length c0_1, .slice A0_2 l0_2.length c0_2]] rfl (by (try simp only [List.map_toArray, List.map_cons, List.map_nil]); first | done | rfl | (simp only [List.length_drop, List.length_take]; rfl)) ?_; (with_reducible refine (r4_RuleVars.calls k3 a0_0 _ _ l0_1 _ _ l0_2 t378 _ ?side1 ?side2 ?side3 ?side4 A28.out).mono ?_); (case side1 => repeat (first | exact (Kd.C_below HR0_1.out HB.out) | (with_reducible refine Kd.C_alloc ?_ _) | (with_reducible refine Kd.C_drewN ?_ _) | (with_reducible refine Kd.C_drew ?_))); (case side2 => exact HC0_1.out); (case side3 => repeat (first | exact (Kd.C_below HR0_2.out HB.out) | (with_reducible refine Kd.C_alloc ?_ _) | (with_reducible refine Kd.C_drewN ?_ _) | (with_reducible refine Kd.C_drew ?_))); (case side4 => exact HC0_2.out); rintro e w30 ⟨v379, rfl, ho0, hb⟩; refine ⟨_, rfl, ?_⟩; have n0_ := Aside0.mk (Kd.R_lower ho0 (xao (by repeat (first | (with_reducible first | exact HB.out | apply xab | apply xaa | apply xac | refine xad ?_ GE372.out) | exact HB.out)))); have n1_ := Aside0.mk (xam (g := gb372) (o := .cells #[.string a0_0, .slice A0_1 l0_1.length c0_1, .slice A0_2 l0_2.length c0_2] 67 (0, 0)) (by (with_reducible repeat (first | refine xag ?_ _ | refine xai ?_ | refine xaf ?_ _)); exact BK372.out) hb); have n2_ := Aside0.mk (xah (by repeat (first | (with_reducible first | exact HB.out | apply xab | apply xaa | apply xac | refine xad ?_ GE372.out) | exact HB.out)) hb); clear BK372; clear HB; have HO380 := n0_; have BK372 := n1_; have HB := n2_; clear n0_ n1_ n2_; (try clear hb); (try clear hb2); (try clear hk); (try clear hi); (try clear ho0); obtain ⟨Ao31, co31, eo31⟩ := Kd.R_slice HO380.out; subst eo31))
          go_ret
          exact ⟨by first | rfl | (simp [xak, xaj] <;> rfl) | (simp [*, xak, xaj] <;> rfl), by repeat (first | (with_reducible first | exact HB.out | apply xab | apply xaa | apply xac | refine xad ?_ GE372.out) | exact HB.out)⟩
def r4_CheckRule.f (k : Nat) (a0_0 : ByteArray) (l0_1 : List (S125)) (l0_2 : List (S56)) : Option (Int) := (r4_rule.f k a0_0 l0_1 l0_2).bind fun t382 => ((r4_said.f t382).bind fun t383 => (some t383))
set_option maxHeartbeats 8000000 in
set_option maxRecDepth 100000 in
theorem r4_CheckRule.calls (k : Nat) (a0_0 : ByteArray) (A0_1 : Option Addr) (c0_1 : Nat) (l0_1 : List (S125)) (A0_2 : Option Addr) (c0_2 : Nat) (l0_2 : List (S56)) (r : Int) (w : World) (hr0_1 : Kd.C k125 w A0_1 l0_1.length l0_1) (hc0_1 : l0_1.length ≤ c0_1) (hr0_2 : Kd.C k56 w A0_2 l0_2.length l0_2) (hc0_2 : l0_2.length ≤ c0_2) (h : r4_CheckRule.f k a0_0 l0_1 l0_2 = some r) :
  Calls Tryd.prog 31 #[.agg #[.string a0_0, .slice A0_1 l0_1.length c0_1, .slice A0_2 l0_2.length c0_2]] w fun e w' => e = .returned (.int .i64 r) ∧ Below w.heap.size w w' := by
 have hu67 := Tryd.underlying67
 have HR0_1 := Aside0.mk hr0_1
 have HC0_1 := Aside0.mk hc0_1
 clear hr0_1 hc0_1
 have HR0_2 := Aside0.mk hr0_2
 have HC0_2 := Aside0.mk hc0_2
 clear hr0_2 hc0_2
 have HB := Aside0.mk (Below.refl w.heap.size w)
 have H : ((r4_rule.f k a0_0 l0_1 l0_2).bind fun t382 => ((r4_said.f t382).bind fun t383 => (some t383))) = some r := h
 clear h
 replace H := Option.bind_eq_some_iff.mp H
 obtain ⟨t382, A20, H⟩ := H
 replace H : ((r4_said.f t382).bind fun t383 => (some t383)) = some r := H
 have A2 := Aside0.mk A20
 clear A20
 replace H := Option.bind_eq_some_iff.mp H
 obtain ⟨t383, A30, H⟩ := H
 replace H : (some t383) = some r := H
 have A3 := Aside0.mk A30
 clear A30
 obtain rfl := Option.some.inj H
 go_enter Tryd.func31, Tryd.ntmps31
 go_wp2_with (first | ((with_reducible refine xar (N := 1) rfl ?_); refine xap ?hg (N := 1) ?hd (cs := #[.string a0_0, .slice A0_1 l0_1.length c0_1, .slice A0_2 l0_2.length c0_2]) (t := 67) ?hr ?_; (case hd => rfl); (case hg => rfl); (case hr => first | (go_simp; done) | (go_simp; rfl)); intro gb381 hg w4 hbox hb; have n0_ := Aside0.mk (xah (by repeat (first | (with_reducible first | exact HB.out | apply xab | apply xaa | apply xac) | exact HB.out)) hb); have n1_ := Aside0.mk (hbox); have n2_ := Aside0.mk ((by rw [hg]; exact (xao (by repeat (first | (with_reducible first | exact HB.out | apply xab | apply xaa | apply xac) | exact HB.out))) : w.heap.size ≤ gb381)); have n3_ := n2_; clear HB; have HB := n0_; have BK381 := n1_; have GW381 := n2_; have GE381 := n3_; clear n0_ n1_ n2_ n3_; clear hb hbox hg; obtain ⟨hcz5_0, hcz5_1, hcz5_2⟩ := cz3 BK381.out; obtain ⟨hfz5_0, hfz5_1, hfz5_2⟩ := fz3 BK381.out) | ((with_reducible refine xau (f := 76) rfl ?_); refine goesL_ (some 4) rfl rfl Tryd.func76 (by kernel_rfl) rfl #[.agg #[.string a0_0, .slice A0_1 l0_1.length c0_1, .slice A0_2 l0_2.length c0_2]] rfl (by (try simp only [List.map_toArray, List.map_cons, List.map_nil]); first | done | rfl | (simp only [List.length_drop, List.length_take]; rfl)) ?_; (with_reducible refine (r4_rule.calls k a0_0 _ _ l0_1 _ _ l0_2 t382 _ ?side1 ?side2 ?side3 ?side4 A2.out).mono ?_); (case side1 => repeat (first | exact (Kd.C_below HR0_1.out HB.out) | (with_reducible refine Kd.C_alloc ?_ _) | (with_reducible refine Kd.C_drewN ?_ _) | (with_reducible refine Kd.C_drew ?_))); (case side2 => exact HC0_1.out); (case side3 => repeat (first | exact (Kd.C_below HR0_2.out HB.out) | (with_reducible refine Kd.C_alloc ?_ _) | (with_reducible refine Kd.C_drewN ?_ _) | (with_reducible refine Kd.C_drew ?_))); (case side4 => exact HC0_2.out); rintro e w6 ⟨rfl, hb⟩; refine ⟨_, rfl, ?_⟩; have n0_ := Aside0.mk (xam (g := gb381) (o := .cells #[.string a0_0, .slice A0_1 l0_1.length c0_1, .slice A0_2 l0_2.length c0_2] 67 (0, 0)) (by (with_reducible repeat (first | refine xag ?_ _ | refine xai ?_ | refine xaf ?_ _)); exact BK381.out) hb); have n1_ := Aside0.mk (xah (by repeat (first | (with_reducible first | exact HB.out | apply xab | apply xaa | apply xac | refine xad ?_ GE381.out) | exact HB.out)) hb); clear BK381; clear HB; have BK381 := n0_; have HB := n1_; clear n0_ n1_; (try clear hb); (try clear hb2); (try clear hk); (try clear hi)) | ((with_reducible refine xau (f := 54) rfl ?_); refine goesL_ (some 5) rfl rfl Tryd.func54 (by kernel_rfl) rfl #[.bool t382] rfl (by (try simp only [List.map_toArray, List.map_cons, List.map_nil]); first | done | rfl | (simp only [List.length_drop, List.length_take]; rfl)) ?_; (with_reducible refine (r4_said.calls t382 t383 _ A3.out).mono ?_); rintro e w' ⟨rfl, ⟨nd, rfl⟩⟩; refine ⟨_, rfl, ?_⟩))
 go_ret
 exact ⟨by first | rfl | (simp [xak, xaj] <;> rfl) | (simp [*, xak, xaj] <;> rfl), by repeat (first | (with_reducible first | exact HB.out | apply xab | apply xaa | apply xac | refine xad ?_ GE381.out) | exact HB.out)⟩
theorem argument_ev (a : S125) : Ev (fun k => r4_argument.f k a.f0 a.f1.f0 a.f1.f1.f0 a.f1.f1.f1 a.f1.f1.f2) (argB a) := by
 have hv : Ev (fun k => (r4_term.f k a.f1.f0 a.f1.f1.f0 a.f1.f1.f1 a.f1.f1.f2).bind fun t => some t) (!termBad a.f1) := Ev.of_bind (g := fun x => some x) (term_ev a.f1) rfl
 have hN : noneB a.f1 = (a.f1.f0.toList == ([] : List UInt8) && ((a.f1.f1.f0 == 0 && (a.f1.f1.f1 == 0 && (a.f1.f1.f2.toList == ([] : List UInt8)))))) := rfl
 have hA : argB a = (if a.f0 = 0 then solidB a.f1 else if a.f0 = 1 then noneB a.f1 else if a.f0 = 2 ∨ a.f0 = 3 ∨ a.f0 = 4 then (decide (a.f1.f0.toList ≠ []) && solidB a.f1) else false) := by
  have h := term_argument_tot a
  rw [term_argument.f, term_solid_tot a.f1, term_none_tot a.f1] at h
  refine Option.some.inj (h.symm.trans ?_)
  by_cases h0 : a.f0 = 0
  ·simp [h0]
  ·by_cases h1 : a.f0 = 1
   ·simp [h1]
   ·by_cases h2 : a.f0 = 2
    ·by_cases h3 : a.f1.f0.toList = [] <;> simp [h2, h3]
    ·by_cases h4 : a.f0 = 3
     ·by_cases h3 : a.f1.f0.toList = [] <;> simp [h4, h3]
     ·by_cases h5 : a.f0 = 4
      ·by_cases h3 : a.f1.f0.toList = [] <;> simp [h5, h3]
      ·simp [h0, h1, h2, h4, h5]
 rw [hA]
 by_cases h0 : a.f0 = 0
 ·rw [if_pos h0, solid_bad]
  by_cases h3 : a.f1.f0.toList = [95]
  ·exact Ev.const (fun k => by rw [r4_argument.f, if_pos h0, if_pos h3]; simp [h3])
  ·rw [show (decide (a.f1.f0.toList ≠ [95]) && !termBad a.f1) = !termBad a.f1 by simp [h3]]
   exact hv.cong (fun k => by rw [r4_argument.f, if_pos h0, if_neg h3])
 ·rw [if_neg h0]
  by_cases h1 : a.f0 = 1
  ·rw [if_pos h1, hN]
   exact Ev.const (fun k => by rw [r4_argument.f, if_neg h0, if_pos h1])
  ·rw [if_neg h1, solid_bad]
   by_cases h5 : a.f1.f0.toList = []
   ·refine Ev.const (fun k => ?_)
    rw [r4_argument.f, if_neg h0, if_neg h1, if_pos h5]
    simp [h5]
   ·by_cases h3 : a.f1.f0.toList = [95]
    ·refine Ev.const (fun k => ?_)
     rw [r4_argument.f, if_neg h0, if_neg h1, if_neg h5, if_pos h3]
     simp [h3]
    ·rw [show (decide (a.f1.f0.toList ≠ []) && (decide (a.f1.f0.toList ≠ [95]) && !termBad a.f1)) = !termBad a.f1 by simp [h3, h5]]
     by_cases h2 : a.f0 = 2
     ·rw [if_pos (.inl h2)]
      exact hv.cong (fun k => by rw [r4_argument.f, if_neg h0, if_neg h1, if_pos h2, if_neg h5, if_neg h3])
     ·by_cases h4 : a.f0 = 3
      ·rw [if_pos (.inr (.inl h4))]
       exact hv.cong (fun k => by rw [r4_argument.f, if_neg h0, if_neg h1, if_neg h2, if_pos h4, if_neg h5, if_neg h3])
      ·by_cases h6 : a.f0 = 4
       ·rw [if_pos (.inr (.inr h6))]
        exact hv.cong (fun k => by rw [r4_argument.f, if_neg h0, if_neg h1, if_neg h2, if_neg h4, if_pos h6, if_neg h5, if_neg h3])
       ·rw [if_neg (by simp [h2, h4, h6])]
        exact Ev.const (fun k => by rw [r4_argument.f, if_neg h0, if_neg h1, if_neg h2, if_neg h4, if_neg h6])
theorem rule_l1 (p : ByteArray) (hd : List S125) (l : List S56) (hl : l.length ≤ 1000000000) (q : Bool) (hv : Ev (fun k => (r4_RuleVars.f k p hd l).bind fun t => some (decide ((t.length : Int) ≤ 24))) q) :
  ∀ (m i : Nat), l.length - i = m → i ≤ l.length → Ev (fun k => r4_rule.l1 k (i : Int) p hd l) ((l.drop i).all litB && q)
 | 0, i, hm, hi => by
  rw [List.drop_eq_nil_of_le (by omega), List.all_nil, Bool.true_and]
  refine hv.step (fun k => ?_)
  rw [r4_rule.l1, if_neg (by omega)]
 | m + 1, i, hm, hi => by
  have hlt : i < l.length := by omega
  have e : rd_T56 l (i : Int) = l[i] := by rw [rd_T56, List.getD_eq_getElem?_getD, Int.toNat_natCast, List.getElem?_eq_getElem hlt]; rfl
  have ih := rule_l1 p hd l hl q hv m (i + 1) (by omega) (by omega)
  have h2 := refLiteral_ev l[i]
  rw [List.drop_eq_getElem_cons hlt, List.all_cons, Bool.and_assoc]
  rw [← e] at h2 ⊢
  have h3 := Ev.bind (g := fun k t => if t = true then r4_rule.l1 k ((i + 1 : Nat) : Int) p hd l else some false) (s := litB (rd_T56 l (i : Int)) && ((l.drop (i + 1)).all litB && q)) h2 (by
   cases litB (rd_T56 l (i : Int)) with
   | false => exact Ev.const (fun k => by simp)
   | true => rw [Bool.true_and]; exact ih.cong (fun k => by simp))
  refine h3.step (fun k => ?_)
  rw [r4_rule.l1, if_pos (by omega), if_pos (by omega), w64 (by omega) (by omega)]
  rfl
theorem rule_l0 (p : ByteArray) (hd : List S125) (l : List S56) (hl : hd.length ≤ 1000000000) (q : Bool) (hv : Ev (fun k => r4_rule.l1 k 0 p hd l) q) :
  ∀ (m i : Nat), hd.length - i = m → i ≤ hd.length → Ev (fun k => r4_rule.l0 k (i : Int) p hd l) ((hd.drop i).all argB && q)
 | 0, i, hm, hi => by
  rw [List.drop_eq_nil_of_le (by omega), List.all_nil, Bool.true_and]
  refine hv.step (fun k => ?_)
  rw [r4_rule.l0, if_neg (by omega)]
 | m + 1, i, hm, hi => by
  have hlt : i < hd.length := by omega
  have e : xaq hd (i : Int) = hd[i] := by rw [xaq, List.getD_eq_getElem?_getD, Int.toNat_natCast, List.getElem?_eq_getElem hlt]; rfl
  have ih := rule_l0 p hd l hl q hv m (i + 1) (by omega) (by omega)
  have h2 := argument_ev hd[i]
  rw [List.drop_eq_getElem_cons hlt, List.all_cons, Bool.and_assoc]
  rw [← e] at h2 ⊢
  have h3 := Ev.bind (g := fun k t => if t = true then r4_rule.l0 k ((i + 1 : Nat) : Int) p hd l else some false) (s := argB (xaq hd (i : Int)) && ((hd.drop (i + 1)).all argB && q)) h2 (by
   cases argB (xaq hd (i : Int)) with
   | false => exact Ev.const (fun k => by simp)
   | true => rw [Bool.true_and]; exact ih.cong (fun k => by simp))
  refine h3.step (fun k => ?_)
  rw [r4_rule.l0, if_pos (by omega), if_pos (by omega), w64 (by omega) (by omega)]
  rfl
theorem litTerms_ev (acc : List S28) (x : S56) (h : acc.length + (litTermsL x).length < 1000000000) : Ev (fun k => r4_literalTerms.f k acc x.f0 x.f1.f0 x.f1.f1 x.f2 x.f3.f0 x.f3.f1.f0 x.f3.f1.f1.f0 x.f3.f1.f1.f1 x.f3.f1.f1.f2 x.f3.f2 x.f4.f0 x.f4.f1.f0 x.f4.f1.f1.f0 x.f4.f1.f1.f1 x.f4.f1.f1.f2 x.f4.f2) (acc ++ litTermsL x) := by
 have h0 : x.f1.f1.length + (exprTermsL x.f3).length + (exprTermsL x.f4).length = (litTermsL x).length := by rw [litTermsL]; simp only [List.length_append]
 have h1 := litTerms_l0 x _ 0 acc rfl (Nat.zero_le _) (by simp; omega) (by omega)
 rw [List.drop_zero, List.append_assoc, List.append_assoc, ← List.append_assoc x.f1.f1, ← litTermsL] at h1
 exact h1
theorem ruleTerms_l1 (p : ByteArray) (hd : List S125) (l : List S56) (hl : l.length ≤ 1000000000) :
  ∀ (m i : Nat) (acc : List S28), l.length - i = m → i ≤ l.length → acc.length + ((l.drop i).flatMap litTermsL).length < 1000000000 → Ev (fun k => r4_ruleTerms.l1 k acc (i : Int) p hd l) (acc ++ (l.drop i).flatMap litTermsL)
 | 0, i, acc, hm, hi, ha => by
  rw [List.drop_eq_nil_of_le (by omega), List.flatMap_nil, List.append_nil]
  refine Ev.of (fun k => ?_)
  rw [r4_ruleTerms.l1, if_neg (by omega)]
 | m + 1, i, acc, hm, hi, ha => by
  have hlt : i < l.length := by omega
  have e : rd_T56 l (i : Int) = l[i] := by rw [rd_T56, List.getD_eq_getElem?_getD, Int.toNat_natCast, List.getElem?_eq_getElem hlt]; rfl
  rw [List.drop_eq_getElem_cons hlt, List.flatMap_cons, List.length_append] at ha
  have ih := ruleTerms_l1 p hd l hl m (i + 1) (acc ++ litTermsL l[i]) (by omega) (by omega) (by rw [List.length_append]; omega)
  have h2 := litTerms_ev acc l[i] (by omega)
  rw [List.drop_eq_getElem_cons hlt, List.flatMap_cons, ← List.append_assoc]
  rw [← e] at h2 ih ⊢
  have h3 := Ev.bind (g := fun k t => r4_ruleTerms.l1 k t ((i + 1 : Nat) : Int) p hd l) h2 ih
  refine h3.step (fun k => ?_)
  rw [r4_ruleTerms.l1, if_pos (by omega), if_pos (by omega), w64 (by omega) (by omega)]
  rfl
theorem ruleTerms_l0 (p : ByteArray) (hd : List S125) (l : List S56) (hl : hd.length ≤ 1000000000) (hl2 : l.length ≤ 1000000000) :
  ∀ (m i : Nat) (acc : List S28), hd.length - i = m → i ≤ hd.length → acc.length + m + (l.flatMap litTermsL).length < 1000000000 → Ev (fun k => r4_ruleTerms.l0 k acc (i : Int) p hd l) (acc ++ (hd.drop i).map (fun a => a.f1) ++ l.flatMap litTermsL)
 | 0, i, acc, hm, hi, ha => by
  rw [List.drop_eq_nil_of_le (by omega), List.map_nil, List.append_nil]
  have h := ruleTerms_l1 p hd l hl2 _ 0 acc rfl (Nat.zero_le _) (by rw [List.drop_zero]; omega)
  rw [List.drop_zero] at h
  refine h.step (fun k => ?_)
  rw [r4_ruleTerms.l0, if_neg (by omega)]
  rfl
 | m + 1, i, acc, hm, hi, ha => by
  have hlt : i < hd.length := by omega
  have e : xaq hd (i : Int) = hd[i] := by rw [xaq, List.getD_eq_getElem?_getD, Int.toNat_natCast, List.getElem?_eq_getElem hlt]; rfl
  have ih := ruleTerms_l0 p hd l hl hl2 m (i + 1) (acc ++ [hd[i].f1]) (by omega) (by omega) (by rw [List.length_append, List.length_singleton]; omega)
  rw [List.drop_eq_getElem_cons hlt, List.map_cons, show acc ++ hd[i].f1 :: (hd.drop (i + 1)).map (fun a => a.f1) = acc ++ [hd[i].f1] ++ (hd.drop (i + 1)).map (fun a => a.f1) by simp]
  refine ih.step (fun k => ?_)
  rw [r4_ruleTerms.l0, if_pos (by omega), if_pos (by omega), if_pos (by omega), eta_term, e, w64 (by omega) (by omega)]
  rfl
theorem refRuleTerms_ev (x : S67) (h : (ruleTermsL x).length < 100000000) (h2 : x.f2.length ≤ 1000000000) : Ev (fun k => r4_ruleTerms.f k x.f0 x.f1 x.f2) (ruleTermsL x) := by
 have h0 : x.f1.length + (x.f2.flatMap litTermsL).length = (ruleTermsL x).length := by rw [ruleTermsL]; simp
 have h1 := ruleTerms_l0 x.f0 x.f1 x.f2 (by omega) h2 _ 0 [] rfl (Nat.zero_le _) (by simp only [List.length_nil]; omega)
 rw [List.drop_zero, List.nil_append, ← ruleTermsL] at h1
 exact h1
theorem refRuleVars_ev (x : S67) (h : (ruleTermsL x).length < 100000000) (h2 : x.f2.length ≤ 1000000000) : Ev (fun k => r4_RuleVars.f k x.f0 x.f1 x.f2) (varsOf (ruleTermsL x)) := by
 refine Ev.bind (g := fun k t => (r4_vars.f k t).bind fun t => some t) (refRuleTerms_ev x h h2) ?_
 exact Ev.of_bind (g := fun t => some t) (refVars_ev (ruleTermsL x) (by omega)) rfl
theorem refRule_ev (x : S67) (h : (ruleTermsL x).length < 100000000) (h2 : x.f2.length ≤ 1000000000) : Ev (fun k => r4_rule.f k x.f0 x.f1 x.f2) (ruleB x) := by
 have h0 : x.f1.length + (x.f2.flatMap litTermsL).length = (ruleTermsL x).length := by rw [ruleTermsL]; simp
 have hv : Ev (fun k => (r4_RuleVars.f k x.f0 x.f1 x.f2).bind fun t => some (decide ((t.length : Int) ≤ 24))) (decide ((varsOf (ruleTermsL x)).length ≤ 24)) :=
  Ev.of_bind (g := fun t : List ByteArray => some (decide ((t.length : Int) ≤ 24))) (refRuleVars_ev x h h2) (by congr 1; rw [Bool.eq_iff_iff]; simp; omega)
 have h1 := rule_l1 x.f0 x.f1 x.f2 h2 _ hv _ 0 rfl (Nat.zero_le _)
 rw [List.drop_zero] at h1
 have h3 := rule_l0 x.f0 x.f1 x.f2 (by omega) _ h1 _ 0 rfl (Nat.zero_le _)
 rw [List.drop_zero] at h3
 have hj : ∀ c : Bool, Ev (fun k => r4_rule.j0 k c x.f0 x.f1 x.f2) (!c && (x.f1.all argB && (x.f2.all litB && decide ((varsOf (ruleTermsL x)).length ≤ 24)))) := by
  intro c
  cases c with
  | true => exact Ev.of (fun k => by rw [r4_rule.j0, if_pos rfl]; rfl)
  | false => exact h3.step (fun k => by rw [r4_rule.j0, if_neg (by simp)]; rfl)
 refine Ev.bind (g := fun k t => if t = true then (if (x.f1.length : Int) > 24 then (r4_rule.j0 k true x.f0 x.f1 x.f2) else (r4_rule.j0 k (decide ((x.f2.length : Int) > 16)) x.f0 x.f1 x.f2)) else (r4_rule.j0 k true x.f0 x.f1 x.f2)) (name_ev x.f0) ?_
 rw [ruleB]
 cases nameB x.f0 with
 | false => exact (hj true).cong (fun k => by rw [if_neg (by simp)])
 | true =>
  by_cases g1 : x.f1.length ≤ 24
  ·have e : (true && decide (x.f1.length ≤ 24) && decide (x.f2.length ≤ 16) && x.f1.all argB && x.f2.all litB && decide ((varsOf (ruleTermsL x)).length ≤ 24)) = (!decide ((x.f2.length : Int) > 16) && (x.f1.all argB && (x.f2.all litB && decide ((varsOf (ruleTermsL x)).length ≤ 24)))) := by
    rw [decide_eq_true g1, show (!decide ((x.f2.length : Int) > 16)) = decide (x.f2.length ≤ 16) by rw [Bool.eq_iff_iff]; simp; omega]
    simp only [Bool.true_and, Bool.and_assoc]
   rw [e]
   exact (hj _).cong (fun k => by rw [if_pos rfl, if_neg (by omega)])
  ·rw [decide_eq_false g1]
   exact (hj true).cong (fun k => by rw [if_pos rfl, if_pos (by omega)])
theorem refCheckRule_ev (x : S67) (h : (ruleTermsL x).length < 100000000) (h2 : x.f2.length ≤ 1000000000) : Ev (fun k => r4_CheckRule.f k x.f0 x.f1 x.f2) (if ruleB x then 0 else 40) := by
 refine Ev.of_bind (refRule_ev x h h2) ?_
 cases ruleB x <;> rfl
def TabB (w : World) : Prop := Lib.TabIs Tryd.prog w "internal/strconv.uint64pow10" .u64 Lib.pow10Tab
theorem TabB.below {w w1 : World} (h : TabB w) (hb : Below w.heap.size w w1) : TabB w1 := by
 have hg : Tryd.prog.globalNamed "internal/strconv.uint64pow10" = some 1 := by kernel_rfl
 unfold TabB Lib.TabIs at *
 refine var?_below hb hg ?_ h
 unfold World.var? at h
 simp only [hg, Option.bind_some] at h
 rcases Nat.lt_or_ge 1 w.heap.size with h' | h'
 ·exact h'
 ·simp [Array.getElem?_eq_none h'] at h
end Go.Proofs.YtllcmggmcogokaaDoor.PAll
end
section
namespace Go.Proofs
open Go.Shelf
def Tryd.laysM171_ren : Go.Shelf.Ren := ⟨fun | 171 => 142 | 243 => 148 | 246 => 150 | 283 => 152 | 284 => 153 | 285 => 154 | 286 => 155 | 129 => 157 | 317 => 156 | 318 => 158 | 319 => 159 | 320 => 160 | 337 => 161 | 338 => 162 | n => n, fun | 3 => 3 | 9 => 9 | 2 => 2 | 4 => 4 | 171 => 183 | 0 => 0 | 53 => 184 | 37 => 150 | 5 => 5 | 173 => 187 | 212 => 191 | 51 => 192 | 20 => 20 | 213 => 193 | 46 => 195 | 232 => 198 | 233 => 199 | n => n, fun | 17 => 1 | 18 => 2 | 19 => 3 | n => n⟩
theorem Tryd.laysM171 : Go.Proofs.LaysM.n171 Tryd.prog Tryd.laysM171_ren := {
 mixed := by kernel_rfl
 f129 := Tryd.func157.trans (congrArg some (by kernel_rfl))
 f171 := Tryd.func142.trans (congrArg some (by kernel_rfl))
 f243 := Tryd.func148.trans (congrArg some (by kernel_rfl))
 f246 := Tryd.func150.trans (congrArg some (by kernel_rfl))
 f283 := Tryd.func152.trans (congrArg some (by kernel_rfl))
 f284 := Tryd.func153.trans (congrArg some (by kernel_rfl))
 f285 := Tryd.func154.trans (congrArg some (by kernel_rfl))
 f286 := Tryd.func155.trans (congrArg some (by kernel_rfl))
 f317 := Tryd.func156.trans (congrArg some (by kernel_rfl))
 f318 := Tryd.func158.trans (congrArg some (by kernel_rfl))
 f319 := Tryd.func159.trans (congrArg some (by kernel_rfl))
 f320 := Tryd.func160.trans (congrArg some (by kernel_rfl))
 f337 := Tryd.func161.trans (congrArg some (by kernel_rfl))
 f338 := Tryd.func162.trans (congrArg some (by kernel_rfl))
 t0 := Tryd.underlying0
 a0 := Tryd.isAgg0
 z0 := Tryd.sizeOf0
 v0 := Tryd.zeroValue0
 t2 := Tryd.underlying2
 a2 := Tryd.isAgg2
 z2 := Tryd.sizeOf2
 v2 := Tryd.zeroValue2
 t3 := Tryd.underlying3
 a3 := Tryd.isAgg3
 z3 := Tryd.sizeOf3
 v3 := Tryd.zeroValue3
 t4 := Tryd.underlying4
 a4 := Tryd.isAgg4
 z4 := Tryd.sizeOf4
 v4 := Tryd.zeroValue4
 t5 := Tryd.underlying5
 a5 := Tryd.isAgg5
 z5 := Tryd.sizeOf5
 v5 := Tryd.zeroValue5
 t9 := Tryd.underlying9
 a9 := Tryd.isAgg9
 z9 := Tryd.sizeOf9
 v9 := Tryd.zeroValue9
 t20 := Tryd.underlying20
 a20 := Tryd.isAgg20
 z20 := Tryd.sizeOf20
 v20 := Tryd.zeroValue20
 t37 := Tryd.underlying150
 a37 := Tryd.isAgg150
 z37 := Tryd.sizeOf150
 v37 := Tryd.zeroValue150
 t46 := Tryd.underlying195
 a46 := Tryd.isAgg195
 z46 := Tryd.sizeOf195
 v46 := Tryd.zeroValue195
 t51 := Tryd.underlying192
 a51 := Tryd.isAgg192
 z51 := Tryd.sizeOf192
 v51 := Tryd.zeroValue192
 t53 := Tryd.underlying184
 a53 := Tryd.isAgg184
 z53 := Tryd.sizeOf184
 v53 := Tryd.zeroValue184
 t171 := Tryd.underlying183
 a171 := Tryd.isAgg183
 z171 := Tryd.sizeOf183
 v171 := Tryd.zeroValue183
 t173 := Tryd.underlying187
 a173 := Tryd.isAgg187
 z173 := Tryd.sizeOf187
 v173 := Tryd.zeroValue187
 t212 := Tryd.underlying191
 a212 := Tryd.isAgg191
 z212 := Tryd.sizeOf191
 v212 := Tryd.zeroValue191
 t213 := Tryd.underlying193
 a213 := Tryd.isAgg193
 z213 := Tryd.sizeOf193
 t232 := Tryd.underlying198
 a232 := Tryd.isAgg198
 z232 := Tryd.sizeOf198
 v232 := Tryd.zeroValue198
 t233 := Tryd.underlying199
 a233 := Tryd.isAgg199
 z233 := Tryd.sizeOf199
 v233 := Tryd.zeroValue199
 g17 := by kernel_rfl
 g18 := by kernel_rfl
 g19 := by kernel_rfl
 i0 := by kernel_rfl
 i2 := by kernel_rfl
 i3 := by kernel_rfl
 i4 := by kernel_rfl
 i5 := by kernel_rfl
 i9 := by kernel_rfl
 i20 := by kernel_rfl
 i37 := by kernel_rfl
 i46 := by kernel_rfl
 i51 := by kernel_rfl
 i53 := by kernel_rfl
 i171 := by kernel_rfl
 i173 := by kernel_rfl
 i212 := by kernel_rfl
 i232 := by kernel_rfl
 i233 := by kernel_rfl
 m17 := by kernel_rfl
 m18 := by kernel_rfl
 m19 := by kernel_rfl }
open Go.RowKit Go.Sort Go.Lib in
theorem Tryd.strconv_Itoa (n : Int) (h0 : -9223372036854775808 ≤ n) (h1 : n ≤ 9223372036854775807) (w : World) (htab : Lib.TabIs Tryd.prog w "internal/strconv.uint64pow10" .u64 Lib.pow10Tab) :
  Calls Tryd.prog 142 #[.int .i64 n] w fun e w' => e = .returned (.string ⟨(Lib.itoa n).toArray⟩) ∧ ∃ k os, w' = grow (w.drewN k) os := Any.strconv_Itoa Tryd.laysM171 n h0 h1 w htab
end Go.Proofs
end
section
namespace Go.Proofs.YtllcmggmcogokaaDoor.PAll
open Go.RowKit Go.Proofs.YtllcmggmcogokaaDoorW.PrintWords Go.Proofs.YtllcmggmcogokaaDoorW.PrintLast Go.Proofs.YtllcmggmcogokaaDoorW.PrintMore
attribute [local go_sem] max2_int min2_int max_two min_two max_three min_three max_four min_four
theorem below_grow (w : World) (k : Nat) (os : Array Obj) : Below w.heap.size w (Go.Sort.grow (w.drewN k) os) :=
 ⟨rfl, rfl, rfl, by simp [Go.Sort.grow], fun i hi => by simp only [Go.Sort.grow]; exact Array.getElem?_append_left hi⟩
def wordOf (n : Int) : ByteArray := ⟨#[35]⟩ ++ ⟨(Lib.itoa n).toArray⟩
def w1_word.f (a0 : Int) : Option (ByteArray) := if -9223372036854775808 ≤ a0 ∧ a0 ≤ 9223372036854775807 ∧ (Lib.itoa a0).length ≤ 1000 then some (wordOf a0) else none
set_option maxHeartbeats 4000000 in
theorem w1_word.calls (a0 : Int) (r : ByteArray) (w : World) (hTB : TabB w) (h : w1_word.f a0 = some r) :
  Calls Tryd.prog 124 #[.int .i64 a0] w fun e w' => e = .returned (.string r) ∧ Below w.heap.size w w' := by
 unfold w1_word.f at h
 split at h
 ·rename_i hh
  obtain ⟨h0, h1, h2⟩ := hh
  have HR := Lib.hid (Option.some.inj h)
  have HT := Lib.hid hTB
  clear h hTB
  go_enter Tryd.func124, Tryd.ntmps124
  go_wp2_with fail
  refine (Tryd.strconv_Itoa a0 h0 h1 _ HT.out).mono ?_
  rintro e w1 ⟨rfl, k, os, hw⟩
  have HB := Lib.hid (show Below w.heap.size w w1 by rw [hw]; exact below_grow w k os)
  have HW : Hid (wordOf a0 = ⟨#[35]⟩ ++ ⟨(Lib.itoa a0).toArray⟩) := Lib.hid rfl
  clear hw
  generalize Lib.itoa a0 = l at *
  go_wp2_with fail
  go_ret
  exact ⟨by rw [← HR.out, HW.out]; rfl, HB.out⟩
 ·cases h
end Go.Proofs.YtllcmggmcogokaaDoor.PAll
end
section

namespace Go.Proofs.YtllcmggmcogokaaDoor.PAll
open Go.RowKit Go.Proofs.YtllcmggmcogokaaDoorW.PrintWords Go.Proofs.YtllcmggmcogokaaDoorW.PrintLast Go.Proofs.YtllcmggmcogokaaDoorW.PrintMore
attribute [local go_sem] max2_int min2_int max_two min_two max_three min_three max_four min_four
set_option linter.unusedVariables false
set_option linter.unusedSimpArgs false
section
open Go.Proofs.YtllcmggmcogokaaDoorW.PrintWords.Kd
def Raw (n : Nat) (c : List Value) : Prop := c.length = n ∧ ∀ u ∈ c, u.oneCell' = true
def orC {α : Type} (d : Kd α) : Kd (α ⊕ List Value) where
 sz := d.sz
 E := d.E
 K := fun w x cs => match x with
  | .inl a => d.K w a cs
  | .inr c => cs = c ∧ Raw d.sz c
 M := fun w base ok x cs => match x with
  | .inl a => d.M w base ok a cs
  | .inr c => cs = c ∧ Raw d.sz c
 K_len := by
  intro w x cs h
  cases x with
  | inl a => exact d.K_len h
  | inr c => rw [h.1]; exact h.2.1
 K_one := by
  intro w x cs h
  cases x with
  | inl a => exact d.K_one h
  | inr c => rw [h.1]; exact h.2.2
 K_below := by
  intro w w1 x cs hb h
  cases x with
  | inl a => exact d.K_below hb h
  | inr c => exact h
 K_of_M := by
  intro w base ok x cs h
  cases x with
  | inl a => exact d.K_of_M h
  | inr c => exact h
 M_mono := by
  intro w base ok ok' x cs hok h
  cases x with
  | inl a => exact d.M_mono hok h
  | inr c => exact h
 M_bound := by
  intro w base ok x cs h
  cases x with
  | inl a => exact d.M_bound h
  | inr c => exact h
 M_move := by
  intro w w1 base ok x cs hm h
  cases x with
  | inl a => exact d.M_move hm h
  | inr c => exact h
 M_lower := by
  intro w base base' ok x cs hb h
  cases x with
  | inl a => exact d.M_lower hb h
  | inr c => exact h
def marked {α : Type} (xs : List α) (mk : List Value) : List (α ⊕ List Value) := xs.map .inl ++ [.inr mk]
theorem marked_length {α : Type} (xs : List α) (mk : List Value) : (marked xs mk).length = xs.length + 1 := by simp [marked]
def twin {α : Type} (e : Nat) (d : Kd α) (mk : List Value) : Kd (List α) where
 sz := 1
 E := e :: d.E
 K := fun w xs cs => ∃ A c, cs = [.slice A xs.length c] ∧ xs.length + 1 ≤ c ∧ (orC d).C w A (xs.length + 1) (marked xs mk)
 M := fun w base ok xs cs => ∃ A c, cs = [.slice A xs.length c] ∧ (orC d).R e w base ok (.slice A (xs.length + 1) c) (marked xs mk)
 K_len := by
  rintro w x cs ⟨A, c, rfl, _⟩
  rfl
 K_one := by
  rintro w x cs ⟨A, c, rfl, _⟩ u hu
  rw [List.mem_singleton.1 hu]
  rfl
 K_below := by
  rintro w w1 x cs hb ⟨A, c, rfl, hl, hr⟩
  exact ⟨A, c, rfl, hl, C_below hr hb⟩
 K_of_M := by
  rintro w base ok x cs ⟨A, c, rfl, h⟩
  obtain ⟨h1, h2, h3⟩ := R_reads' h
  rw [marked_length] at h3
  exact ⟨A, c, rfl, h2, h3⟩
 M_mono := by
  rintro w base ok ok' x cs hok ⟨A, c, rfl, h⟩
  exact ⟨A, c, rfl, R_mono h hok⟩
 M_bound := by
  rintro w base ok x cs ⟨A, c, rfl, h⟩
  exact ⟨A, c, rfl, R_bound h⟩
 M_move := by
  rintro w w1 base ok x cs hm ⟨A, c, rfl, h⟩
  exact ⟨A, c, rfl, R_move h hm⟩
 M_lower := by
  rintro w base base' ok x cs hb ⟨A, c, rfl, h⟩
  exact ⟨A, c, rfl, R_lower h hb⟩
theorem orC_imp {α : Type} {d d' : Kd α} (hs : d.sz = d'.sz) (h : ∀ w x cs, d.K w x cs → d'.K w x cs) (w : World) (x : α ⊕ List Value) (cs : List Value) (hK : (orC d).K w x cs) : (orC d').K w x cs := by
 cases x with
 | inl a => exact h _ _ _ hK
 | inr c => exact ⟨hK.1, by rw [← hs]; exact hK.2⟩
theorem orM_imp {α : Type} {d d' : Kd α} (hs : d.sz = d'.sz) (h : ∀ w base ok x cs, d.M w base ok x cs → d'.M w base ok x cs) (w : World) (base : Nat) (ok : Nat → Prop) (x : α ⊕ List Value) (cs : List Value) (hK : (orC d).M w base ok x cs) : (orC d').M w base ok x cs := by
 cases x with
 | inl a => exact h _ _ _ _ _ hK
 | inr c => exact ⟨hK.1, by rw [← hs]; exact hK.2⟩
theorem mono_twin {α β : Type} (e : Nat) (mk : List Value) {G : Kd α → Kd β} (hG : Mono G) : Mono (fun d => twin e (G d) mk) := by
 refine ⟨fun _ _ _ => rfl, ?_, ?_⟩
 ·rintro d d' hs h w x cs ⟨A, c, rfl, hl, hr⟩
  exact ⟨A, c, rfl, hl, C_imp (d := orC (G d)) (d' := orC (G d')) (hG.sz d d' hs) (orC_imp (hG.sz d d' hs) (hG.K d d' hs h)) hr⟩
 ·rintro d d' hs h w base ok x cs ⟨A, c, rfl, hr⟩
  exact ⟨A, c, rfl, R_imp (d := orC (G d)) (d' := orC (G d')) (hG.sz d d' hs) (orM_imp (hG.sz d d' hs) (hG.M d d' hs h)) hr⟩
theorem sub_twin {α β : Type} {E : List Nat} (e : Nat) (mk : List Value) {G : Kd α → Kd β} (he : e ∈ E) (hG : Sub G E) : Sub (fun d => twin e (G d) mk) E := fun d h q hq => by
 rcases List.mem_cons.1 hq with rfl | hq
 ·exact he
 ·exact hG d h q hq
theorem marked_C {α : Type} {d d' : Kd α} (hs : d.sz = d'.sz) (h : ∀ w x cs, d.K w x cs → d'.K w x cs) {w : World} {A : Option Addr} {xs : List α} {mk : List Value} (hr : (orC d).C w A (xs.length + 1) (marked xs mk)) : d'.C w A xs.length xs := by
 obtain ⟨h1, h2, h3⟩ := hr
 refine ⟨rfl, by omega, fun hn => ?_⟩
 obtain ⟨ad, e, hc⟩ := h3 (by omega)
 refine ⟨ad, e, fun j p hj => ?_⟩
 have hl := (List.getElem?_eq_some_iff.1 hj).1
 obtain ⟨c, hcs, hK, hcell⟩ := hc j (.inl p) (by rw [marked, List.getElem?_append_left (by simpa using hl)]; simp [hj])
 exact ⟨c, by rw [← hs]; exact hcs, h _ _ _ hK, fun i u hu => by rw [← hs]; exact hcell i u hu⟩
theorem twin_plain {α : Type} {e : Nat} {d d' : Kd α} {mk : List Value} (hs : d.sz = d'.sz) (h : ∀ w x cs, d.K w x cs → d'.K w x cs) (w : World) (xs : List α) (cs : List Value) (hK : (twin e d mk).K w xs cs) : (slice e d').K w xs cs := by
 obtain ⟨A, c, rfl, hl, hr⟩ := hK
 exact ⟨A, c, rfl, by omega, marked_C hs h hr⟩
theorem marked_mark {α : Type} {d : Kd α} {w : World} {A : Option Addr} {xs : List α} {mk : List Value} (hr : (orC d).C w A (xs.length + 1) (marked xs mk)) : ∃ ad, A = some ad ∧ ∀ i u, mk[i]? = some u → w.cell? (ad.add (xs.length * d.sz + i)) = some u := by
 obtain ⟨h1, h2, h3⟩ := hr
 obtain ⟨ad, e, hc⟩ := h3 (by omega)
 obtain ⟨c, hcs, hK, hcell⟩ := hc xs.length (.inr mk) (by rw [marked, List.getElem?_append_right (by simp)]; simp)
 obtain ⟨rfl, _⟩ := hK
 exact ⟨ad, e, hcell⟩
theorem marked_get {α : Type} {d : Kd α} {w : World} {A : Option Addr} {xs : List α} {mk : List Value} (hr : (orC d).C w A (xs.length + 1) (marked xs mk)) (z : α) (i : Nat) (hi : i < xs.length) : ∃ ad c, A = some ad ∧ c.length = d.sz ∧ d.K w (xs.getD i z) c ∧ ∀ j u, c[j]? = some u → w.cell? (ad.add (i * d.sz + j)) = some u := by
 obtain ⟨h1, h2, h3⟩ := hr
 obtain ⟨ad, e, hc⟩ := h3 (by omega)
 obtain ⟨c, hcs, hK, hcell⟩ := hc i (.inl (xs.getD i z)) (by rw [marked, List.getElem?_append_left (by simpa using hi)]; simp [List.getD_eq_getElem?_getD, List.getElem?_eq_getElem hi])
 exact ⟨ad, c, e, hcs, hK, hcell⟩
def begun {α : Type} (xs : List α) (i : Nat) (z : List Value) : List (α ⊕ List Value) := (xs.take i).map .inl ++ List.replicate (xs.length + 1 - i) (.inr z)
theorem xbh {α : Type} (xs : List α) (i : Nat) (z : List Value) (h : i ≤ xs.length) : (begun xs i z).length = xs.length + 1 := by simp [begun]; omega
theorem xbm {α : Type} (xs : List α) (z : List Value) : begun xs 0 z = List.replicate (xs.length + 1) (.inr z) := by simp [begun]
theorem begun_set {α : Type} (xs : List α) (i : Nat) (z : List Value) (d : α) (h : i < xs.length) : (begun xs i z).set i (.inl (xs.getD i d)) = begun xs (i + 1) z := by
 apply List.ext_getElem?
 intro j
 simp only [begun, List.getElem?_set, List.getElem?_append, List.length_map, List.length_take, List.length_append, List.length_replicate, List.getElem?_map, List.getElem?_take, List.getElem?_replicate]
 rw [Nat.min_eq_left (by omega), Nat.min_eq_left (by omega)]
 by_cases h1 : i = j
 ·subst h1
  simp [h, List.getD_eq_getElem?_getD]
  omega
 ·rw [if_neg h1]
  by_cases h2 : j < i
  ·simp [h2, show j < i + 1 by omega]
  ·simp only [h2, if_false, show ¬ j < i + 1 by omega]
   by_cases h3 : j - i < xs.length + 1 - i
   ·rw [if_pos h3, if_pos (by omega)]
   ·rw [if_neg h3, if_neg (by omega)]
theorem begun_mark {α : Type} (xs : List α) (z mk : List Value) : (begun xs xs.length z).set xs.length (.inr mk) = marked xs mk := by
 simp [begun, marked]
end
section
open Go.Proofs.YtllcmggmcogokaaDoorW.PrintWords.Kd
theorem begun_at {α : Type} (xs : List α) (i : Nat) (z : List Value) (d : α ⊕ List Value) (h : i ≤ xs.length) : (begun xs i z).getD i d = .inr z := by
 rw [List.getD_eq_getElem?_getD, begun, List.getElem?_append_right (by simp; omega)]
 simp only [List.length_map, List.length_take, Nat.min_eq_left h, Nat.sub_self]
 rw [List.getElem?_replicate, if_pos (by omega)]
 rfl
section
variable {α : Type} {d : Kd α} {e base g n cap : Nat} {ok okp : Nat → Prop} {W : World} {xs : List α} {z : List Value}
theorem xbe {i : Nat} (h : (orC d).R e W base ok (.slice (some ⟨g, 0, none⟩) n cap) (begun xs i z)) (hi : i ≤ xs.length) : z.length = d.sz ∧ (∀ j u, z[j]? = some u → W.cell? ⟨g, i * d.sz + j, none⟩ = some u) ∧ ∀ j, W.frozen? ⟨g, i * d.sz + j, none⟩ = false := by
 have hn := (R_reads' h).1
 rw [xbh _ _ _ hi] at hn
 obtain ⟨c, h1, h2, h3, h4⟩ := R_elem h (.inr z) (i : Int) (by omega) (by omega)
 rw [show ((i : Int)).toNat = i by omega, begun_at _ _ _ _ hi] at h2
 obtain ⟨rfl, h5⟩ := h2
 exact ⟨h5.1, h3, h4⟩
theorem begun_put {i : Nat} (h : (orC d).R e W base ok (.slice (some ⟨g, 0, none⟩) n cap) (begun xs i z)) (hi : i < xs.length) (x0 : α) {seg : List Value} (hM : d.M W base okp (xs.getD i x0) seg) (hokp : ∀ k, okp k → ok k ∧ k ≠ g) :
  (orC d).R e (W.setCells g (i * d.sz) seg) base ok (.slice (some ⟨g, 0, none⟩) n cap) (begun xs (i + 1) z) ∧ W.grownBy (W.setCells g (i * d.sz) seg) (some g) := by
 have hn := (R_reads' h).1
 rw [xbh _ _ _ (by omega)] at hn
 have hs := d.K_len (d.K_of_M hM)
 obtain ⟨h1, h2, h3⟩ := xbe h (by omega)
 have := R_seg h (i : Int) (by omega) (by omega) (c := z) (seg := seg) (j := 0) (x' := .inl (xs.getD i x0)) (okp := okp) h1 h2 (by show 0 + seg.length ≤ d.sz; omega) (by
  show d.M W base okp (xs.getD i x0) _
  rw [List.take_zero, List.nil_append, Nat.zero_add, List.drop_eq_nil_of_le (by omega), List.append_nil]
  exact hM) hokp
 rw [show ((i : Int)).toNat = i by omega, begun_set _ _ _ _ hi] at this
 exact this
theorem begun_end (h : (orC d).R e W base ok (.slice (some ⟨g, 0, none⟩) n cap) (begun xs xs.length z)) {seg : List Value} (hM : Raw d.sz seg) :
  (orC d).R e (W.setCells g (xs.length * d.sz) seg) base ok (.slice (some ⟨g, 0, none⟩) n cap) (marked xs seg) ∧ W.grownBy (W.setCells g (xs.length * d.sz) seg) (some g) := by
 have hn := (R_reads' h).1
 rw [xbh _ _ _ (Nat.le_refl _)] at hn
 obtain ⟨h1, h2, h3⟩ := xbe h (Nat.le_refl _)
 have hs := hM.1
 have := R_seg h (xs.length : Int) (by omega) (by omega) (c := z) (seg := seg) (j := 0) (x' := .inr seg) (okp := fun _ => False) h1 h2 (by show 0 + seg.length ≤ d.sz; omega) (by
  show _ = seg ∧ Raw d.sz seg
  rw [List.take_zero, List.nil_append, Nat.zero_add, List.drop_eq_nil_of_le (by omega), List.append_nil]
  exact ⟨rfl, hM⟩) (fun _ h => h.elim)
 rw [show ((xs.length : Int)).toNat = xs.length by omega, begun_mark] at this
 exact this
end
end
def spare : ByteArray := wordOf 777777
theorem xbn : w1_word.f 777777 = some spare := by
 rw [w1_word.f, if_pos ⟨by decide, by decide, by decide +kernel⟩, spare]
theorem cut_up {P : Program} (t e : TypeId) (kh : IntKind) {i : TypeInfo} (ht : P.underlying t = some (.slice e)) (hi : P.info? e = some i) (A : Option Addr) (n c : Nat) (j : Int) (h0 : 0 ≤ j) (hm : j ≤ c) :
  ∀ W : World, (Instr.slice t (.slice A n c) none (some (.int kh j)) none).run P W = .ok (.slice A j.toNat c) W := by
 intro W
 have hel : P.elem t = e := by simp [Program.elem, ht]
 have hu : P.underlying t = some (.slice (P.elem t)) := by rw [hel]; exact ht
 have ha : (A.map fun x => x.add 0) = A := by cases A <;> simp [Addr.add]
 rw [run_slice_h W t A n c hu kh j h0 (by omega), hel]
 simp [Go.sizeOf, typeInfo, hi, sliced, Result.andThen, ha]
theorem wrap64_next {n k : Nat} (h : n < 2000000000000) (hk : k ≤ n) : wrap64 ((k : Int) + 1) = ((k + 1 : Nat) : Int) := by unfold wrap64; omega
end Go.Proofs.YtllcmggmcogokaaDoor.PAll

end
section
namespace Go.Proofs.YtllcmggmcogokaaDoor.PAll
open Go.RowKit Go.Proofs.YtllcmggmcogokaaDoorW.PrintWords Go.Proofs.YtllcmggmcogokaaDoorW.PrintLast Go.Proofs.YtllcmggmcogokaaDoorW.PrintMore
attribute [local go_sem] max2_int min2_int max_two min_two max_three min_three max_four min_four
def mk31 : List Value := [.int .i8 99, .string spare, .int .i8 0, .int .i64 0, .string ⟨#[]⟩, .slice none 0 0]
set_option maxHeartbeats 4000000 in
set_option maxRecDepth 100000 in
theorem markExpr_mark (w : World) (hT : TabB w) : Calls Tryd.prog 123 #[.int .i64 777777] w fun e w' => e = .returned (.agg #[.int .i8 99, .string spare, .int .i8 0, .int .i64 0, .string ⟨#[]⟩, .slice none 0 0]) ∧ Below w.heap.size w w' := by
 have HT := Lib.hid hT
 clear hT
 go_enter Tryd.func123, Tryd.ntmps123
 go_wp2_with fail
 refine (w1_word.calls 777777 spare _ (HT.out.below (xab (Below.refl _ _) _)) xbn).mono ?_
 rintro e w2 ⟨rfl, hb⟩
 have hk := xam (xaz w _) hb
 have HB := Lib.hid (xah (xab (Below.refl _ _) _) hb)
 clear hb
 have z0 := xae hk 0
 have z1 := xae hk 1
 have z2 := xae hk 2
 have z3 := xae hk 3
 have z4 := xae hk 4
 have z5 := xae hk 5
 have f0 := xal hk 0
 have f1 := xal hk 1
 have f2 := xal hk 2
 have f3 := xal hk 3
 have f4 := xal hk 4
 have f5 := xal hk 5
 have HK := Lib.hid hk
 clear hk
 simp at z0 z1 z2 z3 z4 z5
 go_wp2_with fail
 refine bodyPost_ret (results_cell_row rfl _ _ w.heap.size 31 #[.int .i8 99, .string spare, .int .i8 0, .int .i64 0, .string ⟨#[]⟩, .slice none 0 0] (0, 0) _ rfl (xas (xas (xas (xas (xas (xas HK.out 0 _ rfl) 1 _ rfl) 2 _ rfl) 3 _ rfl) 4 _ rfl) 5 _ rfl) Tryd.underlying31 rfl (by kernel_rfl)) rfl ?_
 exact ⟨rfl, xad (xad (xad (xad (xad (xad HB.out (Nat.le_refl _)) (Nat.le_refl _)) (Nat.le_refl _)) (Nat.le_refl _)) (Nat.le_refl _)) (Nat.le_refl _)⟩
def F31t (d : Kd S31) : Kd S31 := Kd.iso (Kd.pair (Kd.int .i8) (Kd.pair k28 (twin 31 d mk31))) (fun x : S31 => (x.f0, x.f1, x.f2))
theorem mono31t : Kd.Mono F31t := Kd.mono_iso _ (Kd.mono_pair (Kd.mono_const _) (Kd.mono_pair (Kd.mono_const _) (mono_twin 31 mk31 Kd.mono_id)))
theorem sub31t : Kd.Sub F31t [31] := Kd.sub_iso _ (Kd.sub_pair (Kd.sub_const _ (by decide)) (Kd.sub_pair (Kd.sub_const _ (by decide)) (sub_twin 31 mk31 (by decide) Kd.sub_id)))
theorem sz31t : ∀ n, (Kd.upto F31t 6 [31] n).sz = 6 := Kd.upto_sz (fun _ => rfl)
def k31t : Kd S31 := Kd.fix F31t 6 [31] sz31t (Kd.upto_E sub31t)
theorem orC_C {n : Nat} {w : World} {A : Option Addr} {m : Nat} {xs : List (S31 ⊕ List Value)} (h : (orC (Kd.upto F31t 6 [31] n)).C w A m xs) : (orC k31t).C w A m xs :=
 Kd.C_imp (sz31t n) (orC_imp (d := Kd.upto F31t 6 [31] n) (d' := k31t) (sz31t n) (fun w x cs h => ⟨n, h⟩)) h
theorem orC_R {n : Nat} {e : Nat} {w : World} {base : Nat} {ok : Nat → Prop} {v : Value} {xs : List (S31 ⊕ List Value)} (h : (orC (Kd.upto F31t 6 [31] n)).R e w base ok v xs) : (orC k31t).R e w base ok v xs :=
 Kd.R_imp (sz31t n) (orM_imp (d := Kd.upto F31t 6 [31] n) (d' := k31t) (sz31t n) (fun w base ok x cs h => ⟨n, h⟩)) h
theorem k31t_open {w : World} {x : S31} {cs : List Value} (h : k31t.K w x cs) : ∃ A5 c5, cs = [.int .i8 x.f0, .string x.f1.f0, .int .i8 x.f1.f1.f0, .int .i64 x.f1.f1.f1, .string x.f1.f1.f2, .slice A5 x.f2.length c5] ∧ x.f2.length + 1 ≤ c5 ∧ (orC k31t).C w A5 (x.f2.length + 1) (marked x.f2 mk31) := by
 obtain ⟨n, h⟩ := h
 cases n with
 | zero => exact h.elim
 | succ n =>
  obtain ⟨_, _, rfl, rfl, ⟨_, _, rfl, s1, ⟨A5, c5, rfl, l5, g5⟩⟩⟩ := h
  obtain rfl := k28_open s1
  exact ⟨A5, c5, rfl, l5, orC_C g5⟩
theorem k31t_openM {w : World} {base : Nat} {ok : Nat → Prop} {x : S31} {cs : List Value} (h : k31t.M w base ok x cs) : ∃ A5 c5, cs = [.int .i8 x.f0, .string x.f1.f0, .int .i8 x.f1.f1.f0, .int .i64 x.f1.f1.f1, .string x.f1.f1.f2, .slice A5 x.f2.length c5] ∧ (orC k31t).R 31 w base ok (.slice A5 (x.f2.length + 1) c5) (marked x.f2 mk31) := by
 obtain ⟨n, h⟩ := h
 cases n with
 | zero => exact h.elim
 | succ n =>
  obtain ⟨_, _, rfl, rfl, ⟨_, _, rfl, s1, ⟨A5, c5, rfl, g5⟩⟩⟩ := h
  obtain rfl := k28_openM s1
  exact ⟨A5, c5, rfl, orC_R g5⟩
end Go.Proofs.YtllcmggmcogokaaDoor.PAll
end
