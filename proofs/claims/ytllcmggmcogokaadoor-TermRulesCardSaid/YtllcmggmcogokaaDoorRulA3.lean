-- Written by programs of this work and by hand, joined by a program. Lean checks it.
import Derived.Maps.OwnOps
import Derived.Maps.OwnSet
import Derived.Test.YtllcmggmcogokaaDoorRulA2
set_option linter.unusedVariables false
set_option linter.unusedSimpArgs false
section
namespace Go.Proofs.YtllcmggmcogokaaDoor.PAll
open Go.RowKit Go.Proofs.YtllcmggmcogokaaDoorW.PrintWords Go.Proofs.YtllcmggmcogokaaDoorW.PrintLast Go.Proofs.YtllcmggmcogokaaDoorW.PrintMore
attribute [local go_sem] max2_int min2_int max_two min_two max_three min_three max_four min_four
set_option maxHeartbeats 8000000 in
set_option maxRecDepth 100000 in
theorem r1_Variable.calls (k : Nat) (a0 : ByteArray) (r : Bool) (w : World) (h : r1_Variable.f k a0 = some r) :
  Calls Tryd.prog 130 #[.string a0] w fun e w' => e = .returned (.bool r) ∧ Drawn0 w w' := by
 have H : ((r1_written.f k a0 65 90).bind fun t178 => (some t178)) = some r := h
 clear h
 replace H := Option.bind_eq_some_iff.mp H
 obtain ⟨t178, A20, H⟩ := H
 replace H : (some t178) = some r := H
 have A2 := Aside0.mk A20
 clear A20
 obtain rfl := Option.some.inj H
 go_enter Tryd.func130, Tryd.ntmps130
 go_wp2_with (first | ((with_reducible refine xau (f := 133) rfl ?_); refine goesL_ (some 4) rfl rfl Tryd.func133 (by kernel_rfl) rfl #[.string a0, .int .u8 65, .int .u8 90] rfl (by (try simp only [List.map_toArray, List.map_cons, List.map_nil]); first | done | rfl | (simp only [List.length_drop, List.length_take]; rfl)) ?_; (with_reducible refine (r1_written.calls k a0 65 90 t178 _ A2.out).mono ?_); rintro e w' ⟨rfl, ⟨nd, rfl⟩⟩; refine ⟨_, rfl, ?_⟩))
 go_ret
 exact ⟨by first | rfl | (simp; done) | (simp [*]; done), by repeat (first | exact Drawn0.refl _ | apply Drawn0.step)⟩
end Go.Proofs.YtllcmggmcogokaaDoor.PAll
end
section
namespace Go.Proofs.YtllcmggmcogokaaDoor.PAll
open Go.RowKit Go.Proofs.YtllcmggmcogokaaDoorW.PrintWords Go.Proofs.YtllcmggmcogokaaDoorW.PrintLast Go.Proofs.YtllcmggmcogokaaDoorW.PrintMore
attribute [local go_sem] max2_int min2_int max_two min_two max_three min_three max_four min_four
attribute [local go_sem high] eqA26
def r4_term.f (k : Nat) (a0_0 : ByteArray) (a0_1 : Int) (a0_2 : Int) (a0_3 : ByteArray) : Option (Bool) := if a0_0.toList = ([] : List UInt8) then ((r1_Check.f a0_1 a0_2 a0_3).bind fun t181 => (some (t181 == 0))) else (if a0_0.toList = ([95] : List UInt8) then (some (a0_1 == 0 && (a0_2 == 0 && (a0_3.toList == ([] : List UInt8))))) else ((r1_Variable.f k a0_0).bind fun t182 => (if t182 = true then (some (a0_1 == 0 && (a0_2 == 0 && (a0_3.toList == ([] : List UInt8))))) else (some false))))
set_option maxHeartbeats 8000000 in
set_option maxRecDepth 100000 in
theorem r4_term.calls (k : Nat) (a0_0 : ByteArray) (a0_1 : Int) (a0_2 : Int) (a0_3 : ByteArray) (r : Bool) (w : World) (h : r4_term.f k a0_0 a0_1 a0_2 a0_3 = some r) :
  Calls Tryd.prog 100 #[.agg #[.string a0_0, .int .i8 a0_1, .int .i64 a0_2, .string a0_3]] w fun e w' => e = .returned (.bool r) ∧ Below w.heap.size w w' := by
 have hu28 := Tryd.underlying28
 have hu26 := Tryd.underlying26
 have HB := Aside0.mk (Below.refl w.heap.size w)
 have H : (if a0_0.toList = ([] : List UInt8) then ((r1_Check.f a0_1 a0_2 a0_3).bind fun t181 => (some (t181 == 0))) else (if a0_0.toList = ([95] : List UInt8) then (some (a0_1 == 0 && (a0_2 == 0 && (a0_3.toList == ([] : List UInt8))))) else ((r1_Variable.f k a0_0).bind fun t182 => (if t182 = true then (some (a0_1 == 0 && (a0_2 == 0 && (a0_3.toList == ([] : List UInt8))))) else (some false))))) = some r := h
 clear h
 by_cases c2 : a0_0.toList = ([] : List UInt8)
 ·rw [if_pos c2] at H
  have c2b0 : (a0_0.toList == ([] : List UInt8)) = true := beq_iff_eq.mpr c2
  have c2b1 : (a0_0.toList != ([] : List UInt8)) = false := bne_eq_false_iff_eq.mpr c2
  clear c2
  replace H := Option.bind_eq_some_iff.mp H
  obtain ⟨t181, A30, H⟩ := H
  replace H : (some (t181 == 0)) = some r := H
  have A3 := Aside0.mk A30
  clear A30
  obtain rfl := Option.some.inj H
  go_enter Tryd.func100, Tryd.ntmps100
  go_wp2_with (first | ((with_reducible refine xar (N := 1) rfl ?_); refine xap ?hg (N := 1) ?hd (cs := #[.string a0_0, .int .i8 a0_1, .int .i64 a0_2, .string a0_3]) (t := 28) ?hr ?_; (case hd => rfl); (case hg => rfl); (case hr => first | (go_simp; done) | (go_simp; rfl)); intro gb179 hg w4 hbox hb; have n0_ := Aside0.mk (xah (by repeat (first | (with_reducible first | exact HB.out | apply xab | apply xaa | apply xac) | exact HB.out)) hb); have n1_ := Aside0.mk (hbox); have n2_ := Aside0.mk ((by rw [hg]; exact (xao (by repeat (first | (with_reducible first | exact HB.out | apply xab | apply xaa | apply xac) | exact HB.out))) : w.heap.size ≤ gb179)); have n3_ := n2_; clear HB; have HB := n0_; have BK179 := n1_; have GW179 := n2_; have GE179 := n3_; clear n0_ n1_ n2_ n3_; clear hb hbox hg) | ((with_reducible refine xar (N := 3) rfl ?_); refine xap ?hg (N := 3) ?hd (cs := #[.int .i8 0, .int .i64 0, .string (⟨#[]⟩ : ByteArray)]) (t := 26) ?hr ?_; (case hd => rfl); (case hg => rfl); (case hr => first | (go_simp; done) | (go_simp; rfl)); intro gb180 hg w5 hbox hb; have n0_ := Aside0.mk (xam (g := gb179) (o := .cells #[.string a0_0, .int .i8 a0_1, .int .i64 a0_2, .string a0_3] 28 (0, 0)) (by (with_reducible repeat (first | refine xag ?_ _ | refine xai ?_ | refine xaf ?_ _)); exact BK179.out) hb); have n1_ := Aside0.mk (xah (by repeat (first | (with_reducible first | exact HB.out | apply xab | apply xaa | apply xac | refine xad ?_ GE179.out) | exact HB.out)) hb); have n2_ := Aside0.mk (hbox); have n3_ := Aside0.mk ((by rw [hg]; exact (xao (by repeat (first | (with_reducible first | exact HB.out | apply xab | apply xaa | apply xac | refine xad ?_ GE179.out) | exact HB.out))) : w.heap.size ≤ gb180)); have n4_ := n3_; have n5_ := Aside0.mk ((by rw [hg]; exact Nat.ne_of_lt (blk_lt (g := gb179) (o := .cells #[.string a0_0, .int .i8 a0_1, .int .i64 a0_2, .string a0_3] 28 (0, 0)) (by (with_reducible repeat (first | refine xag ?_ _ | refine xai ?_ | refine xaf ?_ _)); exact BK179.out)) : gb179 ≠ gb180)); have n6_ := Aside0.mk ((by rw [hg]; exact Nat.ne_of_gt (blk_lt (g := gb179) (o := .cells #[.string a0_0, .int .i8 a0_1, .int .i64 a0_2, .string a0_3] 28 (0, 0)) (by (with_reducible repeat (first | refine xag ?_ _ | refine xai ?_ | refine xaf ?_ _)); exact BK179.out)) : gb180 ≠ gb179)); clear BK179; clear HB; have BK179 := n0_; have HB := n1_; have BK180 := n2_; have GW180 := n3_; have GE180 := n4_; have NB179_180 := n5_; have NB180_179 := n6_; clear n0_ n1_ n2_ n3_ n4_ n5_ n6_; clear hb hbox hg; have hnb6 := NB180_179.out; have hnc6 := NB179_180.out; obtain ⟨hcz7_0, hcz7_1, hcz7_2⟩ := cz3 BK180.out; obtain ⟨hfz7_0, hfz7_1, hfz7_2⟩ := fz3 BK180.out; obtain ⟨hcz8_0, hcz8_1, hcz8_2, hcz8_3⟩ := cz4 BK179.out; obtain ⟨hfz8_0, hfz8_1, hfz8_2, hfz8_3⟩ := fz4 BK179.out) | ((with_reducible refine xau (f := 13) rfl ?_); refine goesL_ (some 11) rfl rfl Tryd.func13 (by kernel_rfl) rfl #[.agg #[.int .i8 a0_1, .int .i64 a0_2, .string a0_3]] rfl (by (try simp only [List.map_toArray, List.map_cons, List.map_nil]); first | done | rfl | (simp only [List.length_drop, List.length_take]; rfl)) ?_; (with_reducible refine (r1_Check.calls a0_1 a0_2 a0_3 t181 _ A3.out).mono ?_); rintro e w9 ⟨rfl, hb⟩; refine ⟨_, rfl, ?_⟩; have n0_ := Aside0.mk (xam (g := gb179) (o := .cells #[.string a0_0, .int .i8 a0_1, .int .i64 a0_2, .string a0_3] 28 (0, 0)) (by (with_reducible repeat (first | refine xag ?_ _ | refine xai ?_ | refine xaf ?_ _)); refine xax ?_ NB179_180.out _; (with_reducible repeat (first | refine xag ?_ _ | refine xai ?_ | refine xaf ?_ _)); refine xax ?_ NB179_180.out _; (with_reducible repeat (first | refine xag ?_ _ | refine xai ?_ | refine xaf ?_ _)); refine xax ?_ NB179_180.out _; (with_reducible repeat (first | refine xag ?_ _ | refine xai ?_ | refine xaf ?_ _)); exact BK179.out) hb); have n1_ := Aside0.mk (xam (g := gb180) (o := .cells #[.int .i8 0, .int .i64 0, .string (⟨#[]⟩ : ByteArray)] 26 (0, 0)) (by (with_reducible repeat (first | refine xag ?_ _ | refine xai ?_ | refine xaf ?_ _)); refine xas (cs := #[.int .i8 0, .int .i64 0, .string (⟨#[]⟩ : ByteArray)]) ?_ 2 _ rfl; (with_reducible repeat (first | refine xag ?_ _ | refine xai ?_ | refine xaf ?_ _)); refine xas (cs := #[.int .i8 0, .int .i64 0, .string (⟨#[]⟩ : ByteArray)]) ?_ 1 _ rfl; (with_reducible repeat (first | refine xag ?_ _ | refine xai ?_ | refine xaf ?_ _)); refine xas (cs := #[.int .i8 0, .int .i64 0, .string (⟨#[]⟩ : ByteArray)]) ?_ 0 _ rfl; (with_reducible repeat (first | refine xag ?_ _ | refine xai ?_ | refine xaf ?_ _)); exact BK180.out) hb); have n2_ := Aside0.mk (xah (by repeat (first | (with_reducible first | exact HB.out | apply xab | apply xaa | apply xac | refine xad ?_ GE179.out | refine xad ?_ GE180.out) | exact HB.out)) hb); clear BK179; clear BK180; clear HB; have BK179 := n0_; have BK180 := n1_; have HB := n2_; clear n0_ n1_ n2_; (try clear hb); (try clear hb2); (try clear hk); (try clear hi)))
  go_ret
  exact ⟨by first | rfl | (simp [xak, xaj] <;> rfl) | (simp [*, xak, xaj] <;> rfl), by repeat (first | (with_reducible first | exact HB.out | apply xab | apply xaa | apply xac | refine xad ?_ GE179.out | refine xad ?_ GE180.out) | exact HB.out)⟩
 ·rw [if_neg c2] at H
  have c2b0 : (a0_0.toList == ([] : List UInt8)) = false := beq_eq_false_iff_ne.mpr c2
  have c2b1 : (a0_0.toList != ([] : List UInt8)) = true := bne_iff_ne.mpr c2
  by_cases c10 : a0_0.toList = ([95] : List UInt8)
  ·rw [if_pos c10] at H
   have c10b0 : (a0_0.toList == ([95] : List UInt8)) = true := beq_iff_eq.mpr c10
   have c10b1 : (a0_0.toList != ([95] : List UInt8)) = false := bne_eq_false_iff_eq.mpr c10
   clear c10
   obtain rfl := Option.some.inj H
   go_enter Tryd.func100, Tryd.ntmps100
   go_wp2_with (first | ((with_reducible refine xar (N := 1) rfl ?_); refine xap ?hg (N := 1) ?hd (cs := #[.string a0_0, .int .i8 a0_1, .int .i64 a0_2, .string a0_3]) (t := 28) ?hr ?_; (case hd => rfl); (case hg => rfl); (case hr => first | (go_simp; done) | (go_simp; rfl)); intro gb179 hg w11 hbox hb; have n0_ := Aside0.mk (xah (by repeat (first | (with_reducible first | exact HB.out | apply xab | apply xaa | apply xac) | exact HB.out)) hb); have n1_ := Aside0.mk (hbox); have n2_ := Aside0.mk ((by rw [hg]; exact (xao (by repeat (first | (with_reducible first | exact HB.out | apply xab | apply xaa | apply xac) | exact HB.out))) : w.heap.size ≤ gb179)); have n3_ := n2_; clear HB; have HB := n0_; have BK179 := n1_; have GW179 := n2_; have GE179 := n3_; clear n0_ n1_ n2_ n3_; clear hb hbox hg) | ((with_reducible refine xar (N := 3) rfl ?_); refine xap ?hg (N := 3) ?hd (cs := #[.int .i8 0, .int .i64 0, .string (⟨#[]⟩ : ByteArray)]) (t := 26) ?hr ?_; (case hd => rfl); (case hg => rfl); (case hr => first | (go_simp; done) | (go_simp; rfl)); intro gb180 hg w12 hbox hb; have n0_ := Aside0.mk (xam (g := gb179) (o := .cells #[.string a0_0, .int .i8 a0_1, .int .i64 a0_2, .string a0_3] 28 (0, 0)) (by (with_reducible repeat (first | refine xag ?_ _ | refine xai ?_ | refine xaf ?_ _)); exact BK179.out) hb); have n1_ := Aside0.mk (xah (by repeat (first | (with_reducible first | exact HB.out | apply xab | apply xaa | apply xac | refine xad ?_ GE179.out) | exact HB.out)) hb); have n2_ := Aside0.mk (hbox); have n3_ := Aside0.mk ((by rw [hg]; exact (xao (by repeat (first | (with_reducible first | exact HB.out | apply xab | apply xaa | apply xac | refine xad ?_ GE179.out) | exact HB.out))) : w.heap.size ≤ gb180)); have n4_ := n3_; have n5_ := Aside0.mk ((by rw [hg]; exact Nat.ne_of_lt (blk_lt (g := gb179) (o := .cells #[.string a0_0, .int .i8 a0_1, .int .i64 a0_2, .string a0_3] 28 (0, 0)) (by (with_reducible repeat (first | refine xag ?_ _ | refine xai ?_ | refine xaf ?_ _)); exact BK179.out)) : gb179 ≠ gb180)); have n6_ := Aside0.mk ((by rw [hg]; exact Nat.ne_of_gt (blk_lt (g := gb179) (o := .cells #[.string a0_0, .int .i8 a0_1, .int .i64 a0_2, .string a0_3] 28 (0, 0)) (by (with_reducible repeat (first | refine xag ?_ _ | refine xai ?_ | refine xaf ?_ _)); exact BK179.out)) : gb180 ≠ gb179)); clear BK179; clear HB; have BK179 := n0_; have HB := n1_; have BK180 := n2_; have GW180 := n3_; have GE180 := n4_; have NB179_180 := n5_; have NB180_179 := n6_; clear n0_ n1_ n2_ n3_ n4_ n5_ n6_; clear hb hbox hg; have hnb13 := NB180_179.out; have hnc13 := NB179_180.out; obtain ⟨hcz14_0, hcz14_1, hcz14_2⟩ := cz3 BK180.out; obtain ⟨hfz14_0, hfz14_1, hfz14_2⟩ := fz3 BK180.out; obtain ⟨hcz15_0, hcz15_1, hcz15_2, hcz15_3⟩ := cz4 BK179.out; obtain ⟨hfz15_0, hfz15_1, hfz15_2, hfz15_3⟩ := fz4 BK179.out))
   go_ret
   exact ⟨by first | rfl | (simp [xak, xaj] <;> rfl) | (simp [*, xak, xaj] <;> rfl), by repeat (first | (with_reducible first | exact HB.out | apply xab | apply xaa | apply xac | refine xad ?_ GE179.out | refine xad ?_ GE180.out) | exact HB.out)⟩
  ·rw [if_neg c10] at H
   have c10b0 : (a0_0.toList == ([95] : List UInt8)) = false := beq_eq_false_iff_ne.mpr c10
   have c10b1 : (a0_0.toList != ([95] : List UInt8)) = true := bne_iff_ne.mpr c10
   replace H := Option.bind_eq_some_iff.mp H
   obtain ⟨t182, A160, H⟩ := H
   replace H : (if t182 = true then (some (a0_1 == 0 && (a0_2 == 0 && (a0_3.toList == ([] : List UInt8))))) else (some false)) = some r := H
   have A16 := Aside0.mk A160
   clear A160
   by_cases c17 : t182 = true
   ·subst c17
    have H1 : (some (a0_1 == 0 && (a0_2 == 0 && (a0_3.toList == ([] : List UInt8))))) = some r := by rw [if_pos rfl] at H; exact H
    clear H
    have H := H1
    clear H1
    obtain rfl := Option.some.inj H
    go_enter Tryd.func100, Tryd.ntmps100
    go_wp2_with (first | ((with_reducible refine xar (N := 1) rfl ?_); refine xap ?hg (N := 1) ?hd (cs := #[.string a0_0, .int .i8 a0_1, .int .i64 a0_2, .string a0_3]) (t := 28) ?hr ?_; (case hd => rfl); (case hg => rfl); (case hr => first | (go_simp; done) | (go_simp; rfl)); intro gb179 hg w18 hbox hb; have n0_ := Aside0.mk (xah (by repeat (first | (with_reducible first | exact HB.out | apply xab | apply xaa | apply xac) | exact HB.out)) hb); have n1_ := Aside0.mk (hbox); have n2_ := Aside0.mk ((by rw [hg]; exact (xao (by repeat (first | (with_reducible first | exact HB.out | apply xab | apply xaa | apply xac) | exact HB.out))) : w.heap.size ≤ gb179)); have n3_ := n2_; clear HB; have HB := n0_; have BK179 := n1_; have GW179 := n2_; have GE179 := n3_; clear n0_ n1_ n2_ n3_; clear hb hbox hg) | ((with_reducible refine xar (N := 3) rfl ?_); refine xap ?hg (N := 3) ?hd (cs := #[.int .i8 0, .int .i64 0, .string (⟨#[]⟩ : ByteArray)]) (t := 26) ?hr ?_; (case hd => rfl); (case hg => rfl); (case hr => first | (go_simp; done) | (go_simp; rfl)); intro gb180 hg w19 hbox hb; have n0_ := Aside0.mk (xam (g := gb179) (o := .cells #[.string a0_0, .int .i8 a0_1, .int .i64 a0_2, .string a0_3] 28 (0, 0)) (by (with_reducible repeat (first | refine xag ?_ _ | refine xai ?_ | refine xaf ?_ _)); exact BK179.out) hb); have n1_ := Aside0.mk (xah (by repeat (first | (with_reducible first | exact HB.out | apply xab | apply xaa | apply xac | refine xad ?_ GE179.out) | exact HB.out)) hb); have n2_ := Aside0.mk (hbox); have n3_ := Aside0.mk ((by rw [hg]; exact (xao (by repeat (first | (with_reducible first | exact HB.out | apply xab | apply xaa | apply xac | refine xad ?_ GE179.out) | exact HB.out))) : w.heap.size ≤ gb180)); have n4_ := n3_; have n5_ := Aside0.mk ((by rw [hg]; exact Nat.ne_of_lt (blk_lt (g := gb179) (o := .cells #[.string a0_0, .int .i8 a0_1, .int .i64 a0_2, .string a0_3] 28 (0, 0)) (by (with_reducible repeat (first | refine xag ?_ _ | refine xai ?_ | refine xaf ?_ _)); exact BK179.out)) : gb179 ≠ gb180)); have n6_ := Aside0.mk ((by rw [hg]; exact Nat.ne_of_gt (blk_lt (g := gb179) (o := .cells #[.string a0_0, .int .i8 a0_1, .int .i64 a0_2, .string a0_3] 28 (0, 0)) (by (with_reducible repeat (first | refine xag ?_ _ | refine xai ?_ | refine xaf ?_ _)); exact BK179.out)) : gb180 ≠ gb179)); clear BK179; clear HB; have BK179 := n0_; have HB := n1_; have BK180 := n2_; have GW180 := n3_; have GE180 := n4_; have NB179_180 := n5_; have NB180_179 := n6_; clear n0_ n1_ n2_ n3_ n4_ n5_ n6_; clear hb hbox hg; have hnb20 := NB180_179.out; have hnc20 := NB179_180.out; obtain ⟨hcz21_0, hcz21_1, hcz21_2⟩ := cz3 BK180.out; obtain ⟨hfz21_0, hfz21_1, hfz21_2⟩ := fz3 BK180.out; obtain ⟨hcz22_0, hcz22_1, hcz22_2, hcz22_3⟩ := cz4 BK179.out; obtain ⟨hfz22_0, hfz22_1, hfz22_2, hfz22_3⟩ := fz4 BK179.out) | ((with_reducible refine xau (f := 130) rfl ?_); refine goesL_ (some 21) rfl rfl Tryd.func130 (by kernel_rfl) rfl #[.string a0_0] rfl (by (try simp only [List.map_toArray, List.map_cons, List.map_nil]); first | done | rfl | (simp only [List.length_drop, List.length_take]; rfl)) ?_; (with_reducible refine (r1_Variable.calls k a0_0 true _ A16.out).mono ?_); rintro e w' ⟨rfl, ⟨nd, rfl⟩⟩; refine ⟨_, rfl, ?_⟩))
    go_ret
    exact ⟨by first | rfl | (simp [xak, xaj] <;> rfl) | (simp [*, xak, xaj] <;> rfl), by repeat (first | (with_reducible first | exact HB.out | apply xab | apply xaa | apply xac | refine xad ?_ GE179.out | refine xad ?_ GE180.out) | exact HB.out)⟩
   ·replace c17 := Bool.eq_false_iff.mpr c17
    subst c17
    have H1 : (some false) = some r := by rw [if_neg (show ¬ (false = true) by decide)] at H; exact H
    clear H
    have H := H1
    clear H1
    obtain rfl := Option.some.inj H
    go_enter Tryd.func100, Tryd.ntmps100
    go_wp2_with (first | ((with_reducible refine xar (N := 1) rfl ?_); refine xap ?hg (N := 1) ?hd (cs := #[.string a0_0, .int .i8 a0_1, .int .i64 a0_2, .string a0_3]) (t := 28) ?hr ?_; (case hd => rfl); (case hg => rfl); (case hr => first | (go_simp; done) | (go_simp; rfl)); intro gb179 hg w23 hbox hb; have n0_ := Aside0.mk (xah (by repeat (first | (with_reducible first | exact HB.out | apply xab | apply xaa | apply xac) | exact HB.out)) hb); have n1_ := Aside0.mk (hbox); have n2_ := Aside0.mk ((by rw [hg]; exact (xao (by repeat (first | (with_reducible first | exact HB.out | apply xab | apply xaa | apply xac) | exact HB.out))) : w.heap.size ≤ gb179)); have n3_ := n2_; clear HB; have HB := n0_; have BK179 := n1_; have GW179 := n2_; have GE179 := n3_; clear n0_ n1_ n2_ n3_; clear hb hbox hg) | ((with_reducible refine xar (N := 3) rfl ?_); refine xap ?hg (N := 3) ?hd (cs := #[.int .i8 0, .int .i64 0, .string (⟨#[]⟩ : ByteArray)]) (t := 26) ?hr ?_; (case hd => rfl); (case hg => rfl); (case hr => first | (go_simp; done) | (go_simp; rfl)); intro gb180 hg w24 hbox hb; have n0_ := Aside0.mk (xam (g := gb179) (o := .cells #[.string a0_0, .int .i8 a0_1, .int .i64 a0_2, .string a0_3] 28 (0, 0)) (by (with_reducible repeat (first | refine xag ?_ _ | refine xai ?_ | refine xaf ?_ _)); exact BK179.out) hb); have n1_ := Aside0.mk (xah (by repeat (first | (with_reducible first | exact HB.out | apply xab | apply xaa | apply xac | refine xad ?_ GE179.out) | exact HB.out)) hb); have n2_ := Aside0.mk (hbox); have n3_ := Aside0.mk ((by rw [hg]; exact (xao (by repeat (first | (with_reducible first | exact HB.out | apply xab | apply xaa | apply xac | refine xad ?_ GE179.out) | exact HB.out))) : w.heap.size ≤ gb180)); have n4_ := n3_; have n5_ := Aside0.mk ((by rw [hg]; exact Nat.ne_of_lt (blk_lt (g := gb179) (o := .cells #[.string a0_0, .int .i8 a0_1, .int .i64 a0_2, .string a0_3] 28 (0, 0)) (by (with_reducible repeat (first | refine xag ?_ _ | refine xai ?_ | refine xaf ?_ _)); exact BK179.out)) : gb179 ≠ gb180)); have n6_ := Aside0.mk ((by rw [hg]; exact Nat.ne_of_gt (blk_lt (g := gb179) (o := .cells #[.string a0_0, .int .i8 a0_1, .int .i64 a0_2, .string a0_3] 28 (0, 0)) (by (with_reducible repeat (first | refine xag ?_ _ | refine xai ?_ | refine xaf ?_ _)); exact BK179.out)) : gb180 ≠ gb179)); clear BK179; clear HB; have BK179 := n0_; have HB := n1_; have BK180 := n2_; have GW180 := n3_; have GE180 := n4_; have NB179_180 := n5_; have NB180_179 := n6_; clear n0_ n1_ n2_ n3_ n4_ n5_ n6_; clear hb hbox hg; have hnb25 := NB180_179.out; have hnc25 := NB179_180.out; obtain ⟨hcz26_0, hcz26_1, hcz26_2⟩ := cz3 BK180.out; obtain ⟨hfz26_0, hfz26_1, hfz26_2⟩ := fz3 BK180.out; obtain ⟨hcz27_0, hcz27_1, hcz27_2, hcz27_3⟩ := cz4 BK179.out; obtain ⟨hfz27_0, hfz27_1, hfz27_2, hfz27_3⟩ := fz4 BK179.out) | ((with_reducible refine xau (f := 130) rfl ?_); refine goesL_ (some 21) rfl rfl Tryd.func130 (by kernel_rfl) rfl #[.string a0_0] rfl (by (try simp only [List.map_toArray, List.map_cons, List.map_nil]); first | done | rfl | (simp only [List.length_drop, List.length_take]; rfl)) ?_; (with_reducible refine (r1_Variable.calls k a0_0 false _ A16.out).mono ?_); rintro e w' ⟨rfl, ⟨nd, rfl⟩⟩; refine ⟨_, rfl, ?_⟩))
    go_ret
    exact ⟨by first | rfl | (simp [xak, xaj] <;> rfl) | (simp [*, xak, xaj] <;> rfl), by repeat (first | (with_reducible first | exact HB.out | apply xab | apply xaa | apply xac | refine xad ?_ GE179.out | refine xad ?_ GE180.out) | exact HB.out)⟩
end Go.Proofs.YtllcmggmcogokaaDoor.PAll
end
section
namespace Go.Proofs.YtllcmggmcogokaaDoor.PAll
open Go.RowKit Go.Proofs.YtllcmggmcogokaaDoorW.PrintWords Go.Proofs.YtllcmggmcogokaaDoorW.PrintLast Go.Proofs.YtllcmggmcogokaaDoorW.PrintMore
attribute [local go_sem] max2_int min2_int max_two min_two max_three min_three max_four min_four
def r4_kids.j0 : Nat → Int → Bool → Option (Int)
 | 0, _, _ => none
 | k + 1, x0, x3 => if x3 = true then (some 1) else (if x0 ≥ 2 then (if x0 ≤ 7 then (some 2) else (some (-1))) else (some (-1)))
def r4_kids.f (k : Nat) (a0 : Int) : Option (Int) := if a0 = 1 then (r4_kids.j0 k a0 true) else (if a0 ≥ 8 then (r4_kids.j0 k a0 (decide (a0 ≤ 10))) else (r4_kids.j0 k a0 false))
set_option maxHeartbeats 8000000 in
set_option maxRecDepth 100000 in
theorem r4_kids.calls (k : Nat) (a0 : Int) (r : Int) (w : World) (h : r4_kids.f k a0 = some r) :
  Calls Tryd.prog 101 #[.int .i8 a0] w fun e w' => e = .returned (.int .i64 r) ∧ Drawn0 w w' := by
 have H : (if a0 = 1 then (r4_kids.j0 k a0 true) else (if a0 ≥ 8 then (r4_kids.j0 k a0 (decide (a0 ≤ 10))) else (r4_kids.j0 k a0 false))) = some r := h
 clear h
 have HC2 := Aside0.mk H
 clear H
 go_enter Tryd.func101, Tryd.ntmps101
 go_upto_region 1 with (fail)
 go_cut [3] (fun v3 wc => ∃ (kq : Nat) (x3_1 : Bool), v3 = .bool x3_1 ∧ Aside0 (r4_kids.j0 kq a0 x3_1 = some r) ∧ Aside0 (kq ≤ k) ∧ Drawn0 w wc)
 case first =>
  have H := HC2.out
  clear HC2
  by_cases c3 : a0 = 1
  ·rw [if_pos c3] at H
   have c3b0 : (a0 == 1) = true := beq_iff_eq.mpr c3
   have c3b1 : (a0 != 1) = false := bne_eq_false_iff_eq.mpr c3
   clear c3
   (first | rw [c3b0] | (simp only [i64_w, i32_w]; rw [c3b0]) | skip)
   have H' := Aside0.mk H
   clear H
   go_wp2
   go_meet
   case rel => exact ⟨_, (true), (by first | rfl | (simp; done) | (simp [*]; done)), H', ⟨by first | omega | exact Nat.le_refl _⟩, by repeat (first | exact Drawn0.refl _ | apply Drawn0.step)⟩
  ·rw [if_neg c3] at H
   have c3b0 : (a0 == 1) = false := beq_eq_false_iff_ne.mpr c3
   have c3b1 : (a0 != 1) = true := bne_iff_ne.mpr c3
   (first | rw [c3b0] | (simp only [i64_w, i32_w]; rw [c3b0]) | skip)
   by_cases c4 : a0 ≥ 8
   ·rw [if_pos c4] at H
    have c4b0 : decide (8 ≤ a0) = true := decide_eq_true c4
    clear c4
    have H' := Aside0.mk H
    clear H
    go_wp2
    go_meet
    case rel => exact ⟨_, (decide (a0 ≤ 10)), (by first | rfl | (simp; done) | (simp [*]; done)), H', ⟨by first | omega | exact Nat.le_refl _⟩, by repeat (first | exact Drawn0.refl _ | apply Drawn0.step)⟩
   ·rw [if_neg c4] at H
    have c4b0 : decide (8 ≤ a0) = false := decide_eq_false c4
    clear c4
    have H' := Aside0.mk H
    clear H
    go_wp2
    go_meet
    case rel => exact ⟨_, (false), (by first | rfl | (simp; done) | (simp [*]; done)), H', ⟨by first | omega | exact Nat.le_refl _⟩, by repeat (first | exact Drawn0.refl _ | apply Drawn0.step)⟩
 case rest =>
  clear HC2
  try clear c1
  try clear p2
  try clear c3
  try clear c3b0
  try clear c3b1
  try clear c4
  try clear c4b0
  obtain ⟨kq, x3_1, rfl, HA, HJ1, ⟨mc1, rfl⟩⟩ := hcut
  cases kq with
  | zero => exact absurd HA.out (by simp [r4_kids.j0])
  | succ kj1 =>
   have H := HA.out
   clear HA
   simp only [r4_kids.j0] at H
   by_cases c5 : x3_1 = true
   ·subst c5
    have H1 : (some 1) = some r := by rw [if_pos rfl] at H; exact H
    clear H
    have H := H1
    clear H1
    obtain rfl := Option.some.inj H
    go_wp2
    go_ret
    exact ⟨by first | rfl | (simp; done) | (simp [*]; done), by repeat (first | exact Drawn0.refl _ | apply Drawn0.step)⟩
   ·replace c5 := Bool.eq_false_iff.mpr c5
    subst c5
    have H1 : (if a0 ≥ 2 then (if a0 ≤ 7 then (some 2) else (some (-1))) else (some (-1))) = some r := by rw [if_neg (show ¬ (false = true) by decide)] at H; exact H
    clear H
    have H := H1
    clear H1
    by_cases c6 : a0 ≥ 2
    ·rw [if_pos c6] at H
     have c6b0 : decide (2 ≤ a0) = true := decide_eq_true c6
     clear c6
     by_cases c7 : a0 ≤ 7
     ·rw [if_pos c7] at H
      have c7b0 : decide (a0 ≤ 7) = true := decide_eq_true c7
      clear c7
      obtain rfl := Option.some.inj H
      go_wp2
      go_ret
      exact ⟨by first | rfl | (simp; done) | (simp [*]; done), by repeat (first | exact Drawn0.refl _ | apply Drawn0.step)⟩
     ·rw [if_neg c7] at H
      have c7b0 : decide (a0 ≤ 7) = false := decide_eq_false c7
      clear c7
      obtain rfl := Option.some.inj H
      go_wp2
      go_ret
      exact ⟨by first | rfl | (simp; done) | (simp [*]; done), by repeat (first | exact Drawn0.refl _ | apply Drawn0.step)⟩
    ·rw [if_neg c6] at H
     have c6b0 : decide (2 ≤ a0) = false := decide_eq_false c6
     clear c6
     obtain rfl := Option.some.inj H
     go_wp2
     go_ret
     exact ⟨by first | rfl | (simp; done) | (simp [*]; done), by repeat (first | exact Drawn0.refl _ | apply Drawn0.step)⟩
end Go.Proofs.YtllcmggmcogokaaDoor.PAll
end
section
namespace Go.Proofs.YtllcmggmcogokaaDoor.PAll
open Go.RowKit Go.Proofs.YtllcmggmcogokaaDoorW.PrintWords Go.Proofs.YtllcmggmcogokaaDoorW.PrintLast Go.Proofs.YtllcmggmcogokaaDoorW.PrintMore
attribute [local go_sem] max2_int min2_int max_two min_two max_three min_three max_four min_four
attribute [local go_sem high] eqA28
mutual
def r4_expr.j0 : Nat → Int → Bool → Int → ByteArray → Int → Int → ByteArray → List (S31) → Option (Bool)
 | 0, _, _, _, _, _, _, _, _ => none
 | k + 1, x1, x40, x184000, x184001, x184002, x184003, x184004, x184005 => if x40 = true then (some false) else (r4_expr.l0 k x1 0 x184000 x184001 x184002 x184003 x184004 x184005)
def r4_expr.l0 : Nat → Int → Int → Int → ByteArray → Int → Int → ByteArray → List (S31) → Option (Bool)
 | 0, _, _, _, _, _, _, _, _ => none
 | k + 1, x1, x6, x184000, x184001, x184002, x184003, x184004, x184005 => if x6 < (x184005.length : Int) then (if 0 ≤ x6 then ((r4_expr.f k ((rd_T31 x184005 x6).f0) ((rd_T31 x184005 x6).f1.f0) ((rd_T31 x184005 x6).f1.f1.f0) ((rd_T31 x184005 x6).f1.f1.f1) ((rd_T31 x184005 x6).f1.f1.f2) ((rd_T31 x184005 x6).f2) (wrap64 (x1 - 1))).bind fun t188 => (if t188 = true then (r4_expr.l0 k x1 (wrap64 (x6 + 1)) x184000 x184001 x184002 x184003 x184004 x184005) else (some false))) else (none)) else (some true)
def r4_expr.f : Nat → Int → ByteArray → Int → Int → ByteArray → List (S31) → Int → Option (Bool)
 | 0, _, _, _, _, _, _, _ => none
 | k + 1, a0_0, a0_1, a0_2, a0_3, a0_4, l0_5, a1 => if a1 = 0 then (some false) else (if a0_0 = 0 then (if (l0_5.length : Int) = 0 then (if a0_1.toList = ([95] : List UInt8) then (some false) else ((r4_term.f k a0_1 a0_2 a0_3 a0_4).bind fun t184 => (some t184))) else (some false)) else (if (!(a0_1.toList == ([] : List UInt8)) || ((!(a0_2 == 0) || (!(a0_3 == 0) || (!(a0_4.toList == ([] : List UInt8))))))) = true then (r4_expr.j0 k a1 true a0_0 a0_1 a0_2 a0_3 a0_4 l0_5) else ((r4_kids.f k a0_0).bind fun t186 => (r4_expr.j0 k a1 ((l0_5.length : Int) != t186) a0_0 a0_1 a0_2 a0_3 a0_4 l0_5))))
end
set_option maxHeartbeats 8000000 in
set_option maxRecDepth 100000 in
theorem r4_expr.calls (k : Nat) : ∀ (a0_0 : Int) (a0_1 : ByteArray) (a0_2 : Int) (a0_3 : Int) (a0_4 : ByteArray) (A0_5 : Option Addr) (c0_5 : Nat) (l0_5 : List (S31)) (a1 : Int) (r : Bool) (w : World) (hr0_5 : Kd.C k31 w A0_5 l0_5.length l0_5) (hc0_5 : l0_5.length ≤ c0_5) (h : r4_expr.f k a0_0 a0_1 a0_2 a0_3 a0_4 l0_5 a1 = some r),
  Calls Tryd.prog 55 #[.agg #[.int .i8 a0_0, .string a0_1, .int .i8 a0_2, .int .i64 a0_3, .string a0_4, .slice A0_5 l0_5.length c0_5], .int .i64 a1] w fun e w' => e = .returned (.bool r) ∧ Below w.heap.size w w' := by
 induction k using Nat.strongRecOn with
 | _ k ih =>
 intro a0_0 a0_1 a0_2 a0_3 a0_4 A0_5 c0_5 l0_5 a1 r w hr0_5 hc0_5 h
 cases k with
 | zero => exact absurd h (by simp [r4_expr.f])
 | succ k =>
 simp only [r4_expr.f] at h
 have hu31 := Tryd.underlying31
 have hu28 := Tryd.underlying28
 have HR0_5 := Aside0.mk hr0_5
 have HC0_5 := Aside0.mk hc0_5
 clear hr0_5 hc0_5
 have HB := Aside0.mk (Below.refl w.heap.size w)
 have H : (if a1 = 0 then (some false) else (if a0_0 = 0 then (if (l0_5.length : Int) = 0 then (if a0_1.toList = ([95] : List UInt8) then (some false) else ((r4_term.f k a0_1 a0_2 a0_3 a0_4).bind fun t184 => (some t184))) else (some false)) else (if (!(a0_1.toList == ([] : List UInt8)) || ((!(a0_2 == 0) || (!(a0_3 == 0) || (!(a0_4.toList == ([] : List UInt8))))))) = true then (r4_expr.j0 k a1 true a0_0 a0_1 a0_2 a0_3 a0_4 l0_5) else ((r4_kids.f k a0_0).bind fun t186 => (r4_expr.j0 k a1 ((l0_5.length : Int) != t186) a0_0 a0_1 a0_2 a0_3 a0_4 l0_5))))) = some r := h
 clear h
 by_cases c3 : a1 = 0
 ·rw [if_pos c3] at H
  have c3b0 : (a1 == 0) = true := beq_iff_eq.mpr c3
  have c3b1 : (a1 != 0) = false := bne_eq_false_iff_eq.mpr c3
  clear c3
  obtain rfl := Option.some.inj H
  go_enter Tryd.func55, Tryd.ntmps55
  go_wp2_with (first | ((with_reducible refine xar (N := 2) rfl ?_); (try (refine xav (by rfl) ?_; dsimp only)); refine xap ?hg (N := 2) ?hd (cs := #[.int .i8 a0_0, .string a0_1, .int .i8 a0_2, .int .i64 a0_3, .string a0_4, .slice A0_5 l0_5.length c0_5]) (t := 31) ?hr ?_; (case hd => rfl); (case hg => rfl); (case hr => first | (go_simp; done) | (go_simp; rfl)); intro gb183 hg w4 hbox hb; have n0_ := Aside0.mk (xah (by repeat (first | (with_reducible first | exact HB.out | apply xab | apply xaa | apply xac) | exact HB.out)) hb); have n1_ := Aside0.mk (hbox); have n2_ := Aside0.mk ((by rw [hg]; exact (xao (by repeat (first | (with_reducible first | exact HB.out | apply xab | apply xaa | apply xac) | exact HB.out))) : w.heap.size ≤ gb183)); have n3_ := n2_; clear HB; have HB := n0_; have BK183 := n1_; have GW183 := n2_; have GE183 := n3_; clear n0_ n1_ n2_ n3_; clear hb hbox hg))
  repeat (go_quiet (first | ((with_reducible refine xar (N := 2) rfl ?_); (try (refine xav (by rfl) ?_; dsimp only)); refine xap ?hg (N := 2) ?hd (cs := #[.int .i8 a0_0, .string a0_1, .int .i8 a0_2, .int .i64 a0_3, .string a0_4, .slice A0_5 l0_5.length c0_5]) (t := 31) ?hr ?_; (case hd => rfl); (case hg => rfl); (case hr => first | (go_simp; done) | (go_simp; rfl)); intro gb183 hg w4 hbox hb; have n0_ := Aside0.mk (xah (by repeat (first | (with_reducible first | exact HB.out | apply xab | apply xaa | apply xac) | exact HB.out)) hb); have n1_ := Aside0.mk (hbox); have n2_ := Aside0.mk ((by rw [hg]; exact (xao (by repeat (first | (with_reducible first | exact HB.out | apply xab | apply xaa | apply xac) | exact HB.out))) : w.heap.size ≤ gb183)); have n3_ := n2_; clear HB; have HB := n0_; have BK183 := n1_; have GW183 := n2_; have GE183 := n3_; clear n0_ n1_ n2_ n3_; clear hb hbox hg)); try go_wp2_with (first | ((with_reducible refine xar (N := 2) rfl ?_); (try (refine xav (by rfl) ?_; dsimp only)); refine xap ?hg (N := 2) ?hd (cs := #[.int .i8 a0_0, .string a0_1, .int .i8 a0_2, .int .i64 a0_3, .string a0_4, .slice A0_5 l0_5.length c0_5]) (t := 31) ?hr ?_; (case hd => rfl); (case hg => rfl); (case hr => first | (go_simp; done) | (go_simp; rfl)); intro gb183 hg w4 hbox hb; have n0_ := Aside0.mk (xah (by repeat (first | (with_reducible first | exact HB.out | apply xab | apply xaa | apply xac) | exact HB.out)) hb); have n1_ := Aside0.mk (hbox); have n2_ := Aside0.mk ((by rw [hg]; exact (xao (by repeat (first | (with_reducible first | exact HB.out | apply xab | apply xaa | apply xac) | exact HB.out))) : w.heap.size ≤ gb183)); have n3_ := n2_; clear HB; have HB := n0_; have BK183 := n1_; have GW183 := n2_; have GE183 := n3_; clear n0_ n1_ n2_ n3_; clear hb hbox hg)))
  go_ret
  exact ⟨by first | rfl | (simp [xak, xaj] <;> rfl) | (simp [*, xak, xaj] <;> rfl), by repeat (first | (with_reducible first | exact HB.out | apply xab | apply xaa | apply xac | refine xad ?_ GE183.out) | exact HB.out)⟩
 ·rw [if_neg c3] at H
  have c3b0 : (a1 == 0) = false := beq_eq_false_iff_ne.mpr c3
  have c3b1 : (a1 != 0) = true := bne_iff_ne.mpr c3
  by_cases c5 : a0_0 = 0
  ·rw [if_pos c5] at H
   have c5b0 : (a0_0 == 0) = true := beq_iff_eq.mpr c5
   have c5b1 : (a0_0 != 0) = false := bne_eq_false_iff_eq.mpr c5
   clear c5
   by_cases c6 : (l0_5.length : Int) = 0
   ·rw [if_pos c6] at H
    have c6b0 : ((l0_5.length : Int) == 0) = true := beq_iff_eq.mpr c6
    have c6b1 : ((l0_5.length : Int) != 0) = false := bne_eq_false_iff_eq.mpr c6
    clear c6
    by_cases c7 : a0_1.toList = ([95] : List UInt8)
    ·rw [if_pos c7] at H
     have c7b0 : (a0_1.toList == ([95] : List UInt8)) = true := beq_iff_eq.mpr c7
     have c7b1 : (a0_1.toList != ([95] : List UInt8)) = false := bne_eq_false_iff_eq.mpr c7
     clear c7
     obtain rfl := Option.some.inj H
     go_enter Tryd.func55, Tryd.ntmps55
     go_wp2_with (first | ((with_reducible refine xar (N := 2) rfl ?_); (try (refine xav (by rfl) ?_; dsimp only)); refine xap ?hg (N := 2) ?hd (cs := #[.int .i8 a0_0, .string a0_1, .int .i8 a0_2, .int .i64 a0_3, .string a0_4, .slice A0_5 l0_5.length c0_5]) (t := 31) ?hr ?_; (case hd => rfl); (case hg => rfl); (case hr => first | (go_simp; done) | (go_simp; rfl)); intro gb183 hg w8 hbox hb; have n0_ := Aside0.mk (xah (by repeat (first | (with_reducible first | exact HB.out | apply xab | apply xaa | apply xac) | exact HB.out)) hb); have n1_ := Aside0.mk (hbox); have n2_ := Aside0.mk ((by rw [hg]; exact (xao (by repeat (first | (with_reducible first | exact HB.out | apply xab | apply xaa | apply xac) | exact HB.out))) : w.heap.size ≤ gb183)); have n3_ := n2_; clear HB; have HB := n0_; have BK183 := n1_; have GW183 := n2_; have GE183 := n3_; clear n0_ n1_ n2_ n3_; clear hb hbox hg; obtain ⟨hcz9_0, hcz9_1, hcz9_2, hcz9_3, hcz9_4, hcz9_5⟩ := cz6 BK183.out; obtain ⟨hfz9_0, hfz9_1, hfz9_2, hfz9_3, hfz9_4, hfz9_5⟩ := fz6 BK183.out))
     repeat (go_quiet (first | ((with_reducible refine xar (N := 2) rfl ?_); (try (refine xav (by rfl) ?_; dsimp only)); refine xap ?hg (N := 2) ?hd (cs := #[.int .i8 a0_0, .string a0_1, .int .i8 a0_2, .int .i64 a0_3, .string a0_4, .slice A0_5 l0_5.length c0_5]) (t := 31) ?hr ?_; (case hd => rfl); (case hg => rfl); (case hr => first | (go_simp; done) | (go_simp; rfl)); intro gb183 hg w8 hbox hb; have n0_ := Aside0.mk (xah (by repeat (first | (with_reducible first | exact HB.out | apply xab | apply xaa | apply xac) | exact HB.out)) hb); have n1_ := Aside0.mk (hbox); have n2_ := Aside0.mk ((by rw [hg]; exact (xao (by repeat (first | (with_reducible first | exact HB.out | apply xab | apply xaa | apply xac) | exact HB.out))) : w.heap.size ≤ gb183)); have n3_ := n2_; clear HB; have HB := n0_; have BK183 := n1_; have GW183 := n2_; have GE183 := n3_; clear n0_ n1_ n2_ n3_; clear hb hbox hg; obtain ⟨hcz9_0, hcz9_1, hcz9_2, hcz9_3, hcz9_4, hcz9_5⟩ := cz6 BK183.out; obtain ⟨hfz9_0, hfz9_1, hfz9_2, hfz9_3, hfz9_4, hfz9_5⟩ := fz6 BK183.out)); try go_wp2_with (first | ((with_reducible refine xar (N := 2) rfl ?_); (try (refine xav (by rfl) ?_; dsimp only)); refine xap ?hg (N := 2) ?hd (cs := #[.int .i8 a0_0, .string a0_1, .int .i8 a0_2, .int .i64 a0_3, .string a0_4, .slice A0_5 l0_5.length c0_5]) (t := 31) ?hr ?_; (case hd => rfl); (case hg => rfl); (case hr => first | (go_simp; done) | (go_simp; rfl)); intro gb183 hg w8 hbox hb; have n0_ := Aside0.mk (xah (by repeat (first | (with_reducible first | exact HB.out | apply xab | apply xaa | apply xac) | exact HB.out)) hb); have n1_ := Aside0.mk (hbox); have n2_ := Aside0.mk ((by rw [hg]; exact (xao (by repeat (first | (with_reducible first | exact HB.out | apply xab | apply xaa | apply xac) | exact HB.out))) : w.heap.size ≤ gb183)); have n3_ := n2_; clear HB; have HB := n0_; have BK183 := n1_; have GW183 := n2_; have GE183 := n3_; clear n0_ n1_ n2_ n3_; clear hb hbox hg; obtain ⟨hcz9_0, hcz9_1, hcz9_2, hcz9_3, hcz9_4, hcz9_5⟩ := cz6 BK183.out; obtain ⟨hfz9_0, hfz9_1, hfz9_2, hfz9_3, hfz9_4, hfz9_5⟩ := fz6 BK183.out)))
     go_ret
     exact ⟨by first | rfl | (simp [xak, xaj] <;> rfl) | (simp [*, xak, xaj] <;> rfl), by repeat (first | (with_reducible first | exact HB.out | apply xab | apply xaa | apply xac | refine xad ?_ GE183.out) | exact HB.out)⟩
    ·rw [if_neg c7] at H
     have c7b0 : (a0_1.toList == ([95] : List UInt8)) = false := beq_eq_false_iff_ne.mpr c7
     have c7b1 : (a0_1.toList != ([95] : List UInt8)) = true := bne_iff_ne.mpr c7
     replace H := Option.bind_eq_some_iff.mp H
     obtain ⟨t184, A100, H⟩ := H
     replace H : (some t184) = some r := H
     have A10 := Aside0.mk A100
     clear A100
     obtain rfl := Option.some.inj H
     go_enter Tryd.func55, Tryd.ntmps55
     go_wp2_with (first | ((with_reducible refine xar (N := 2) rfl ?_); (try (refine xav (by rfl) ?_; dsimp only)); refine xap ?hg (N := 2) ?hd (cs := #[.int .i8 a0_0, .string a0_1, .int .i8 a0_2, .int .i64 a0_3, .string a0_4, .slice A0_5 l0_5.length c0_5]) (t := 31) ?hr ?_; (case hd => rfl); (case hg => rfl); (case hr => first | (go_simp; done) | (go_simp; rfl)); intro gb183 hg w11 hbox hb; have n0_ := Aside0.mk (xah (by repeat (first | (with_reducible first | exact HB.out | apply xab | apply xaa | apply xac) | exact HB.out)) hb); have n1_ := Aside0.mk (hbox); have n2_ := Aside0.mk ((by rw [hg]; exact (xao (by repeat (first | (with_reducible first | exact HB.out | apply xab | apply xaa | apply xac) | exact HB.out))) : w.heap.size ≤ gb183)); have n3_ := n2_; clear HB; have HB := n0_; have BK183 := n1_; have GW183 := n2_; have GE183 := n3_; clear n0_ n1_ n2_ n3_; clear hb hbox hg; obtain ⟨hcz12_0, hcz12_1, hcz12_2, hcz12_3, hcz12_4, hcz12_5⟩ := cz6 BK183.out; obtain ⟨hfz12_0, hfz12_1, hfz12_2, hfz12_3, hfz12_4, hfz12_5⟩ := fz6 BK183.out) | (go_at_call 100; (with_reducible refine (r4_term.calls k a0_1 a0_2 a0_3 a0_4 t184 _ A10.out).mono ?_); rintro e w13 ⟨rfl, hb⟩; have n0_ := Aside0.mk (xam (g := gb183) (o := .cells #[.int .i8 a0_0, .string a0_1, .int .i8 a0_2, .int .i64 a0_3, .string a0_4, .slice A0_5 l0_5.length c0_5] 31 (0, 0)) (by (with_reducible repeat (first | refine xag ?_ _ | refine xai ?_ | refine xaf ?_ _)); exact BK183.out) hb); have n1_ := Aside0.mk (xah (by repeat (first | (with_reducible first | exact HB.out | apply xab | apply xaa | apply xac | refine xad ?_ GE183.out) | exact HB.out)) hb); clear BK183; clear HB; have BK183 := n0_; have HB := n1_; clear n0_ n1_; (try clear hb); (try clear hb2); (try clear hk); (try clear hi)))
     repeat (go_quiet (first | ((with_reducible refine xar (N := 2) rfl ?_); (try (refine xav (by rfl) ?_; dsimp only)); refine xap ?hg (N := 2) ?hd (cs := #[.int .i8 a0_0, .string a0_1, .int .i8 a0_2, .int .i64 a0_3, .string a0_4, .slice A0_5 l0_5.length c0_5]) (t := 31) ?hr ?_; (case hd => rfl); (case hg => rfl); (case hr => first | (go_simp; done) | (go_simp; rfl)); intro gb183 hg w11 hbox hb; have n0_ := Aside0.mk (xah (by repeat (first | (with_reducible first | exact HB.out | apply xab | apply xaa | apply xac) | exact HB.out)) hb); have n1_ := Aside0.mk (hbox); have n2_ := Aside0.mk ((by rw [hg]; exact (xao (by repeat (first | (with_reducible first | exact HB.out | apply xab | apply xaa | apply xac) | exact HB.out))) : w.heap.size ≤ gb183)); have n3_ := n2_; clear HB; have HB := n0_; have BK183 := n1_; have GW183 := n2_; have GE183 := n3_; clear n0_ n1_ n2_ n3_; clear hb hbox hg; obtain ⟨hcz12_0, hcz12_1, hcz12_2, hcz12_3, hcz12_4, hcz12_5⟩ := cz6 BK183.out; obtain ⟨hfz12_0, hfz12_1, hfz12_2, hfz12_3, hfz12_4, hfz12_5⟩ := fz6 BK183.out) | (go_at_call 100; (with_reducible refine (r4_term.calls k a0_1 a0_2 a0_3 a0_4 t184 _ A10.out).mono ?_); rintro e w13 ⟨rfl, hb⟩; have n0_ := Aside0.mk (xam (g := gb183) (o := .cells #[.int .i8 a0_0, .string a0_1, .int .i8 a0_2, .int .i64 a0_3, .string a0_4, .slice A0_5 l0_5.length c0_5] 31 (0, 0)) (by (with_reducible repeat (first | refine xag ?_ _ | refine xai ?_ | refine xaf ?_ _)); exact BK183.out) hb); have n1_ := Aside0.mk (xah (by repeat (first | (with_reducible first | exact HB.out | apply xab | apply xaa | apply xac | refine xad ?_ GE183.out) | exact HB.out)) hb); clear BK183; clear HB; have BK183 := n0_; have HB := n1_; clear n0_ n1_; (try clear hb); (try clear hb2); (try clear hk); (try clear hi))); try go_wp2_with (first | ((with_reducible refine xar (N := 2) rfl ?_); (try (refine xav (by rfl) ?_; dsimp only)); refine xap ?hg (N := 2) ?hd (cs := #[.int .i8 a0_0, .string a0_1, .int .i8 a0_2, .int .i64 a0_3, .string a0_4, .slice A0_5 l0_5.length c0_5]) (t := 31) ?hr ?_; (case hd => rfl); (case hg => rfl); (case hr => first | (go_simp; done) | (go_simp; rfl)); intro gb183 hg w11 hbox hb; have n0_ := Aside0.mk (xah (by repeat (first | (with_reducible first | exact HB.out | apply xab | apply xaa | apply xac) | exact HB.out)) hb); have n1_ := Aside0.mk (hbox); have n2_ := Aside0.mk ((by rw [hg]; exact (xao (by repeat (first | (with_reducible first | exact HB.out | apply xab | apply xaa | apply xac) | exact HB.out))) : w.heap.size ≤ gb183)); have n3_ := n2_; clear HB; have HB := n0_; have BK183 := n1_; have GW183 := n2_; have GE183 := n3_; clear n0_ n1_ n2_ n3_; clear hb hbox hg; obtain ⟨hcz12_0, hcz12_1, hcz12_2, hcz12_3, hcz12_4, hcz12_5⟩ := cz6 BK183.out; obtain ⟨hfz12_0, hfz12_1, hfz12_2, hfz12_3, hfz12_4, hfz12_5⟩ := fz6 BK183.out) | (go_at_call 100; (with_reducible refine (r4_term.calls k a0_1 a0_2 a0_3 a0_4 t184 _ A10.out).mono ?_); rintro e w13 ⟨rfl, hb⟩; have n0_ := Aside0.mk (xam (g := gb183) (o := .cells #[.int .i8 a0_0, .string a0_1, .int .i8 a0_2, .int .i64 a0_3, .string a0_4, .slice A0_5 l0_5.length c0_5] 31 (0, 0)) (by (with_reducible repeat (first | refine xag ?_ _ | refine xai ?_ | refine xaf ?_ _)); exact BK183.out) hb); have n1_ := Aside0.mk (xah (by repeat (first | (with_reducible first | exact HB.out | apply xab | apply xaa | apply xac | refine xad ?_ GE183.out) | exact HB.out)) hb); clear BK183; clear HB; have BK183 := n0_; have HB := n1_; clear n0_ n1_; (try clear hb); (try clear hb2); (try clear hk); (try clear hi))))
     go_ret
     exact ⟨by first | rfl | (simp [xak, xaj] <;> rfl) | (simp [*, xak, xaj] <;> rfl), by repeat (first | (with_reducible first | exact HB.out | apply xab | apply xaa | apply xac | refine xad ?_ GE183.out) | exact HB.out)⟩
   ·rw [if_neg c6] at H
    have c6b0 : ((l0_5.length : Int) == 0) = false := beq_eq_false_iff_ne.mpr c6
    have c6b1 : ((l0_5.length : Int) != 0) = true := bne_iff_ne.mpr c6
    have c6b2 : ¬ (l0_5 = []) := fun h_ => c6 (by rw [h_]; rfl)
    obtain rfl := Option.some.inj H
    go_enter Tryd.func55, Tryd.ntmps55
    go_wp2_with (first | ((with_reducible refine xar (N := 2) rfl ?_); (try (refine xav (by rfl) ?_; dsimp only)); refine xap ?hg (N := 2) ?hd (cs := #[.int .i8 a0_0, .string a0_1, .int .i8 a0_2, .int .i64 a0_3, .string a0_4, .slice A0_5 l0_5.length c0_5]) (t := 31) ?hr ?_; (case hd => rfl); (case hg => rfl); (case hr => first | (go_simp; done) | (go_simp; rfl)); intro gb183 hg w14 hbox hb; have n0_ := Aside0.mk (xah (by repeat (first | (with_reducible first | exact HB.out | apply xab | apply xaa | apply xac) | exact HB.out)) hb); have n1_ := Aside0.mk (hbox); have n2_ := Aside0.mk ((by rw [hg]; exact (xao (by repeat (first | (with_reducible first | exact HB.out | apply xab | apply xaa | apply xac) | exact HB.out))) : w.heap.size ≤ gb183)); have n3_ := n2_; clear HB; have HB := n0_; have BK183 := n1_; have GW183 := n2_; have GE183 := n3_; clear n0_ n1_ n2_ n3_; clear hb hbox hg; obtain ⟨hcz15_0, hcz15_1, hcz15_2, hcz15_3, hcz15_4, hcz15_5⟩ := cz6 BK183.out; obtain ⟨hfz15_0, hfz15_1, hfz15_2, hfz15_3, hfz15_4, hfz15_5⟩ := fz6 BK183.out))
    repeat (go_quiet (first | ((with_reducible refine xar (N := 2) rfl ?_); (try (refine xav (by rfl) ?_; dsimp only)); refine xap ?hg (N := 2) ?hd (cs := #[.int .i8 a0_0, .string a0_1, .int .i8 a0_2, .int .i64 a0_3, .string a0_4, .slice A0_5 l0_5.length c0_5]) (t := 31) ?hr ?_; (case hd => rfl); (case hg => rfl); (case hr => first | (go_simp; done) | (go_simp; rfl)); intro gb183 hg w14 hbox hb; have n0_ := Aside0.mk (xah (by repeat (first | (with_reducible first | exact HB.out | apply xab | apply xaa | apply xac) | exact HB.out)) hb); have n1_ := Aside0.mk (hbox); have n2_ := Aside0.mk ((by rw [hg]; exact (xao (by repeat (first | (with_reducible first | exact HB.out | apply xab | apply xaa | apply xac) | exact HB.out))) : w.heap.size ≤ gb183)); have n3_ := n2_; clear HB; have HB := n0_; have BK183 := n1_; have GW183 := n2_; have GE183 := n3_; clear n0_ n1_ n2_ n3_; clear hb hbox hg; obtain ⟨hcz15_0, hcz15_1, hcz15_2, hcz15_3, hcz15_4, hcz15_5⟩ := cz6 BK183.out; obtain ⟨hfz15_0, hfz15_1, hfz15_2, hfz15_3, hfz15_4, hfz15_5⟩ := fz6 BK183.out)); try go_wp2_with (first | ((with_reducible refine xar (N := 2) rfl ?_); (try (refine xav (by rfl) ?_; dsimp only)); refine xap ?hg (N := 2) ?hd (cs := #[.int .i8 a0_0, .string a0_1, .int .i8 a0_2, .int .i64 a0_3, .string a0_4, .slice A0_5 l0_5.length c0_5]) (t := 31) ?hr ?_; (case hd => rfl); (case hg => rfl); (case hr => first | (go_simp; done) | (go_simp; rfl)); intro gb183 hg w14 hbox hb; have n0_ := Aside0.mk (xah (by repeat (first | (with_reducible first | exact HB.out | apply xab | apply xaa | apply xac) | exact HB.out)) hb); have n1_ := Aside0.mk (hbox); have n2_ := Aside0.mk ((by rw [hg]; exact (xao (by repeat (first | (with_reducible first | exact HB.out | apply xab | apply xaa | apply xac) | exact HB.out))) : w.heap.size ≤ gb183)); have n3_ := n2_; clear HB; have HB := n0_; have BK183 := n1_; have GW183 := n2_; have GE183 := n3_; clear n0_ n1_ n2_ n3_; clear hb hbox hg; obtain ⟨hcz15_0, hcz15_1, hcz15_2, hcz15_3, hcz15_4, hcz15_5⟩ := cz6 BK183.out; obtain ⟨hfz15_0, hfz15_1, hfz15_2, hfz15_3, hfz15_4, hfz15_5⟩ := fz6 BK183.out)))
    go_ret
    exact ⟨by first | rfl | (simp [xak, xaj] <;> rfl) | (simp [*, xak, xaj] <;> rfl), by repeat (first | (with_reducible first | exact HB.out | apply xab | apply xaa | apply xac | refine xad ?_ GE183.out) | exact HB.out)⟩
  ·rw [if_neg c5] at H
   have c5b0 : (a0_0 == 0) = false := beq_eq_false_iff_ne.mpr c5
   have c5b1 : (a0_0 != 0) = true := bne_iff_ne.mpr c5
   have HC16 := Aside0.mk H
   clear H
   go_enter Tryd.func55, Tryd.ntmps55
   go_upto_region 6 with (first | ((with_reducible refine xar (N := 2) rfl ?_); (try (refine xav (by rfl) ?_; dsimp only)); refine xap ?hg (N := 2) ?hd (cs := #[.int .i8 a0_0, .string a0_1, .int .i8 a0_2, .int .i64 a0_3, .string a0_4, .slice A0_5 l0_5.length c0_5]) (t := 31) ?hr ?_; (case hd => rfl); (case hg => rfl); (case hr => first | (go_simp; done) | (go_simp; rfl)); intro gb183 hg w17 hbox hb; have n0_ := Aside0.mk (xah (by repeat (first | (with_reducible first | exact HB.out | apply xab | apply xaa | apply xac) | exact HB.out)) hb); have n1_ := Aside0.mk (hbox); have n2_ := Aside0.mk ((by rw [hg]; exact (xao (by repeat (first | (with_reducible first | exact HB.out | apply xab | apply xaa | apply xac) | exact HB.out))) : w.heap.size ≤ gb183)); have n3_ := n2_; clear HB; have HB := n0_; have BK183 := n1_; have GW183 := n2_; have GE183 := n3_; clear n0_ n1_ n2_ n3_; clear hb hbox hg; obtain ⟨hcz18_0, hcz18_1, hcz18_2, hcz18_3, hcz18_4, hcz18_5⟩ := cz6 BK183.out; obtain ⟨hfz18_0, hfz18_1, hfz18_2, hfz18_3, hfz18_4, hfz18_5⟩ := fz6 BK183.out) | ((with_reducible refine xar (N := 5) rfl ?_); (try (refine xav (by rfl) ?_; dsimp only)); refine xap ?hg (N := 5) ?hd (cs := #[.string (⟨#[]⟩ : ByteArray), .int .i8 0, .int .i64 0, .string (⟨#[]⟩ : ByteArray)]) (t := 28) ?hr ?_; (case hd => rfl); (case hg => rfl); (case hr => first | (go_simp; done) | (go_simp; rfl)); intro gb185 hg w19 hbox hb; have n0_ := Aside0.mk (xam (g := gb183) (o := .cells #[.int .i8 a0_0, .string a0_1, .int .i8 a0_2, .int .i64 a0_3, .string a0_4, .slice A0_5 l0_5.length c0_5] 31 (0, 0)) (by (with_reducible repeat (first | refine xag ?_ _ | refine xai ?_ | refine xaf ?_ _)); exact BK183.out) hb); have n1_ := Aside0.mk (xah (by repeat (first | (with_reducible first | exact HB.out | apply xab | apply xaa | apply xac | refine xad ?_ GE183.out) | exact HB.out)) hb); have n2_ := Aside0.mk (hbox); have n3_ := Aside0.mk ((by rw [hg]; exact (xao (by repeat (first | (with_reducible first | exact HB.out | apply xab | apply xaa | apply xac | refine xad ?_ GE183.out) | exact HB.out))) : w.heap.size ≤ gb185)); have n4_ := n3_; have n5_ := Aside0.mk ((by rw [hg]; exact Nat.ne_of_lt (blk_lt (g := gb183) (o := .cells #[.int .i8 a0_0, .string a0_1, .int .i8 a0_2, .int .i64 a0_3, .string a0_4, .slice A0_5 l0_5.length c0_5] 31 (0, 0)) (by (with_reducible repeat (first | refine xag ?_ _ | refine xai ?_ | refine xaf ?_ _)); exact BK183.out)) : gb183 ≠ gb185)); have n6_ := Aside0.mk ((by rw [hg]; exact Nat.ne_of_gt (blk_lt (g := gb183) (o := .cells #[.int .i8 a0_0, .string a0_1, .int .i8 a0_2, .int .i64 a0_3, .string a0_4, .slice A0_5 l0_5.length c0_5] 31 (0, 0)) (by (with_reducible repeat (first | refine xag ?_ _ | refine xai ?_ | refine xaf ?_ _)); exact BK183.out)) : gb185 ≠ gb183)); clear BK183; clear HB; have BK183 := n0_; have HB := n1_; have BK185 := n2_; have GW185 := n3_; have GE185 := n4_; have NB183_185 := n5_; have NB185_183 := n6_; clear n0_ n1_ n2_ n3_ n4_ n5_ n6_; clear hb hbox hg; have hnb20 := NB185_183.out; have hnc20 := NB183_185.out; obtain ⟨hcz21_0, hcz21_1, hcz21_2, hcz21_3⟩ := cz4 BK185.out; obtain ⟨hfz21_0, hfz21_1, hfz21_2, hfz21_3⟩ := fz4 BK185.out))
   repeat (go_quiet (first | ((with_reducible refine xar (N := 2) rfl ?_); (try (refine xav (by rfl) ?_; dsimp only)); refine xap ?hg (N := 2) ?hd (cs := #[.int .i8 a0_0, .string a0_1, .int .i8 a0_2, .int .i64 a0_3, .string a0_4, .slice A0_5 l0_5.length c0_5]) (t := 31) ?hr ?_; (case hd => rfl); (case hg => rfl); (case hr => first | (go_simp; done) | (go_simp; rfl)); intro gb183 hg w17 hbox hb; have n0_ := Aside0.mk (xah (by repeat (first | (with_reducible first | exact HB.out | apply xab | apply xaa | apply xac) | exact HB.out)) hb); have n1_ := Aside0.mk (hbox); have n2_ := Aside0.mk ((by rw [hg]; exact (xao (by repeat (first | (with_reducible first | exact HB.out | apply xab | apply xaa | apply xac) | exact HB.out))) : w.heap.size ≤ gb183)); have n3_ := n2_; clear HB; have HB := n0_; have BK183 := n1_; have GW183 := n2_; have GE183 := n3_; clear n0_ n1_ n2_ n3_; clear hb hbox hg; obtain ⟨hcz18_0, hcz18_1, hcz18_2, hcz18_3, hcz18_4, hcz18_5⟩ := cz6 BK183.out; obtain ⟨hfz18_0, hfz18_1, hfz18_2, hfz18_3, hfz18_4, hfz18_5⟩ := fz6 BK183.out) | ((with_reducible refine xar (N := 5) rfl ?_); (try (refine xav (by rfl) ?_; dsimp only)); refine xap ?hg (N := 5) ?hd (cs := #[.string (⟨#[]⟩ : ByteArray), .int .i8 0, .int .i64 0, .string (⟨#[]⟩ : ByteArray)]) (t := 28) ?hr ?_; (case hd => rfl); (case hg => rfl); (case hr => first | (go_simp; done) | (go_simp; rfl)); intro gb185 hg w19 hbox hb; have n0_ := Aside0.mk (xam (g := gb183) (o := .cells #[.int .i8 a0_0, .string a0_1, .int .i8 a0_2, .int .i64 a0_3, .string a0_4, .slice A0_5 l0_5.length c0_5] 31 (0, 0)) (by (with_reducible repeat (first | refine xag ?_ _ | refine xai ?_ | refine xaf ?_ _)); exact BK183.out) hb); have n1_ := Aside0.mk (xah (by repeat (first | (with_reducible first | exact HB.out | apply xab | apply xaa | apply xac | refine xad ?_ GE183.out) | exact HB.out)) hb); have n2_ := Aside0.mk (hbox); have n3_ := Aside0.mk ((by rw [hg]; exact (xao (by repeat (first | (with_reducible first | exact HB.out | apply xab | apply xaa | apply xac | refine xad ?_ GE183.out) | exact HB.out))) : w.heap.size ≤ gb185)); have n4_ := n3_; have n5_ := Aside0.mk ((by rw [hg]; exact Nat.ne_of_lt (blk_lt (g := gb183) (o := .cells #[.int .i8 a0_0, .string a0_1, .int .i8 a0_2, .int .i64 a0_3, .string a0_4, .slice A0_5 l0_5.length c0_5] 31 (0, 0)) (by (with_reducible repeat (first | refine xag ?_ _ | refine xai ?_ | refine xaf ?_ _)); exact BK183.out)) : gb183 ≠ gb185)); have n6_ := Aside0.mk ((by rw [hg]; exact Nat.ne_of_gt (blk_lt (g := gb183) (o := .cells #[.int .i8 a0_0, .string a0_1, .int .i8 a0_2, .int .i64 a0_3, .string a0_4, .slice A0_5 l0_5.length c0_5] 31 (0, 0)) (by (with_reducible repeat (first | refine xag ?_ _ | refine xai ?_ | refine xaf ?_ _)); exact BK183.out)) : gb185 ≠ gb183)); clear BK183; clear HB; have BK183 := n0_; have HB := n1_; have BK185 := n2_; have GW185 := n3_; have GE185 := n4_; have NB183_185 := n5_; have NB185_183 := n6_; clear n0_ n1_ n2_ n3_ n4_ n5_ n6_; clear hb hbox hg; have hnb20 := NB185_183.out; have hnc20 := NB183_185.out; obtain ⟨hcz21_0, hcz21_1, hcz21_2, hcz21_3⟩ := cz4 BK185.out; obtain ⟨hfz21_0, hfz21_1, hfz21_2, hfz21_3⟩ := fz4 BK185.out)); go_upto_region 6 with (first | ((with_reducible refine xar (N := 2) rfl ?_); (try (refine xav (by rfl) ?_; dsimp only)); refine xap ?hg (N := 2) ?hd (cs := #[.int .i8 a0_0, .string a0_1, .int .i8 a0_2, .int .i64 a0_3, .string a0_4, .slice A0_5 l0_5.length c0_5]) (t := 31) ?hr ?_; (case hd => rfl); (case hg => rfl); (case hr => first | (go_simp; done) | (go_simp; rfl)); intro gb183 hg w17 hbox hb; have n0_ := Aside0.mk (xah (by repeat (first | (with_reducible first | exact HB.out | apply xab | apply xaa | apply xac) | exact HB.out)) hb); have n1_ := Aside0.mk (hbox); have n2_ := Aside0.mk ((by rw [hg]; exact (xao (by repeat (first | (with_reducible first | exact HB.out | apply xab | apply xaa | apply xac) | exact HB.out))) : w.heap.size ≤ gb183)); have n3_ := n2_; clear HB; have HB := n0_; have BK183 := n1_; have GW183 := n2_; have GE183 := n3_; clear n0_ n1_ n2_ n3_; clear hb hbox hg; obtain ⟨hcz18_0, hcz18_1, hcz18_2, hcz18_3, hcz18_4, hcz18_5⟩ := cz6 BK183.out; obtain ⟨hfz18_0, hfz18_1, hfz18_2, hfz18_3, hfz18_4, hfz18_5⟩ := fz6 BK183.out) | ((with_reducible refine xar (N := 5) rfl ?_); (try (refine xav (by rfl) ?_; dsimp only)); refine xap ?hg (N := 5) ?hd (cs := #[.string (⟨#[]⟩ : ByteArray), .int .i8 0, .int .i64 0, .string (⟨#[]⟩ : ByteArray)]) (t := 28) ?hr ?_; (case hd => rfl); (case hg => rfl); (case hr => first | (go_simp; done) | (go_simp; rfl)); intro gb185 hg w19 hbox hb; have n0_ := Aside0.mk (xam (g := gb183) (o := .cells #[.int .i8 a0_0, .string a0_1, .int .i8 a0_2, .int .i64 a0_3, .string a0_4, .slice A0_5 l0_5.length c0_5] 31 (0, 0)) (by (with_reducible repeat (first | refine xag ?_ _ | refine xai ?_ | refine xaf ?_ _)); exact BK183.out) hb); have n1_ := Aside0.mk (xah (by repeat (first | (with_reducible first | exact HB.out | apply xab | apply xaa | apply xac | refine xad ?_ GE183.out) | exact HB.out)) hb); have n2_ := Aside0.mk (hbox); have n3_ := Aside0.mk ((by rw [hg]; exact (xao (by repeat (first | (with_reducible first | exact HB.out | apply xab | apply xaa | apply xac | refine xad ?_ GE183.out) | exact HB.out))) : w.heap.size ≤ gb185)); have n4_ := n3_; have n5_ := Aside0.mk ((by rw [hg]; exact Nat.ne_of_lt (blk_lt (g := gb183) (o := .cells #[.int .i8 a0_0, .string a0_1, .int .i8 a0_2, .int .i64 a0_3, .string a0_4, .slice A0_5 l0_5.length c0_5] 31 (0, 0)) (by (with_reducible repeat (first | refine xag ?_ _ | refine xai ?_ | refine xaf ?_ _)); exact BK183.out)) : gb183 ≠ gb185)); have n6_ := Aside0.mk ((by rw [hg]; exact Nat.ne_of_gt (blk_lt (g := gb183) (o := .cells #[.int .i8 a0_0, .string a0_1, .int .i8 a0_2, .int .i64 a0_3, .string a0_4, .slice A0_5 l0_5.length c0_5] 31 (0, 0)) (by (with_reducible repeat (first | refine xag ?_ _ | refine xai ?_ | refine xaf ?_ _)); exact BK183.out)) : gb185 ≠ gb183)); clear BK183; clear HB; have BK183 := n0_; have HB := n1_; have BK185 := n2_; have GW185 := n3_; have GE185 := n4_; have NB183_185 := n5_; have NB185_183 := n6_; clear n0_ n1_ n2_ n3_ n4_ n5_ n6_; clear hb hbox hg; have hnb20 := NB185_183.out; have hnc20 := NB183_185.out; obtain ⟨hcz21_0, hcz21_1, hcz21_2, hcz21_3⟩ := cz4 BK185.out; obtain ⟨hfz21_0, hfz21_1, hfz21_2, hfz21_3⟩ := fz4 BK185.out)))
   (try simp only [Act.put, sI, sZ, sS])
   go_cut [40] (fun v40 wc => ∃ (kq : Nat) (x40_15 : Bool), v40 = .bool x40_15 ∧ Aside0 (r4_expr.j0 kq a1 x40_15 a0_0 a0_1 a0_2 a0_3 a0_4 l0_5 = some r) ∧ Aside0 (kq ≤ k) ∧ Aside0 (wc.heap[gb183]? = some (.cells #[.int .i8 a0_0, .string a0_1, .int .i8 a0_2, .int .i64 a0_3, .string a0_4, (.slice A0_5 l0_5.length c0_5)] 31 (0, 0))) ∧ Aside0 (wc.heap[gb185]? = some (.cells #[.string (⟨#[]⟩ : ByteArray), .int .i8 0, .int .i64 0, .string (⟨#[]⟩ : ByteArray)] 28 (0, 0))) ∧ Aside0 (Below w.heap.size w wc))
   case first =>
    have H := HC16.out
    clear HC16
    by_cases c22 : (!(a0_1.toList == ([] : List UInt8)) || ((!(a0_2 == 0) || (!(a0_3 == 0) || (!(a0_4.toList == ([] : List UInt8))))))) = true
    ·rw [if_pos c22] at H
     have c22b0 : (!(a0_1.toList == ([] : List UInt8)) || ((!(a0_2 == 0) || (!(a0_3 == 0) || (!(a0_4.toList == ([] : List UInt8))))))) = true := c22
     (try (have c22b1 : (!(a0_1.toList.isEmpty) || ((!(a0_2 == 0) || (!(a0_3 == 0) || (!(a0_4.toList.isEmpty)))))) = true := by simpa using c22))
     clear c22
     (first | rw [c22b0] | (simp only [i64_w, i32_w]; rw [c22b0]) | skip)
     have H' := Aside0.mk H
     clear H
     have hnb23 := NB183_185.out
     have hnc23 := NB185_183.out
     obtain ⟨hcz24_0, hcz24_1, hcz24_2, hcz24_3, hcz24_4, hcz24_5⟩ := cz6 BK183.out
     obtain ⟨hfz24_0, hfz24_1, hfz24_2, hfz24_3, hfz24_4, hfz24_5⟩ := fz6 BK183.out
     obtain ⟨hcz25_0, hcz25_1, hcz25_2, hcz25_3⟩ := cz4 BK185.out
     obtain ⟨hfz25_0, hfz25_1, hfz25_2, hfz25_3⟩ := fz4 BK185.out
     go_wp2
     repeat (go_quiet (fail); try go_wp2)
     go_meet
     case rel => exact ⟨_, (true), (by first | rfl | (simp; done) | (simp [*]; done)), H', ⟨by first | omega | exact Nat.le_refl _⟩, ⟨by (with_reducible repeat (first | refine xag ?_ _ | refine xai ?_ | refine xaf ?_ _)); refine xax ?_ NB183_185.out _; (with_reducible repeat (first | refine xag ?_ _ | refine xai ?_ | refine xaf ?_ _)); refine xax ?_ NB183_185.out _; (with_reducible repeat (first | refine xag ?_ _ | refine xai ?_ | refine xaf ?_ _)); refine xax ?_ NB183_185.out _; (with_reducible repeat (first | refine xag ?_ _ | refine xai ?_ | refine xaf ?_ _)); refine xax ?_ NB183_185.out _; (with_reducible repeat (first | refine xag ?_ _ | refine xai ?_ | refine xaf ?_ _)); exact BK183.out⟩, ⟨by (with_reducible repeat (first | refine xag ?_ _ | refine xai ?_ | refine xaf ?_ _)); refine xas (cs := #[.string (⟨#[]⟩ : ByteArray), .int .i8 0, .int .i64 0, .string (⟨#[]⟩ : ByteArray)]) ?_ 3 _ rfl; (with_reducible repeat (first | refine xag ?_ _ | refine xai ?_ | refine xaf ?_ _)); refine xas (cs := #[.string (⟨#[]⟩ : ByteArray), .int .i8 0, .int .i64 0, .string (⟨#[]⟩ : ByteArray)]) ?_ 2 _ rfl; (with_reducible repeat (first | refine xag ?_ _ | refine xai ?_ | refine xaf ?_ _)); refine xas (cs := #[.string (⟨#[]⟩ : ByteArray), .int .i8 0, .int .i64 0, .string (⟨#[]⟩ : ByteArray)]) ?_ 1 _ rfl; (with_reducible repeat (first | refine xag ?_ _ | refine xai ?_ | refine xaf ?_ _)); refine xas (cs := #[.string (⟨#[]⟩ : ByteArray), .int .i8 0, .int .i64 0, .string (⟨#[]⟩ : ByteArray)]) ?_ 0 _ rfl; (with_reducible repeat (first | refine xag ?_ _ | refine xai ?_ | refine xaf ?_ _)); exact BK185.out⟩, ⟨by repeat (first | (with_reducible first | exact HB.out | apply xab | apply xaa | apply xac | refine xad ?_ GE183.out | refine xad ?_ GE185.out) | exact HB.out)⟩⟩
    ·rw [if_neg c22] at H
     have c22b0 : (!(a0_1.toList == ([] : List UInt8)) || ((!(a0_2 == 0) || (!(a0_3 == 0) || (!(a0_4.toList == ([] : List UInt8))))))) = false := by simpa using c22
     (try (have c22b1 : (!(a0_1.toList.isEmpty) || ((!(a0_2 == 0) || (!(a0_3 == 0) || (!(a0_4.toList.isEmpty)))))) = false := by simpa using c22))
     clear c22
     (first | rw [c22b0] | (simp only [i64_w, i32_w]; rw [c22b0]) | skip)
     replace H := Option.bind_eq_some_iff.mp H
     obtain ⟨t186, A260, H⟩ := H
     replace H : (r4_expr.j0 k a1 ((l0_5.length : Int) != t186) a0_0 a0_1 a0_2 a0_3 a0_4 l0_5) = some r := H
     have A26 := Aside0.mk A260
     clear A260
     have H' := Aside0.mk H
     clear H
     have hnb27 := NB183_185.out
     have hnc27 := NB185_183.out
     obtain ⟨hcz28_0, hcz28_1, hcz28_2, hcz28_3, hcz28_4, hcz28_5⟩ := cz6 BK183.out
     obtain ⟨hfz28_0, hfz28_1, hfz28_2, hfz28_3, hfz28_4, hfz28_5⟩ := fz6 BK183.out
     obtain ⟨hcz29_0, hcz29_1, hcz29_2, hcz29_3⟩ := cz4 BK185.out
     obtain ⟨hfz29_0, hfz29_1, hfz29_2, hfz29_3⟩ := fz4 BK185.out
     go_wp2_with (first | (go_at_call 101; (with_reducible refine (r4_kids.calls k a0_0 t186 _ A26.out).mono ?_); rintro e w' ⟨rfl, ⟨nd, rfl⟩⟩; (try first | exact ⟨rfl, _, World.drewN_drewN _ _ _⟩ | exact ⟨rfl, _, Eq.trans (World.drewN_drewN _ _ _) (congrArg (World.drewN _) (Nat.add_assoc _ _ _))⟩)))
     repeat (go_quiet (first | (go_at_call 101; (with_reducible refine (r4_kids.calls k a0_0 t186 _ A26.out).mono ?_); rintro e w' ⟨rfl, ⟨nd, rfl⟩⟩; (try first | exact ⟨rfl, _, World.drewN_drewN _ _ _⟩ | exact ⟨rfl, _, Eq.trans (World.drewN_drewN _ _ _) (congrArg (World.drewN _) (Nat.add_assoc _ _ _))⟩))); try go_wp2_with (first | (go_at_call 101; (with_reducible refine (r4_kids.calls k a0_0 t186 _ A26.out).mono ?_); rintro e w' ⟨rfl, ⟨nd, rfl⟩⟩; (try first | exact ⟨rfl, _, World.drewN_drewN _ _ _⟩ | exact ⟨rfl, _, Eq.trans (World.drewN_drewN _ _ _) (congrArg (World.drewN _) (Nat.add_assoc _ _ _))⟩))))
     go_meet
     case rel => exact ⟨_, (((l0_5.length : Int) != t186)), (by first | rfl | (simp; done) | (simp [*]; done)), H', ⟨by first | omega | exact Nat.le_refl _⟩, ⟨by (with_reducible repeat (first | refine xag ?_ _ | refine xai ?_ | refine xaf ?_ _)); refine xax ?_ NB183_185.out _; (with_reducible repeat (first | refine xag ?_ _ | refine xai ?_ | refine xaf ?_ _)); refine xax ?_ NB183_185.out _; (with_reducible repeat (first | refine xag ?_ _ | refine xai ?_ | refine xaf ?_ _)); refine xax ?_ NB183_185.out _; (with_reducible repeat (first | refine xag ?_ _ | refine xai ?_ | refine xaf ?_ _)); refine xax ?_ NB183_185.out _; (with_reducible repeat (first | refine xag ?_ _ | refine xai ?_ | refine xaf ?_ _)); exact BK183.out⟩, ⟨by (with_reducible repeat (first | refine xag ?_ _ | refine xai ?_ | refine xaf ?_ _)); refine xas (cs := #[.string (⟨#[]⟩ : ByteArray), .int .i8 0, .int .i64 0, .string (⟨#[]⟩ : ByteArray)]) ?_ 3 _ rfl; (with_reducible repeat (first | refine xag ?_ _ | refine xai ?_ | refine xaf ?_ _)); refine xas (cs := #[.string (⟨#[]⟩ : ByteArray), .int .i8 0, .int .i64 0, .string (⟨#[]⟩ : ByteArray)]) ?_ 2 _ rfl; (with_reducible repeat (first | refine xag ?_ _ | refine xai ?_ | refine xaf ?_ _)); refine xas (cs := #[.string (⟨#[]⟩ : ByteArray), .int .i8 0, .int .i64 0, .string (⟨#[]⟩ : ByteArray)]) ?_ 1 _ rfl; (with_reducible repeat (first | refine xag ?_ _ | refine xai ?_ | refine xaf ?_ _)); refine xas (cs := #[.string (⟨#[]⟩ : ByteArray), .int .i8 0, .int .i64 0, .string (⟨#[]⟩ : ByteArray)]) ?_ 0 _ rfl; (with_reducible repeat (first | refine xag ?_ _ | refine xai ?_ | refine xaf ?_ _)); exact BK185.out⟩, ⟨by repeat (first | (with_reducible first | exact HB.out | apply xab | apply xaa | apply xac | refine xad ?_ GE183.out | refine xad ?_ GE185.out) | exact HB.out)⟩⟩
   case rest =>
    clear HC16
    try clear c2
    try clear p2
    try clear c3
    try clear c3b0
    try clear c3b1
    try clear c5
    try clear c5b0
    try clear c5b1
    try clear c6
    try clear c6b0
    try clear c6b1
    try clear c6b2
    try clear c7
    try clear c7b0
    try clear c7b1
    try clear c20
    try clear c22
    try clear c22b0
    try clear c22b1
    try clear c23
    try clear c27
    try clear hcz12_0
    try clear hcz12_1
    try clear hcz12_2
    try clear hcz12_3
    try clear hcz12_4
    try clear hcz12_5
    try clear hcz15_0
    try clear hcz15_1
    try clear hcz15_2
    try clear hcz15_3
    try clear hcz15_4
    try clear hcz15_5
    try clear hcz18_0
    try clear hcz18_1
    try clear hcz18_2
    try clear hcz18_3
    try clear hcz18_4
    try clear hcz18_5
    try clear hcz21_0
    try clear hcz21_1
    try clear hcz21_2
    try clear hcz21_3
    try clear hcz24_0
    try clear hcz24_1
    try clear hcz24_2
    try clear hcz24_3
    try clear hcz24_4
    try clear hcz24_5
    try clear hcz25_0
    try clear hcz25_1
    try clear hcz25_2
    try clear hcz25_3
    try clear hcz28_0
    try clear hcz28_1
    try clear hcz28_2
    try clear hcz28_3
    try clear hcz28_4
    try clear hcz28_5
    try clear hcz29_0
    try clear hcz29_1
    try clear hcz29_2
    try clear hcz29_3
    try clear hcz9_0
    try clear hcz9_1
    try clear hcz9_2
    try clear hcz9_3
    try clear hcz9_4
    try clear hcz9_5
    try clear hfz12_0
    try clear hfz12_1
    try clear hfz12_2
    try clear hfz12_3
    try clear hfz12_4
    try clear hfz12_5
    try clear hfz15_0
    try clear hfz15_1
    try clear hfz15_2
    try clear hfz15_3
    try clear hfz15_4
    try clear hfz15_5
    try clear hfz18_0
    try clear hfz18_1
    try clear hfz18_2
    try clear hfz18_3
    try clear hfz18_4
    try clear hfz18_5
    try clear hfz21_0
    try clear hfz21_1
    try clear hfz21_2
    try clear hfz21_3
    try clear hfz24_0
    try clear hfz24_1
    try clear hfz24_2
    try clear hfz24_3
    try clear hfz24_4
    try clear hfz24_5
    try clear hfz25_0
    try clear hfz25_1
    try clear hfz25_2
    try clear hfz25_3
    try clear hfz28_0
    try clear hfz28_1
    try clear hfz28_2
    try clear hfz28_3
    try clear hfz28_4
    try clear hfz28_5
    try clear hfz29_0
    try clear hfz29_1
    try clear hfz29_2
    try clear hfz29_3
    try clear hfz9_0
    try clear hfz9_1
    try clear hfz9_2
    try clear hfz9_3
    try clear hfz9_4
    try clear hfz9_5
    obtain ⟨kq, x40_15, rfl, HA, HJ15, BK183, BK185, HB⟩ := hcut
    cases kq with
    | zero => exact absurd HA.out (by simp [r4_expr.j0])
    | succ kj15 =>
     have H := HA.out
     clear HA
     simp only [r4_expr.j0] at H
     by_cases c30 : x40_15 = true
     ·subst c30
      have H1 : (some false) = some r := by rw [if_pos rfl] at H; exact H
      clear H
      have H := H1
      clear H1
      obtain rfl := Option.some.inj H
      go_wp2
      repeat (go_quiet (fail); try go_wp2)
      go_ret
      exact ⟨by first | rfl | (simp [xak, xaj] <;> rfl) | (simp [*, xak, xaj] <;> rfl), by repeat (first | (with_reducible first | exact HB.out | apply xab | apply xaa | apply xac | refine xad ?_ GE183.out | refine xad ?_ GE185.out) | exact HB.out)⟩
     ·replace c30 := Bool.eq_false_iff.mpr c30
      subst c30
      have H1 : (r4_expr.l0 kj15 a1 0 a0_0 a0_1 a0_2 a0_3 a0_4 l0_5) = some r := by rw [if_neg (show ¬ (false = true) by decide)] at H; exact H
      clear H
      have H := H1
      clear H1
      have H' := Aside0.mk H
      clear H
      go_wp2
      repeat (go_quiet (fail); try go_wp2)
      go_loopg [6] kj15 (fun kq v6 w' => ∃ (x6_2 : Int), v6 = .int .i64 x6_2 ∧ Aside0 (r4_expr.l0 kq a1 x6_2 a0_0 a0_1 a0_2 a0_3 a0_4 l0_5 = some r) ∧ Aside0 (kq ≤ kj15) ∧ Aside0 (w'.heap[gb183]? = some (.cells #[.int .i8 a0_0, .string a0_1, .int .i8 a0_2, .int .i64 a0_3, .string a0_4, (.slice A0_5 l0_5.length c0_5)] 31 (0, 0))) ∧ Aside0 (w'.heap[gb185]? = some (.cells #[.string (⟨#[]⟩ : ByteArray), .int .i8 0, .int .i64 0, .string (⟨#[]⟩ : ByteArray)] 28 (0, 0))) ∧ Aside0 (Below w.heap.size w w'))
      case atStart => exact ⟨(0), (by first | rfl | (simp; done) | (simp [*]; done)), H', ⟨Nat.le_refl _⟩, ⟨by (with_reducible repeat (first | refine xag ?_ _ | refine xai ?_ | refine xaf ?_ _)); exact BK183.out⟩, ⟨by (with_reducible repeat (first | refine xag ?_ _ | refine xai ?_ | refine xaf ?_ _)); exact BK185.out⟩, ⟨by repeat (first | (with_reducible first | exact HB.out | apply xab | apply xaa | apply xac | refine xad ?_ GE183.out | refine xad ?_ GE185.out) | exact HB.out)⟩⟩
      case round =>
       clear H'
       try clear c2
       try clear p2
       try clear c3
       try clear c3b0
       try clear c3b1
       try clear c5
       try clear c5b0
       try clear c5b1
       try clear c6
       try clear c6b0
       try clear c6b1
       try clear c6b2
       try clear c7
       try clear c7b0
       try clear c7b1
       try clear c20
       try clear c22
       try clear c22b0
       try clear c22b1
       try clear c23
       try clear c27
       try clear c30
       try clear hcz12_0
       try clear hcz12_1
       try clear hcz12_2
       try clear hcz12_3
       try clear hcz12_4
       try clear hcz12_5
       try clear hcz15_0
       try clear hcz15_1
       try clear hcz15_2
       try clear hcz15_3
       try clear hcz15_4
       try clear hcz15_5
       try clear hcz18_0
       try clear hcz18_1
       try clear hcz18_2
       try clear hcz18_3
       try clear hcz18_4
       try clear hcz18_5
       try clear hcz21_0
       try clear hcz21_1
       try clear hcz21_2
       try clear hcz21_3
       try clear hcz24_0
       try clear hcz24_1
       try clear hcz24_2
       try clear hcz24_3
       try clear hcz24_4
       try clear hcz24_5
       try clear hcz25_0
       try clear hcz25_1
       try clear hcz25_2
       try clear hcz25_3
       try clear hcz28_0
       try clear hcz28_1
       try clear hcz28_2
       try clear hcz28_3
       try clear hcz28_4
       try clear hcz28_5
       try clear hcz29_0
       try clear hcz29_1
       try clear hcz29_2
       try clear hcz29_3
       try clear hcz9_0
       try clear hcz9_1
       try clear hcz9_2
       try clear hcz9_3
       try clear hcz9_4
       try clear hcz9_5
       try clear hfz12_0
       try clear hfz12_1
       try clear hfz12_2
       try clear hfz12_3
       try clear hfz12_4
       try clear hfz12_5
       try clear hfz15_0
       try clear hfz15_1
       try clear hfz15_2
       try clear hfz15_3
       try clear hfz15_4
       try clear hfz15_5
       try clear hfz18_0
       try clear hfz18_1
       try clear hfz18_2
       try clear hfz18_3
       try clear hfz18_4
       try clear hfz18_5
       try clear hfz21_0
       try clear hfz21_1
       try clear hfz21_2
       try clear hfz21_3
       try clear hfz24_0
       try clear hfz24_1
       try clear hfz24_2
       try clear hfz24_3
       try clear hfz24_4
       try clear hfz24_5
       try clear hfz25_0
       try clear hfz25_1
       try clear hfz25_2
       try clear hfz25_3
       try clear hfz28_0
       try clear hfz28_1
       try clear hfz28_2
       try clear hfz28_3
       try clear hfz28_4
       try clear hfz28_5
       try clear hfz29_0
       try clear hfz29_1
       try clear hfz29_2
       try clear hfz29_3
       try clear hfz9_0
       try clear hfz9_1
       try clear hfz9_2
       try clear hfz9_3
       try clear hfz9_4
       try clear hfz9_5
       try clear p2
       obtain ⟨x6_2, rfl, HA, HK2, BK183, BK185, HB⟩ := hrel
       cases gk with
       | zero => exact absurd HA.out (by simp [r4_expr.l0])
       | succ k2 =>
        have H := HA.out
        clear HA
        simp only [r4_expr.l0] at H
        by_cases c31 : x6_2 < (l0_5.length : Int)
        ·rw [if_pos c31] at H
         have c31b0 : decide (x6_2 < (l0_5.length : Int)) = true := decide_eq_true c31
         clear c31
         by_cases c32 : 0 ≤ x6_2
         ·rw [if_pos c32] at H
          have c32b0 : decide (0 ≤ x6_2) = true := decide_eq_true c32
          clear c32
          replace H := Option.bind_eq_some_iff.mp H
          obtain ⟨t188, A330, H⟩ := H
          replace H : (if t188 = true then (r4_expr.l0 k2 a1 (wrap64 (x6_2 + 1)) a0_0 a0_1 a0_2 a0_3 a0_4 l0_5) else (some false)) = some r := H
          have A33 := Aside0.mk A330
          clear A330
          by_cases c34 : t188 = true
          ·subst c34
           have H1 : (r4_expr.l0 k2 a1 (wrap64 (x6_2 + 1)) a0_0 a0_1 a0_2 a0_3 a0_4 l0_5) = some r := by rw [if_pos rfl] at H; exact H
           clear H
           have H := H1
           clear H1
           have H' := Aside0.mk H
           clear H
           have hnb35 := NB183_185.out
           have hnc35 := NB185_183.out
           obtain ⟨hcz36_0, hcz36_1, hcz36_2, hcz36_3, hcz36_4, hcz36_5⟩ := cz6 BK183.out
           obtain ⟨hfz36_0, hfz36_1, hfz36_2, hfz36_3, hfz36_4, hfz36_5⟩ := fz6 BK183.out
           have p187 : 0 ≤ (x6_2 : Int) := of_decide_eq_true (by first | (with_reducible assumption) | assumption)
           have q187 : x6_2 < (l0_5.length : Int) := of_decide_eq_true (by first | (with_reducible assumption) | assumption)
           obtain ⟨ad187, A187_5, c187_5, e187, hx187_0, hx187_1, hx187_2, hx187_3, hx187_4, hx187_5, hl187_5, hi187_5⟩ := at_T31 HR0_5.out x6_2 p187 q187
           cases e187
           replace hx187_0 := (HB.out.cell (World.block_lt_of_cell? w _ hx187_0)).trans hx187_0
           replace hx187_1 := (HB.out.cell (World.block_lt_of_cell? w _ hx187_1)).trans hx187_1
           replace hx187_2 := (HB.out.cell (World.block_lt_of_cell? w _ hx187_2)).trans hx187_2
           replace hx187_3 := (HB.out.cell (World.block_lt_of_cell? w _ hx187_3)).trans hx187_3
           replace hx187_4 := (HB.out.cell (World.block_lt_of_cell? w _ hx187_4)).trans hx187_4
           replace hx187_5 := (HB.out.cell (World.block_lt_of_cell? w _ hx187_5)).trans hx187_5
           have HR187_5 := Aside0.mk hi187_5
           have HC187_5 := Aside0.mk hl187_5
           clear hi187_5 hl187_5
           replace p187 := eq_true p187
           replace q187 := eq_true q187
           go_wp2_with (first | (go_at_call 55; (with_reducible refine (ih k2 (by have := HJ15.out; have := HK2.out; omega) ((rd_T31 l0_5 x6_2).f0) ((rd_T31 l0_5 x6_2).f1.f0) ((rd_T31 l0_5 x6_2).f1.f1.f0) ((rd_T31 l0_5 x6_2).f1.f1.f1) ((rd_T31 l0_5 x6_2).f1.f1.f2) _ _ ((rd_T31 l0_5 x6_2).f2) (wrap64 (a1 - 1)) true _ ?side1 ?side2 A33.out).mono ?_); (case side1 => repeat (first | exact (Kd.C_below HR187_5.out HB.out) | (with_reducible refine Kd.C_alloc ?_ _) | (with_reducible refine Kd.C_drewN ?_ _) | (with_reducible refine Kd.C_drew ?_))); (case side2 => exact HC187_5.out); rintro e w37 ⟨rfl, hb⟩; have n0_ := Aside0.mk (xam (g := gb183) (o := .cells #[.int .i8 a0_0, .string a0_1, .int .i8 a0_2, .int .i64 a0_3, .string a0_4, .slice (some ad187) l0_5.length c0_5] 31 (0, 0)) (by (with_reducible repeat (first | refine xag ?_ _ | refine xai ?_ | refine xaf ?_ _)); exact BK183.out) hb); have n1_ := Aside0.mk (xam (g := gb185) (o := .cells #[.string (⟨#[]⟩ : ByteArray), .int .i8 0, .int .i64 0, .string (⟨#[]⟩ : ByteArray)] 28 (0, 0)) (by (with_reducible repeat (first | refine xag ?_ _ | refine xai ?_ | refine xaf ?_ _)); exact BK185.out) hb); have n2_ := Aside0.mk (xah (by repeat (first | (with_reducible first | exact HB.out | apply xab | apply xaa | apply xac | refine xad ?_ GE183.out | refine xad ?_ GE185.out) | exact HB.out)) hb); clear BK183; clear BK185; clear HB; have BK183 := n0_; have BK185 := n1_; have HB := n2_; clear n0_ n1_ n2_; (try clear hb); (try clear hb2); (try clear hk); (try clear hi)))
           repeat (go_quiet (first | (go_at_call 55; (with_reducible refine (ih k2 (by have := HJ15.out; have := HK2.out; omega) ((rd_T31 l0_5 x6_2).f0) ((rd_T31 l0_5 x6_2).f1.f0) ((rd_T31 l0_5 x6_2).f1.f1.f0) ((rd_T31 l0_5 x6_2).f1.f1.f1) ((rd_T31 l0_5 x6_2).f1.f1.f2) _ _ ((rd_T31 l0_5 x6_2).f2) (wrap64 (a1 - 1)) true _ ?side1 ?side2 A33.out).mono ?_); (case side1 => repeat (first | exact (Kd.C_below HR187_5.out HB.out) | (with_reducible refine Kd.C_alloc ?_ _) | (with_reducible refine Kd.C_drewN ?_ _) | (with_reducible refine Kd.C_drew ?_))); (case side2 => exact HC187_5.out); rintro e w37 ⟨rfl, hb⟩; have n0_ := Aside0.mk (xam (g := gb183) (o := .cells #[.int .i8 a0_0, .string a0_1, .int .i8 a0_2, .int .i64 a0_3, .string a0_4, .slice (some ad187) l0_5.length c0_5] 31 (0, 0)) (by (with_reducible repeat (first | refine xag ?_ _ | refine xai ?_ | refine xaf ?_ _)); exact BK183.out) hb); have n1_ := Aside0.mk (xam (g := gb185) (o := .cells #[.string (⟨#[]⟩ : ByteArray), .int .i8 0, .int .i64 0, .string (⟨#[]⟩ : ByteArray)] 28 (0, 0)) (by (with_reducible repeat (first | refine xag ?_ _ | refine xai ?_ | refine xaf ?_ _)); exact BK185.out) hb); have n2_ := Aside0.mk (xah (by repeat (first | (with_reducible first | exact HB.out | apply xab | apply xaa | apply xac | refine xad ?_ GE183.out | refine xad ?_ GE185.out) | exact HB.out)) hb); clear BK183; clear BK185; clear HB; have BK183 := n0_; have BK185 := n1_; have HB := n2_; clear n0_ n1_ n2_; (try clear hb); (try clear hb2); (try clear hk); (try clear hi))); try go_wp2_with (first | (go_at_call 55; (with_reducible refine (ih k2 (by have := HJ15.out; have := HK2.out; omega) ((rd_T31 l0_5 x6_2).f0) ((rd_T31 l0_5 x6_2).f1.f0) ((rd_T31 l0_5 x6_2).f1.f1.f0) ((rd_T31 l0_5 x6_2).f1.f1.f1) ((rd_T31 l0_5 x6_2).f1.f1.f2) _ _ ((rd_T31 l0_5 x6_2).f2) (wrap64 (a1 - 1)) true _ ?side1 ?side2 A33.out).mono ?_); (case side1 => repeat (first | exact (Kd.C_below HR187_5.out HB.out) | (with_reducible refine Kd.C_alloc ?_ _) | (with_reducible refine Kd.C_drewN ?_ _) | (with_reducible refine Kd.C_drew ?_))); (case side2 => exact HC187_5.out); rintro e w37 ⟨rfl, hb⟩; have n0_ := Aside0.mk (xam (g := gb183) (o := .cells #[.int .i8 a0_0, .string a0_1, .int .i8 a0_2, .int .i64 a0_3, .string a0_4, .slice (some ad187) l0_5.length c0_5] 31 (0, 0)) (by (with_reducible repeat (first | refine xag ?_ _ | refine xai ?_ | refine xaf ?_ _)); exact BK183.out) hb); have n1_ := Aside0.mk (xam (g := gb185) (o := .cells #[.string (⟨#[]⟩ : ByteArray), .int .i8 0, .int .i64 0, .string (⟨#[]⟩ : ByteArray)] 28 (0, 0)) (by (with_reducible repeat (first | refine xag ?_ _ | refine xai ?_ | refine xaf ?_ _)); exact BK185.out) hb); have n2_ := Aside0.mk (xah (by repeat (first | (with_reducible first | exact HB.out | apply xab | apply xaa | apply xac | refine xad ?_ GE183.out | refine xad ?_ GE185.out) | exact HB.out)) hb); clear BK183; clear BK185; clear HB; have BK183 := n0_; have BK185 := n1_; have HB := n2_; clear n0_ n1_ n2_; (try clear hb); (try clear hb2); (try clear hk); (try clear hi))))
           go_roundg k2
           case measure => have := HJ15.out; have := HK2.out; omega
           case rel => exact ⟨(wrap64 (x6_2 + 1)), (by first | rfl | (simp; done) | (simp [*]; done)), H', ⟨by have := HJ15.out; have := HK2.out; omega⟩, ⟨by (with_reducible repeat (first | refine xag ?_ _ | refine xai ?_ | refine xaf ?_ _)); exact BK183.out⟩, ⟨by (with_reducible repeat (first | refine xag ?_ _ | refine xai ?_ | refine xaf ?_ _)); exact BK185.out⟩, ⟨by repeat (first | (with_reducible first | exact HB.out | apply xab | apply xaa | apply xac | refine xad ?_ GE183.out | refine xad ?_ GE185.out) | exact HB.out)⟩⟩
          ·replace c34 := Bool.eq_false_iff.mpr c34
           subst c34
           have H1 : (some false) = some r := by rw [if_neg (show ¬ (false = true) by decide)] at H; exact H
           clear H
           have H := H1
           clear H1
           obtain rfl := Option.some.inj H
           have hnb38 := NB183_185.out
           have hnc38 := NB185_183.out
           obtain ⟨hcz39_0, hcz39_1, hcz39_2, hcz39_3, hcz39_4, hcz39_5⟩ := cz6 BK183.out
           obtain ⟨hfz39_0, hfz39_1, hfz39_2, hfz39_3, hfz39_4, hfz39_5⟩ := fz6 BK183.out
           have p187 : 0 ≤ (x6_2 : Int) := of_decide_eq_true (by first | (with_reducible assumption) | assumption)
           have q187 : x6_2 < (l0_5.length : Int) := of_decide_eq_true (by first | (with_reducible assumption) | assumption)
           obtain ⟨ad187, A187_5, c187_5, e187, hx187_0, hx187_1, hx187_2, hx187_3, hx187_4, hx187_5, hl187_5, hi187_5⟩ := at_T31 HR0_5.out x6_2 p187 q187
           cases e187
           replace hx187_0 := (HB.out.cell (World.block_lt_of_cell? w _ hx187_0)).trans hx187_0
           replace hx187_1 := (HB.out.cell (World.block_lt_of_cell? w _ hx187_1)).trans hx187_1
           replace hx187_2 := (HB.out.cell (World.block_lt_of_cell? w _ hx187_2)).trans hx187_2
           replace hx187_3 := (HB.out.cell (World.block_lt_of_cell? w _ hx187_3)).trans hx187_3
           replace hx187_4 := (HB.out.cell (World.block_lt_of_cell? w _ hx187_4)).trans hx187_4
           replace hx187_5 := (HB.out.cell (World.block_lt_of_cell? w _ hx187_5)).trans hx187_5
           have HR187_5 := Aside0.mk hi187_5
           have HC187_5 := Aside0.mk hl187_5
           clear hi187_5 hl187_5
           replace p187 := eq_true p187
           replace q187 := eq_true q187
           go_wp2_with (first | (go_at_call 55; (with_reducible refine (ih k2 (by have := HJ15.out; have := HK2.out; omega) ((rd_T31 l0_5 x6_2).f0) ((rd_T31 l0_5 x6_2).f1.f0) ((rd_T31 l0_5 x6_2).f1.f1.f0) ((rd_T31 l0_5 x6_2).f1.f1.f1) ((rd_T31 l0_5 x6_2).f1.f1.f2) _ _ ((rd_T31 l0_5 x6_2).f2) (wrap64 (a1 - 1)) false _ ?side1 ?side2 A33.out).mono ?_); (case side1 => repeat (first | exact (Kd.C_below HR187_5.out HB.out) | (with_reducible refine Kd.C_alloc ?_ _) | (with_reducible refine Kd.C_drewN ?_ _) | (with_reducible refine Kd.C_drew ?_))); (case side2 => exact HC187_5.out); rintro e w40 ⟨rfl, hb⟩; have n0_ := Aside0.mk (xam (g := gb183) (o := .cells #[.int .i8 a0_0, .string a0_1, .int .i8 a0_2, .int .i64 a0_3, .string a0_4, .slice (some ad187) l0_5.length c0_5] 31 (0, 0)) (by (with_reducible repeat (first | refine xag ?_ _ | refine xai ?_ | refine xaf ?_ _)); exact BK183.out) hb); have n1_ := Aside0.mk (xam (g := gb185) (o := .cells #[.string (⟨#[]⟩ : ByteArray), .int .i8 0, .int .i64 0, .string (⟨#[]⟩ : ByteArray)] 28 (0, 0)) (by (with_reducible repeat (first | refine xag ?_ _ | refine xai ?_ | refine xaf ?_ _)); exact BK185.out) hb); have n2_ := Aside0.mk (xah (by repeat (first | (with_reducible first | exact HB.out | apply xab | apply xaa | apply xac | refine xad ?_ GE183.out | refine xad ?_ GE185.out) | exact HB.out)) hb); clear BK183; clear BK185; clear HB; have BK183 := n0_; have BK185 := n1_; have HB := n2_; clear n0_ n1_ n2_; (try clear hb); (try clear hb2); (try clear hk); (try clear hi)))
           repeat (go_quiet (first | (go_at_call 55; (with_reducible refine (ih k2 (by have := HJ15.out; have := HK2.out; omega) ((rd_T31 l0_5 x6_2).f0) ((rd_T31 l0_5 x6_2).f1.f0) ((rd_T31 l0_5 x6_2).f1.f1.f0) ((rd_T31 l0_5 x6_2).f1.f1.f1) ((rd_T31 l0_5 x6_2).f1.f1.f2) _ _ ((rd_T31 l0_5 x6_2).f2) (wrap64 (a1 - 1)) false _ ?side1 ?side2 A33.out).mono ?_); (case side1 => repeat (first | exact (Kd.C_below HR187_5.out HB.out) | (with_reducible refine Kd.C_alloc ?_ _) | (with_reducible refine Kd.C_drewN ?_ _) | (with_reducible refine Kd.C_drew ?_))); (case side2 => exact HC187_5.out); rintro e w40 ⟨rfl, hb⟩; have n0_ := Aside0.mk (xam (g := gb183) (o := .cells #[.int .i8 a0_0, .string a0_1, .int .i8 a0_2, .int .i64 a0_3, .string a0_4, .slice (some ad187) l0_5.length c0_5] 31 (0, 0)) (by (with_reducible repeat (first | refine xag ?_ _ | refine xai ?_ | refine xaf ?_ _)); exact BK183.out) hb); have n1_ := Aside0.mk (xam (g := gb185) (o := .cells #[.string (⟨#[]⟩ : ByteArray), .int .i8 0, .int .i64 0, .string (⟨#[]⟩ : ByteArray)] 28 (0, 0)) (by (with_reducible repeat (first | refine xag ?_ _ | refine xai ?_ | refine xaf ?_ _)); exact BK185.out) hb); have n2_ := Aside0.mk (xah (by repeat (first | (with_reducible first | exact HB.out | apply xab | apply xaa | apply xac | refine xad ?_ GE183.out | refine xad ?_ GE185.out) | exact HB.out)) hb); clear BK183; clear BK185; clear HB; have BK183 := n0_; have BK185 := n1_; have HB := n2_; clear n0_ n1_ n2_; (try clear hb); (try clear hb2); (try clear hk); (try clear hi))); try go_wp2_with (first | (go_at_call 55; (with_reducible refine (ih k2 (by have := HJ15.out; have := HK2.out; omega) ((rd_T31 l0_5 x6_2).f0) ((rd_T31 l0_5 x6_2).f1.f0) ((rd_T31 l0_5 x6_2).f1.f1.f0) ((rd_T31 l0_5 x6_2).f1.f1.f1) ((rd_T31 l0_5 x6_2).f1.f1.f2) _ _ ((rd_T31 l0_5 x6_2).f2) (wrap64 (a1 - 1)) false _ ?side1 ?side2 A33.out).mono ?_); (case side1 => repeat (first | exact (Kd.C_below HR187_5.out HB.out) | (with_reducible refine Kd.C_alloc ?_ _) | (with_reducible refine Kd.C_drewN ?_ _) | (with_reducible refine Kd.C_drew ?_))); (case side2 => exact HC187_5.out); rintro e w40 ⟨rfl, hb⟩; have n0_ := Aside0.mk (xam (g := gb183) (o := .cells #[.int .i8 a0_0, .string a0_1, .int .i8 a0_2, .int .i64 a0_3, .string a0_4, .slice (some ad187) l0_5.length c0_5] 31 (0, 0)) (by (with_reducible repeat (first | refine xag ?_ _ | refine xai ?_ | refine xaf ?_ _)); exact BK183.out) hb); have n1_ := Aside0.mk (xam (g := gb185) (o := .cells #[.string (⟨#[]⟩ : ByteArray), .int .i8 0, .int .i64 0, .string (⟨#[]⟩ : ByteArray)] 28 (0, 0)) (by (with_reducible repeat (first | refine xag ?_ _ | refine xai ?_ | refine xaf ?_ _)); exact BK185.out) hb); have n2_ := Aside0.mk (xah (by repeat (first | (with_reducible first | exact HB.out | apply xab | apply xaa | apply xac | refine xad ?_ GE183.out | refine xad ?_ GE185.out) | exact HB.out)) hb); clear BK183; clear BK185; clear HB; have BK183 := n0_; have BK185 := n1_; have HB := n2_; clear n0_ n1_ n2_; (try clear hb); (try clear hb2); (try clear hk); (try clear hi))))
           go_ret
           exact ⟨by first | rfl | (simp [xak, xaj] <;> rfl) | (simp [*, xak, xaj] <;> rfl), by repeat (first | (with_reducible first | exact HB.out | apply xab | apply xaa | apply xac | refine xad ?_ GE183.out | refine xad ?_ GE185.out) | exact HB.out)⟩
         ·rw [if_neg c32] at H
          exact absurd H (by simp)
        ·rw [if_neg c31] at H
         have c31b0 : decide (x6_2 < (l0_5.length : Int)) = false := decide_eq_false c31
         clear c31
         obtain rfl := Option.some.inj H
         have hnb41 := NB183_185.out
         have hnc41 := NB185_183.out
         obtain ⟨hcz42_0, hcz42_1, hcz42_2, hcz42_3, hcz42_4, hcz42_5⟩ := cz6 BK183.out
         obtain ⟨hfz42_0, hfz42_1, hfz42_2, hfz42_3, hfz42_4, hfz42_5⟩ := fz6 BK183.out
         go_wp2
         repeat (go_quiet (fail); try go_wp2)
         go_ret
         exact ⟨by first | rfl | (simp [xak, xaj] <;> rfl) | (simp [*, xak, xaj] <;> rfl), by repeat (first | (with_reducible first | exact HB.out | apply xab | apply xaa | apply xac | refine xad ?_ GE183.out | refine xad ?_ GE185.out) | exact HB.out)⟩
end Go.Proofs.YtllcmggmcogokaaDoor.PAll
end
section
namespace Go.Proofs.YtllcmggmcogokaaDoor.PAll
open Go.RowKit Go.Proofs.YtllcmggmcogokaaDoorW.PrintWords Go.Proofs.YtllcmggmcogokaaDoorW.PrintLast Go.Proofs.YtllcmggmcogokaaDoorW.PrintMore
attribute [local go_sem] max2_int min2_int max_two min_two max_three min_three max_four min_four
def term_empty.f (a0_0 : Int) (a0_1 : ByteArray) (a0_2 : Int) (a0_3 : Int) (a0_4 : ByteArray) (l0_5 : List (S31)) : Option (Bool) := if a0_0 = 0 then ((term_none.f a0_1 a0_2 a0_3 a0_4).bind fun t270 => (if t270 = true then (some ((l0_5.length : Int) == 0)) else (some false))) else (some false)
set_option maxHeartbeats 8000000 in
set_option maxRecDepth 100000 in
theorem term_empty.calls (a0_0 : Int) (a0_1 : ByteArray) (a0_2 : Int) (a0_3 : Int) (a0_4 : ByteArray) (A0_5 : Option Addr) (c0_5 : Nat) (l0_5 : List (S31)) (r : Bool) (w : World) (hr0_5 : Kd.C k31 w A0_5 l0_5.length l0_5) (hc0_5 : l0_5.length ≤ c0_5) (h : term_empty.f a0_0 a0_1 a0_2 a0_3 a0_4 l0_5 = some r) :
  Calls Tryd.prog 66 #[.agg #[.int .i8 a0_0, .string a0_1, .int .i8 a0_2, .int .i64 a0_3, .string a0_4, .slice A0_5 l0_5.length c0_5]] w fun e w' => e = .returned (.bool r) ∧ Below w.heap.size w w' := by
 have hu31 := Tryd.underlying31
 have hu28 := Tryd.underlying28
 have HR0_5 := Aside0.mk hr0_5
 have HC0_5 := Aside0.mk hc0_5
 clear hr0_5 hc0_5
 have HB := Aside0.mk (Below.refl w.heap.size w)
 have H : (if a0_0 = 0 then ((term_none.f a0_1 a0_2 a0_3 a0_4).bind fun t270 => (if t270 = true then (some ((l0_5.length : Int) == 0)) else (some false))) else (some false)) = some r := h
 clear h
 by_cases c2 : a0_0 = 0
 ·rw [if_pos c2] at H
  have c2b0 : (a0_0 == 0) = true := beq_iff_eq.mpr c2
  have c2b1 : (a0_0 != 0) = false := bne_eq_false_iff_eq.mpr c2
  clear c2
  replace H := Option.bind_eq_some_iff.mp H
  obtain ⟨t270, A30, H⟩ := H
  replace H : (if t270 = true then (some ((l0_5.length : Int) == 0)) else (some false)) = some r := H
  have A3 := Aside0.mk A30
  clear A30
  by_cases c4 : t270 = true
  ·subst c4
   have H1 : (some ((l0_5.length : Int) == 0)) = some r := by rw [if_pos rfl] at H; exact H
   clear H
   have H := H1
   clear H1
   obtain rfl := Option.some.inj H
   go_enter Tryd.func66, Tryd.ntmps66
   go_wp2_with (first | ((with_reducible refine xar (N := 1) rfl ?_); (try (refine xav (by rfl) ?_; dsimp only)); refine xap ?hg (N := 1) ?hd (cs := #[.int .i8 a0_0, .string a0_1, .int .i8 a0_2, .int .i64 a0_3, .string a0_4, .slice A0_5 l0_5.length c0_5]) (t := 31) ?hr ?_; (case hd => rfl); (case hg => rfl); (case hr => first | (go_simp; done) | (go_simp; rfl)); intro gb269 hg w5 hbox hb; have n0_ := Aside0.mk (xah (by repeat (first | (with_reducible first | exact HB.out | apply xab | apply xaa | apply xac) | exact HB.out)) hb); have n1_ := Aside0.mk (hbox); have n2_ := Aside0.mk ((by rw [hg]; exact (xao (by repeat (first | (with_reducible first | exact HB.out | apply xab | apply xaa | apply xac) | exact HB.out))) : w.heap.size ≤ gb269)); have n3_ := n2_; clear HB; have HB := n0_; have BK269 := n1_; have GW269 := n2_; have GE269 := n3_; clear n0_ n1_ n2_ n3_; clear hb hbox hg; obtain ⟨hcz6_0, hcz6_1, hcz6_2, hcz6_3, hcz6_4, hcz6_5⟩ := cz6 BK269.out; obtain ⟨hfz6_0, hfz6_1, hfz6_2, hfz6_3, hfz6_4, hfz6_5⟩ := fz6 BK269.out) | (go_at_call 106; (with_reducible refine (term_none.calls a0_1 a0_2 a0_3 a0_4 true _ A3.out).mono ?_); rintro e w7 ⟨rfl, hb⟩; have n0_ := Aside0.mk (xam (g := gb269) (o := .cells #[.int .i8 a0_0, .string a0_1, .int .i8 a0_2, .int .i64 a0_3, .string a0_4, .slice A0_5 l0_5.length c0_5] 31 (0, 0)) (by (with_reducible repeat (first | refine xag ?_ _ | refine xai ?_ | refine xaf ?_ _)); exact BK269.out) hb); have n1_ := Aside0.mk (xah (by repeat (first | (with_reducible first | exact HB.out | apply xab | apply xaa | apply xac | refine xad ?_ GE269.out) | exact HB.out)) hb); clear BK269; clear HB; have BK269 := n0_; have HB := n1_; clear n0_ n1_; (try clear hb); (try clear hb2); (try clear hk); (try clear hi); obtain ⟨hcz8_0, hcz8_1, hcz8_2, hcz8_3, hcz8_4, hcz8_5⟩ := cz6 BK269.out; obtain ⟨hfz8_0, hfz8_1, hfz8_2, hfz8_3, hfz8_4, hfz8_5⟩ := fz6 BK269.out))
   go_ret
   exact ⟨by first | rfl | (simp [xak, xaj] <;> rfl) | (simp [*, xak, xaj] <;> rfl), by repeat (first | (with_reducible first | exact HB.out | apply xab | apply xaa | apply xac | refine xad ?_ GE269.out) | exact HB.out)⟩
  ·replace c4 := Bool.eq_false_iff.mpr c4
   subst c4
   have H1 : (some false) = some r := by rw [if_neg (show ¬ (false = true) by decide)] at H; exact H
   clear H
   have H := H1
   clear H1
   obtain rfl := Option.some.inj H
   go_enter Tryd.func66, Tryd.ntmps66
   go_wp2_with (first | ((with_reducible refine xar (N := 1) rfl ?_); (try (refine xav (by rfl) ?_; dsimp only)); refine xap ?hg (N := 1) ?hd (cs := #[.int .i8 a0_0, .string a0_1, .int .i8 a0_2, .int .i64 a0_3, .string a0_4, .slice A0_5 l0_5.length c0_5]) (t := 31) ?hr ?_; (case hd => rfl); (case hg => rfl); (case hr => first | (go_simp; done) | (go_simp; rfl)); intro gb269 hg w9 hbox hb; have n0_ := Aside0.mk (xah (by repeat (first | (with_reducible first | exact HB.out | apply xab | apply xaa | apply xac) | exact HB.out)) hb); have n1_ := Aside0.mk (hbox); have n2_ := Aside0.mk ((by rw [hg]; exact (xao (by repeat (first | (with_reducible first | exact HB.out | apply xab | apply xaa | apply xac) | exact HB.out))) : w.heap.size ≤ gb269)); have n3_ := n2_; clear HB; have HB := n0_; have BK269 := n1_; have GW269 := n2_; have GE269 := n3_; clear n0_ n1_ n2_ n3_; clear hb hbox hg; obtain ⟨hcz10_0, hcz10_1, hcz10_2, hcz10_3, hcz10_4, hcz10_5⟩ := cz6 BK269.out; obtain ⟨hfz10_0, hfz10_1, hfz10_2, hfz10_3, hfz10_4, hfz10_5⟩ := fz6 BK269.out) | (go_at_call 106; (with_reducible refine (term_none.calls a0_1 a0_2 a0_3 a0_4 false _ A3.out).mono ?_); rintro e w11 ⟨rfl, hb⟩; have n0_ := Aside0.mk (xam (g := gb269) (o := .cells #[.int .i8 a0_0, .string a0_1, .int .i8 a0_2, .int .i64 a0_3, .string a0_4, .slice A0_5 l0_5.length c0_5] 31 (0, 0)) (by (with_reducible repeat (first | refine xag ?_ _ | refine xai ?_ | refine xaf ?_ _)); exact BK269.out) hb); have n1_ := Aside0.mk (xah (by repeat (first | (with_reducible first | exact HB.out | apply xab | apply xaa | apply xac | refine xad ?_ GE269.out) | exact HB.out)) hb); clear BK269; clear HB; have BK269 := n0_; have HB := n1_; clear n0_ n1_; (try clear hb); (try clear hb2); (try clear hk); (try clear hi)))
   go_ret
   exact ⟨by first | rfl | (simp [xak, xaj] <;> rfl) | (simp [*, xak, xaj] <;> rfl), by repeat (first | (with_reducible first | exact HB.out | apply xab | apply xaa | apply xac | refine xad ?_ GE269.out) | exact HB.out)⟩
 ·rw [if_neg c2] at H
  have c2b0 : (a0_0 == 0) = false := beq_eq_false_iff_ne.mpr c2
  have c2b1 : (a0_0 != 0) = true := bne_iff_ne.mpr c2
  obtain rfl := Option.some.inj H
  go_enter Tryd.func66, Tryd.ntmps66
  go_wp2_with (first | ((with_reducible refine xar (N := 1) rfl ?_); (try (refine xav (by rfl) ?_; dsimp only)); refine xap ?hg (N := 1) ?hd (cs := #[.int .i8 a0_0, .string a0_1, .int .i8 a0_2, .int .i64 a0_3, .string a0_4, .slice A0_5 l0_5.length c0_5]) (t := 31) ?hr ?_; (case hd => rfl); (case hg => rfl); (case hr => first | (go_simp; done) | (go_simp; rfl)); intro gb269 hg w12 hbox hb; have n0_ := Aside0.mk (xah (by repeat (first | (with_reducible first | exact HB.out | apply xab | apply xaa | apply xac) | exact HB.out)) hb); have n1_ := Aside0.mk (hbox); have n2_ := Aside0.mk ((by rw [hg]; exact (xao (by repeat (first | (with_reducible first | exact HB.out | apply xab | apply xaa | apply xac) | exact HB.out))) : w.heap.size ≤ gb269)); have n3_ := n2_; clear HB; have HB := n0_; have BK269 := n1_; have GW269 := n2_; have GE269 := n3_; clear n0_ n1_ n2_ n3_; clear hb hbox hg; obtain ⟨hcz13_0, hcz13_1, hcz13_2, hcz13_3, hcz13_4, hcz13_5⟩ := cz6 BK269.out; obtain ⟨hfz13_0, hfz13_1, hfz13_2, hfz13_3, hfz13_4, hfz13_5⟩ := fz6 BK269.out))
  go_ret
  exact ⟨by first | rfl | (simp [xak, xaj] <;> rfl) | (simp [*, xak, xaj] <;> rfl), by repeat (first | (with_reducible first | exact HB.out | apply xab | apply xaa | apply xac | refine xad ?_ GE269.out) | exact HB.out)⟩
def term_CheckLiteral.j0 : Nat → Int → Bool → Int → ByteArray → List (S28) → Int → Int → ByteArray → Int → Int → ByteArray → List (S31) → Int → ByteArray → Int → Int → ByteArray → List (S31) → Option (Int)
 | 0, _, _, _, _, _, _, _, _, _, _, _, _, _, _, _, _, _, _ => none
 | k + 1, x4, x5, x272000, x272001, x272002, x272003, x272004, x272005, x272006, x272007, x272008, x272009, x272010, x272011, x272012, x272013, x272014, x272015 => if x5 = true then (if x272003 = 0 then ((term_empty.f x272004 x272005 x272006 x272007 x272008 x272009).bind fun t272 => (if t272 = true then ((term_empty.f x272010 x272011 x272012 x272013 x272014 x272015).bind fun t273 => (if t273 = true then ((term_CheckAtom.f x272001 x272002).bind fun t274 => (some t274)) else (some 40))) else (some 40))) else (some 40)) else (if x4 = 3 then (if x272001.toList = ([] : List UInt8) then (if (x272002.length : Int) > 0 then (some 40) else (if x272003 < 1 then (some 40) else (if x272003 > 6 then (some 40) else ((term_CheckExpr.f x272004 x272005 x272006 x272007 x272008 x272009).bind fun t275 => (if t275 = 0 then ((term_CheckExpr.f x272010 x272011 x272012 x272013 x272014 x272015).bind fun t276 => (some t276)) else (some 40)))))) else (some 40)) else (some 40))
def term_CheckLiteral.f (k : Nat) (a0_0 : Int) (a0_1 : ByteArray) (l0_2 : List (S28)) (a0_3 : Int) (a0_4 : Int) (a0_5 : ByteArray) (a0_6 : Int) (a0_7 : Int) (a0_8 : ByteArray) (l0_9 : List (S31)) (a0_10 : Int) (a0_11 : ByteArray) (a0_12 : Int) (a0_13 : Int) (a0_14 : ByteArray) (l0_15 : List (S31)) : Option (Int) := if a0_0 = 1 then (term_CheckLiteral.j0 k a0_0 (a0_0 == 1) a0_0 a0_1 l0_2 a0_3 a0_4 a0_5 a0_6 a0_7 a0_8 l0_9 a0_10 a0_11 a0_12 a0_13 a0_14 l0_15) else (term_CheckLiteral.j0 k a0_0 (a0_0 == 2) a0_0 a0_1 l0_2 a0_3 a0_4 a0_5 a0_6 a0_7 a0_8 l0_9 a0_10 a0_11 a0_12 a0_13 a0_14 l0_15)
set_option maxHeartbeats 8000000 in
set_option maxRecDepth 100000 in
theorem term_CheckLiteral.calls (k : Nat) (a0_0 : Int) (a0_1 : ByteArray) (A0_2 : Option Addr) (c0_2 : Nat) (l0_2 : List (S28)) (a0_3 : Int) (a0_4 : Int) (a0_5 : ByteArray) (a0_6 : Int) (a0_7 : Int) (a0_8 : ByteArray) (A0_9 : Option Addr) (c0_9 : Nat) (l0_9 : List (S31)) (a0_10 : Int) (a0_11 : ByteArray) (a0_12 : Int) (a0_13 : Int) (a0_14 : ByteArray) (A0_15 : Option Addr) (c0_15 : Nat) (l0_15 : List (S31)) (r : Int) (w : World) (hr0_2 : Kd.C k28 w A0_2 l0_2.length l0_2) (hc0_2 : l0_2.length ≤ c0_2) (hr0_9 : Kd.C k31 w A0_9 l0_9.length l0_9) (hc0_9 : l0_9.length ≤ c0_9) (hr0_15 : Kd.C k31 w A0_15 l0_15.length l0_15) (hc0_15 : l0_15.length ≤ c0_15) (h : term_CheckLiteral.f k a0_0 a0_1 l0_2 a0_3 a0_4 a0_5 a0_6 a0_7 a0_8 l0_9 a0_10 a0_11 a0_12 a0_13 a0_14 l0_15 = some r) :
  Calls Tryd.prog 20 #[.agg #[.int .i8 a0_0, .string a0_1, .slice A0_2 l0_2.length c0_2, .int .i8 a0_3, .int .i8 a0_4, .string a0_5, .int .i8 a0_6, .int .i64 a0_7, .string a0_8, .slice A0_9 l0_9.length c0_9, .int .i8 a0_10, .string a0_11, .int .i8 a0_12, .int .i64 a0_13, .string a0_14, .slice A0_15 l0_15.length c0_15]] w fun e w' => e = .returned (.int .i64 r) ∧ Below w.heap.size w w' := by
 have hu56 := Tryd.underlying56
 have hu31 := Tryd.underlying31
 have hu53 := Tryd.underlying53
 have HR0_2 := Aside0.mk hr0_2
 have HC0_2 := Aside0.mk hc0_2
 clear hr0_2 hc0_2
 have HR0_9 := Aside0.mk hr0_9
 have HC0_9 := Aside0.mk hc0_9
 clear hr0_9 hc0_9
 have HR0_15 := Aside0.mk hr0_15
 have HC0_15 := Aside0.mk hc0_15
 clear hr0_15 hc0_15
 have HB := Aside0.mk (Below.refl w.heap.size w)
 have H : (if a0_0 = 1 then (term_CheckLiteral.j0 k a0_0 (a0_0 == 1) a0_0 a0_1 l0_2 a0_3 a0_4 a0_5 a0_6 a0_7 a0_8 l0_9 a0_10 a0_11 a0_12 a0_13 a0_14 l0_15) else (term_CheckLiteral.j0 k a0_0 (a0_0 == 2) a0_0 a0_1 l0_2 a0_3 a0_4 a0_5 a0_6 a0_7 a0_8 l0_9 a0_10 a0_11 a0_12 a0_13 a0_14 l0_15)) = some r := h
 clear h
 have HC2 := Aside0.mk H
 clear H
 go_enter Tryd.func20, Tryd.ntmps20
 go_upto_if 5 with (first | ((with_reducible refine xar (N := 1) rfl ?_); (try (refine xav (by rfl) ?_; dsimp only)); refine xap ?hg (N := 1) ?hd (cs := #[.int .i8 a0_0, .string a0_1, .slice A0_2 l0_2.length c0_2, .int .i8 a0_3, .int .i8 a0_4, .string a0_5, .int .i8 a0_6, .int .i64 a0_7, .string a0_8, .slice A0_9 l0_9.length c0_9, .int .i8 a0_10, .string a0_11, .int .i8 a0_12, .int .i64 a0_13, .string a0_14, .slice A0_15 l0_15.length c0_15]) (t := 56) ?hr ?_; (case hd => rfl); (case hg => rfl); (case hr => first | (go_simp; done) | (go_simp; rfl)); intro gb271 hg w3 hbox hb; have n0_ := Aside0.mk (xah (by repeat (first | (with_reducible first | exact HB.out | apply xab | apply xaa | apply xac) | exact HB.out)) hb); have n1_ := Aside0.mk (hbox); have n2_ := Aside0.mk ((by rw [hg]; exact (xao (by repeat (first | (with_reducible first | exact HB.out | apply xab | apply xaa | apply xac) | exact HB.out))) : w.heap.size ≤ gb271)); have n3_ := n2_; clear HB; have HB := n0_; have BK271 := n1_; have GW271 := n2_; have GE271 := n3_; clear n0_ n1_ n2_ n3_; clear hb hbox hg; obtain ⟨hcz4_0, hcz4_1, hcz4_2, hcz4_3, hcz4_4, hcz4_5, hcz4_6, hcz4_7, hcz4_8, hcz4_9, hcz4_10, hcz4_11, hcz4_12, hcz4_13, hcz4_14, hcz4_15⟩ := cz16 BK271.out; obtain ⟨hfz4_0, hfz4_1, hfz4_2, hfz4_3, hfz4_4, hfz4_5, hfz4_6, hfz4_7, hfz4_8, hfz4_9, hfz4_10, hfz4_11, hfz4_12, hfz4_13, hfz4_14, hfz4_15⟩ := fz16 BK271.out))
 (try simp only [Act.put, sI, sZ, sS])
 go_cut [5] (fun v5 wc => ∃ (kq : Nat) (x5_1 : Bool), v5 = .bool x5_1 ∧ Aside0 (term_CheckLiteral.j0 kq a0_0 x5_1 a0_0 a0_1 l0_2 a0_3 a0_4 a0_5 a0_6 a0_7 a0_8 l0_9 a0_10 a0_11 a0_12 a0_13 a0_14 l0_15 = some r) ∧ Aside0 (kq ≤ k) ∧ Aside0 (wc.heap[gb271]? = some (.cells #[.int .i8 a0_0, .string a0_1, (.slice A0_2 l0_2.length c0_2), .int .i8 a0_3, .int .i8 a0_4, .string a0_5, .int .i8 a0_6, .int .i64 a0_7, .string a0_8, (.slice A0_9 l0_9.length c0_9), .int .i8 a0_10, .string a0_11, .int .i8 a0_12, .int .i64 a0_13, .string a0_14, (.slice A0_15 l0_15.length c0_15)] 56 (0, 0))) ∧ Aside0 (Below w.heap.size w wc))
 case first =>
  have H := HC2.out
  clear HC2
  by_cases c5 : a0_0 = 1
  ·rw [if_pos c5] at H
   have c5b0 : (a0_0 == 1) = true := beq_iff_eq.mpr c5
   have c5b1 : (a0_0 != 1) = false := bne_eq_false_iff_eq.mpr c5
   clear c5
   (first | rw [c5b0] | (simp only [i64_w, i32_w]; rw [c5b0]) | skip)
   have H' := Aside0.mk H
   clear H
   go_wp2
   go_meet
   case rel => exact ⟨_, ((a0_0 == 1)), (by first | rfl | (simp; done) | (simp [*]; done)), H', ⟨by first | omega | exact Nat.le_refl _⟩, ⟨by (with_reducible repeat (first | refine xag ?_ _ | refine xai ?_ | refine xaf ?_ _)); exact BK271.out⟩, ⟨by repeat (first | (with_reducible first | exact HB.out | apply xab | apply xaa | apply xac | refine xad ?_ GE271.out) | exact HB.out)⟩⟩
  ·rw [if_neg c5] at H
   have c5b0 : (a0_0 == 1) = false := beq_eq_false_iff_ne.mpr c5
   have c5b1 : (a0_0 != 1) = true := bne_iff_ne.mpr c5
   (first | rw [c5b0] | (simp only [i64_w, i32_w]; rw [c5b0]) | skip)
   have H' := Aside0.mk H
   clear H
   go_wp2
   go_meet
   case rel => exact ⟨_, ((a0_0 == 2)), (by first | rfl | (simp; done) | (simp [*]; done)), H', ⟨by first | omega | exact Nat.le_refl _⟩, ⟨by (with_reducible repeat (first | refine xag ?_ _ | refine xai ?_ | refine xaf ?_ _)); exact BK271.out⟩, ⟨by repeat (first | (with_reducible first | exact HB.out | apply xab | apply xaa | apply xac | refine xad ?_ GE271.out) | exact HB.out)⟩⟩
 case rest =>
  clear HC2
  try clear c2
  try clear p2
  try clear c5
  try clear c5b0
  try clear c5b1
  try clear hcz4_0
  try clear hcz4_1
  try clear hcz4_10
  try clear hcz4_11
  try clear hcz4_12
  try clear hcz4_13
  try clear hcz4_14
  try clear hcz4_15
  try clear hcz4_2
  try clear hcz4_3
  try clear hcz4_4
  try clear hcz4_5
  try clear hcz4_6
  try clear hcz4_7
  try clear hcz4_8
  try clear hcz4_9
  try clear hfz4_0
  try clear hfz4_1
  try clear hfz4_10
  try clear hfz4_11
  try clear hfz4_12
  try clear hfz4_13
  try clear hfz4_14
  try clear hfz4_15
  try clear hfz4_2
  try clear hfz4_3
  try clear hfz4_4
  try clear hfz4_5
  try clear hfz4_6
  try clear hfz4_7
  try clear hfz4_8
  try clear hfz4_9
  obtain ⟨kq, x5_1, rfl, HA, HJ1, BK271, HB⟩ := hcut
  cases kq with
  | zero => exact absurd HA.out (by simp [term_CheckLiteral.j0])
  | succ kj1 =>
   have H := HA.out
   clear HA
   simp only [term_CheckLiteral.j0] at H
   by_cases c6 : x5_1 = true
   ·subst c6
    have H1 : (if a0_3 = 0 then ((term_empty.f a0_4 a0_5 a0_6 a0_7 a0_8 l0_9).bind fun t272 => (if t272 = true then ((term_empty.f a0_10 a0_11 a0_12 a0_13 a0_14 l0_15).bind fun t273 => (if t273 = true then ((term_CheckAtom.f a0_1 l0_2).bind fun t274 => (some t274)) else (some 40))) else (some 40))) else (some 40)) = some r := by rw [if_pos rfl] at H; exact H
    clear H
    have H := H1
    clear H1
    by_cases c7 : a0_3 = 0
    ·rw [if_pos c7] at H
     have c7b0 : (a0_3 == 0) = true := beq_iff_eq.mpr c7
     have c7b1 : (a0_3 != 0) = false := bne_eq_false_iff_eq.mpr c7
     clear c7
     replace H := Option.bind_eq_some_iff.mp H
     obtain ⟨t272, A80, H⟩ := H
     replace H : (if t272 = true then ((term_empty.f a0_10 a0_11 a0_12 a0_13 a0_14 l0_15).bind fun t273 => (if t273 = true then ((term_CheckAtom.f a0_1 l0_2).bind fun t274 => (some t274)) else (some 40))) else (some 40)) = some r := H
     have A8 := Aside0.mk A80
     clear A80
     by_cases c9 : t272 = true
     ·subst c9
      have H1 : ((term_empty.f a0_10 a0_11 a0_12 a0_13 a0_14 l0_15).bind fun t273 => (if t273 = true then ((term_CheckAtom.f a0_1 l0_2).bind fun t274 => (some t274)) else (some 40))) = some r := by rw [if_pos rfl] at H; exact H
      clear H
      have H := H1
      clear H1
      replace H := Option.bind_eq_some_iff.mp H
      obtain ⟨t273, A100, H⟩ := H
      replace H : (if t273 = true then ((term_CheckAtom.f a0_1 l0_2).bind fun t274 => (some t274)) else (some 40)) = some r := H
      have A10 := Aside0.mk A100
      clear A100
      by_cases c11 : t273 = true
      ·subst c11
       have H1 : ((term_CheckAtom.f a0_1 l0_2).bind fun t274 => (some t274)) = some r := by rw [if_pos rfl] at H; exact H
       clear H
       have H := H1
       clear H1
       replace H := Option.bind_eq_some_iff.mp H
       obtain ⟨t274, A120, H⟩ := H
       replace H : (some t274) = some r := H
       have A12 := Aside0.mk A120
       clear A120
       obtain rfl := Option.some.inj H
       obtain ⟨hcz13_0, hcz13_1, hcz13_2, hcz13_3, hcz13_4, hcz13_5, hcz13_6, hcz13_7, hcz13_8, hcz13_9, hcz13_10, hcz13_11, hcz13_12, hcz13_13, hcz13_14, hcz13_15⟩ := cz16 BK271.out
       obtain ⟨hfz13_0, hfz13_1, hfz13_2, hfz13_3, hfz13_4, hfz13_5, hfz13_6, hfz13_7, hfz13_8, hfz13_9, hfz13_10, hfz13_11, hfz13_12, hfz13_13, hfz13_14, hfz13_15⟩ := fz16 BK271.out
       go_wp2_with (first | (go_at_call 66; (with_reducible refine (term_empty.calls a0_4 a0_5 a0_6 a0_7 a0_8 _ _ l0_9 true _ ?side1 ?side2 A8.out).mono ?_); (case side1 => repeat (first | exact (Kd.C_below HR0_9.out HB.out) | (with_reducible refine Kd.C_alloc ?_ _) | (with_reducible refine Kd.C_drewN ?_ _) | (with_reducible refine Kd.C_drew ?_))); (case side2 => exact HC0_9.out); rintro e w14 ⟨rfl, hb⟩; have n0_ := Aside0.mk (xam (g := gb271) (o := .cells #[.int .i8 a0_0, .string a0_1, .slice A0_2 l0_2.length c0_2, .int .i8 a0_3, .int .i8 a0_4, .string a0_5, .int .i8 a0_6, .int .i64 a0_7, .string a0_8, .slice A0_9 l0_9.length c0_9, .int .i8 a0_10, .string a0_11, .int .i8 a0_12, .int .i64 a0_13, .string a0_14, .slice A0_15 l0_15.length c0_15] 56 (0, 0)) (by (with_reducible repeat (first | refine xag ?_ _ | refine xai ?_ | refine xaf ?_ _)); exact BK271.out) hb); have n1_ := Aside0.mk (xah (by repeat (first | (with_reducible first | exact HB.out | apply xab | apply xaa | apply xac | refine xad ?_ GE271.out) | exact HB.out)) hb); clear BK271; clear HB; have BK271 := n0_; have HB := n1_; clear n0_ n1_; (try clear hb); (try clear hb2); (try clear hk); (try clear hi); obtain ⟨hcz15_0, hcz15_1, hcz15_2, hcz15_3, hcz15_4, hcz15_5, hcz15_6, hcz15_7, hcz15_8, hcz15_9, hcz15_10, hcz15_11, hcz15_12, hcz15_13, hcz15_14, hcz15_15⟩ := cz16 BK271.out; obtain ⟨hfz15_0, hfz15_1, hfz15_2, hfz15_3, hfz15_4, hfz15_5, hfz15_6, hfz15_7, hfz15_8, hfz15_9, hfz15_10, hfz15_11, hfz15_12, hfz15_13, hfz15_14, hfz15_15⟩ := fz16 BK271.out) | (go_at_call 66; (with_reducible refine (term_empty.calls a0_10 a0_11 a0_12 a0_13 a0_14 _ _ l0_15 true _ ?side1 ?side2 A10.out).mono ?_); (case side1 => repeat (first | exact (Kd.C_below HR0_15.out HB.out) | (with_reducible refine Kd.C_alloc ?_ _) | (with_reducible refine Kd.C_drewN ?_ _) | (with_reducible refine Kd.C_drew ?_))); (case side2 => exact HC0_15.out); rintro e w16 ⟨rfl, hb⟩; have n0_ := Aside0.mk (xam (g := gb271) (o := .cells #[.int .i8 a0_0, .string a0_1, .slice A0_2 l0_2.length c0_2, .int .i8 a0_3, .int .i8 a0_4, .string a0_5, .int .i8 a0_6, .int .i64 a0_7, .string a0_8, .slice A0_9 l0_9.length c0_9, .int .i8 a0_10, .string a0_11, .int .i8 a0_12, .int .i64 a0_13, .string a0_14, .slice A0_15 l0_15.length c0_15] 56 (0, 0)) (by (with_reducible repeat (first | refine xag ?_ _ | refine xai ?_ | refine xaf ?_ _)); exact BK271.out) hb); have n1_ := Aside0.mk (xah (by repeat (first | (with_reducible first | exact HB.out | apply xab | apply xaa | apply xac | refine xad ?_ GE271.out) | exact HB.out)) hb); clear BK271; clear HB; have BK271 := n0_; have HB := n1_; clear n0_ n1_; (try clear hb); (try clear hb2); (try clear hk); (try clear hi); obtain ⟨hcz17_0, hcz17_1, hcz17_2, hcz17_3, hcz17_4, hcz17_5, hcz17_6, hcz17_7, hcz17_8, hcz17_9, hcz17_10, hcz17_11, hcz17_12, hcz17_13, hcz17_14, hcz17_15⟩ := cz16 BK271.out; obtain ⟨hfz17_0, hfz17_1, hfz17_2, hfz17_3, hfz17_4, hfz17_5, hfz17_6, hfz17_7, hfz17_8, hfz17_9, hfz17_10, hfz17_11, hfz17_12, hfz17_13, hfz17_14, hfz17_15⟩ := fz16 BK271.out) | ((with_reducible refine xau (f := 50) rfl ?_); refine goesL_ (some 25) rfl rfl Tryd.func50 (by kernel_rfl) rfl #[.agg #[.string a0_1, .slice A0_2 l0_2.length c0_2]] rfl (by (try simp only [List.map_toArray, List.map_cons, List.map_nil]); first | done | rfl | (simp only [List.length_drop, List.length_take]; rfl)) ?_; (with_reducible refine (term_CheckAtom.calls a0_1 _ _ l0_2 t274 _ ?side1 ?side2 A12.out).mono ?_); (case side1 => repeat (first | exact (Kd.C_below HR0_2.out HB.out) | (with_reducible refine Kd.C_alloc ?_ _) | (with_reducible refine Kd.C_drewN ?_ _) | (with_reducible refine Kd.C_drew ?_))); (case side2 => exact HC0_2.out); rintro e w18 ⟨rfl, hb⟩; refine ⟨_, rfl, ?_⟩; have n0_ := Aside0.mk (xam (g := gb271) (o := .cells #[.int .i8 a0_0, .string a0_1, .slice A0_2 l0_2.length c0_2, .int .i8 a0_3, .int .i8 a0_4, .string a0_5, .int .i8 a0_6, .int .i64 a0_7, .string a0_8, .slice A0_9 l0_9.length c0_9, .int .i8 a0_10, .string a0_11, .int .i8 a0_12, .int .i64 a0_13, .string a0_14, .slice A0_15 l0_15.length c0_15] 56 (0, 0)) (by (with_reducible repeat (first | refine xag ?_ _ | refine xai ?_ | refine xaf ?_ _)); exact BK271.out) hb); have n1_ := Aside0.mk (xah (by repeat (first | (with_reducible first | exact HB.out | apply xab | apply xaa | apply xac | refine xad ?_ GE271.out) | exact HB.out)) hb); clear BK271; clear HB; have BK271 := n0_; have HB := n1_; clear n0_ n1_; (try clear hb); (try clear hb2); (try clear hk); (try clear hi)))
       go_ret
       exact ⟨by first | rfl | (simp [xak, xaj] <;> rfl) | (simp [*, xak, xaj] <;> rfl), by repeat (first | (with_reducible first | exact HB.out | apply xab | apply xaa | apply xac | refine xad ?_ GE271.out) | exact HB.out)⟩
      ·replace c11 := Bool.eq_false_iff.mpr c11
       subst c11
       have H1 : (some 40) = some r := by rw [if_neg (show ¬ (false = true) by decide)] at H; exact H
       clear H
       have H := H1
       clear H1
       obtain rfl := Option.some.inj H
       obtain ⟨hcz19_0, hcz19_1, hcz19_2, hcz19_3, hcz19_4, hcz19_5, hcz19_6, hcz19_7, hcz19_8, hcz19_9, hcz19_10, hcz19_11, hcz19_12, hcz19_13, hcz19_14, hcz19_15⟩ := cz16 BK271.out
       obtain ⟨hfz19_0, hfz19_1, hfz19_2, hfz19_3, hfz19_4, hfz19_5, hfz19_6, hfz19_7, hfz19_8, hfz19_9, hfz19_10, hfz19_11, hfz19_12, hfz19_13, hfz19_14, hfz19_15⟩ := fz16 BK271.out
       go_wp2_with (first | (go_at_call 66; (with_reducible refine (term_empty.calls a0_4 a0_5 a0_6 a0_7 a0_8 _ _ l0_9 true _ ?side1 ?side2 A8.out).mono ?_); (case side1 => repeat (first | exact (Kd.C_below HR0_9.out HB.out) | (with_reducible refine Kd.C_alloc ?_ _) | (with_reducible refine Kd.C_drewN ?_ _) | (with_reducible refine Kd.C_drew ?_))); (case side2 => exact HC0_9.out); rintro e w20 ⟨rfl, hb⟩; have n0_ := Aside0.mk (xam (g := gb271) (o := .cells #[.int .i8 a0_0, .string a0_1, .slice A0_2 l0_2.length c0_2, .int .i8 a0_3, .int .i8 a0_4, .string a0_5, .int .i8 a0_6, .int .i64 a0_7, .string a0_8, .slice A0_9 l0_9.length c0_9, .int .i8 a0_10, .string a0_11, .int .i8 a0_12, .int .i64 a0_13, .string a0_14, .slice A0_15 l0_15.length c0_15] 56 (0, 0)) (by (with_reducible repeat (first | refine xag ?_ _ | refine xai ?_ | refine xaf ?_ _)); exact BK271.out) hb); have n1_ := Aside0.mk (xah (by repeat (first | (with_reducible first | exact HB.out | apply xab | apply xaa | apply xac | refine xad ?_ GE271.out) | exact HB.out)) hb); clear BK271; clear HB; have BK271 := n0_; have HB := n1_; clear n0_ n1_; (try clear hb); (try clear hb2); (try clear hk); (try clear hi); obtain ⟨hcz21_0, hcz21_1, hcz21_2, hcz21_3, hcz21_4, hcz21_5, hcz21_6, hcz21_7, hcz21_8, hcz21_9, hcz21_10, hcz21_11, hcz21_12, hcz21_13, hcz21_14, hcz21_15⟩ := cz16 BK271.out; obtain ⟨hfz21_0, hfz21_1, hfz21_2, hfz21_3, hfz21_4, hfz21_5, hfz21_6, hfz21_7, hfz21_8, hfz21_9, hfz21_10, hfz21_11, hfz21_12, hfz21_13, hfz21_14, hfz21_15⟩ := fz16 BK271.out) | (go_at_call 66; (with_reducible refine (term_empty.calls a0_10 a0_11 a0_12 a0_13 a0_14 _ _ l0_15 false _ ?side1 ?side2 A10.out).mono ?_); (case side1 => repeat (first | exact (Kd.C_below HR0_15.out HB.out) | (with_reducible refine Kd.C_alloc ?_ _) | (with_reducible refine Kd.C_drewN ?_ _) | (with_reducible refine Kd.C_drew ?_))); (case side2 => exact HC0_15.out); rintro e w22 ⟨rfl, hb⟩; have n0_ := Aside0.mk (xam (g := gb271) (o := .cells #[.int .i8 a0_0, .string a0_1, .slice A0_2 l0_2.length c0_2, .int .i8 a0_3, .int .i8 a0_4, .string a0_5, .int .i8 a0_6, .int .i64 a0_7, .string a0_8, .slice A0_9 l0_9.length c0_9, .int .i8 a0_10, .string a0_11, .int .i8 a0_12, .int .i64 a0_13, .string a0_14, .slice A0_15 l0_15.length c0_15] 56 (0, 0)) (by (with_reducible repeat (first | refine xag ?_ _ | refine xai ?_ | refine xaf ?_ _)); exact BK271.out) hb); have n1_ := Aside0.mk (xah (by repeat (first | (with_reducible first | exact HB.out | apply xab | apply xaa | apply xac | refine xad ?_ GE271.out) | exact HB.out)) hb); clear BK271; clear HB; have BK271 := n0_; have HB := n1_; clear n0_ n1_; (try clear hb); (try clear hb2); (try clear hk); (try clear hi)))
       go_ret
       exact ⟨by first | rfl | (simp [xak, xaj] <;> rfl) | (simp [*, xak, xaj] <;> rfl), by repeat (first | (with_reducible first | exact HB.out | apply xab | apply xaa | apply xac | refine xad ?_ GE271.out) | exact HB.out)⟩
     ·replace c9 := Bool.eq_false_iff.mpr c9
      subst c9
      have H1 : (some 40) = some r := by rw [if_neg (show ¬ (false = true) by decide)] at H; exact H
      clear H
      have H := H1
      clear H1
      obtain rfl := Option.some.inj H
      obtain ⟨hcz23_0, hcz23_1, hcz23_2, hcz23_3, hcz23_4, hcz23_5, hcz23_6, hcz23_7, hcz23_8, hcz23_9, hcz23_10, hcz23_11, hcz23_12, hcz23_13, hcz23_14, hcz23_15⟩ := cz16 BK271.out
      obtain ⟨hfz23_0, hfz23_1, hfz23_2, hfz23_3, hfz23_4, hfz23_5, hfz23_6, hfz23_7, hfz23_8, hfz23_9, hfz23_10, hfz23_11, hfz23_12, hfz23_13, hfz23_14, hfz23_15⟩ := fz16 BK271.out
      go_wp2_with (first | (go_at_call 66; (with_reducible refine (term_empty.calls a0_4 a0_5 a0_6 a0_7 a0_8 _ _ l0_9 false _ ?side1 ?side2 A8.out).mono ?_); (case side1 => repeat (first | exact (Kd.C_below HR0_9.out HB.out) | (with_reducible refine Kd.C_alloc ?_ _) | (with_reducible refine Kd.C_drewN ?_ _) | (with_reducible refine Kd.C_drew ?_))); (case side2 => exact HC0_9.out); rintro e w24 ⟨rfl, hb⟩; have n0_ := Aside0.mk (xam (g := gb271) (o := .cells #[.int .i8 a0_0, .string a0_1, .slice A0_2 l0_2.length c0_2, .int .i8 a0_3, .int .i8 a0_4, .string a0_5, .int .i8 a0_6, .int .i64 a0_7, .string a0_8, .slice A0_9 l0_9.length c0_9, .int .i8 a0_10, .string a0_11, .int .i8 a0_12, .int .i64 a0_13, .string a0_14, .slice A0_15 l0_15.length c0_15] 56 (0, 0)) (by (with_reducible repeat (first | refine xag ?_ _ | refine xai ?_ | refine xaf ?_ _)); exact BK271.out) hb); have n1_ := Aside0.mk (xah (by repeat (first | (with_reducible first | exact HB.out | apply xab | apply xaa | apply xac | refine xad ?_ GE271.out) | exact HB.out)) hb); clear BK271; clear HB; have BK271 := n0_; have HB := n1_; clear n0_ n1_; (try clear hb); (try clear hb2); (try clear hk); (try clear hi)))
      go_ret
      exact ⟨by first | rfl | (simp [xak, xaj] <;> rfl) | (simp [*, xak, xaj] <;> rfl), by repeat (first | (with_reducible first | exact HB.out | apply xab | apply xaa | apply xac | refine xad ?_ GE271.out) | exact HB.out)⟩
    ·rw [if_neg c7] at H
     have c7b0 : (a0_3 == 0) = false := beq_eq_false_iff_ne.mpr c7
     have c7b1 : (a0_3 != 0) = true := bne_iff_ne.mpr c7
     obtain rfl := Option.some.inj H
     obtain ⟨hcz25_0, hcz25_1, hcz25_2, hcz25_3, hcz25_4, hcz25_5, hcz25_6, hcz25_7, hcz25_8, hcz25_9, hcz25_10, hcz25_11, hcz25_12, hcz25_13, hcz25_14, hcz25_15⟩ := cz16 BK271.out
     obtain ⟨hfz25_0, hfz25_1, hfz25_2, hfz25_3, hfz25_4, hfz25_5, hfz25_6, hfz25_7, hfz25_8, hfz25_9, hfz25_10, hfz25_11, hfz25_12, hfz25_13, hfz25_14, hfz25_15⟩ := fz16 BK271.out
     go_wp2
     go_ret
     exact ⟨by first | rfl | (simp [xak, xaj] <;> rfl) | (simp [*, xak, xaj] <;> rfl), by repeat (first | (with_reducible first | exact HB.out | apply xab | apply xaa | apply xac | refine xad ?_ GE271.out) | exact HB.out)⟩
   ·replace c6 := Bool.eq_false_iff.mpr c6
    subst c6
    have H1 : (if a0_0 = 3 then (if a0_1.toList = ([] : List UInt8) then (if (l0_2.length : Int) > 0 then (some 40) else (if a0_3 < 1 then (some 40) else (if a0_3 > 6 then (some 40) else ((term_CheckExpr.f a0_4 a0_5 a0_6 a0_7 a0_8 l0_9).bind fun t275 => (if t275 = 0 then ((term_CheckExpr.f a0_10 a0_11 a0_12 a0_13 a0_14 l0_15).bind fun t276 => (some t276)) else (some 40)))))) else (some 40)) else (some 40)) = some r := by rw [if_neg (show ¬ (false = true) by decide)] at H; exact H
    clear H
    have H := H1
    clear H1
    by_cases c26 : a0_0 = 3
    ·rw [if_pos c26] at H
     have c26b0 : (a0_0 == 3) = true := beq_iff_eq.mpr c26
     have c26b1 : (a0_0 != 3) = false := bne_eq_false_iff_eq.mpr c26
     clear c26
     by_cases c27 : a0_1.toList = ([] : List UInt8)
     ·rw [if_pos c27] at H
      have c27b0 : (a0_1.toList == ([] : List UInt8)) = true := beq_iff_eq.mpr c27
      have c27b1 : (a0_1.toList != ([] : List UInt8)) = false := bne_eq_false_iff_eq.mpr c27
      clear c27
      by_cases c28 : (l0_2.length : Int) > 0
      ·rw [if_pos c28] at H
       have c28b0 : decide (0 < (l0_2.length : Int)) = true := decide_eq_true c28
       have c28b1 : decide (0 < l0_2.length) = true := decide_eq_true (by omega)
       clear c28
       obtain rfl := Option.some.inj H
       obtain ⟨hcz29_0, hcz29_1, hcz29_2, hcz29_3, hcz29_4, hcz29_5, hcz29_6, hcz29_7, hcz29_8, hcz29_9, hcz29_10, hcz29_11, hcz29_12, hcz29_13, hcz29_14, hcz29_15⟩ := cz16 BK271.out
       obtain ⟨hfz29_0, hfz29_1, hfz29_2, hfz29_3, hfz29_4, hfz29_5, hfz29_6, hfz29_7, hfz29_8, hfz29_9, hfz29_10, hfz29_11, hfz29_12, hfz29_13, hfz29_14, hfz29_15⟩ := fz16 BK271.out
       go_wp2
       go_ret
       exact ⟨by first | rfl | (simp [xak, xaj] <;> rfl) | (simp [*, xak, xaj] <;> rfl), by repeat (first | (with_reducible first | exact HB.out | apply xab | apply xaa | apply xac | refine xad ?_ GE271.out) | exact HB.out)⟩
      ·rw [if_neg c28] at H
       have c28b0 : decide (0 < (l0_2.length : Int)) = false := decide_eq_false c28
       have c28b1 : decide (0 < l0_2.length) = false := decide_eq_false (by omega)
       clear c28
       by_cases c30 : a0_3 < 1
       ·rw [if_pos c30] at H
        have c30b0 : decide (a0_3 < 1) = true := decide_eq_true c30
        clear c30
        obtain rfl := Option.some.inj H
        obtain ⟨hcz31_0, hcz31_1, hcz31_2, hcz31_3, hcz31_4, hcz31_5, hcz31_6, hcz31_7, hcz31_8, hcz31_9, hcz31_10, hcz31_11, hcz31_12, hcz31_13, hcz31_14, hcz31_15⟩ := cz16 BK271.out
        obtain ⟨hfz31_0, hfz31_1, hfz31_2, hfz31_3, hfz31_4, hfz31_5, hfz31_6, hfz31_7, hfz31_8, hfz31_9, hfz31_10, hfz31_11, hfz31_12, hfz31_13, hfz31_14, hfz31_15⟩ := fz16 BK271.out
        go_wp2
        go_ret
        exact ⟨by first | rfl | (simp [xak, xaj] <;> rfl) | (simp [*, xak, xaj] <;> rfl), by repeat (first | (with_reducible first | exact HB.out | apply xab | apply xaa | apply xac | refine xad ?_ GE271.out) | exact HB.out)⟩
       ·rw [if_neg c30] at H
        have c30b0 : decide (a0_3 < 1) = false := decide_eq_false c30
        clear c30
        by_cases c32 : a0_3 > 6
        ·rw [if_pos c32] at H
         have c32b0 : decide (6 < a0_3) = true := decide_eq_true c32
         clear c32
         obtain rfl := Option.some.inj H
         obtain ⟨hcz33_0, hcz33_1, hcz33_2, hcz33_3, hcz33_4, hcz33_5, hcz33_6, hcz33_7, hcz33_8, hcz33_9, hcz33_10, hcz33_11, hcz33_12, hcz33_13, hcz33_14, hcz33_15⟩ := cz16 BK271.out
         obtain ⟨hfz33_0, hfz33_1, hfz33_2, hfz33_3, hfz33_4, hfz33_5, hfz33_6, hfz33_7, hfz33_8, hfz33_9, hfz33_10, hfz33_11, hfz33_12, hfz33_13, hfz33_14, hfz33_15⟩ := fz16 BK271.out
         go_wp2
         go_ret
         exact ⟨by first | rfl | (simp [xak, xaj] <;> rfl) | (simp [*, xak, xaj] <;> rfl), by repeat (first | (with_reducible first | exact HB.out | apply xab | apply xaa | apply xac | refine xad ?_ GE271.out) | exact HB.out)⟩
        ·rw [if_neg c32] at H
         have c32b0 : decide (6 < a0_3) = false := decide_eq_false c32
         clear c32
         replace H := Option.bind_eq_some_iff.mp H
         obtain ⟨t275, A340, H⟩ := H
         replace H : (if t275 = 0 then ((term_CheckExpr.f a0_10 a0_11 a0_12 a0_13 a0_14 l0_15).bind fun t276 => (some t276)) else (some 40)) = some r := H
         have A34 := Aside0.mk A340
         clear A340
         by_cases c35 : t275 = 0
         ·rw [if_pos c35] at H
          have c35b0 : (t275 == 0) = true := beq_iff_eq.mpr c35
          have c35b1 : (t275 != 0) = false := bne_eq_false_iff_eq.mpr c35
          clear c35
          replace H := Option.bind_eq_some_iff.mp H
          obtain ⟨t276, A360, H⟩ := H
          replace H : (some t276) = some r := H
          have A36 := Aside0.mk A360
          clear A360
          obtain rfl := Option.some.inj H
          obtain ⟨hcz37_0, hcz37_1, hcz37_2, hcz37_3, hcz37_4, hcz37_5, hcz37_6, hcz37_7, hcz37_8, hcz37_9, hcz37_10, hcz37_11, hcz37_12, hcz37_13, hcz37_14, hcz37_15⟩ := cz16 BK271.out
          obtain ⟨hfz37_0, hfz37_1, hfz37_2, hfz37_3, hfz37_4, hfz37_5, hfz37_6, hfz37_7, hfz37_8, hfz37_9, hfz37_10, hfz37_11, hfz37_12, hfz37_13, hfz37_14, hfz37_15⟩ := fz16 BK271.out
          go_wp2_with (first | (go_at_call 51; (with_reducible refine (term_CheckExpr.calls a0_4 a0_5 a0_6 a0_7 a0_8 _ _ l0_9 t275 _ ?side1 ?side2 A34.out).mono ?_); (case side1 => repeat (first | exact (Kd.C_below HR0_9.out HB.out) | (with_reducible refine Kd.C_alloc ?_ _) | (with_reducible refine Kd.C_drewN ?_ _) | (with_reducible refine Kd.C_drew ?_))); (case side2 => exact HC0_9.out); rintro e w38 ⟨rfl, hb⟩; have n0_ := Aside0.mk (xam (g := gb271) (o := .cells #[.int .i8 a0_0, .string a0_1, .slice A0_2 l0_2.length c0_2, .int .i8 a0_3, .int .i8 a0_4, .string a0_5, .int .i8 a0_6, .int .i64 a0_7, .string a0_8, .slice A0_9 l0_9.length c0_9, .int .i8 a0_10, .string a0_11, .int .i8 a0_12, .int .i64 a0_13, .string a0_14, .slice A0_15 l0_15.length c0_15] 56 (0, 0)) (by (with_reducible repeat (first | refine xag ?_ _ | refine xai ?_ | refine xaf ?_ _)); exact BK271.out) hb); have n1_ := Aside0.mk (xah (by repeat (first | (with_reducible first | exact HB.out | apply xab | apply xaa | apply xac | refine xad ?_ GE271.out) | exact HB.out)) hb); clear BK271; clear HB; have BK271 := n0_; have HB := n1_; clear n0_ n1_; (try clear hb); (try clear hb2); (try clear hk); (try clear hi); obtain ⟨hcz39_0, hcz39_1, hcz39_2, hcz39_3, hcz39_4, hcz39_5, hcz39_6, hcz39_7, hcz39_8, hcz39_9, hcz39_10, hcz39_11, hcz39_12, hcz39_13, hcz39_14, hcz39_15⟩ := cz16 BK271.out; obtain ⟨hfz39_0, hfz39_1, hfz39_2, hfz39_3, hfz39_4, hfz39_5, hfz39_6, hfz39_7, hfz39_8, hfz39_9, hfz39_10, hfz39_11, hfz39_12, hfz39_13, hfz39_14, hfz39_15⟩ := fz16 BK271.out) | ((with_reducible refine xau (f := 51) rfl ?_); refine goesL_ (some 57) rfl rfl Tryd.func51 (by kernel_rfl) rfl #[.agg #[.int .i8 a0_10, .string a0_11, .int .i8 a0_12, .int .i64 a0_13, .string a0_14, .slice A0_15 l0_15.length c0_15]] rfl (by (try simp only [List.map_toArray, List.map_cons, List.map_nil]); first | done | rfl | (simp only [List.length_drop, List.length_take]; rfl)) ?_; (with_reducible refine (term_CheckExpr.calls a0_10 a0_11 a0_12 a0_13 a0_14 _ _ l0_15 t276 _ ?side1 ?side2 A36.out).mono ?_); (case side1 => repeat (first | exact (Kd.C_below HR0_15.out HB.out) | (with_reducible refine Kd.C_alloc ?_ _) | (with_reducible refine Kd.C_drewN ?_ _) | (with_reducible refine Kd.C_drew ?_))); (case side2 => exact HC0_15.out); rintro e w40 ⟨rfl, hb⟩; refine ⟨_, rfl, ?_⟩; have n0_ := Aside0.mk (xam (g := gb271) (o := .cells #[.int .i8 a0_0, .string a0_1, .slice A0_2 l0_2.length c0_2, .int .i8 a0_3, .int .i8 a0_4, .string a0_5, .int .i8 a0_6, .int .i64 a0_7, .string a0_8, .slice A0_9 l0_9.length c0_9, .int .i8 a0_10, .string a0_11, .int .i8 a0_12, .int .i64 a0_13, .string a0_14, .slice A0_15 l0_15.length c0_15] 56 (0, 0)) (by (with_reducible repeat (first | refine xag ?_ _ | refine xai ?_ | refine xaf ?_ _)); exact BK271.out) hb); have n1_ := Aside0.mk (xah (by repeat (first | (with_reducible first | exact HB.out | apply xab | apply xaa | apply xac | refine xad ?_ GE271.out) | exact HB.out)) hb); clear BK271; clear HB; have BK271 := n0_; have HB := n1_; clear n0_ n1_; (try clear hb); (try clear hb2); (try clear hk); (try clear hi)))
          go_ret
          exact ⟨by first | rfl | (simp [xak, xaj] <;> rfl) | (simp [*, xak, xaj] <;> rfl), by repeat (first | (with_reducible first | exact HB.out | apply xab | apply xaa | apply xac | refine xad ?_ GE271.out) | exact HB.out)⟩
         ·rw [if_neg c35] at H
          have c35b0 : (t275 == 0) = false := beq_eq_false_iff_ne.mpr c35
          have c35b1 : (t275 != 0) = true := bne_iff_ne.mpr c35
          obtain rfl := Option.some.inj H
          obtain ⟨hcz41_0, hcz41_1, hcz41_2, hcz41_3, hcz41_4, hcz41_5, hcz41_6, hcz41_7, hcz41_8, hcz41_9, hcz41_10, hcz41_11, hcz41_12, hcz41_13, hcz41_14, hcz41_15⟩ := cz16 BK271.out
          obtain ⟨hfz41_0, hfz41_1, hfz41_2, hfz41_3, hfz41_4, hfz41_5, hfz41_6, hfz41_7, hfz41_8, hfz41_9, hfz41_10, hfz41_11, hfz41_12, hfz41_13, hfz41_14, hfz41_15⟩ := fz16 BK271.out
          go_wp2_with (first | (go_at_call 51; (with_reducible refine (term_CheckExpr.calls a0_4 a0_5 a0_6 a0_7 a0_8 _ _ l0_9 t275 _ ?side1 ?side2 A34.out).mono ?_); (case side1 => repeat (first | exact (Kd.C_below HR0_9.out HB.out) | (with_reducible refine Kd.C_alloc ?_ _) | (with_reducible refine Kd.C_drewN ?_ _) | (with_reducible refine Kd.C_drew ?_))); (case side2 => exact HC0_9.out); rintro e w42 ⟨rfl, hb⟩; have n0_ := Aside0.mk (xam (g := gb271) (o := .cells #[.int .i8 a0_0, .string a0_1, .slice A0_2 l0_2.length c0_2, .int .i8 a0_3, .int .i8 a0_4, .string a0_5, .int .i8 a0_6, .int .i64 a0_7, .string a0_8, .slice A0_9 l0_9.length c0_9, .int .i8 a0_10, .string a0_11, .int .i8 a0_12, .int .i64 a0_13, .string a0_14, .slice A0_15 l0_15.length c0_15] 56 (0, 0)) (by (with_reducible repeat (first | refine xag ?_ _ | refine xai ?_ | refine xaf ?_ _)); exact BK271.out) hb); have n1_ := Aside0.mk (xah (by repeat (first | (with_reducible first | exact HB.out | apply xab | apply xaa | apply xac | refine xad ?_ GE271.out) | exact HB.out)) hb); clear BK271; clear HB; have BK271 := n0_; have HB := n1_; clear n0_ n1_; (try clear hb); (try clear hb2); (try clear hk); (try clear hi)))
          go_ret
          exact ⟨by first | rfl | (simp [xak, xaj] <;> rfl) | (simp [*, xak, xaj] <;> rfl), by repeat (first | (with_reducible first | exact HB.out | apply xab | apply xaa | apply xac | refine xad ?_ GE271.out) | exact HB.out)⟩
     ·rw [if_neg c27] at H
      have c27b0 : (a0_1.toList == ([] : List UInt8)) = false := beq_eq_false_iff_ne.mpr c27
      have c27b1 : (a0_1.toList != ([] : List UInt8)) = true := bne_iff_ne.mpr c27
      obtain rfl := Option.some.inj H
      obtain ⟨hcz43_0, hcz43_1, hcz43_2, hcz43_3, hcz43_4, hcz43_5, hcz43_6, hcz43_7, hcz43_8, hcz43_9, hcz43_10, hcz43_11, hcz43_12, hcz43_13, hcz43_14, hcz43_15⟩ := cz16 BK271.out
      obtain ⟨hfz43_0, hfz43_1, hfz43_2, hfz43_3, hfz43_4, hfz43_5, hfz43_6, hfz43_7, hfz43_8, hfz43_9, hfz43_10, hfz43_11, hfz43_12, hfz43_13, hfz43_14, hfz43_15⟩ := fz16 BK271.out
      go_wp2
      go_ret
      exact ⟨by first | rfl | (simp [xak, xaj] <;> rfl) | (simp [*, xak, xaj] <;> rfl), by repeat (first | (with_reducible first | exact HB.out | apply xab | apply xaa | apply xac | refine xad ?_ GE271.out) | exact HB.out)⟩
    ·rw [if_neg c26] at H
     have c26b0 : (a0_0 == 3) = false := beq_eq_false_iff_ne.mpr c26
     have c26b1 : (a0_0 != 3) = true := bne_iff_ne.mpr c26
     obtain rfl := Option.some.inj H
     go_wp2
     go_ret
     exact ⟨by first | rfl | (simp [xak, xaj] <;> rfl) | (simp [*, xak, xaj] <;> rfl), by repeat (first | (with_reducible first | exact HB.out | apply xab | apply xaa | apply xac | refine xad ?_ GE271.out) | exact HB.out)⟩
def r1_Keyword.f (a0 : ByteArray) : Option (Bool) := if a0.toList = ([110, 111, 116] : List UInt8) then (some true) else (if a0.toList = ([99, 111, 117, 110, 116] : List UInt8) then (some true) else (if a0.toList = ([115, 117, 109] : List UInt8) then (some true) else (if a0.toList = ([109, 105, 110] : List UInt8) then (some true) else (if a0.toList = ([109, 97, 120] : List UInt8) then (some true) else (if a0.toList = ([108, 101, 110] : List UInt8) then (some true) else (if a0.toList = ([99, 104, 97, 114, 115] : List UInt8) then (some true) else (some (a0.toList == ([98, 97, 99, 107] : List UInt8)))))))))
set_option maxHeartbeats 8000000 in
set_option maxRecDepth 100000 in
theorem r1_Keyword.calls (a0 : ByteArray) (r : Bool) (w : World) (h : r1_Keyword.f a0 = some r) :
  Calls Tryd.prog 134 #[.string a0] w fun e w' => e = .returned (.bool r) ∧ Drawn0 w w' := by
 have H : (if a0.toList = ([110, 111, 116] : List UInt8) then (some true) else (if a0.toList = ([99, 111, 117, 110, 116] : List UInt8) then (some true) else (if a0.toList = ([115, 117, 109] : List UInt8) then (some true) else (if a0.toList = ([109, 105, 110] : List UInt8) then (some true) else (if a0.toList = ([109, 97, 120] : List UInt8) then (some true) else (if a0.toList = ([108, 101, 110] : List UInt8) then (some true) else (if a0.toList = ([99, 104, 97, 114, 115] : List UInt8) then (some true) else (some (a0.toList == ([98, 97, 99, 107] : List UInt8)))))))))) = some r := h
 clear h
 by_cases c2 : a0.toList = ([110, 111, 116] : List UInt8)
 ·rw [if_pos c2] at H
  have c2b0 : (a0.toList == ([110, 111, 116] : List UInt8)) = true := beq_iff_eq.mpr c2
  have c2b1 : (a0.toList != ([110, 111, 116] : List UInt8)) = false := bne_eq_false_iff_eq.mpr c2
  clear c2
  obtain rfl := Option.some.inj H
  go_enter Tryd.func134, Tryd.ntmps134
  go_wp2
  go_ret
  exact ⟨by first | rfl | (simp; done) | (simp [*]; done), by repeat (first | exact Drawn0.refl _ | apply Drawn0.step)⟩
 ·rw [if_neg c2] at H
  have c2b0 : (a0.toList == ([110, 111, 116] : List UInt8)) = false := beq_eq_false_iff_ne.mpr c2
  have c2b1 : (a0.toList != ([110, 111, 116] : List UInt8)) = true := bne_iff_ne.mpr c2
  by_cases c3 : a0.toList = ([99, 111, 117, 110, 116] : List UInt8)
  ·rw [if_pos c3] at H
   have c3b0 : (a0.toList == ([99, 111, 117, 110, 116] : List UInt8)) = true := beq_iff_eq.mpr c3
   have c3b1 : (a0.toList != ([99, 111, 117, 110, 116] : List UInt8)) = false := bne_eq_false_iff_eq.mpr c3
   clear c3
   obtain rfl := Option.some.inj H
   go_enter Tryd.func134, Tryd.ntmps134
   go_wp2
   go_ret
   exact ⟨by first | rfl | (simp; done) | (simp [*]; done), by repeat (first | exact Drawn0.refl _ | apply Drawn0.step)⟩
  ·rw [if_neg c3] at H
   have c3b0 : (a0.toList == ([99, 111, 117, 110, 116] : List UInt8)) = false := beq_eq_false_iff_ne.mpr c3
   have c3b1 : (a0.toList != ([99, 111, 117, 110, 116] : List UInt8)) = true := bne_iff_ne.mpr c3
   by_cases c4 : a0.toList = ([115, 117, 109] : List UInt8)
   ·rw [if_pos c4] at H
    have c4b0 : (a0.toList == ([115, 117, 109] : List UInt8)) = true := beq_iff_eq.mpr c4
    have c4b1 : (a0.toList != ([115, 117, 109] : List UInt8)) = false := bne_eq_false_iff_eq.mpr c4
    clear c4
    obtain rfl := Option.some.inj H
    go_enter Tryd.func134, Tryd.ntmps134
    go_wp2
    go_ret
    exact ⟨by first | rfl | (simp; done) | (simp [*]; done), by repeat (first | exact Drawn0.refl _ | apply Drawn0.step)⟩
   ·rw [if_neg c4] at H
    have c4b0 : (a0.toList == ([115, 117, 109] : List UInt8)) = false := beq_eq_false_iff_ne.mpr c4
    have c4b1 : (a0.toList != ([115, 117, 109] : List UInt8)) = true := bne_iff_ne.mpr c4
    by_cases c5 : a0.toList = ([109, 105, 110] : List UInt8)
    ·rw [if_pos c5] at H
     have c5b0 : (a0.toList == ([109, 105, 110] : List UInt8)) = true := beq_iff_eq.mpr c5
     have c5b1 : (a0.toList != ([109, 105, 110] : List UInt8)) = false := bne_eq_false_iff_eq.mpr c5
     clear c5
     obtain rfl := Option.some.inj H
     go_enter Tryd.func134, Tryd.ntmps134
     go_wp2
     go_ret
     exact ⟨by first | rfl | (simp; done) | (simp [*]; done), by repeat (first | exact Drawn0.refl _ | apply Drawn0.step)⟩
    ·rw [if_neg c5] at H
     have c5b0 : (a0.toList == ([109, 105, 110] : List UInt8)) = false := beq_eq_false_iff_ne.mpr c5
     have c5b1 : (a0.toList != ([109, 105, 110] : List UInt8)) = true := bne_iff_ne.mpr c5
     by_cases c6 : a0.toList = ([109, 97, 120] : List UInt8)
     ·rw [if_pos c6] at H
      have c6b0 : (a0.toList == ([109, 97, 120] : List UInt8)) = true := beq_iff_eq.mpr c6
      have c6b1 : (a0.toList != ([109, 97, 120] : List UInt8)) = false := bne_eq_false_iff_eq.mpr c6
      clear c6
      obtain rfl := Option.some.inj H
      go_enter Tryd.func134, Tryd.ntmps134
      go_wp2
      go_ret
      exact ⟨by first | rfl | (simp; done) | (simp [*]; done), by repeat (first | exact Drawn0.refl _ | apply Drawn0.step)⟩
     ·rw [if_neg c6] at H
      have c6b0 : (a0.toList == ([109, 97, 120] : List UInt8)) = false := beq_eq_false_iff_ne.mpr c6
      have c6b1 : (a0.toList != ([109, 97, 120] : List UInt8)) = true := bne_iff_ne.mpr c6
      by_cases c7 : a0.toList = ([108, 101, 110] : List UInt8)
      ·rw [if_pos c7] at H
       have c7b0 : (a0.toList == ([108, 101, 110] : List UInt8)) = true := beq_iff_eq.mpr c7
       have c7b1 : (a0.toList != ([108, 101, 110] : List UInt8)) = false := bne_eq_false_iff_eq.mpr c7
       clear c7
       obtain rfl := Option.some.inj H
       go_enter Tryd.func134, Tryd.ntmps134
       go_wp2
       go_ret
       exact ⟨by first | rfl | (simp; done) | (simp [*]; done), by repeat (first | exact Drawn0.refl _ | apply Drawn0.step)⟩
      ·rw [if_neg c7] at H
       have c7b0 : (a0.toList == ([108, 101, 110] : List UInt8)) = false := beq_eq_false_iff_ne.mpr c7
       have c7b1 : (a0.toList != ([108, 101, 110] : List UInt8)) = true := bne_iff_ne.mpr c7
       by_cases c8 : a0.toList = ([99, 104, 97, 114, 115] : List UInt8)
       ·rw [if_pos c8] at H
        have c8b0 : (a0.toList == ([99, 104, 97, 114, 115] : List UInt8)) = true := beq_iff_eq.mpr c8
        have c8b1 : (a0.toList != ([99, 104, 97, 114, 115] : List UInt8)) = false := bne_eq_false_iff_eq.mpr c8
        clear c8
        obtain rfl := Option.some.inj H
        go_enter Tryd.func134, Tryd.ntmps134
        go_wp2
        go_ret
        exact ⟨by first | rfl | (simp; done) | (simp [*]; done), by repeat (first | exact Drawn0.refl _ | apply Drawn0.step)⟩
       ·rw [if_neg c8] at H
        have c8b0 : (a0.toList == ([99, 104, 97, 114, 115] : List UInt8)) = false := beq_eq_false_iff_ne.mpr c8
        have c8b1 : (a0.toList != ([99, 104, 97, 114, 115] : List UInt8)) = true := bne_iff_ne.mpr c8
        obtain rfl := Option.some.inj H
        go_enter Tryd.func134, Tryd.ntmps134
        go_wp2
        go_ret
        exact ⟨by first | rfl | (simp; done) | (simp [*]; done), by repeat (first | exact Drawn0.refl _ | apply Drawn0.step)⟩
def r1_Name.f (k : Nat) (a0 : ByteArray) : Option (Bool) := (r1_written.f k a0 97 122).bind fun t277 => (if t277 = true then ((r1_Keyword.f a0).bind fun t278 => (some (!t278))) else (some false))
set_option maxHeartbeats 8000000 in
set_option maxRecDepth 100000 in
theorem r1_Name.calls (k : Nat) (a0 : ByteArray) (r : Bool) (w : World) (h : r1_Name.f k a0 = some r) :
  Calls Tryd.prog 115 #[.string a0] w fun e w' => e = .returned (.bool r) ∧ Drawn0 w w' := by
 have H : ((r1_written.f k a0 97 122).bind fun t277 => (if t277 = true then ((r1_Keyword.f a0).bind fun t278 => (some (!t278))) else (some false))) = some r := h
 clear h
 replace H := Option.bind_eq_some_iff.mp H
 obtain ⟨t277, A20, H⟩ := H
 replace H : (if t277 = true then ((r1_Keyword.f a0).bind fun t278 => (some (!t278))) else (some false)) = some r := H
 have A2 := Aside0.mk A20
 clear A20
 by_cases c3 : t277 = true
 ·subst c3
  have H1 : ((r1_Keyword.f a0).bind fun t278 => (some (!t278))) = some r := by rw [if_pos rfl] at H; exact H
  clear H
  have H := H1
  clear H1
  replace H := Option.bind_eq_some_iff.mp H
  obtain ⟨t278, A40, H⟩ := H
  replace H : (some (!t278)) = some r := H
  have A4 := Aside0.mk A40
  clear A40
  obtain rfl := Option.some.inj H
  go_enter Tryd.func115, Tryd.ntmps115
  go_wp2_with (first | ((with_reducible refine xau (f := 133) rfl ?_); refine goesL_ (some 4) rfl rfl Tryd.func133 (by kernel_rfl) rfl #[.string a0, .int .u8 97, .int .u8 122] rfl (by (try simp only [List.map_toArray, List.map_cons, List.map_nil]); first | done | rfl | (simp only [List.length_drop, List.length_take]; rfl)) ?_; (with_reducible refine (r1_written.calls k a0 97 122 true _ A2.out).mono ?_); rintro e w' ⟨rfl, ⟨nd, rfl⟩⟩; refine ⟨_, rfl, ?_⟩) | (go_at_call 134; (with_reducible refine (r1_Keyword.calls a0 t278 _ A4.out).mono ?_); rintro e w' ⟨rfl, ⟨nd, rfl⟩⟩))
  go_ret
  exact ⟨by first | rfl | (simp; done) | (simp [*]; done), by repeat (first | exact Drawn0.refl _ | apply Drawn0.step)⟩
 ·replace c3 := Bool.eq_false_iff.mpr c3
  subst c3
  have H1 : (some false) = some r := by rw [if_neg (show ¬ (false = true) by decide)] at H; exact H
  clear H
  have H := H1
  clear H1
  obtain rfl := Option.some.inj H
  go_enter Tryd.func115, Tryd.ntmps115
  go_wp2_with (first | ((with_reducible refine xau (f := 133) rfl ?_); refine goesL_ (some 4) rfl rfl Tryd.func133 (by kernel_rfl) rfl #[.string a0, .int .u8 97, .int .u8 122] rfl (by (try simp only [List.map_toArray, List.map_cons, List.map_nil]); first | done | rfl | (simp only [List.length_drop, List.length_take]; rfl)) ?_; (with_reducible refine (r1_written.calls k a0 97 122 false _ A2.out).mono ?_); rintro e w' ⟨rfl, ⟨nd, rfl⟩⟩; refine ⟨_, rfl, ?_⟩))
  go_ret
  exact ⟨by first | rfl | (simp; done) | (simp [*]; done), by repeat (first | exact Drawn0.refl _ | apply Drawn0.step)⟩
mutual
def r4_atom.j0 : Nat → Bool → ByteArray → List (S28) → Option (Bool)
 | 0, _, _, _ => none
 | k + 1, x13, x280000, x280001 => if x13 = true then (some false) else (r4_atom.l0 k 0 x280000 x280001)
def r4_atom.l0 : Nat → Int → ByteArray → List (S28) → Option (Bool)
 | 0, _, _, _ => none
 | k + 1, x3, x280000, x280001 => if x3 < (x280001.length : Int) then (if 0 ≤ x3 then ((r4_term.f k ((rd_T28 x280001 x3).f0) ((rd_T28 x280001 x3).f1.f0) ((rd_T28 x280001 x3).f1.f1) ((rd_T28 x280001 x3).f1.f2)).bind fun t282 => (if t282 = true then (r4_atom.l0 k (wrap64 (x3 + 1)) x280000 x280001) else (some false))) else (none)) else (some true)
end
def r4_atom.f (k : Nat) (a0_0 : ByteArray) (l0_1 : List (S28)) : Option (Bool) := (r1_Name.f k a0_0).bind fun t280 => (if t280 = true then (r4_atom.j0 k (decide ((l0_1.length : Int) > 24)) a0_0 l0_1) else (r4_atom.j0 k true a0_0 l0_1))
set_option maxHeartbeats 8000000 in
set_option maxRecDepth 100000 in
theorem r4_atom.calls (k : Nat) (a0_0 : ByteArray) (A0_1 : Option Addr) (c0_1 : Nat) (l0_1 : List (S28)) (r : Bool) (w : World) (hr0_1 : Kd.C k28 w A0_1 l0_1.length l0_1) (hc0_1 : l0_1.length ≤ c0_1) (h : r4_atom.f k a0_0 l0_1 = some r) :
  Calls Tryd.prog 107 #[.agg #[.string a0_0, .slice A0_1 l0_1.length c0_1]] w fun e w' => e = .returned (.bool r) ∧ Below w.heap.size w w' := by
 have hu53 := Tryd.underlying53
 have hu28 := Tryd.underlying28
 have HR0_1 := Aside0.mk hr0_1
 have HC0_1 := Aside0.mk hc0_1
 clear hr0_1 hc0_1
 have HB := Aside0.mk (Below.refl w.heap.size w)
 have H : ((r1_Name.f k a0_0).bind fun t280 => (if t280 = true then (r4_atom.j0 k (decide ((l0_1.length : Int) > 24)) a0_0 l0_1) else (r4_atom.j0 k true a0_0 l0_1))) = some r := h
 clear h
 have HC2 := Aside0.mk H
 clear H
 go_enter Tryd.func107, Tryd.ntmps107
 go_upto_region 1 with (first | ((with_reducible refine xar (N := 1) rfl ?_); (try (refine xav (by rfl) ?_; dsimp only)); refine xap ?hg (N := 1) ?hd (cs := #[.string a0_0, .slice A0_1 l0_1.length c0_1]) (t := 53) ?hr ?_; (case hd => rfl); (case hg => rfl); (case hr => first | (go_simp; done) | (go_simp; rfl)); intro gb279 hg w3 hbox hb; have n0_ := Aside0.mk (xah (by repeat (first | (with_reducible first | exact HB.out | apply xab | apply xaa | apply xac) | exact HB.out)) hb); have n1_ := Aside0.mk (hbox); have n2_ := Aside0.mk ((by rw [hg]; exact (xao (by repeat (first | (with_reducible first | exact HB.out | apply xab | apply xaa | apply xac) | exact HB.out))) : w.heap.size ≤ gb279)); have n3_ := n2_; clear HB; have HB := n0_; have BK279 := n1_; have GW279 := n2_; have GE279 := n3_; clear n0_ n1_ n2_ n3_; clear hb hbox hg))
 (try simp only [Act.put, sI, sZ, sS])
 go_cut [13] (fun v13 wc => ∃ (kq : Nat) (x13_1 : Bool), v13 = .bool x13_1 ∧ Aside0 (r4_atom.j0 kq x13_1 a0_0 l0_1 = some r) ∧ Aside0 (kq ≤ k) ∧ Aside0 (wc.heap[gb279]? = some (.cells #[.string a0_0, (.slice A0_1 l0_1.length c0_1)] 53 (0, 0))) ∧ Aside0 (Below w.heap.size w wc))
 case first =>
  have H := HC2.out
  clear HC2
  replace H := Option.bind_eq_some_iff.mp H
  obtain ⟨t280, A40, H⟩ := H
  replace H : (if t280 = true then (r4_atom.j0 k (decide ((l0_1.length : Int) > 24)) a0_0 l0_1) else (r4_atom.j0 k true a0_0 l0_1)) = some r := H
  have A4 := Aside0.mk A40
  clear A40
  by_cases c5 : t280 = true
  ·subst c5
   have H1 : (r4_atom.j0 k (decide ((l0_1.length : Int) > 24)) a0_0 l0_1) = some r := by rw [if_pos rfl] at H; exact H
   clear H
   have H := H1
   clear H1
   have H' := Aside0.mk H
   clear H
   obtain ⟨hcz6_0, hcz6_1⟩ := cz2 BK279.out
   obtain ⟨hfz6_0, hfz6_1⟩ := fz2 BK279.out
   go_wp2_with (first | ((with_reducible refine xau (f := 115) rfl ?_); refine goesL_ (some 6) rfl rfl Tryd.func115 (by kernel_rfl) rfl #[.string a0_0] rfl (by (try simp only [List.map_toArray, List.map_cons, List.map_nil]); first | done | rfl | (simp only [List.length_drop, List.length_take]; rfl)) ?_; (with_reducible refine (r1_Name.calls k a0_0 true _ A4.out).mono ?_); rintro e w' ⟨rfl, ⟨nd, rfl⟩⟩; refine ⟨_, rfl, ?_⟩))
   go_meet
   case rel => exact ⟨_, (decide ((l0_1.length : Int) > 24)), (by first | rfl | (simp; done) | (simp [*]; done)), H', ⟨by first | omega | exact Nat.le_refl _⟩, ⟨by (with_reducible repeat (first | refine xag ?_ _ | refine xai ?_ | refine xaf ?_ _)); exact BK279.out⟩, ⟨by repeat (first | (with_reducible first | exact HB.out | apply xab | apply xaa | apply xac | refine xad ?_ GE279.out) | exact HB.out)⟩⟩
  ·replace c5 := Bool.eq_false_iff.mpr c5
   subst c5
   have H1 : (r4_atom.j0 k true a0_0 l0_1) = some r := by rw [if_neg (show ¬ (false = true) by decide)] at H; exact H
   clear H
   have H := H1
   clear H1
   have H' := Aside0.mk H
   clear H
   obtain ⟨hcz7_0, hcz7_1⟩ := cz2 BK279.out
   obtain ⟨hfz7_0, hfz7_1⟩ := fz2 BK279.out
   go_wp2_with (first | ((with_reducible refine xau (f := 115) rfl ?_); refine goesL_ (some 6) rfl rfl Tryd.func115 (by kernel_rfl) rfl #[.string a0_0] rfl (by (try simp only [List.map_toArray, List.map_cons, List.map_nil]); first | done | rfl | (simp only [List.length_drop, List.length_take]; rfl)) ?_; (with_reducible refine (r1_Name.calls k a0_0 false _ A4.out).mono ?_); rintro e w' ⟨rfl, ⟨nd, rfl⟩⟩; refine ⟨_, rfl, ?_⟩))
   go_meet
   case rel => exact ⟨_, (true), (by first | rfl | (simp; done) | (simp [*]; done)), H', ⟨by first | omega | exact Nat.le_refl _⟩, ⟨by (with_reducible repeat (first | refine xag ?_ _ | refine xai ?_ | refine xaf ?_ _)); exact BK279.out⟩, ⟨by repeat (first | (with_reducible first | exact HB.out | apply xab | apply xaa | apply xac | refine xad ?_ GE279.out) | exact HB.out)⟩⟩
 case rest =>
  clear HC2
  try clear c1
  try clear p2
  try clear c5
  try clear hcz6_0
  try clear hcz6_1
  try clear hcz7_0
  try clear hcz7_1
  try clear hfz6_0
  try clear hfz6_1
  try clear hfz7_0
  try clear hfz7_1
  obtain ⟨kq, x13_1, rfl, HA, HJ1, BK279, HB⟩ := hcut
  cases kq with
  | zero => exact absurd HA.out (by simp [r4_atom.j0])
  | succ kj1 =>
   have H := HA.out
   clear HA
   simp only [r4_atom.j0] at H
   by_cases c8 : x13_1 = true
   ·subst c8
    have H1 : (some false) = some r := by rw [if_pos rfl] at H; exact H
    clear H
    have H := H1
    clear H1
    obtain rfl := Option.some.inj H
    go_wp2
    go_ret
    exact ⟨by first | rfl | (simp [xak, xaj] <;> rfl) | (simp [*, xak, xaj] <;> rfl), by repeat (first | (with_reducible first | exact HB.out | apply xab | apply xaa | apply xac | refine xad ?_ GE279.out) | exact HB.out)⟩
   ·replace c8 := Bool.eq_false_iff.mpr c8
    subst c8
    have H1 : (r4_atom.l0 kj1 0 a0_0 l0_1) = some r := by rw [if_neg (show ¬ (false = true) by decide)] at H; exact H
    clear H
    have H := H1
    clear H1
    have H' := Aside0.mk H
    clear H
    go_wp2
    go_loopg [3] kj1 (fun kq v3 w' => ∃ (x3_2 : Int), v3 = .int .i64 x3_2 ∧ Aside0 (r4_atom.l0 kq x3_2 a0_0 l0_1 = some r) ∧ Aside0 (kq ≤ kj1) ∧ Aside0 (w'.heap[gb279]? = some (.cells #[.string a0_0, (.slice A0_1 l0_1.length c0_1)] 53 (0, 0))) ∧ Aside0 (Below w.heap.size w w'))
    case atStart => exact ⟨(0), (by first | rfl | (simp; done) | (simp [*]; done)), H', ⟨Nat.le_refl _⟩, ⟨by (with_reducible repeat (first | refine xag ?_ _ | refine xai ?_ | refine xaf ?_ _)); exact BK279.out⟩, ⟨by repeat (first | (with_reducible first | exact HB.out | apply xab | apply xaa | apply xac | refine xad ?_ GE279.out) | exact HB.out)⟩⟩
    case round =>
     clear H'
     try clear c1
     try clear p2
     try clear c5
     try clear c8
     try clear hcz6_0
     try clear hcz6_1
     try clear hcz7_0
     try clear hcz7_1
     try clear hfz6_0
     try clear hfz6_1
     try clear hfz7_0
     try clear hfz7_1
     try clear p2
     obtain ⟨x3_2, rfl, HA, HK2, BK279, HB⟩ := hrel
     cases gk with
     | zero => exact absurd HA.out (by simp [r4_atom.l0])
     | succ k2 =>
      have H := HA.out
      clear HA
      simp only [r4_atom.l0] at H
      by_cases c9 : x3_2 < (l0_1.length : Int)
      ·rw [if_pos c9] at H
       have c9b0 : decide (x3_2 < (l0_1.length : Int)) = true := decide_eq_true c9
       clear c9
       by_cases c10 : 0 ≤ x3_2
       ·rw [if_pos c10] at H
        have c10b0 : decide (0 ≤ x3_2) = true := decide_eq_true c10
        clear c10
        replace H := Option.bind_eq_some_iff.mp H
        obtain ⟨t282, A110, H⟩ := H
        replace H : (if t282 = true then (r4_atom.l0 k2 (wrap64 (x3_2 + 1)) a0_0 l0_1) else (some false)) = some r := H
        have A11 := Aside0.mk A110
        clear A110
        by_cases c12 : t282 = true
        ·subst c12
         have H1 : (r4_atom.l0 k2 (wrap64 (x3_2 + 1)) a0_0 l0_1) = some r := by rw [if_pos rfl] at H; exact H
         clear H
         have H := H1
         clear H1
         have H' := Aside0.mk H
         clear H
         obtain ⟨hcz13_0, hcz13_1⟩ := cz2 BK279.out
         obtain ⟨hfz13_0, hfz13_1⟩ := fz2 BK279.out
         have p281 : 0 ≤ (x3_2 : Int) := of_decide_eq_true (by first | (with_reducible assumption) | assumption)
         have q281 : x3_2 < (l0_1.length : Int) := of_decide_eq_true (by first | (with_reducible assumption) | assumption)
         obtain ⟨ad281, e281, hx281_0, hx281_1, hx281_2, hx281_3⟩ := at_T28 HR0_1.out x3_2 p281 q281
         cases e281
         replace hx281_0 := (HB.out.cell (World.block_lt_of_cell? w _ hx281_0)).trans hx281_0
         replace hx281_1 := (HB.out.cell (World.block_lt_of_cell? w _ hx281_1)).trans hx281_1
         replace hx281_2 := (HB.out.cell (World.block_lt_of_cell? w _ hx281_2)).trans hx281_2
         replace hx281_3 := (HB.out.cell (World.block_lt_of_cell? w _ hx281_3)).trans hx281_3
         replace p281 := eq_true p281
         replace q281 := eq_true q281
         go_wp2_with (first | ((with_reducible refine xau (f := 100) rfl ?_); refine goesL_ (some 26) rfl rfl Tryd.func100 (by kernel_rfl) rfl #[.agg #[.string ((rd_T28 l0_1 x3_2).f0), .int .i8 ((rd_T28 l0_1 x3_2).f1.f0), .int .i64 ((rd_T28 l0_1 x3_2).f1.f1), .string ((rd_T28 l0_1 x3_2).f1.f2)]] rfl (by (try simp only [List.map_toArray, List.map_cons, List.map_nil]); first | done | rfl | (simp only [List.length_drop, List.length_take]; rfl)) ?_; (with_reducible refine (r4_term.calls k2 ((rd_T28 l0_1 x3_2).f0) ((rd_T28 l0_1 x3_2).f1.f0) ((rd_T28 l0_1 x3_2).f1.f1) ((rd_T28 l0_1 x3_2).f1.f2) true _ A11.out).mono ?_); rintro e w14 ⟨rfl, hb⟩; refine ⟨_, rfl, ?_⟩; have n0_ := Aside0.mk (xam (g := gb279) (o := .cells #[.string a0_0, .slice (some ad281) l0_1.length c0_1] 53 (0, 0)) (by (with_reducible repeat (first | refine xag ?_ _ | refine xai ?_ | refine xaf ?_ _)); exact BK279.out) hb); have n1_ := Aside0.mk (xah (by repeat (first | (with_reducible first | exact HB.out | apply xab | apply xaa | apply xac | refine xad ?_ GE279.out) | exact HB.out)) hb); clear BK279; clear HB; have BK279 := n0_; have HB := n1_; clear n0_ n1_; (try clear hb); (try clear hb2); (try clear hk); (try clear hi)))
         go_roundg k2
         case measure => have := HJ1.out; have := HK2.out; omega
         case rel => exact ⟨(wrap64 (x3_2 + 1)), (by first | rfl | (simp; done) | (simp [*]; done)), H', ⟨by have := HJ1.out; have := HK2.out; omega⟩, ⟨by (with_reducible repeat (first | refine xag ?_ _ | refine xai ?_ | refine xaf ?_ _)); exact BK279.out⟩, ⟨by repeat (first | (with_reducible first | exact HB.out | apply xab | apply xaa | apply xac | refine xad ?_ GE279.out) | exact HB.out)⟩⟩
        ·replace c12 := Bool.eq_false_iff.mpr c12
         subst c12
         have H1 : (some false) = some r := by rw [if_neg (show ¬ (false = true) by decide)] at H; exact H
         clear H
         have H := H1
         clear H1
         obtain rfl := Option.some.inj H
         obtain ⟨hcz15_0, hcz15_1⟩ := cz2 BK279.out
         obtain ⟨hfz15_0, hfz15_1⟩ := fz2 BK279.out
         have p281 : 0 ≤ (x3_2 : Int) := of_decide_eq_true (by first | (with_reducible assumption) | assumption)
         have q281 : x3_2 < (l0_1.length : Int) := of_decide_eq_true (by first | (with_reducible assumption) | assumption)
         obtain ⟨ad281, e281, hx281_0, hx281_1, hx281_2, hx281_3⟩ := at_T28 HR0_1.out x3_2 p281 q281
         cases e281
         replace hx281_0 := (HB.out.cell (World.block_lt_of_cell? w _ hx281_0)).trans hx281_0
         replace hx281_1 := (HB.out.cell (World.block_lt_of_cell? w _ hx281_1)).trans hx281_1
         replace hx281_2 := (HB.out.cell (World.block_lt_of_cell? w _ hx281_2)).trans hx281_2
         replace hx281_3 := (HB.out.cell (World.block_lt_of_cell? w _ hx281_3)).trans hx281_3
         replace p281 := eq_true p281
         replace q281 := eq_true q281
         go_wp2_with (first | ((with_reducible refine xau (f := 100) rfl ?_); refine goesL_ (some 26) rfl rfl Tryd.func100 (by kernel_rfl) rfl #[.agg #[.string ((rd_T28 l0_1 x3_2).f0), .int .i8 ((rd_T28 l0_1 x3_2).f1.f0), .int .i64 ((rd_T28 l0_1 x3_2).f1.f1), .string ((rd_T28 l0_1 x3_2).f1.f2)]] rfl (by (try simp only [List.map_toArray, List.map_cons, List.map_nil]); first | done | rfl | (simp only [List.length_drop, List.length_take]; rfl)) ?_; (with_reducible refine (r4_term.calls k2 ((rd_T28 l0_1 x3_2).f0) ((rd_T28 l0_1 x3_2).f1.f0) ((rd_T28 l0_1 x3_2).f1.f1) ((rd_T28 l0_1 x3_2).f1.f2) false _ A11.out).mono ?_); rintro e w16 ⟨rfl, hb⟩; refine ⟨_, rfl, ?_⟩; have n0_ := Aside0.mk (xam (g := gb279) (o := .cells #[.string a0_0, .slice (some ad281) l0_1.length c0_1] 53 (0, 0)) (by (with_reducible repeat (first | refine xag ?_ _ | refine xai ?_ | refine xaf ?_ _)); exact BK279.out) hb); have n1_ := Aside0.mk (xah (by repeat (first | (with_reducible first | exact HB.out | apply xab | apply xaa | apply xac | refine xad ?_ GE279.out) | exact HB.out)) hb); clear BK279; clear HB; have BK279 := n0_; have HB := n1_; clear n0_ n1_; (try clear hb); (try clear hb2); (try clear hk); (try clear hi)))
         go_ret
         exact ⟨by first | rfl | (simp [xak, xaj] <;> rfl) | (simp [*, xak, xaj] <;> rfl), by repeat (first | (with_reducible first | exact HB.out | apply xab | apply xaa | apply xac | refine xad ?_ GE279.out) | exact HB.out)⟩
       ·rw [if_neg c10] at H
        exact absurd H (by simp)
      ·rw [if_neg c9] at H
       have c9b0 : decide (x3_2 < (l0_1.length : Int)) = false := decide_eq_false c9
       clear c9
       obtain rfl := Option.some.inj H
       obtain ⟨hcz17_0, hcz17_1⟩ := cz2 BK279.out
       obtain ⟨hfz17_0, hfz17_1⟩ := fz2 BK279.out
       go_wp2
       go_ret
       exact ⟨by first | rfl | (simp [xak, xaj] <;> rfl) | (simp [*, xak, xaj] <;> rfl), by repeat (first | (with_reducible first | exact HB.out | apply xab | apply xaa | apply xac | refine xad ?_ GE279.out) | exact HB.out)⟩
end Go.Proofs.YtllcmggmcogokaaDoor.PAll
end
section
namespace Go.Proofs.YtllcmggmcogokaaDoor.PAll
open Go.RowKit Go.Proofs.YtllcmggmcogokaaDoorW.PrintWords Go.Proofs.YtllcmggmcogokaaDoorW.PrintLast Go.Proofs.YtllcmggmcogokaaDoorW.PrintMore
attribute [local go_sem] max2_int min2_int max_two min_two max_three min_three max_four min_four
attribute [local go_sem high] eqA28
def r4_nothing.f (a0_0 : Int) (a0_1 : ByteArray) (a0_2 : Int) (a0_3 : Int) (a0_4 : ByteArray) (l0_5 : List (S31)) : Option (Bool) := if a0_0 = 0 then (if (a0_1.toList == ([] : List UInt8) && ((a0_2 == 0 && (a0_3 == 0 && (a0_4.toList == ([] : List UInt8)))))) = true then (some ((l0_5.length : Int) == 0)) else (some false)) else (some false)
set_option maxHeartbeats 8000000 in
set_option maxRecDepth 100000 in
theorem r4_nothing.calls (a0_0 : Int) (a0_1 : ByteArray) (a0_2 : Int) (a0_3 : Int) (a0_4 : ByteArray) (A0_5 : Option Addr) (c0_5 : Nat) (l0_5 : List (S31)) (r : Bool) (w : World) (hr0_5 : Kd.C k31 w A0_5 l0_5.length l0_5) (hc0_5 : l0_5.length ≤ c0_5) (h : r4_nothing.f a0_0 a0_1 a0_2 a0_3 a0_4 l0_5 = some r) :
  Calls Tryd.prog 108 #[.agg #[.int .i8 a0_0, .string a0_1, .int .i8 a0_2, .int .i64 a0_3, .string a0_4, .slice A0_5 l0_5.length c0_5]] w fun e w' => e = .returned (.bool r) ∧ Below w.heap.size w w' := by
 have hu31 := Tryd.underlying31
 have hu28 := Tryd.underlying28
 have HR0_5 := Aside0.mk hr0_5
 have HC0_5 := Aside0.mk hc0_5
 clear hr0_5 hc0_5
 have HB := Aside0.mk (Below.refl w.heap.size w)
 have H : (if a0_0 = 0 then (if (a0_1.toList == ([] : List UInt8) && ((a0_2 == 0 && (a0_3 == 0 && (a0_4.toList == ([] : List UInt8)))))) = true then (some ((l0_5.length : Int) == 0)) else (some false)) else (some false)) = some r := h
 clear h
 by_cases c2 : a0_0 = 0
 ·rw [if_pos c2] at H
  have c2b0 : (a0_0 == 0) = true := beq_iff_eq.mpr c2
  have c2b1 : (a0_0 != 0) = false := bne_eq_false_iff_eq.mpr c2
  clear c2
  by_cases c3 : (a0_1.toList == ([] : List UInt8) && ((a0_2 == 0 && (a0_3 == 0 && (a0_4.toList == ([] : List UInt8)))))) = true
  ·rw [if_pos c3] at H
   have c3b0 : (a0_1.toList == ([] : List UInt8) && ((a0_2 == 0 && (a0_3 == 0 && (a0_4.toList == ([] : List UInt8)))))) = true := c3
   (try (have c3b1 : (a0_1.toList.isEmpty && ((a0_2 == 0 && (a0_3 == 0 && (a0_4.toList.isEmpty))))) = true := by simpa using c3))
   (try (have c3b2 : decide (a0_1.toList = ([] : List UInt8) && ((a0_2 == 0 && (a0_3 == 0 && (a0_4.toList == ([] : List UInt8)))))) = true := by simpa using c3))
   (try (have c3b3 : (a0_1.toList == ([] : List UInt8) && ((a0_2 == 0 && (a0_3 == 0 && (a0_4.toList == ([] : List UInt8)))))) = true := by simpa using c3))
   clear c3
   obtain rfl := Option.some.inj H
   go_enter Tryd.func108, Tryd.ntmps108
   go_wp2_with (first | ((with_reducible refine xar (N := 1) rfl ?_); (try (refine xav (by rfl) ?_; dsimp only)); refine xap ?hg (N := 1) ?hd (cs := #[.int .i8 a0_0, .string a0_1, .int .i8 a0_2, .int .i64 a0_3, .string a0_4, .slice A0_5 l0_5.length c0_5]) (t := 31) ?hr ?_; (case hd => rfl); (case hg => rfl); (case hr => first | (go_simp; done) | (go_simp; rfl)); intro gb283 hg w4 hbox hb; have n0_ := Aside0.mk (xah (by repeat (first | (with_reducible first | exact HB.out | apply xab | apply xaa | apply xac) | exact HB.out)) hb); have n1_ := Aside0.mk (hbox); have n2_ := Aside0.mk ((by rw [hg]; exact (xao (by repeat (first | (with_reducible first | exact HB.out | apply xab | apply xaa | apply xac) | exact HB.out))) : w.heap.size ≤ gb283)); have n3_ := n2_; clear HB; have HB := n0_; have BK283 := n1_; have GW283 := n2_; have GE283 := n3_; clear n0_ n1_ n2_ n3_; clear hb hbox hg) | ((with_reducible refine xar (N := 3) rfl ?_); (try (refine xav (by rfl) ?_; dsimp only)); refine xap ?hg (N := 3) ?hd (cs := #[.string (⟨#[]⟩ : ByteArray), .int .i8 0, .int .i64 0, .string (⟨#[]⟩ : ByteArray)]) (t := 28) ?hr ?_; (case hd => rfl); (case hg => rfl); (case hr => first | (go_simp; done) | (go_simp; rfl)); intro gb284 hg w5 hbox hb; have n0_ := Aside0.mk (xam (g := gb283) (o := .cells #[.int .i8 a0_0, .string a0_1, .int .i8 a0_2, .int .i64 a0_3, .string a0_4, .slice A0_5 l0_5.length c0_5] 31 (0, 0)) (by (with_reducible repeat (first | refine xag ?_ _ | refine xai ?_ | refine xaf ?_ _)); exact BK283.out) hb); have n1_ := Aside0.mk (xah (by repeat (first | (with_reducible first | exact HB.out | apply xab | apply xaa | apply xac | refine xad ?_ GE283.out) | exact HB.out)) hb); have n2_ := Aside0.mk (hbox); have n3_ := Aside0.mk ((by rw [hg]; exact (xao (by repeat (first | (with_reducible first | exact HB.out | apply xab | apply xaa | apply xac | refine xad ?_ GE283.out) | exact HB.out))) : w.heap.size ≤ gb284)); have n4_ := n3_; have n5_ := Aside0.mk ((by rw [hg]; exact Nat.ne_of_lt (blk_lt (g := gb283) (o := .cells #[.int .i8 a0_0, .string a0_1, .int .i8 a0_2, .int .i64 a0_3, .string a0_4, .slice A0_5 l0_5.length c0_5] 31 (0, 0)) (by (with_reducible repeat (first | refine xag ?_ _ | refine xai ?_ | refine xaf ?_ _)); exact BK283.out)) : gb283 ≠ gb284)); have n6_ := Aside0.mk ((by rw [hg]; exact Nat.ne_of_gt (blk_lt (g := gb283) (o := .cells #[.int .i8 a0_0, .string a0_1, .int .i8 a0_2, .int .i64 a0_3, .string a0_4, .slice A0_5 l0_5.length c0_5] 31 (0, 0)) (by (with_reducible repeat (first | refine xag ?_ _ | refine xai ?_ | refine xaf ?_ _)); exact BK283.out)) : gb284 ≠ gb283)); clear BK283; clear HB; have BK283 := n0_; have HB := n1_; have BK284 := n2_; have GW284 := n3_; have GE284 := n4_; have NB283_284 := n5_; have NB284_283 := n6_; clear n0_ n1_ n2_ n3_ n4_ n5_ n6_; clear hb hbox hg; have hnb6 := NB284_283.out; have hnc6 := NB283_284.out; obtain ⟨hcz7_0, hcz7_1, hcz7_2, hcz7_3⟩ := cz4 BK284.out; obtain ⟨hfz7_0, hfz7_1, hfz7_2, hfz7_3⟩ := fz4 BK284.out; obtain ⟨hcz8_0, hcz8_1, hcz8_2, hcz8_3, hcz8_4, hcz8_5⟩ := cz6 BK283.out; obtain ⟨hfz8_0, hfz8_1, hfz8_2, hfz8_3, hfz8_4, hfz8_5⟩ := fz6 BK283.out))
   go_ret
   exact ⟨by first | rfl | (simp [xak, xaj] <;> rfl) | (simp [*, xak, xaj] <;> rfl), by repeat (first | (with_reducible first | exact HB.out | apply xab | apply xaa | apply xac | refine xad ?_ GE283.out | refine xad ?_ GE284.out) | exact HB.out)⟩
  ·rw [if_neg c3] at H
   have c3b0 : (a0_1.toList == ([] : List UInt8) && ((a0_2 == 0 && (a0_3 == 0 && (a0_4.toList == ([] : List UInt8)))))) = false := by simpa using c3
   (try (have c3b1 : (a0_1.toList.isEmpty && ((a0_2 == 0 && (a0_3 == 0 && (a0_4.toList.isEmpty))))) = false := by simpa using c3))
   (try (have c3b2 : decide (a0_1.toList = ([] : List UInt8) && ((a0_2 == 0 && (a0_3 == 0 && (a0_4.toList == ([] : List UInt8)))))) = false := by simpa using c3))
   (try (have c3b3 : (a0_1.toList == ([] : List UInt8) && ((a0_2 == 0 && (a0_3 == 0 && (a0_4.toList == ([] : List UInt8)))))) = false := by simpa using c3))
   (try (have c3b4 : ¬ (a0_1.toList = ([] : List UInt8) && ((a0_2 == 0 && (a0_3 == 0 && (a0_4.toList == ([] : List UInt8)))))) := by simpa using c3))
   clear c3
   obtain rfl := Option.some.inj H
   go_enter Tryd.func108, Tryd.ntmps108
   go_wp2_with (first | ((with_reducible refine xar (N := 1) rfl ?_); (try (refine xav (by rfl) ?_; dsimp only)); refine xap ?hg (N := 1) ?hd (cs := #[.int .i8 a0_0, .string a0_1, .int .i8 a0_2, .int .i64 a0_3, .string a0_4, .slice A0_5 l0_5.length c0_5]) (t := 31) ?hr ?_; (case hd => rfl); (case hg => rfl); (case hr => first | (go_simp; done) | (go_simp; rfl)); intro gb283 hg w9 hbox hb; have n0_ := Aside0.mk (xah (by repeat (first | (with_reducible first | exact HB.out | apply xab | apply xaa | apply xac) | exact HB.out)) hb); have n1_ := Aside0.mk (hbox); have n2_ := Aside0.mk ((by rw [hg]; exact (xao (by repeat (first | (with_reducible first | exact HB.out | apply xab | apply xaa | apply xac) | exact HB.out))) : w.heap.size ≤ gb283)); have n3_ := n2_; clear HB; have HB := n0_; have BK283 := n1_; have GW283 := n2_; have GE283 := n3_; clear n0_ n1_ n2_ n3_; clear hb hbox hg) | ((with_reducible refine xar (N := 3) rfl ?_); (try (refine xav (by rfl) ?_; dsimp only)); refine xap ?hg (N := 3) ?hd (cs := #[.string (⟨#[]⟩ : ByteArray), .int .i8 0, .int .i64 0, .string (⟨#[]⟩ : ByteArray)]) (t := 28) ?hr ?_; (case hd => rfl); (case hg => rfl); (case hr => first | (go_simp; done) | (go_simp; rfl)); intro gb284 hg w10 hbox hb; have n0_ := Aside0.mk (xam (g := gb283) (o := .cells #[.int .i8 a0_0, .string a0_1, .int .i8 a0_2, .int .i64 a0_3, .string a0_4, .slice A0_5 l0_5.length c0_5] 31 (0, 0)) (by (with_reducible repeat (first | refine xag ?_ _ | refine xai ?_ | refine xaf ?_ _)); exact BK283.out) hb); have n1_ := Aside0.mk (xah (by repeat (first | (with_reducible first | exact HB.out | apply xab | apply xaa | apply xac | refine xad ?_ GE283.out) | exact HB.out)) hb); have n2_ := Aside0.mk (hbox); have n3_ := Aside0.mk ((by rw [hg]; exact (xao (by repeat (first | (with_reducible first | exact HB.out | apply xab | apply xaa | apply xac | refine xad ?_ GE283.out) | exact HB.out))) : w.heap.size ≤ gb284)); have n4_ := n3_; have n5_ := Aside0.mk ((by rw [hg]; exact Nat.ne_of_lt (blk_lt (g := gb283) (o := .cells #[.int .i8 a0_0, .string a0_1, .int .i8 a0_2, .int .i64 a0_3, .string a0_4, .slice A0_5 l0_5.length c0_5] 31 (0, 0)) (by (with_reducible repeat (first | refine xag ?_ _ | refine xai ?_ | refine xaf ?_ _)); exact BK283.out)) : gb283 ≠ gb284)); have n6_ := Aside0.mk ((by rw [hg]; exact Nat.ne_of_gt (blk_lt (g := gb283) (o := .cells #[.int .i8 a0_0, .string a0_1, .int .i8 a0_2, .int .i64 a0_3, .string a0_4, .slice A0_5 l0_5.length c0_5] 31 (0, 0)) (by (with_reducible repeat (first | refine xag ?_ _ | refine xai ?_ | refine xaf ?_ _)); exact BK283.out)) : gb284 ≠ gb283)); clear BK283; clear HB; have BK283 := n0_; have HB := n1_; have BK284 := n2_; have GW284 := n3_; have GE284 := n4_; have NB283_284 := n5_; have NB284_283 := n6_; clear n0_ n1_ n2_ n3_ n4_ n5_ n6_; clear hb hbox hg; have hnb11 := NB284_283.out; have hnc11 := NB283_284.out; obtain ⟨hcz12_0, hcz12_1, hcz12_2, hcz12_3⟩ := cz4 BK284.out; obtain ⟨hfz12_0, hfz12_1, hfz12_2, hfz12_3⟩ := fz4 BK284.out; obtain ⟨hcz13_0, hcz13_1, hcz13_2, hcz13_3, hcz13_4, hcz13_5⟩ := cz6 BK283.out; obtain ⟨hfz13_0, hfz13_1, hfz13_2, hfz13_3, hfz13_4, hfz13_5⟩ := fz6 BK283.out))
   go_ret
   exact ⟨by first | rfl | (simp [xak, xaj] <;> rfl) | (simp [*, xak, xaj] <;> rfl), by repeat (first | (with_reducible first | exact HB.out | apply xab | apply xaa | apply xac | refine xad ?_ GE283.out | refine xad ?_ GE284.out) | exact HB.out)⟩
 ·rw [if_neg c2] at H
  have c2b0 : (a0_0 == 0) = false := beq_eq_false_iff_ne.mpr c2
  have c2b1 : (a0_0 != 0) = true := bne_iff_ne.mpr c2
  obtain rfl := Option.some.inj H
  go_enter Tryd.func108, Tryd.ntmps108
  go_wp2_with (first | ((with_reducible refine xar (N := 1) rfl ?_); (try (refine xav (by rfl) ?_; dsimp only)); refine xap ?hg (N := 1) ?hd (cs := #[.int .i8 a0_0, .string a0_1, .int .i8 a0_2, .int .i64 a0_3, .string a0_4, .slice A0_5 l0_5.length c0_5]) (t := 31) ?hr ?_; (case hd => rfl); (case hg => rfl); (case hr => first | (go_simp; done) | (go_simp; rfl)); intro gb283 hg w14 hbox hb; have n0_ := Aside0.mk (xah (by repeat (first | (with_reducible first | exact HB.out | apply xab | apply xaa | apply xac) | exact HB.out)) hb); have n1_ := Aside0.mk (hbox); have n2_ := Aside0.mk ((by rw [hg]; exact (xao (by repeat (first | (with_reducible first | exact HB.out | apply xab | apply xaa | apply xac) | exact HB.out))) : w.heap.size ≤ gb283)); have n3_ := n2_; clear HB; have HB := n0_; have BK283 := n1_; have GW283 := n2_; have GE283 := n3_; clear n0_ n1_ n2_ n3_; clear hb hbox hg) | ((with_reducible refine xar (N := 3) rfl ?_); (try (refine xav (by rfl) ?_; dsimp only)); refine xap ?hg (N := 3) ?hd (cs := #[.string (⟨#[]⟩ : ByteArray), .int .i8 0, .int .i64 0, .string (⟨#[]⟩ : ByteArray)]) (t := 28) ?hr ?_; (case hd => rfl); (case hg => rfl); (case hr => first | (go_simp; done) | (go_simp; rfl)); intro gb284 hg w15 hbox hb; have n0_ := Aside0.mk (xam (g := gb283) (o := .cells #[.int .i8 a0_0, .string a0_1, .int .i8 a0_2, .int .i64 a0_3, .string a0_4, .slice A0_5 l0_5.length c0_5] 31 (0, 0)) (by (with_reducible repeat (first | refine xag ?_ _ | refine xai ?_ | refine xaf ?_ _)); exact BK283.out) hb); have n1_ := Aside0.mk (xah (by repeat (first | (with_reducible first | exact HB.out | apply xab | apply xaa | apply xac | refine xad ?_ GE283.out) | exact HB.out)) hb); have n2_ := Aside0.mk (hbox); have n3_ := Aside0.mk ((by rw [hg]; exact (xao (by repeat (first | (with_reducible first | exact HB.out | apply xab | apply xaa | apply xac | refine xad ?_ GE283.out) | exact HB.out))) : w.heap.size ≤ gb284)); have n4_ := n3_; have n5_ := Aside0.mk ((by rw [hg]; exact Nat.ne_of_lt (blk_lt (g := gb283) (o := .cells #[.int .i8 a0_0, .string a0_1, .int .i8 a0_2, .int .i64 a0_3, .string a0_4, .slice A0_5 l0_5.length c0_5] 31 (0, 0)) (by (with_reducible repeat (first | refine xag ?_ _ | refine xai ?_ | refine xaf ?_ _)); exact BK283.out)) : gb283 ≠ gb284)); have n6_ := Aside0.mk ((by rw [hg]; exact Nat.ne_of_gt (blk_lt (g := gb283) (o := .cells #[.int .i8 a0_0, .string a0_1, .int .i8 a0_2, .int .i64 a0_3, .string a0_4, .slice A0_5 l0_5.length c0_5] 31 (0, 0)) (by (with_reducible repeat (first | refine xag ?_ _ | refine xai ?_ | refine xaf ?_ _)); exact BK283.out)) : gb284 ≠ gb283)); clear BK283; clear HB; have BK283 := n0_; have HB := n1_; have BK284 := n2_; have GW284 := n3_; have GE284 := n4_; have NB283_284 := n5_; have NB284_283 := n6_; clear n0_ n1_ n2_ n3_ n4_ n5_ n6_; clear hb hbox hg; have hnb16 := NB284_283.out; have hnc16 := NB283_284.out; obtain ⟨hcz17_0, hcz17_1, hcz17_2, hcz17_3⟩ := cz4 BK284.out; obtain ⟨hfz17_0, hfz17_1, hfz17_2, hfz17_3⟩ := fz4 BK284.out; obtain ⟨hcz18_0, hcz18_1, hcz18_2, hcz18_3, hcz18_4, hcz18_5⟩ := cz6 BK283.out; obtain ⟨hfz18_0, hfz18_1, hfz18_2, hfz18_3, hfz18_4, hfz18_5⟩ := fz6 BK283.out))
  go_ret
  exact ⟨by first | rfl | (simp [xak, xaj] <;> rfl) | (simp [*, xak, xaj] <;> rfl), by repeat (first | (with_reducible first | exact HB.out | apply xab | apply xaa | apply xac | refine xad ?_ GE283.out | refine xad ?_ GE284.out) | exact HB.out)⟩
end Go.Proofs.YtllcmggmcogokaaDoor.PAll
end
section
namespace Go.Proofs.YtllcmggmcogokaaDoor.PAll
open Go.RowKit Go.Proofs.YtllcmggmcogokaaDoorW.PrintWords Go.Proofs.YtllcmggmcogokaaDoorW.PrintLast Go.Proofs.YtllcmggmcogokaaDoorW.PrintMore
attribute [local go_sem] max2_int min2_int max_two min_two max_three min_three max_four min_four
def r4_literal.j0 : Nat → Int → Bool → Int → ByteArray → List (S28) → Int → Int → ByteArray → Int → Int → ByteArray → List (S31) → Int → ByteArray → Int → Int → ByteArray → List (S31) → Option (Bool)
 | 0, _, _, _, _, _, _, _, _, _, _, _, _, _, _, _, _, _, _ => none
 | k + 1, x4, x5, x286000, x286001, x286002, x286003, x286004, x286005, x286006, x286007, x286008, x286009, x286010, x286011, x286012, x286013, x286014, x286015 => if x5 = true then ((r4_atom.f k x286001 x286002).bind fun t286 => (if t286 = true then (if x286003 = 0 then ((r4_nothing.f x286004 x286005 x286006 x286007 x286008 x286009).bind fun t287 => (if t287 = true then ((r4_nothing.f x286010 x286011 x286012 x286013 x286014 x286015).bind fun t288 => (some t288)) else (some false))) else (some false)) else (some false))) else (if x4 = 3 then (if x286001.toList = ([] : List UInt8) then (if (x286002.length : Int) = 0 then (if x286003 ≥ 1 then (if x286003 ≤ 6 then ((r4_expr.f k x286004 x286005 x286006 x286007 x286008 x286009 8).bind fun t289 => (if t289 = true then ((r4_expr.f k x286010 x286011 x286012 x286013 x286014 x286015 8).bind fun t290 => (some t290)) else (some false))) else (some false)) else (some false)) else (some false)) else (some false)) else (some false))
def r4_literal.f (k : Nat) (a0_0 : Int) (a0_1 : ByteArray) (l0_2 : List (S28)) (a0_3 : Int) (a0_4 : Int) (a0_5 : ByteArray) (a0_6 : Int) (a0_7 : Int) (a0_8 : ByteArray) (l0_9 : List (S31)) (a0_10 : Int) (a0_11 : ByteArray) (a0_12 : Int) (a0_13 : Int) (a0_14 : ByteArray) (l0_15 : List (S31)) : Option (Bool) := if a0_0 = 1 then (r4_literal.j0 k a0_0 (a0_0 == 1) a0_0 a0_1 l0_2 a0_3 a0_4 a0_5 a0_6 a0_7 a0_8 l0_9 a0_10 a0_11 a0_12 a0_13 a0_14 l0_15) else (r4_literal.j0 k a0_0 (a0_0 == 2) a0_0 a0_1 l0_2 a0_3 a0_4 a0_5 a0_6 a0_7 a0_8 l0_9 a0_10 a0_11 a0_12 a0_13 a0_14 l0_15)
set_option maxHeartbeats 8000000 in
set_option maxRecDepth 100000 in
theorem r4_literal.calls (k : Nat) (a0_0 : Int) (a0_1 : ByteArray) (A0_2 : Option Addr) (c0_2 : Nat) (l0_2 : List (S28)) (a0_3 : Int) (a0_4 : Int) (a0_5 : ByteArray) (a0_6 : Int) (a0_7 : Int) (a0_8 : ByteArray) (A0_9 : Option Addr) (c0_9 : Nat) (l0_9 : List (S31)) (a0_10 : Int) (a0_11 : ByteArray) (a0_12 : Int) (a0_13 : Int) (a0_14 : ByteArray) (A0_15 : Option Addr) (c0_15 : Nat) (l0_15 : List (S31)) (r : Bool) (w : World) (hr0_2 : Kd.C k28 w A0_2 l0_2.length l0_2) (hc0_2 : l0_2.length ≤ c0_2) (hr0_9 : Kd.C k31 w A0_9 l0_9.length l0_9) (hc0_9 : l0_9.length ≤ c0_9) (hr0_15 : Kd.C k31 w A0_15 l0_15.length l0_15) (hc0_15 : l0_15.length ≤ c0_15) (h : r4_literal.f k a0_0 a0_1 l0_2 a0_3 a0_4 a0_5 a0_6 a0_7 a0_8 l0_9 a0_10 a0_11 a0_12 a0_13 a0_14 l0_15 = some r) :
  Calls Tryd.prog 67 #[.agg #[.int .i8 a0_0, .string a0_1, .slice A0_2 l0_2.length c0_2, .int .i8 a0_3, .int .i8 a0_4, .string a0_5, .int .i8 a0_6, .int .i64 a0_7, .string a0_8, .slice A0_9 l0_9.length c0_9, .int .i8 a0_10, .string a0_11, .int .i8 a0_12, .int .i64 a0_13, .string a0_14, .slice A0_15 l0_15.length c0_15]] w fun e w' => e = .returned (.bool r) ∧ Below w.heap.size w w' := by
 have hu56 := Tryd.underlying56
 have hu53 := Tryd.underlying53
 have hu31 := Tryd.underlying31
 have HR0_2 := Aside0.mk hr0_2
 have HC0_2 := Aside0.mk hc0_2
 clear hr0_2 hc0_2
 have HR0_9 := Aside0.mk hr0_9
 have HC0_9 := Aside0.mk hc0_9
 clear hr0_9 hc0_9
 have HR0_15 := Aside0.mk hr0_15
 have HC0_15 := Aside0.mk hc0_15
 clear hr0_15 hc0_15
 have HB := Aside0.mk (Below.refl w.heap.size w)
 have H : (if a0_0 = 1 then (r4_literal.j0 k a0_0 (a0_0 == 1) a0_0 a0_1 l0_2 a0_3 a0_4 a0_5 a0_6 a0_7 a0_8 l0_9 a0_10 a0_11 a0_12 a0_13 a0_14 l0_15) else (r4_literal.j0 k a0_0 (a0_0 == 2) a0_0 a0_1 l0_2 a0_3 a0_4 a0_5 a0_6 a0_7 a0_8 l0_9 a0_10 a0_11 a0_12 a0_13 a0_14 l0_15)) = some r := h
 clear h
 have HC2 := Aside0.mk H
 clear H
 go_enter Tryd.func67, Tryd.ntmps67
 go_upto_if 5 with (first | ((with_reducible refine xar (N := 1) rfl ?_); (try (refine xav (by rfl) ?_; dsimp only)); refine xap ?hg (N := 1) ?hd (cs := #[.int .i8 a0_0, .string a0_1, .slice A0_2 l0_2.length c0_2, .int .i8 a0_3, .int .i8 a0_4, .string a0_5, .int .i8 a0_6, .int .i64 a0_7, .string a0_8, .slice A0_9 l0_9.length c0_9, .int .i8 a0_10, .string a0_11, .int .i8 a0_12, .int .i64 a0_13, .string a0_14, .slice A0_15 l0_15.length c0_15]) (t := 56) ?hr ?_; (case hd => rfl); (case hg => rfl); (case hr => first | (go_simp; done) | (go_simp; rfl)); intro gb285 hg w3 hbox hb; have n0_ := Aside0.mk (xah (by repeat (first | (with_reducible first | exact HB.out | apply xab | apply xaa | apply xac) | exact HB.out)) hb); have n1_ := Aside0.mk (hbox); have n2_ := Aside0.mk ((by rw [hg]; exact (xao (by repeat (first | (with_reducible first | exact HB.out | apply xab | apply xaa | apply xac) | exact HB.out))) : w.heap.size ≤ gb285)); have n3_ := n2_; clear HB; have HB := n0_; have BK285 := n1_; have GW285 := n2_; have GE285 := n3_; clear n0_ n1_ n2_ n3_; clear hb hbox hg; obtain ⟨hcz4_0, hcz4_1, hcz4_2, hcz4_3, hcz4_4, hcz4_5, hcz4_6, hcz4_7, hcz4_8, hcz4_9, hcz4_10, hcz4_11, hcz4_12, hcz4_13, hcz4_14, hcz4_15⟩ := cz16 BK285.out; obtain ⟨hfz4_0, hfz4_1, hfz4_2, hfz4_3, hfz4_4, hfz4_5, hfz4_6, hfz4_7, hfz4_8, hfz4_9, hfz4_10, hfz4_11, hfz4_12, hfz4_13, hfz4_14, hfz4_15⟩ := fz16 BK285.out))
 (try simp only [Act.put, sI, sZ, sS])
 go_cut [5] (fun v5 wc => ∃ (kq : Nat) (x5_1 : Bool), v5 = .bool x5_1 ∧ Aside0 (r4_literal.j0 kq a0_0 x5_1 a0_0 a0_1 l0_2 a0_3 a0_4 a0_5 a0_6 a0_7 a0_8 l0_9 a0_10 a0_11 a0_12 a0_13 a0_14 l0_15 = some r) ∧ Aside0 (kq ≤ k) ∧ Aside0 (wc.heap[gb285]? = some (.cells #[.int .i8 a0_0, .string a0_1, (.slice A0_2 l0_2.length c0_2), .int .i8 a0_3, .int .i8 a0_4, .string a0_5, .int .i8 a0_6, .int .i64 a0_7, .string a0_8, (.slice A0_9 l0_9.length c0_9), .int .i8 a0_10, .string a0_11, .int .i8 a0_12, .int .i64 a0_13, .string a0_14, (.slice A0_15 l0_15.length c0_15)] 56 (0, 0))) ∧ Aside0 (Below w.heap.size w wc))
 case first =>
  have H := HC2.out
  clear HC2
  by_cases c5 : a0_0 = 1
  ·rw [if_pos c5] at H
   have c5b0 : (a0_0 == 1) = true := beq_iff_eq.mpr c5
   have c5b1 : (a0_0 != 1) = false := bne_eq_false_iff_eq.mpr c5
   clear c5
   (first | rw [c5b0] | (simp only [i64_w, i32_w]; rw [c5b0]) | skip)
   have H' := Aside0.mk H
   clear H
   go_wp2
   go_meet
   case rel => exact ⟨_, ((a0_0 == 1)), (by first | rfl | (simp; done) | (simp [*]; done)), H', ⟨by first | omega | exact Nat.le_refl _⟩, ⟨by (with_reducible repeat (first | refine xag ?_ _ | refine xai ?_ | refine xaf ?_ _)); exact BK285.out⟩, ⟨by repeat (first | (with_reducible first | exact HB.out | apply xab | apply xaa | apply xac | refine xad ?_ GE285.out) | exact HB.out)⟩⟩
  ·rw [if_neg c5] at H
   have c5b0 : (a0_0 == 1) = false := beq_eq_false_iff_ne.mpr c5
   have c5b1 : (a0_0 != 1) = true := bne_iff_ne.mpr c5
   (first | rw [c5b0] | (simp only [i64_w, i32_w]; rw [c5b0]) | skip)
   have H' := Aside0.mk H
   clear H
   go_wp2
   go_meet
   case rel => exact ⟨_, ((a0_0 == 2)), (by first | rfl | (simp; done) | (simp [*]; done)), H', ⟨by first | omega | exact Nat.le_refl _⟩, ⟨by (with_reducible repeat (first | refine xag ?_ _ | refine xai ?_ | refine xaf ?_ _)); exact BK285.out⟩, ⟨by repeat (first | (with_reducible first | exact HB.out | apply xab | apply xaa | apply xac | refine xad ?_ GE285.out) | exact HB.out)⟩⟩
 case rest =>
  clear HC2
  try clear p2
  try clear c5
  try clear c5b0
  try clear c5b1
  try clear hcz4_0
  try clear hcz4_1
  try clear hcz4_10
  try clear hcz4_11
  try clear hcz4_12
  try clear hcz4_13
  try clear hcz4_14
  try clear hcz4_15
  try clear hcz4_2
  try clear hcz4_3
  try clear hcz4_4
  try clear hcz4_5
  try clear hcz4_6
  try clear hcz4_7
  try clear hcz4_8
  try clear hcz4_9
  try clear hfz4_0
  try clear hfz4_1
  try clear hfz4_10
  try clear hfz4_11
  try clear hfz4_12
  try clear hfz4_13
  try clear hfz4_14
  try clear hfz4_15
  try clear hfz4_2
  try clear hfz4_3
  try clear hfz4_4
  try clear hfz4_5
  try clear hfz4_6
  try clear hfz4_7
  try clear hfz4_8
  try clear hfz4_9
  obtain ⟨kq, x5_1, rfl, HA, HJ1, BK285, HB⟩ := hcut
  cases kq with
  | zero => exact absurd HA.out (by simp [r4_literal.j0])
  | succ kj1 =>
   have H := HA.out
   clear HA
   simp only [r4_literal.j0] at H
   by_cases c6 : x5_1 = true
   ·subst c6
    have H1 : ((r4_atom.f kj1 a0_1 l0_2).bind fun t286 => (if t286 = true then (if a0_3 = 0 then ((r4_nothing.f a0_4 a0_5 a0_6 a0_7 a0_8 l0_9).bind fun t287 => (if t287 = true then ((r4_nothing.f a0_10 a0_11 a0_12 a0_13 a0_14 l0_15).bind fun t288 => (some t288)) else (some false))) else (some false)) else (some false))) = some r := by rw [if_pos rfl] at H; exact H
    clear H
    have H := H1
    clear H1
    replace H := Option.bind_eq_some_iff.mp H
    obtain ⟨t286, A70, H⟩ := H
    replace H : (if t286 = true then (if a0_3 = 0 then ((r4_nothing.f a0_4 a0_5 a0_6 a0_7 a0_8 l0_9).bind fun t287 => (if t287 = true then ((r4_nothing.f a0_10 a0_11 a0_12 a0_13 a0_14 l0_15).bind fun t288 => (some t288)) else (some false))) else (some false)) else (some false)) = some r := H
    have A7 := Aside0.mk A70
    clear A70
    by_cases c8 : t286 = true
    ·subst c8
     have H1 : (if a0_3 = 0 then ((r4_nothing.f a0_4 a0_5 a0_6 a0_7 a0_8 l0_9).bind fun t287 => (if t287 = true then ((r4_nothing.f a0_10 a0_11 a0_12 a0_13 a0_14 l0_15).bind fun t288 => (some t288)) else (some false))) else (some false)) = some r := by rw [if_pos rfl] at H; exact H
     clear H
     have H := H1
     clear H1
     by_cases c9 : a0_3 = 0
     ·rw [if_pos c9] at H
      have c9b0 : (a0_3 == 0) = true := beq_iff_eq.mpr c9
      have c9b1 : (a0_3 != 0) = false := bne_eq_false_iff_eq.mpr c9
      clear c9
      replace H := Option.bind_eq_some_iff.mp H
      obtain ⟨t287, A100, H⟩ := H
      replace H : (if t287 = true then ((r4_nothing.f a0_10 a0_11 a0_12 a0_13 a0_14 l0_15).bind fun t288 => (some t288)) else (some false)) = some r := H
      have A10 := Aside0.mk A100
      clear A100
      by_cases c11 : t287 = true
      ·subst c11
       have H1 : ((r4_nothing.f a0_10 a0_11 a0_12 a0_13 a0_14 l0_15).bind fun t288 => (some t288)) = some r := by rw [if_pos rfl] at H; exact H
       clear H
       have H := H1
       clear H1
       replace H := Option.bind_eq_some_iff.mp H
       obtain ⟨t288, A120, H⟩ := H
       replace H : (some t288) = some r := H
       have A12 := Aside0.mk A120
       clear A120
       obtain rfl := Option.some.inj H
       obtain ⟨hcz13_0, hcz13_1, hcz13_2, hcz13_3, hcz13_4, hcz13_5, hcz13_6, hcz13_7, hcz13_8, hcz13_9, hcz13_10, hcz13_11, hcz13_12, hcz13_13, hcz13_14, hcz13_15⟩ := cz16 BK285.out
       obtain ⟨hfz13_0, hfz13_1, hfz13_2, hfz13_3, hfz13_4, hfz13_5, hfz13_6, hfz13_7, hfz13_8, hfz13_9, hfz13_10, hfz13_11, hfz13_12, hfz13_13, hfz13_14, hfz13_15⟩ := fz16 BK285.out
       go_wp2_with (first | ((with_reducible refine xau (f := 107) rfl ?_); refine goesL_ (some 10) rfl rfl Tryd.func107 (by kernel_rfl) rfl #[.agg #[.string a0_1, .slice A0_2 l0_2.length c0_2]] rfl (by (try simp only [List.map_toArray, List.map_cons, List.map_nil]); first | done | rfl | (simp only [List.length_drop, List.length_take]; rfl)) ?_; (with_reducible refine (r4_atom.calls kj1 a0_1 _ _ l0_2 true _ ?side1 ?side2 A7.out).mono ?_); (case side1 => repeat (first | exact (Kd.C_below HR0_2.out HB.out) | (with_reducible refine Kd.C_alloc ?_ _) | (with_reducible refine Kd.C_drewN ?_ _) | (with_reducible refine Kd.C_drew ?_))); (case side2 => exact HC0_2.out); rintro e w14 ⟨rfl, hb⟩; refine ⟨_, rfl, ?_⟩; have n0_ := Aside0.mk (xam (g := gb285) (o := .cells #[.int .i8 a0_0, .string a0_1, .slice A0_2 l0_2.length c0_2, .int .i8 a0_3, .int .i8 a0_4, .string a0_5, .int .i8 a0_6, .int .i64 a0_7, .string a0_8, .slice A0_9 l0_9.length c0_9, .int .i8 a0_10, .string a0_11, .int .i8 a0_12, .int .i64 a0_13, .string a0_14, .slice A0_15 l0_15.length c0_15] 56 (0, 0)) (by (with_reducible repeat (first | refine xag ?_ _ | refine xai ?_ | refine xaf ?_ _)); exact BK285.out) hb); have n1_ := Aside0.mk (xah (by repeat (first | (with_reducible first | exact HB.out | apply xab | apply xaa | apply xac | refine xad ?_ GE285.out) | exact HB.out)) hb); clear BK285; clear HB; have BK285 := n0_; have HB := n1_; clear n0_ n1_; (try clear hb); (try clear hb2); (try clear hk); (try clear hi); obtain ⟨hcz15_0, hcz15_1, hcz15_2, hcz15_3, hcz15_4, hcz15_5, hcz15_6, hcz15_7, hcz15_8, hcz15_9, hcz15_10, hcz15_11, hcz15_12, hcz15_13, hcz15_14, hcz15_15⟩ := cz16 BK285.out; obtain ⟨hfz15_0, hfz15_1, hfz15_2, hfz15_3, hfz15_4, hfz15_5, hfz15_6, hfz15_7, hfz15_8, hfz15_9, hfz15_10, hfz15_11, hfz15_12, hfz15_13, hfz15_14, hfz15_15⟩ := fz16 BK285.out) | (go_at_call 108; (with_reducible refine (r4_nothing.calls a0_4 a0_5 a0_6 a0_7 a0_8 _ _ l0_9 true _ ?side1 ?side2 A10.out).mono ?_); (case side1 => repeat (first | exact (Kd.C_below HR0_9.out HB.out) | (with_reducible refine Kd.C_alloc ?_ _) | (with_reducible refine Kd.C_drewN ?_ _) | (with_reducible refine Kd.C_drew ?_))); (case side2 => exact HC0_9.out); rintro e w16 ⟨rfl, hb⟩; have n0_ := Aside0.mk (xam (g := gb285) (o := .cells #[.int .i8 a0_0, .string a0_1, .slice A0_2 l0_2.length c0_2, .int .i8 a0_3, .int .i8 a0_4, .string a0_5, .int .i8 a0_6, .int .i64 a0_7, .string a0_8, .slice A0_9 l0_9.length c0_9, .int .i8 a0_10, .string a0_11, .int .i8 a0_12, .int .i64 a0_13, .string a0_14, .slice A0_15 l0_15.length c0_15] 56 (0, 0)) (by (with_reducible repeat (first | refine xag ?_ _ | refine xai ?_ | refine xaf ?_ _)); exact BK285.out) hb); have n1_ := Aside0.mk (xah (by repeat (first | (with_reducible first | exact HB.out | apply xab | apply xaa | apply xac | refine xad ?_ GE285.out) | exact HB.out)) hb); clear BK285; clear HB; have BK285 := n0_; have HB := n1_; clear n0_ n1_; (try clear hb); (try clear hb2); (try clear hk); (try clear hi); obtain ⟨hcz17_0, hcz17_1, hcz17_2, hcz17_3, hcz17_4, hcz17_5, hcz17_6, hcz17_7, hcz17_8, hcz17_9, hcz17_10, hcz17_11, hcz17_12, hcz17_13, hcz17_14, hcz17_15⟩ := cz16 BK285.out; obtain ⟨hfz17_0, hfz17_1, hfz17_2, hfz17_3, hfz17_4, hfz17_5, hfz17_6, hfz17_7, hfz17_8, hfz17_9, hfz17_10, hfz17_11, hfz17_12, hfz17_13, hfz17_14, hfz17_15⟩ := fz16 BK285.out) | (go_at_call 108; (with_reducible refine (r4_nothing.calls a0_10 a0_11 a0_12 a0_13 a0_14 _ _ l0_15 t288 _ ?side1 ?side2 A12.out).mono ?_); (case side1 => repeat (first | exact (Kd.C_below HR0_15.out HB.out) | (with_reducible refine Kd.C_alloc ?_ _) | (with_reducible refine Kd.C_drewN ?_ _) | (with_reducible refine Kd.C_drew ?_))); (case side2 => exact HC0_15.out); rintro e w18 ⟨rfl, hb⟩; have n0_ := Aside0.mk (xam (g := gb285) (o := .cells #[.int .i8 a0_0, .string a0_1, .slice A0_2 l0_2.length c0_2, .int .i8 a0_3, .int .i8 a0_4, .string a0_5, .int .i8 a0_6, .int .i64 a0_7, .string a0_8, .slice A0_9 l0_9.length c0_9, .int .i8 a0_10, .string a0_11, .int .i8 a0_12, .int .i64 a0_13, .string a0_14, .slice A0_15 l0_15.length c0_15] 56 (0, 0)) (by (with_reducible repeat (first | refine xag ?_ _ | refine xai ?_ | refine xaf ?_ _)); exact BK285.out) hb); have n1_ := Aside0.mk (xah (by repeat (first | (with_reducible first | exact HB.out | apply xab | apply xaa | apply xac | refine xad ?_ GE285.out) | exact HB.out)) hb); clear BK285; clear HB; have BK285 := n0_; have HB := n1_; clear n0_ n1_; (try clear hb); (try clear hb2); (try clear hk); (try clear hi)))
       go_ret
       exact ⟨by first | rfl | (simp [xak, xaj] <;> rfl) | (simp [*, xak, xaj] <;> rfl), by repeat (first | (with_reducible first | exact HB.out | apply xab | apply xaa | apply xac | refine xad ?_ GE285.out) | exact HB.out)⟩
      ·replace c11 := Bool.eq_false_iff.mpr c11
       subst c11
       have H1 : (some false) = some r := by rw [if_neg (show ¬ (false = true) by decide)] at H; exact H
       clear H
       have H := H1
       clear H1
       obtain rfl := Option.some.inj H
       obtain ⟨hcz19_0, hcz19_1, hcz19_2, hcz19_3, hcz19_4, hcz19_5, hcz19_6, hcz19_7, hcz19_8, hcz19_9, hcz19_10, hcz19_11, hcz19_12, hcz19_13, hcz19_14, hcz19_15⟩ := cz16 BK285.out
       obtain ⟨hfz19_0, hfz19_1, hfz19_2, hfz19_3, hfz19_4, hfz19_5, hfz19_6, hfz19_7, hfz19_8, hfz19_9, hfz19_10, hfz19_11, hfz19_12, hfz19_13, hfz19_14, hfz19_15⟩ := fz16 BK285.out
       go_wp2_with (first | ((with_reducible refine xau (f := 107) rfl ?_); refine goesL_ (some 10) rfl rfl Tryd.func107 (by kernel_rfl) rfl #[.agg #[.string a0_1, .slice A0_2 l0_2.length c0_2]] rfl (by (try simp only [List.map_toArray, List.map_cons, List.map_nil]); first | done | rfl | (simp only [List.length_drop, List.length_take]; rfl)) ?_; (with_reducible refine (r4_atom.calls kj1 a0_1 _ _ l0_2 true _ ?side1 ?side2 A7.out).mono ?_); (case side1 => repeat (first | exact (Kd.C_below HR0_2.out HB.out) | (with_reducible refine Kd.C_alloc ?_ _) | (with_reducible refine Kd.C_drewN ?_ _) | (with_reducible refine Kd.C_drew ?_))); (case side2 => exact HC0_2.out); rintro e w20 ⟨rfl, hb⟩; refine ⟨_, rfl, ?_⟩; have n0_ := Aside0.mk (xam (g := gb285) (o := .cells #[.int .i8 a0_0, .string a0_1, .slice A0_2 l0_2.length c0_2, .int .i8 a0_3, .int .i8 a0_4, .string a0_5, .int .i8 a0_6, .int .i64 a0_7, .string a0_8, .slice A0_9 l0_9.length c0_9, .int .i8 a0_10, .string a0_11, .int .i8 a0_12, .int .i64 a0_13, .string a0_14, .slice A0_15 l0_15.length c0_15] 56 (0, 0)) (by (with_reducible repeat (first | refine xag ?_ _ | refine xai ?_ | refine xaf ?_ _)); exact BK285.out) hb); have n1_ := Aside0.mk (xah (by repeat (first | (with_reducible first | exact HB.out | apply xab | apply xaa | apply xac | refine xad ?_ GE285.out) | exact HB.out)) hb); clear BK285; clear HB; have BK285 := n0_; have HB := n1_; clear n0_ n1_; (try clear hb); (try clear hb2); (try clear hk); (try clear hi); obtain ⟨hcz21_0, hcz21_1, hcz21_2, hcz21_3, hcz21_4, hcz21_5, hcz21_6, hcz21_7, hcz21_8, hcz21_9, hcz21_10, hcz21_11, hcz21_12, hcz21_13, hcz21_14, hcz21_15⟩ := cz16 BK285.out; obtain ⟨hfz21_0, hfz21_1, hfz21_2, hfz21_3, hfz21_4, hfz21_5, hfz21_6, hfz21_7, hfz21_8, hfz21_9, hfz21_10, hfz21_11, hfz21_12, hfz21_13, hfz21_14, hfz21_15⟩ := fz16 BK285.out) | (go_at_call 108; (with_reducible refine (r4_nothing.calls a0_4 a0_5 a0_6 a0_7 a0_8 _ _ l0_9 false _ ?side1 ?side2 A10.out).mono ?_); (case side1 => repeat (first | exact (Kd.C_below HR0_9.out HB.out) | (with_reducible refine Kd.C_alloc ?_ _) | (with_reducible refine Kd.C_drewN ?_ _) | (with_reducible refine Kd.C_drew ?_))); (case side2 => exact HC0_9.out); rintro e w22 ⟨rfl, hb⟩; have n0_ := Aside0.mk (xam (g := gb285) (o := .cells #[.int .i8 a0_0, .string a0_1, .slice A0_2 l0_2.length c0_2, .int .i8 a0_3, .int .i8 a0_4, .string a0_5, .int .i8 a0_6, .int .i64 a0_7, .string a0_8, .slice A0_9 l0_9.length c0_9, .int .i8 a0_10, .string a0_11, .int .i8 a0_12, .int .i64 a0_13, .string a0_14, .slice A0_15 l0_15.length c0_15] 56 (0, 0)) (by (with_reducible repeat (first | refine xag ?_ _ | refine xai ?_ | refine xaf ?_ _)); exact BK285.out) hb); have n1_ := Aside0.mk (xah (by repeat (first | (with_reducible first | exact HB.out | apply xab | apply xaa | apply xac | refine xad ?_ GE285.out) | exact HB.out)) hb); clear BK285; clear HB; have BK285 := n0_; have HB := n1_; clear n0_ n1_; (try clear hb); (try clear hb2); (try clear hk); (try clear hi)))
       go_ret
       exact ⟨by first | rfl | (simp [xak, xaj] <;> rfl) | (simp [*, xak, xaj] <;> rfl), by repeat (first | (with_reducible first | exact HB.out | apply xab | apply xaa | apply xac | refine xad ?_ GE285.out) | exact HB.out)⟩
     ·rw [if_neg c9] at H
      have c9b0 : (a0_3 == 0) = false := beq_eq_false_iff_ne.mpr c9
      have c9b1 : (a0_3 != 0) = true := bne_iff_ne.mpr c9
      obtain rfl := Option.some.inj H
      obtain ⟨hcz23_0, hcz23_1, hcz23_2, hcz23_3, hcz23_4, hcz23_5, hcz23_6, hcz23_7, hcz23_8, hcz23_9, hcz23_10, hcz23_11, hcz23_12, hcz23_13, hcz23_14, hcz23_15⟩ := cz16 BK285.out
      obtain ⟨hfz23_0, hfz23_1, hfz23_2, hfz23_3, hfz23_4, hfz23_5, hfz23_6, hfz23_7, hfz23_8, hfz23_9, hfz23_10, hfz23_11, hfz23_12, hfz23_13, hfz23_14, hfz23_15⟩ := fz16 BK285.out
      go_wp2_with (first | ((with_reducible refine xau (f := 107) rfl ?_); refine goesL_ (some 10) rfl rfl Tryd.func107 (by kernel_rfl) rfl #[.agg #[.string a0_1, .slice A0_2 l0_2.length c0_2]] rfl (by (try simp only [List.map_toArray, List.map_cons, List.map_nil]); first | done | rfl | (simp only [List.length_drop, List.length_take]; rfl)) ?_; (with_reducible refine (r4_atom.calls kj1 a0_1 _ _ l0_2 true _ ?side1 ?side2 A7.out).mono ?_); (case side1 => repeat (first | exact (Kd.C_below HR0_2.out HB.out) | (with_reducible refine Kd.C_alloc ?_ _) | (with_reducible refine Kd.C_drewN ?_ _) | (with_reducible refine Kd.C_drew ?_))); (case side2 => exact HC0_2.out); rintro e w24 ⟨rfl, hb⟩; refine ⟨_, rfl, ?_⟩; have n0_ := Aside0.mk (xam (g := gb285) (o := .cells #[.int .i8 a0_0, .string a0_1, .slice A0_2 l0_2.length c0_2, .int .i8 a0_3, .int .i8 a0_4, .string a0_5, .int .i8 a0_6, .int .i64 a0_7, .string a0_8, .slice A0_9 l0_9.length c0_9, .int .i8 a0_10, .string a0_11, .int .i8 a0_12, .int .i64 a0_13, .string a0_14, .slice A0_15 l0_15.length c0_15] 56 (0, 0)) (by (with_reducible repeat (first | refine xag ?_ _ | refine xai ?_ | refine xaf ?_ _)); exact BK285.out) hb); have n1_ := Aside0.mk (xah (by repeat (first | (with_reducible first | exact HB.out | apply xab | apply xaa | apply xac | refine xad ?_ GE285.out) | exact HB.out)) hb); clear BK285; clear HB; have BK285 := n0_; have HB := n1_; clear n0_ n1_; (try clear hb); (try clear hb2); (try clear hk); (try clear hi); obtain ⟨hcz25_0, hcz25_1, hcz25_2, hcz25_3, hcz25_4, hcz25_5, hcz25_6, hcz25_7, hcz25_8, hcz25_9, hcz25_10, hcz25_11, hcz25_12, hcz25_13, hcz25_14, hcz25_15⟩ := cz16 BK285.out; obtain ⟨hfz25_0, hfz25_1, hfz25_2, hfz25_3, hfz25_4, hfz25_5, hfz25_6, hfz25_7, hfz25_8, hfz25_9, hfz25_10, hfz25_11, hfz25_12, hfz25_13, hfz25_14, hfz25_15⟩ := fz16 BK285.out))
      go_ret
      exact ⟨by first | rfl | (simp [xak, xaj] <;> rfl) | (simp [*, xak, xaj] <;> rfl), by repeat (first | (with_reducible first | exact HB.out | apply xab | apply xaa | apply xac | refine xad ?_ GE285.out) | exact HB.out)⟩
    ·replace c8 := Bool.eq_false_iff.mpr c8
     subst c8
     have H1 : (some false) = some r := by rw [if_neg (show ¬ (false = true) by decide)] at H; exact H
     clear H
     have H := H1
     clear H1
     obtain rfl := Option.some.inj H
     obtain ⟨hcz26_0, hcz26_1, hcz26_2, hcz26_3, hcz26_4, hcz26_5, hcz26_6, hcz26_7, hcz26_8, hcz26_9, hcz26_10, hcz26_11, hcz26_12, hcz26_13, hcz26_14, hcz26_15⟩ := cz16 BK285.out
     obtain ⟨hfz26_0, hfz26_1, hfz26_2, hfz26_3, hfz26_4, hfz26_5, hfz26_6, hfz26_7, hfz26_8, hfz26_9, hfz26_10, hfz26_11, hfz26_12, hfz26_13, hfz26_14, hfz26_15⟩ := fz16 BK285.out
     go_wp2_with (first | ((with_reducible refine xau (f := 107) rfl ?_); refine goesL_ (some 10) rfl rfl Tryd.func107 (by kernel_rfl) rfl #[.agg #[.string a0_1, .slice A0_2 l0_2.length c0_2]] rfl (by (try simp only [List.map_toArray, List.map_cons, List.map_nil]); first | done | rfl | (simp only [List.length_drop, List.length_take]; rfl)) ?_; (with_reducible refine (r4_atom.calls kj1 a0_1 _ _ l0_2 false _ ?side1 ?side2 A7.out).mono ?_); (case side1 => repeat (first | exact (Kd.C_below HR0_2.out HB.out) | (with_reducible refine Kd.C_alloc ?_ _) | (with_reducible refine Kd.C_drewN ?_ _) | (with_reducible refine Kd.C_drew ?_))); (case side2 => exact HC0_2.out); rintro e w27 ⟨rfl, hb⟩; refine ⟨_, rfl, ?_⟩; have n0_ := Aside0.mk (xam (g := gb285) (o := .cells #[.int .i8 a0_0, .string a0_1, .slice A0_2 l0_2.length c0_2, .int .i8 a0_3, .int .i8 a0_4, .string a0_5, .int .i8 a0_6, .int .i64 a0_7, .string a0_8, .slice A0_9 l0_9.length c0_9, .int .i8 a0_10, .string a0_11, .int .i8 a0_12, .int .i64 a0_13, .string a0_14, .slice A0_15 l0_15.length c0_15] 56 (0, 0)) (by (with_reducible repeat (first | refine xag ?_ _ | refine xai ?_ | refine xaf ?_ _)); exact BK285.out) hb); have n1_ := Aside0.mk (xah (by repeat (first | (with_reducible first | exact HB.out | apply xab | apply xaa | apply xac | refine xad ?_ GE285.out) | exact HB.out)) hb); clear BK285; clear HB; have BK285 := n0_; have HB := n1_; clear n0_ n1_; (try clear hb); (try clear hb2); (try clear hk); (try clear hi)))
     go_ret
     exact ⟨by first | rfl | (simp [xak, xaj] <;> rfl) | (simp [*, xak, xaj] <;> rfl), by repeat (first | (with_reducible first | exact HB.out | apply xab | apply xaa | apply xac | refine xad ?_ GE285.out) | exact HB.out)⟩
   ·replace c6 := Bool.eq_false_iff.mpr c6
    subst c6
    have H1 : (if a0_0 = 3 then (if a0_1.toList = ([] : List UInt8) then (if (l0_2.length : Int) = 0 then (if a0_3 ≥ 1 then (if a0_3 ≤ 6 then ((r4_expr.f kj1 a0_4 a0_5 a0_6 a0_7 a0_8 l0_9 8).bind fun t289 => (if t289 = true then ((r4_expr.f kj1 a0_10 a0_11 a0_12 a0_13 a0_14 l0_15 8).bind fun t290 => (some t290)) else (some false))) else (some false)) else (some false)) else (some false)) else (some false)) else (some false)) = some r := by rw [if_neg (show ¬ (false = true) by decide)] at H; exact H
    clear H
    have H := H1
    clear H1
    by_cases c28 : a0_0 = 3
    ·rw [if_pos c28] at H
     have c28b0 : (a0_0 == 3) = true := beq_iff_eq.mpr c28
     have c28b1 : (a0_0 != 3) = false := bne_eq_false_iff_eq.mpr c28
     clear c28
     by_cases c29 : a0_1.toList = ([] : List UInt8)
     ·rw [if_pos c29] at H
      have c29b0 : (a0_1.toList == ([] : List UInt8)) = true := beq_iff_eq.mpr c29
      have c29b1 : (a0_1.toList != ([] : List UInt8)) = false := bne_eq_false_iff_eq.mpr c29
      clear c29
      by_cases c30 : (l0_2.length : Int) = 0
      ·rw [if_pos c30] at H
       have c30b0 : ((l0_2.length : Int) == 0) = true := beq_iff_eq.mpr c30
       have c30b1 : ((l0_2.length : Int) != 0) = false := bne_eq_false_iff_eq.mpr c30
       clear c30
       by_cases c31 : a0_3 ≥ 1
       ·rw [if_pos c31] at H
        have c31b0 : decide (1 ≤ a0_3) = true := decide_eq_true c31
        clear c31
        by_cases c32 : a0_3 ≤ 6
        ·rw [if_pos c32] at H
         have c32b0 : decide (a0_3 ≤ 6) = true := decide_eq_true c32
         clear c32
         replace H := Option.bind_eq_some_iff.mp H
         obtain ⟨t289, A330, H⟩ := H
         replace H : (if t289 = true then ((r4_expr.f kj1 a0_10 a0_11 a0_12 a0_13 a0_14 l0_15 8).bind fun t290 => (some t290)) else (some false)) = some r := H
         have A33 := Aside0.mk A330
         clear A330
         by_cases c34 : t289 = true
         ·subst c34
          have H1 : ((r4_expr.f kj1 a0_10 a0_11 a0_12 a0_13 a0_14 l0_15 8).bind fun t290 => (some t290)) = some r := by rw [if_pos rfl] at H; exact H
          clear H
          have H := H1
          clear H1
          replace H := Option.bind_eq_some_iff.mp H
          obtain ⟨t290, A350, H⟩ := H
          replace H : (some t290) = some r := H
          have A35 := Aside0.mk A350
          clear A350
          obtain rfl := Option.some.inj H
          obtain ⟨hcz36_0, hcz36_1, hcz36_2, hcz36_3, hcz36_4, hcz36_5, hcz36_6, hcz36_7, hcz36_8, hcz36_9, hcz36_10, hcz36_11, hcz36_12, hcz36_13, hcz36_14, hcz36_15⟩ := cz16 BK285.out
          obtain ⟨hfz36_0, hfz36_1, hfz36_2, hfz36_3, hfz36_4, hfz36_5, hfz36_6, hfz36_7, hfz36_8, hfz36_9, hfz36_10, hfz36_11, hfz36_12, hfz36_13, hfz36_14, hfz36_15⟩ := fz16 BK285.out
          go_wp2_with (first | (go_at_call 55; (with_reducible refine (r4_expr.calls kj1 a0_4 a0_5 a0_6 a0_7 a0_8 _ _ l0_9 8 true _ ?side1 ?side2 A33.out).mono ?_); (case side1 => repeat (first | exact (Kd.C_below HR0_9.out HB.out) | (with_reducible refine Kd.C_alloc ?_ _) | (with_reducible refine Kd.C_drewN ?_ _) | (with_reducible refine Kd.C_drew ?_))); (case side2 => exact HC0_9.out); rintro e w37 ⟨rfl, hb⟩; have n0_ := Aside0.mk (xam (g := gb285) (o := .cells #[.int .i8 a0_0, .string a0_1, .slice A0_2 l0_2.length c0_2, .int .i8 a0_3, .int .i8 a0_4, .string a0_5, .int .i8 a0_6, .int .i64 a0_7, .string a0_8, .slice A0_9 l0_9.length c0_9, .int .i8 a0_10, .string a0_11, .int .i8 a0_12, .int .i64 a0_13, .string a0_14, .slice A0_15 l0_15.length c0_15] 56 (0, 0)) (by (with_reducible repeat (first | refine xag ?_ _ | refine xai ?_ | refine xaf ?_ _)); exact BK285.out) hb); have n1_ := Aside0.mk (xah (by repeat (first | (with_reducible first | exact HB.out | apply xab | apply xaa | apply xac | refine xad ?_ GE285.out) | exact HB.out)) hb); clear BK285; clear HB; have BK285 := n0_; have HB := n1_; clear n0_ n1_; (try clear hb); (try clear hb2); (try clear hk); (try clear hi); obtain ⟨hcz38_0, hcz38_1, hcz38_2, hcz38_3, hcz38_4, hcz38_5, hcz38_6, hcz38_7, hcz38_8, hcz38_9, hcz38_10, hcz38_11, hcz38_12, hcz38_13, hcz38_14, hcz38_15⟩ := cz16 BK285.out; obtain ⟨hfz38_0, hfz38_1, hfz38_2, hfz38_3, hfz38_4, hfz38_5, hfz38_6, hfz38_7, hfz38_8, hfz38_9, hfz38_10, hfz38_11, hfz38_12, hfz38_13, hfz38_14, hfz38_15⟩ := fz16 BK285.out) | (go_at_call 55; (with_reducible refine (r4_expr.calls kj1 a0_10 a0_11 a0_12 a0_13 a0_14 _ _ l0_15 8 t290 _ ?side1 ?side2 A35.out).mono ?_); (case side1 => repeat (first | exact (Kd.C_below HR0_15.out HB.out) | (with_reducible refine Kd.C_alloc ?_ _) | (with_reducible refine Kd.C_drewN ?_ _) | (with_reducible refine Kd.C_drew ?_))); (case side2 => exact HC0_15.out); rintro e w39 ⟨rfl, hb⟩; have n0_ := Aside0.mk (xam (g := gb285) (o := .cells #[.int .i8 a0_0, .string a0_1, .slice A0_2 l0_2.length c0_2, .int .i8 a0_3, .int .i8 a0_4, .string a0_5, .int .i8 a0_6, .int .i64 a0_7, .string a0_8, .slice A0_9 l0_9.length c0_9, .int .i8 a0_10, .string a0_11, .int .i8 a0_12, .int .i64 a0_13, .string a0_14, .slice A0_15 l0_15.length c0_15] 56 (0, 0)) (by (with_reducible repeat (first | refine xag ?_ _ | refine xai ?_ | refine xaf ?_ _)); exact BK285.out) hb); have n1_ := Aside0.mk (xah (by repeat (first | (with_reducible first | exact HB.out | apply xab | apply xaa | apply xac | refine xad ?_ GE285.out) | exact HB.out)) hb); clear BK285; clear HB; have BK285 := n0_; have HB := n1_; clear n0_ n1_; (try clear hb); (try clear hb2); (try clear hk); (try clear hi)))
          go_ret
          exact ⟨by first | rfl | (simp [xak, xaj] <;> rfl) | (simp [*, xak, xaj] <;> rfl), by repeat (first | (with_reducible first | exact HB.out | apply xab | apply xaa | apply xac | refine xad ?_ GE285.out) | exact HB.out)⟩
         ·replace c34 := Bool.eq_false_iff.mpr c34
          subst c34
          have H1 : (some false) = some r := by rw [if_neg (show ¬ (false = true) by decide)] at H; exact H
          clear H
          have H := H1
          clear H1
          obtain rfl := Option.some.inj H
          obtain ⟨hcz40_0, hcz40_1, hcz40_2, hcz40_3, hcz40_4, hcz40_5, hcz40_6, hcz40_7, hcz40_8, hcz40_9, hcz40_10, hcz40_11, hcz40_12, hcz40_13, hcz40_14, hcz40_15⟩ := cz16 BK285.out
          obtain ⟨hfz40_0, hfz40_1, hfz40_2, hfz40_3, hfz40_4, hfz40_5, hfz40_6, hfz40_7, hfz40_8, hfz40_9, hfz40_10, hfz40_11, hfz40_12, hfz40_13, hfz40_14, hfz40_15⟩ := fz16 BK285.out
          go_wp2_with (first | (go_at_call 55; (with_reducible refine (r4_expr.calls kj1 a0_4 a0_5 a0_6 a0_7 a0_8 _ _ l0_9 8 false _ ?side1 ?side2 A33.out).mono ?_); (case side1 => repeat (first | exact (Kd.C_below HR0_9.out HB.out) | (with_reducible refine Kd.C_alloc ?_ _) | (with_reducible refine Kd.C_drewN ?_ _) | (with_reducible refine Kd.C_drew ?_))); (case side2 => exact HC0_9.out); rintro e w41 ⟨rfl, hb⟩; have n0_ := Aside0.mk (xam (g := gb285) (o := .cells #[.int .i8 a0_0, .string a0_1, .slice A0_2 l0_2.length c0_2, .int .i8 a0_3, .int .i8 a0_4, .string a0_5, .int .i8 a0_6, .int .i64 a0_7, .string a0_8, .slice A0_9 l0_9.length c0_9, .int .i8 a0_10, .string a0_11, .int .i8 a0_12, .int .i64 a0_13, .string a0_14, .slice A0_15 l0_15.length c0_15] 56 (0, 0)) (by (with_reducible repeat (first | refine xag ?_ _ | refine xai ?_ | refine xaf ?_ _)); exact BK285.out) hb); have n1_ := Aside0.mk (xah (by repeat (first | (with_reducible first | exact HB.out | apply xab | apply xaa | apply xac | refine xad ?_ GE285.out) | exact HB.out)) hb); clear BK285; clear HB; have BK285 := n0_; have HB := n1_; clear n0_ n1_; (try clear hb); (try clear hb2); (try clear hk); (try clear hi)))
          go_ret
          exact ⟨by first | rfl | (simp [xak, xaj] <;> rfl) | (simp [*, xak, xaj] <;> rfl), by repeat (first | (with_reducible first | exact HB.out | apply xab | apply xaa | apply xac | refine xad ?_ GE285.out) | exact HB.out)⟩
        ·rw [if_neg c32] at H
         have c32b0 : decide (a0_3 ≤ 6) = false := decide_eq_false c32
         clear c32
         obtain rfl := Option.some.inj H
         obtain ⟨hcz42_0, hcz42_1, hcz42_2, hcz42_3, hcz42_4, hcz42_5, hcz42_6, hcz42_7, hcz42_8, hcz42_9, hcz42_10, hcz42_11, hcz42_12, hcz42_13, hcz42_14, hcz42_15⟩ := cz16 BK285.out
         obtain ⟨hfz42_0, hfz42_1, hfz42_2, hfz42_3, hfz42_4, hfz42_5, hfz42_6, hfz42_7, hfz42_8, hfz42_9, hfz42_10, hfz42_11, hfz42_12, hfz42_13, hfz42_14, hfz42_15⟩ := fz16 BK285.out
         go_wp2
         go_ret
         exact ⟨by first | rfl | (simp [xak, xaj] <;> rfl) | (simp [*, xak, xaj] <;> rfl), by repeat (first | (with_reducible first | exact HB.out | apply xab | apply xaa | apply xac | refine xad ?_ GE285.out) | exact HB.out)⟩
       ·rw [if_neg c31] at H
        have c31b0 : decide (1 ≤ a0_3) = false := decide_eq_false c31
        clear c31
        obtain rfl := Option.some.inj H
        obtain ⟨hcz43_0, hcz43_1, hcz43_2, hcz43_3, hcz43_4, hcz43_5, hcz43_6, hcz43_7, hcz43_8, hcz43_9, hcz43_10, hcz43_11, hcz43_12, hcz43_13, hcz43_14, hcz43_15⟩ := cz16 BK285.out
        obtain ⟨hfz43_0, hfz43_1, hfz43_2, hfz43_3, hfz43_4, hfz43_5, hfz43_6, hfz43_7, hfz43_8, hfz43_9, hfz43_10, hfz43_11, hfz43_12, hfz43_13, hfz43_14, hfz43_15⟩ := fz16 BK285.out
        go_wp2
        go_ret
        exact ⟨by first | rfl | (simp [xak, xaj] <;> rfl) | (simp [*, xak, xaj] <;> rfl), by repeat (first | (with_reducible first | exact HB.out | apply xab | apply xaa | apply xac | refine xad ?_ GE285.out) | exact HB.out)⟩
      ·rw [if_neg c30] at H
       have c30b0 : ((l0_2.length : Int) == 0) = false := beq_eq_false_iff_ne.mpr c30
       have c30b1 : ((l0_2.length : Int) != 0) = true := bne_iff_ne.mpr c30
       have c30b2 : ¬ (l0_2 = []) := fun h_ => c30 (by rw [h_]; rfl)
       obtain rfl := Option.some.inj H
       obtain ⟨hcz44_0, hcz44_1, hcz44_2, hcz44_3, hcz44_4, hcz44_5, hcz44_6, hcz44_7, hcz44_8, hcz44_9, hcz44_10, hcz44_11, hcz44_12, hcz44_13, hcz44_14, hcz44_15⟩ := cz16 BK285.out
       obtain ⟨hfz44_0, hfz44_1, hfz44_2, hfz44_3, hfz44_4, hfz44_5, hfz44_6, hfz44_7, hfz44_8, hfz44_9, hfz44_10, hfz44_11, hfz44_12, hfz44_13, hfz44_14, hfz44_15⟩ := fz16 BK285.out
       go_wp2
       go_ret
       exact ⟨by first | rfl | (simp [xak, xaj] <;> rfl) | (simp [*, xak, xaj] <;> rfl), by repeat (first | (with_reducible first | exact HB.out | apply xab | apply xaa | apply xac | refine xad ?_ GE285.out) | exact HB.out)⟩
     ·rw [if_neg c29] at H
      have c29b0 : (a0_1.toList == ([] : List UInt8)) = false := beq_eq_false_iff_ne.mpr c29
      have c29b1 : (a0_1.toList != ([] : List UInt8)) = true := bne_iff_ne.mpr c29
      obtain rfl := Option.some.inj H
      obtain ⟨hcz45_0, hcz45_1, hcz45_2, hcz45_3, hcz45_4, hcz45_5, hcz45_6, hcz45_7, hcz45_8, hcz45_9, hcz45_10, hcz45_11, hcz45_12, hcz45_13, hcz45_14, hcz45_15⟩ := cz16 BK285.out
      obtain ⟨hfz45_0, hfz45_1, hfz45_2, hfz45_3, hfz45_4, hfz45_5, hfz45_6, hfz45_7, hfz45_8, hfz45_9, hfz45_10, hfz45_11, hfz45_12, hfz45_13, hfz45_14, hfz45_15⟩ := fz16 BK285.out
      go_wp2
      go_ret
      exact ⟨by first | rfl | (simp [xak, xaj] <;> rfl) | (simp [*, xak, xaj] <;> rfl), by repeat (first | (with_reducible first | exact HB.out | apply xab | apply xaa | apply xac | refine xad ?_ GE285.out) | exact HB.out)⟩
    ·rw [if_neg c28] at H
     have c28b0 : (a0_0 == 3) = false := beq_eq_false_iff_ne.mpr c28
     have c28b1 : (a0_0 != 3) = true := bne_iff_ne.mpr c28
     obtain rfl := Option.some.inj H
     go_wp2
     go_ret
     exact ⟨by first | rfl | (simp [xak, xaj] <;> rfl) | (simp [*, xak, xaj] <;> rfl), by repeat (first | (with_reducible first | exact HB.out | apply xab | apply xaa | apply xac | refine xad ?_ GE285.out) | exact HB.out)⟩
def r4_said.f (a0 : Bool) : Option (Int) := if a0 = true then (some 0) else (some 40)
set_option maxHeartbeats 8000000 in
set_option maxRecDepth 100000 in
theorem r4_said.calls (a0 : Bool) (r : Int) (w : World) (h : r4_said.f a0 = some r) :
  Calls Tryd.prog 54 #[.bool a0] w fun e w' => e = .returned (.int .i64 r) ∧ Drawn0 w w' := by
 have H : (if a0 = true then (some 0) else (some 40)) = some r := h
 clear h
 by_cases c2 : a0 = true
 ·subst c2
  have H1 : (some 0) = some r := by rw [if_pos rfl] at H; exact H
  clear H
  have H := H1
  clear H1
  obtain rfl := Option.some.inj H
  go_enter Tryd.func54, Tryd.ntmps54
  go_wp2
  go_ret
  exact ⟨by first | rfl | (simp; done) | (simp [*]; done), by repeat (first | exact Drawn0.refl _ | apply Drawn0.step)⟩
 ·replace c2 := Bool.eq_false_iff.mpr c2
  subst c2
  have H1 : (some 40) = some r := by rw [if_neg (show ¬ (false = true) by decide)] at H; exact H
  clear H
  have H := H1
  clear H1
  obtain rfl := Option.some.inj H
  go_enter Tryd.func54, Tryd.ntmps54
  go_wp2
  go_ret
  exact ⟨by first | rfl | (simp; done) | (simp [*]; done), by repeat (first | exact Drawn0.refl _ | apply Drawn0.step)⟩
theorem bt_list (s : ByteArray) (i : Nat) (h : i < s.data.toList.length) : bt s (i : Int) = ((s.data.toList[i]).toNat : Int) := by
 have hs : i < s.size := by simpa using h
 rw [← bt_at s (i : Int) (by simpa using hs)]
 rfl
theorem letter_eq (c : Nat) : r1_letter.f (c : Int) = some (letterN c) := by
 unfold r1_letter.f letterN
 repeat' split
 all_goals (refine congrArg some ?_; rw [Bool.eq_iff_iff]; simp; try omega)
theorem written_l0 (s : ByteArray) (hs : s.size ≤ 1000) : ∀ (m i : Nat), s.data.toList.length - i = m → i ≤ s.data.toList.length → Ev (fun k => r1_written.l0 k s (i : Int)) ((s.data.toList.drop i).all fun c => letterN c.toNat)
 | 0, i, hm, hi => by
  have hz : s.data.toList.length = s.size := by simp
  refine Ev.of (fun k => ?_)
  rw [r1_written.l0, if_neg (by omega), List.drop_eq_nil_of_le (by omega)]
  rfl
 | m + 1, i, hm, hi => by
  have hz : s.data.toList.length = s.size := by simp
  have hlt : i < s.data.toList.length := by omega
  have ih := written_l0 s hs m (i + 1) (by omega) (by omega)
  rw [List.drop_eq_getElem_cons hlt, List.all_cons]
  cases hb : letterN (s.data.toList[i]).toNat with
  | false =>
   refine Ev.of (fun k => ?_)
   rw [r1_written.l0, if_pos (by omega), if_pos (by omega), bt_list s i hlt, letter_eq, hb]
   rfl
  | true =>
   rw [Bool.true_and]
   refine ih.step (fun k => ?_)
   rw [r1_written.l0, if_pos (by omega), if_pos (by omega), bt_list s i hlt, letter_eq, hb, w64 (by omega) (by omega)]
   rfl
def wordB (s : ByteArray) (lo hi : Int) : Bool := decide (0 < s.size) && decide (s.size ≤ 120) && decide (lo ≤ bt s 0) && decide (bt s 0 ≤ hi) && lettersFrom s.data.toList
theorem term_word_eq (s : ByteArray) (lo hi : Int) : term_word.f s lo hi = some (wordB s lo hi) := rfl
theorem written_ev (s : ByteArray) (lo hi : Int) (hlo : ∀ c : Nat, lo ≤ (c : Int) → (c : Int) ≤ hi → letterN c = true) : Ev (fun k => r1_written.f k s lo hi) (wordB s lo hi) := by
 have hz : s.data.toList.length = s.size := by simp
 have hj : Ev (fun k => r1_written.j0 k s true) false := Ev.of (fun k => by rw [r1_written.j0, if_pos rfl])
 by_cases h0 : (s.size : Int) < 1
 ·have e : wordB s lo hi = false := by simp [wordB, show ¬ 0 < s.size by omega]
  rw [e]
  exact hj.cong (fun k => by rw [r1_written.f, if_pos h0])
 by_cases h1 : (s.size : Int) > 120
 ·have e : wordB s lo hi = false := by simp [wordB, show ¬ s.size ≤ 120 by omega]
  rw [e]
  exact hj.cong (fun k => by rw [r1_written.f, if_neg h0, if_pos h1])
 by_cases h2 : bt s 0 < lo
 ·have e : wordB s lo hi = false := by simp [wordB, show ¬ lo ≤ bt s 0 by omega]
  rw [e]
  exact hj.cong (fun k => by rw [r1_written.f, if_neg h0, if_neg h1, if_pos (by omega), if_pos h2])
 by_cases h3 : bt s 0 > hi
 ·have e : wordB s lo hi = false := by simp [wordB, show ¬ bt s 0 ≤ hi by omega]
  rw [e]
  exact hj.cong (fun k => by rw [r1_written.f, if_neg h0, if_neg h1, if_pos (by omega), if_neg h2, decide_eq_true h3])
 have hlt : 0 < s.data.toList.length := by omega
 have hb := bt_list s 0 hlt
 have hl : letterN (s.data.toList[0]).toNat = true := hlo _ (by rw [← hb]; simp; omega) (by rw [← hb]; simp; omega)
 have e : wordB s lo hi = ((s.data.toList.drop 1).all fun c => letterN c.toNat) := by
  rw [wordB, decide_eq_true (by omega), decide_eq_true (by omega), decide_eq_true (by omega), decide_eq_true (by omega), lettersFrom]
  conv => lhs; rw [show s.data.toList = s.data.toList[0] :: s.data.toList.drop 1 from by rw [← List.drop_eq_getElem_cons hlt]; rfl]
  rw [List.all_cons, hl]
  rfl
 rw [e]
 have h := written_l0 s (by omega) _ 1 rfl (by omega)
 have h' : Ev (fun k => r1_written.j0 k s false) _ := h.step (fun k => by rw [r1_written.j0, if_neg (by simp)]; rfl)
 exact h'.cong (fun k => by rw [r1_written.f, if_neg h0, if_neg h1, if_pos (by omega), if_neg h2, decide_eq_false h3])
theorem upper_letter (c : Nat) (h : (65 : Int) ≤ c) (h2 : (c : Int) ≤ 90) : letterN c = true := by simp [letterN]; omega
theorem lower_letter (c : Nat) (h : (97 : Int) ≤ c) (h2 : (c : Int) ≤ 122) : letterN c = true := by simp [letterN]; omega
theorem value_same (a b : Int) (s : ByteArray) : r1_Check.f a b s = value_Check.f a b s := by
 unfold r1_Check.f value_Check.f
 by_cases h1 : a = 1
 ·rw [if_pos h1, if_pos h1, if_neg (show ¬ a = 2 by omega)]
 ·rw [if_neg h1, if_neg h1]
theorem value_tot (a b : Int) (s : ByteArray) : ∃ r, value_Check.f a b s = some r := by
 unfold value_Check.f
 repeat' split
 all_goals exact ⟨_, rfl⟩
theorem Ev.of_bind {α β : Type} {f : Nat → Option α} {r : α} {g : α → Option β} {s : β} (h : Ev f r) (h2 : g r = some s) : Ev (fun k => (f k).bind g) s := Ev.bind (g := fun _ => g) h (Ev.const (fun _ => h2))
theorem term_ev (t : S28) : Ev (fun k => r4_term.f k t.f0 t.f1.f0 t.f1.f1 t.f1.f2) (!termBad t) := by
 unfold termBad
 by_cases h0 : t.f0.toList = []
 ·obtain ⟨r, hr⟩ := value_tot t.f1.f0 t.f1.f1 t.f1.f2
  refine Ev.const (fun k => ?_)
  rw [r4_term.f, if_pos h0, value_same, hr, term_CheckTerm.f, if_pos h0, hr]
  show some _ = some _
  congr 1
  by_cases hq : r = 0 <;> simp [term_code.f, hq]
 ·by_cases h1 : t.f0.toList = [95]
  ·refine Ev.const (fun k => ?_)
   rw [r4_term.f, if_neg h0, if_pos h1, term_CheckTerm.f, if_neg h0]
   cases hq : (t.f1.f0 == 0 && (t.f1.f1 == 0 && (t.f1.f2.toList == ([] : List UInt8)))) with
   | true => rw [if_pos rfl, if_pos h1]; simp [term_code.f]
   | false => rw [if_neg (by simp)]; simp [term_code.f]
  ·refine Ev.cong (f := fun k => (r1_Variable.f k t.f0).bind fun t182 => (if t182 = true then (some (t.f1.f0 == 0 && (t.f1.f1 == 0 && (t.f1.f2.toList == ([] : List UInt8))))) else (some false))) ?_ (fun k => by rw [r4_term.f, if_neg h0, if_neg h1])
   have hv : Ev (fun k => r1_Variable.f k t.f0) (wordB t.f0 65 90) := Ev.of_bind (g := fun x => some x) (written_ev t.f0 65 90 upper_letter) rfl
   refine Ev.of_bind hv ?_
   rw [term_CheckTerm.f, if_neg h0, term_word_eq]
   clear hv
   generalize wordB t.f0 65 90 = wb
   cases hq : (t.f1.f0 == 0 && (t.f1.f1 == 0 && (t.f1.f2.toList == ([] : List UInt8)))) with
   | true => rw [if_pos rfl, if_neg h1]; cases wb <;> simp [term_code.f]
   | false => rw [if_neg (show ¬ (false = true) by simp)]; cases wb <;> simp [term_code.f]
theorem solid_bad (t : S28) : solidB t = (decide (t.f0.toList ≠ [95]) && !termBad t) := by
 unfold solidB term_solid.f termBad
 by_cases h : t.f0.toList = [95]
 ·rw [if_pos h]; simp [h]
 ·rw [if_neg h, xbq t]
  simp [h, bne]
theorem kids_eq (op : Int) (k : Nat) : r4_kids.f (k + 1) op = some (arityOf op) := by
 unfold r4_kids.f arityOf r4_kids.j0
 repeat' split
 all_goals first | rfl | omega | (simp_all; done) | (simp_all; omega)
theorem expr_l0 (n : Nat) (hn : n ≤ 100) (ih : ∀ e : S31, Ev (fun k => r4_expr.f k e.f0 e.f1.f0 e.f1.f1.f0 e.f1.f1.f1 e.f1.f1.f2 e.f2 (n : Int)) (deepB n e)) (a0 : Int) (a1 : ByteArray) (a2 a3 : Int) (a4 : ByteArray) (l : List S31) (hl : l.length ≤ 1000) :
  ∀ (m i : Nat), l.length - i = m → i ≤ l.length → Ev (fun k => r4_expr.l0 k ((n + 1 : Nat) : Int) (i : Int) a0 a1 a2 a3 a4 l) ((l.drop i).all (deepB n))
 | 0, i, hm, hi => by
  refine Ev.of (fun k => ?_)
  rw [r4_expr.l0, if_neg (by omega), List.drop_eq_nil_of_le (by omega)]
  rfl
 | m + 1, i, hm, hi => by
  have hlt : i < l.length := by omega
  have e : rd_T31 l (i : Int) = l[i] := by rw [rd_T31, List.getD_eq_getElem?_getD, Int.toNat_natCast, List.getElem?_eq_getElem hlt]; rfl
  have h1 := expr_l0 n hn ih a0 a1 a2 a3 a4 l hl m (i + 1) (by omega) (by omega)
  have h2 := ih l[i]
  rw [List.drop_eq_getElem_cons hlt, List.all_cons]
  rw [← e] at h2 ⊢
  have h3 : Ev (fun k => (r4_expr.f k (rd_T31 l (i : Int)).f0 (rd_T31 l (i : Int)).f1.f0 (rd_T31 l (i : Int)).f1.f1.f0 (rd_T31 l (i : Int)).f1.f1.f1 (rd_T31 l (i : Int)).f1.f1.f2 (rd_T31 l (i : Int)).f2 (n : Int)).bind fun t => if t = true then r4_expr.l0 k ((n + 1 : Nat) : Int) ((i + 1 : Nat) : Int) a0 a1 a2 a3 a4 l else some false) (deepB n (rd_T31 l (i : Int)) && (l.drop (i + 1)).all (deepB n)) := by
   refine Ev.bind (g := fun k t => if t = true then r4_expr.l0 k ((n + 1 : Nat) : Int) ((i + 1 : Nat) : Int) a0 a1 a2 a3 a4 l else some false) h2 ?_
   cases deepB n (rd_T31 l (i : Int)) with
   | false => exact Ev.const (fun k => by simp)
   | true => rw [Bool.true_and]; exact h1.cong (fun k => by simp)
  refine h3.step (fun k => ?_)
  rw [r4_expr.l0, if_pos (by omega), if_pos (by omega), w64 (by omega) (by omega), w64 (by omega) (by omega), show (((n + 1 : Nat) : Int) - 1) = (n : Int) by omega]
  rfl
theorem expr_ev : ∀ (n : Nat), n ≤ 100 → ∀ e : S31, Ev (fun k => r4_expr.f k e.f0 e.f1.f0 e.f1.f1.f0 e.f1.f1.f1 e.f1.f1.f2 e.f2 (n : Int)) (deepB n e)
 | 0, _, e => Ev.of (fun k => by rw [r4_expr.f, if_pos (by simp), deepB])
 | n + 1, hn, e => by
  have ih := expr_ev n (by omega)
  have hne : ¬ ((n + 1 : Nat) : Int) = 0 := by omega
  rw [deepB]
  by_cases h0 : e.f0 = 0
  ·rw [if_pos h0, solid_bad]
   by_cases h1 : (e.f2.length : Int) = 0
   ·by_cases h2 : e.f1.f0.toList = [95]
    ·refine Ev.of (fun k => ?_)
     rw [r4_expr.f, if_neg hne, if_pos h0, if_pos h1, if_pos h2]
     simp [h2]
    ·have h3 : Ev (fun k => (r4_term.f k e.f1.f0 e.f1.f1.f0 e.f1.f1.f1 e.f1.f1.f2).bind fun t => some t) (!termBad e.f1) := Ev.of_bind (g := fun x => some x) (term_ev e.f1) rfl
     rw [show (decide (e.f2.length = 0) && (decide (e.f1.f0.toList ≠ [95]) && !termBad e.f1)) = !termBad e.f1 by simp [h2, show e.f2.length = 0 by omega]]
     refine h3.step (fun k => ?_)
     rw [r4_expr.f, if_neg hne, if_pos h0, if_pos h1, if_neg h2]
   ·refine Ev.of (fun k => ?_)
    rw [r4_expr.f, if_neg hne, if_pos h0, if_neg h1, decide_eq_false (by omega)]
    rfl
  ·rw [if_neg h0]
   have hN : noneB e.f1 = (e.f1.f0.toList == ([] : List UInt8) && ((e.f1.f1.f0 == 0 && (e.f1.f1.f1 == 0 && (e.f1.f1.f2.toList == ([] : List UInt8)))))) := rfl
   have hj : Ev (fun k => r4_expr.j0 k ((n + 1 : Nat) : Int) true e.f0 e.f1.f0 e.f1.f1.f0 e.f1.f1.f1 e.f1.f1.f2 e.f2) false := Ev.of (fun k => by rw [r4_expr.j0, if_pos rfl])
   cases hq : noneB e.f1 with
   | false =>
    rw [Bool.false_and, Bool.false_and]
    refine hj.step (fun k => ?_)
    rw [r4_expr.f, if_neg hne, if_neg h0, if_pos ?_]
    rw [hN] at hq
    rw [← Bool.not_and, ← Bool.not_and, ← Bool.not_and, hq]
    rfl
   | true =>
    rw [Bool.true_and]
    have hc : ¬ ((!(e.f1.f0.toList == ([] : List UInt8)) || ((!(e.f1.f1.f0 == 0) || (!(e.f1.f1.f1 == 0) || (!(e.f1.f1.f2.toList == ([] : List UInt8))))))) = true) := by
     rw [hN] at hq
     rw [← Bool.not_and, ← Bool.not_and, ← Bool.not_and, hq]
     simp
    have main : Ev (fun k => r4_expr.j0 k ((n + 1 : Nat) : Int) ((e.f2.length : Int) != arityOf e.f0) e.f0 e.f1.f0 e.f1.f1.f0 e.f1.f1.f1 e.f1.f1.f2 e.f2) (decide ((e.f2.length : Int) = arityOf e.f0) && e.f2.all (deepB n)) := by
     by_cases hk : (e.f2.length : Int) = arityOf e.f0
     ·have har : arityOf e.f0 ≤ 2 := by unfold arityOf; repeat' split <;> omega
      have h4 := expr_l0 n (by omega) ih e.f0 e.f1.f0 e.f1.f1.f0 e.f1.f1.f1 e.f1.f1.f2 e.f2 (by omega) _ 0 rfl (Nat.zero_le _)
      rw [List.drop_zero] at h4
      rw [decide_eq_true hk, Bool.true_and]
      refine h4.step (fun k => ?_)
      rw [r4_expr.j0, if_neg (by simp [hk])]
      rfl
     ·rw [decide_eq_false hk, Bool.false_and]
      refine Ev.of (fun k => ?_)
      rw [r4_expr.j0, if_pos (by simpa using hk)]
    obtain ⟨k0, hk0⟩ := main
    refine ⟨k0 + 2, fun k hk => ?_⟩
    obtain ⟨j, rfl⟩ : ∃ j, k = j + 2 := ⟨k - 2, by omega⟩
    show r4_expr.f (j + 1 + 1) _ _ _ _ _ _ _ = _
    rw [r4_expr.f, if_neg hne, if_neg h0, if_neg hc, kids_eq]
    exact hk0 (j + 1) (by omega)
theorem atom_l0 (p : ByteArray) (l : List S28) (hl : l.length ≤ 1000) : ∀ (m i : Nat), l.length - i = m → i ≤ l.length → Ev (fun k => r4_atom.l0 k (i : Int) p l) (!(l.drop i).any termBad)
 | 0, i, hm, hi => by
  refine Ev.of (fun k => ?_)
  rw [r4_atom.l0, if_neg (by omega), List.drop_eq_nil_of_le (by omega)]
  rfl
 | m + 1, i, hm, hi => by
  have hlt : i < l.length := by omega
  have e : rd_T28 l (i : Int) = l[i] := by rw [rd_T28, List.getD_eq_getElem?_getD, Int.toNat_natCast, List.getElem?_eq_getElem hlt]; rfl
  have h1 := atom_l0 p l hl m (i + 1) (by omega) (by omega)
  have h2 := term_ev l[i]
  rw [List.drop_eq_getElem_cons hlt, List.any_cons, Bool.not_or]
  rw [← e] at h2 ⊢
  have h3 : Ev (fun k => (r4_term.f k (rd_T28 l (i : Int)).f0 (rd_T28 l (i : Int)).f1.f0 (rd_T28 l (i : Int)).f1.f1 (rd_T28 l (i : Int)).f1.f2).bind fun t => if t = true then r4_atom.l0 k ((i + 1 : Nat) : Int) p l else some false) (!termBad (rd_T28 l (i : Int)) && !(l.drop (i + 1)).any termBad) := by
   refine Ev.bind (g := fun k t => if t = true then r4_atom.l0 k ((i + 1 : Nat) : Int) p l else some false) h2 ?_
   cases termBad (rd_T28 l (i : Int)) with
   | true => exact Ev.const (fun k => by simp)
   | false => rw [Bool.not_false, Bool.true_and]; exact h1.cong (fun k => by simp)
  refine h3.step (fun k => ?_)
  rw [r4_atom.l0, if_pos (by omega), if_pos (by omega), w64 (by omega) (by omega)]
  rfl
def nameB (p : ByteArray) : Bool := (term_name.f p).getD false
theorem name_tot (p : ByteArray) : term_name.f p = some (nameB p) := by
 unfold nameB term_name.f
 rw [term_word_eq]
 repeat' split
 all_goals rfl
theorem name_ev (p : ByteArray) : Ev (fun k => r1_Name.f k p) (nameB p) := by
 have h := written_ev p 97 122 lower_letter
 refine Ev.of_bind h ?_
 unfold nameB term_name.f r1_Keyword.f
 rw [term_word_eq]
 generalize wordB p 97 122 = wb
 cases wb with
 | false =>
  rw [if_neg (show ¬ (false = true) by simp)]
  repeat' split
  all_goals rfl
 | true =>
  rw [if_pos rfl]
  repeat' split
  all_goals first | rfl | (simp_all; done)
def atomB (p : ByteArray) (l : List S28) : Bool := nameB p && decide (l.length ≤ 24) && !l.any termBad
theorem checkAtom_eq (p : ByteArray) (l : List S28) : term_CheckAtom.f p l = some (if atomB p l then 0 else 40) := by
 rw [term_CheckAtom.f, name_tot]
 rfl
theorem atom_ev (p : ByteArray) (l : List S28) : Ev (fun k => r4_atom.f k p l) (atomB p l) := by
 unfold atomB
 have hj : Ev (fun k => r4_atom.j0 k true p l) false := Ev.of (fun k => by rw [r4_atom.j0, if_pos rfl])
 refine Ev.bind (g := fun k t => if t = true then r4_atom.j0 k (decide ((l.length : Int) > 24)) p l else r4_atom.j0 k true p l) (name_ev p) ?_
 cases nameB p with
 | false => exact hj.cong (fun k => by simp)
 | true =>
  by_cases h : l.length ≤ 24
  ·have h1 := atom_l0 p l (by omega) _ 0 rfl (Nat.zero_le _)
   rw [List.drop_zero] at h1
   rw [decide_eq_true h, Bool.true_and, Bool.true_and]
   refine h1.step (fun k => ?_)
   show (if true = true then r4_atom.j0 (k + 1) (decide ((l.length : Int) > 24)) p l else _) = _
   rw [if_pos rfl, decide_eq_false (by omega), r4_atom.j0, if_neg (by simp)]
   rfl
  ·rw [decide_eq_false h, Bool.and_false, Bool.false_and]
   exact hj.cong (fun k => by rw [if_pos rfl, decide_eq_true (by omega)])
def nothingB (x : S31) : Bool := decide (x.f0 = 0) && noneB x.f1 && decide (x.f2.length = 0)
theorem len_zero (l : List S31) : ((l.length : Int) == 0) = decide (l.length = 0) := by rw [Bool.eq_iff_iff]; simp
theorem empty_eq (x : S31) : term_empty.f x.f0 x.f1.f0 x.f1.f1.f0 x.f1.f1.f1 x.f1.f1.f2 x.f2 = some (nothingB x) := by
 unfold term_empty.f nothingB
 by_cases h : x.f0 = 0
 ·rw [if_pos h, term_none_tot, decide_eq_true h, len_zero]
  cases noneB x.f1 <;> rfl
 ·rw [if_neg h, decide_eq_false h]
  rfl
theorem nothing_eq (x : S31) : r4_nothing.f x.f0 x.f1.f0 x.f1.f1.f0 x.f1.f1.f1 x.f1.f1.f2 x.f2 = some (nothingB x) := by
 unfold r4_nothing.f nothingB
 have hN : noneB x.f1 = (x.f1.f0.toList == ([] : List UInt8) && ((x.f1.f1.f0 == 0 && (x.f1.f1.f1 == 0 && (x.f1.f1.f2.toList == ([] : List UInt8)))))) := rfl
 rw [← hN, len_zero]
 by_cases h : x.f0 = 0
 ·rw [if_pos h, decide_eq_true h]
  cases noneB x.f1 <;> rfl
 ·rw [if_neg h, decide_eq_false h]
  rfl
theorem checkExpr_eq (x : S31) : term_CheckExpr.f x.f0 x.f1.f0 x.f1.f1.f0 x.f1.f1.f1 x.f1.f1.f2 x.f2 = some (if deepB 8 x then 0 else 40) := by
 rw [term_CheckExpr.f, term_deep.f, if_pos ⟨by decide, by decide⟩, eta_expr]
 show (term_code.f (deepB 8 x)).bind _ = _
 cases deepB 8 x <;> rfl
def litB (x : S56) : Bool := if x.f0 = 1 ∨ x.f0 = 2 then atomB x.f1.f0 x.f1.f1 && decide (x.f2 = 0) && nothingB x.f3 && nothingB x.f4 else decide (x.f0 = 3) && decide (x.f1.f0.toList = []) && decide (x.f1.f1.length = 0) && decide (1 ≤ x.f2) && decide (x.f2 ≤ 6) && deepB 8 x.f3 && deepB 8 x.f4
theorem checkLiteral_ev (x : S56) : Ev (fun k => term_CheckLiteral.f k x.f0 x.f1.f0 x.f1.f1 x.f2 x.f3.f0 x.f3.f1.f0 x.f3.f1.f1.f0 x.f3.f1.f1.f1 x.f3.f1.f1.f2 x.f3.f2 x.f4.f0 x.f4.f1.f0 x.f4.f1.f1.f0 x.f4.f1.f1.f1 x.f4.f1.f1.f2 x.f4.f2) (if litB x then 0 else 40) := by
 have hj : Ev (fun k => term_CheckLiteral.j0 k x.f0 (decide (x.f0 = 1 ∨ x.f0 = 2)) x.f0 x.f1.f0 x.f1.f1 x.f2 x.f3.f0 x.f3.f1.f0 x.f3.f1.f1.f0 x.f3.f1.f1.f1 x.f3.f1.f1.f2 x.f3.f2 x.f4.f0 x.f4.f1.f0 x.f4.f1.f1.f0 x.f4.f1.f1.f1 x.f4.f1.f1.f2 x.f4.f2) (if litB x then 0 else 40) := by
  refine Ev.of (fun k => ?_)
  rw [term_CheckLiteral.j0, empty_eq, empty_eq, checkAtom_eq, checkExpr_eq, checkExpr_eq, litB]
  by_cases h : x.f0 = 1 ∨ x.f0 = 2
  ·rw [decide_eq_true h, if_pos rfl, if_pos h]
   generalize atomB x.f1.f0 x.f1.f1 = a
   generalize nothingB x.f3 = b
   generalize nothingB x.f4 = c
   by_cases h2 : x.f2 = 0
   ·rw [if_pos h2, decide_eq_true h2]
    cases a <;> cases b <;> cases c <;> rfl
   ·rw [if_neg h2, decide_eq_false h2]
    cases a <;> rfl
  ·rw [decide_eq_false h, if_neg (by simp), if_neg h]
   generalize deepB 8 x.f3 = b
   generalize deepB 8 x.f4 = c
   by_cases h2 : x.f0 = 3
   ·rw [if_pos h2, decide_eq_true h2]
    by_cases h3 : x.f1.f0.toList = []
    ·rw [if_pos h3, decide_eq_true h3]
     by_cases h4 : (x.f1.f1.length : Int) > 0
     ·rw [if_pos h4, decide_eq_false (by omega)]; rfl
     ·rw [if_neg h4, decide_eq_true (by omega)]
      by_cases h5 : x.f2 < 1
      ·rw [if_pos h5, decide_eq_false (by omega)]; rfl
      ·rw [if_neg h5, decide_eq_true (by omega)]
       by_cases h6 : x.f2 > 6
       ·rw [if_pos h6, decide_eq_false (by omega)]; rfl
       ·rw [if_neg h6, decide_eq_true (by omega)]
        cases b <;> cases c <;> rfl
    ·rw [if_neg h3, decide_eq_false h3]; rfl
   ·rw [if_neg h2, decide_eq_false h2]; rfl
 refine hj.cong (fun k => ?_)
 rw [term_CheckLiteral.f]
 by_cases h1 : x.f0 = 1
 ·rw [if_pos h1, show (x.f0 == 1) = decide (x.f0 = 1 ∨ x.f0 = 2) by simp [h1]]
 ·rw [if_neg h1, show (x.f0 == 2) = decide (x.f0 = 1 ∨ x.f0 = 2) by simp [h1] <;> rfl]
theorem refLiteral_ev (x : S56) : Ev (fun k => r4_literal.f k x.f0 x.f1.f0 x.f1.f1 x.f2 x.f3.f0 x.f3.f1.f0 x.f3.f1.f1.f0 x.f3.f1.f1.f1 x.f3.f1.f1.f2 x.f3.f2 x.f4.f0 x.f4.f1.f0 x.f4.f1.f1.f0 x.f4.f1.f1.f1 x.f4.f1.f1.f2 x.f4.f2) (litB x) := by
 have hj : Ev (fun k => r4_literal.j0 k x.f0 (decide (x.f0 = 1 ∨ x.f0 = 2)) x.f0 x.f1.f0 x.f1.f1 x.f2 x.f3.f0 x.f3.f1.f0 x.f3.f1.f1.f0 x.f3.f1.f1.f1 x.f3.f1.f1.f2 x.f3.f2 x.f4.f0 x.f4.f1.f0 x.f4.f1.f1.f0 x.f4.f1.f1.f1 x.f4.f1.f1.f2 x.f4.f2) (litB x) := by
  rw [litB]
  by_cases h : x.f0 = 1 ∨ x.f0 = 2
  ·rw [if_pos h]
   have h1 : Ev (fun k => (r4_atom.f k x.f1.f0 x.f1.f1).bind fun t286 => (if t286 = true then (if x.f2 = 0 then ((r4_nothing.f x.f3.f0 x.f3.f1.f0 x.f3.f1.f1.f0 x.f3.f1.f1.f1 x.f3.f1.f1.f2 x.f3.f2).bind fun t287 => (if t287 = true then ((r4_nothing.f x.f4.f0 x.f4.f1.f0 x.f4.f1.f1.f0 x.f4.f1.f1.f1 x.f4.f1.f1.f2 x.f4.f2).bind fun t288 => (some t288)) else (some false))) else (some false)) else (some false))) (atomB x.f1.f0 x.f1.f1 && decide (x.f2 = 0) && nothingB x.f3 && nothingB x.f4) := by
    refine Ev.of_bind (atom_ev x.f1.f0 x.f1.f1) ?_
    rw [nothing_eq, nothing_eq]
    generalize atomB x.f1.f0 x.f1.f1 = a
    generalize nothingB x.f3 = b
    generalize nothingB x.f4 = c
    by_cases h2 : x.f2 = 0
    ·rw [if_pos h2, decide_eq_true h2]
     cases a <;> cases b <;> cases c <;> rfl
    ·rw [if_neg h2, decide_eq_false h2]
     cases a <;> rfl
   refine h1.step (fun k => ?_)
   rw [r4_literal.j0, decide_eq_true h, if_pos rfl]
  ·rw [if_neg h]
   have no : ∀ (y : Bool), (y = false) → (∀ k, r4_literal.j0 (k + 1) x.f0 (decide (x.f0 = 1 ∨ x.f0 = 2)) x.f0 x.f1.f0 x.f1.f1 x.f2 x.f3.f0 x.f3.f1.f0 x.f3.f1.f1.f0 x.f3.f1.f1.f1 x.f3.f1.f1.f2 x.f3.f2 x.f4.f0 x.f4.f1.f0 x.f4.f1.f1.f0 x.f4.f1.f1.f1 x.f4.f1.f1.f2 x.f4.f2 = some false) → Ev (fun k => r4_literal.j0 k x.f0 (decide (x.f0 = 1 ∨ x.f0 = 2)) x.f0 x.f1.f0 x.f1.f1 x.f2 x.f3.f0 x.f3.f1.f0 x.f3.f1.f1.f0 x.f3.f1.f1.f1 x.f3.f1.f1.f2 x.f3.f2 x.f4.f0 x.f4.f1.f0 x.f4.f1.f1.f0 x.f4.f1.f1.f1 x.f4.f1.f1.f2 x.f4.f2) y := fun y hy h => by rw [hy]; exact Ev.of h
   by_cases h2 : x.f0 = 3
   ·by_cases h3 : x.f1.f0.toList = []
    ·by_cases h4 : (x.f1.f1.length : Int) = 0
     ·by_cases h5 : x.f2 ≥ 1
      ·by_cases h6 : x.f2 ≤ 6
       ·rw [decide_eq_true h2, decide_eq_true h3, decide_eq_true (show x.f1.f1.length = 0 by omega), decide_eq_true (show 1 ≤ x.f2 by omega), decide_eq_true h6]
        have h1 : Ev (fun k => (r4_expr.f k x.f3.f0 x.f3.f1.f0 x.f3.f1.f1.f0 x.f3.f1.f1.f1 x.f3.f1.f1.f2 x.f3.f2 8).bind fun t289 => (if t289 = true then ((r4_expr.f k x.f4.f0 x.f4.f1.f0 x.f4.f1.f1.f0 x.f4.f1.f1.f1 x.f4.f1.f1.f2 x.f4.f2 8).bind fun t290 => (some t290)) else (some false))) (true && true && true && true && true && deepB 8 x.f3 && deepB 8 x.f4) := by
         refine Ev.bind (g := fun k t289 => (if t289 = true then ((r4_expr.f k x.f4.f0 x.f4.f1.f0 x.f4.f1.f1.f0 x.f4.f1.f1.f1 x.f4.f1.f1.f2 x.f4.f2 8).bind fun t290 => (some t290)) else (some false))) (expr_ev 8 (by decide) x.f3) ?_
         cases deepB 8 x.f3 with
         | false => exact Ev.const (fun k => rfl)
         | true => exact Ev.of_bind (g := fun t => some t) (expr_ev 8 (by decide) x.f4) rfl
        refine h1.step (fun k => ?_)
        rw [r4_literal.j0, decide_eq_false h, if_neg (by simp), if_pos h2, if_pos h3, if_pos h4, if_pos h5, if_pos h6]
       ·exact no _ (by simp [h6]) (fun k => by rw [r4_literal.j0, decide_eq_false h, if_neg (by simp), if_pos h2, if_pos h3, if_pos h4, if_pos h5, if_neg h6])
      ·exact no _ (by simp [show ¬ 1 ≤ x.f2 by omega]) (fun k => by rw [r4_literal.j0, decide_eq_false h, if_neg (by simp), if_pos h2, if_pos h3, if_pos h4, if_neg h5])
     ·exact no _ (by rw [decide_eq_false (show ¬ x.f1.f1.length = 0 by omega)]; simp) (fun k => by rw [r4_literal.j0, decide_eq_false h, if_neg (by simp), if_pos h2, if_pos h3, if_neg h4])
    ·exact no _ (by simp [h3]) (fun k => by rw [r4_literal.j0, decide_eq_false h, if_neg (by simp), if_pos h2, if_neg h3])
   ·exact no _ (by simp [h2]) (fun k => by rw [r4_literal.j0, decide_eq_false h, if_neg (by simp), if_neg h2])
 refine hj.cong (fun k => ?_)
 rw [r4_literal.f]
 by_cases h1 : x.f0 = 1
 ·rw [if_pos h1, show (x.f0 == 1) = decide (x.f0 = 1 ∨ x.f0 = 2) by simp [h1]]
 ·rw [if_neg h1, show (x.f0 == 2) = decide (x.f0 = 1 ∨ x.f0 = 2) by simp [h1] <;> rfl]
def OpensAt {α : Type} (P : Program) (d : Kd α) (Fit : α → Prop) (t : TypeId) (fuel : Nat) : Prop :=
 ∀ (H : Type) (enc : TypeId × Value → H) (W : World) (cs : List Value) (x : DataW H × List MemPlace), DataW.trod enc P W 0 (fun _ => true) true fuel t cs = some x → (∀ n ∈ x.1.weights P t, n ≤ reachBytes) → ∃ a, d.K W a cs ∧ Fit a
theorem opens_int {P : Program} {k : IntKind} {t : TypeId} (ht : P.underlying t = some (.int k)) (fuel : Nat) : OpensAt P (Kd.int k) (fun n => (Lit.int k n).wf = true) t fuel := by
 intro H enc W cs x h _
 obtain ⟨n, rfl, _, hw⟩ := DataW.trod_int ht h
 exact ⟨n, rfl, hw⟩
theorem opens_string {P : Program} {t : TypeId} (ht : P.underlying t = some .string) (fuel : Nat) : OpensAt P Kd.string (fun s => s.size ≤ reachBytes) t fuel := by
 intro H enc W cs x h hw
 obtain ⟨s, rfl, rfl, _⟩ := DataW.trod_string ht h
 refine ⟨s, rfl, ?_⟩
 have := hw s.data.toList.length (by simp [DataW.weights])
 simpa using this
theorem mem_weightsAll {H : Type} {P : Program} {e : TypeId} : ∀ {l : List (DataW H)} {d : DataW H} {n : Nat}, d ∈ l → n ∈ d.weights P e → n ∈ DataW.weightsAll P e l
 | c :: l, d, n, hd, hn => by
  rw [DataW.weightsAll]
  rcases List.mem_cons.1 hd with rfl | hd
  ·exact List.mem_append_left _ hn
  ·exact List.mem_append_right _ (mem_weightsAll hd hn)
theorem cells_of_cells? {w : World} {a : Addr} {n : Nat} {cs : List Value} (h : w.cells? 0 a n = some cs) : cs.length = n ∧ ∀ i u, cs[i]? = some u → w.cell? (a.add i) = some u := by
 unfold World.cells? at h
 rw [if_pos (Nat.zero_le _)] at h
 have key : ∀ (l : List Nat) (cs : List Value), (l.mapM fun i => w.cell? (a.add i)) = some cs → cs.length = l.length ∧ ∀ (i : Nat) (u : Value) (j : Nat), l[i]? = some j → cs[i]? = some u → w.cell? (a.add j) = some u := by
  intro l
  induction l with
  | nil => intro cs h; simp at h; subst h; simp
  | cons j l ih =>
   intro cs h
   rw [List.mapM_cons] at h
   cases h1 : w.cell? (a.add j) with
   | none => rw [h1] at h; simp at h
   | some v =>
    rw [h1] at h
    cases h2 : (l.mapM fun i => w.cell? (a.add i)) with
    | none => rw [h2] at h; simp at h
    | some vs =>
     rw [h2] at h
     simp at h
     subst h
     obtain ⟨g1, g2⟩ := ih vs h2
     refine ⟨by simp [g1], fun i u q hq hu => ?_⟩
     cases i with
     | zero => simp at hq hu; subst hq; subst hu; exact h1
     | succ i => exact g2 i u q (by simpa using hq) (by simpa using hu)
 obtain ⟨h1, h2⟩ := key _ _ h
 refine ⟨by simpa using h1, fun i u hu => h2 i u i ?_ hu⟩
 have := (List.getElem?_eq_some_iff.1 hu).1
 simp at h1
 rw [List.getElem?_range (by omega)]
theorem opens_slice {α : Type} {P : Program} {d : Kd α} {Fit : α → Prop} {t e : TypeId} {B fuel : Nat} (ht : P.underlying t = some (.slice e)) (hc : P.cellsOf e = d.sz) (hB : P.bytesOf e = B) (hd : ∀ n, n < fuel → OpensAt P d Fit e n) :
  OpensAt P (Kd.slice e d) (fun xs => xs.length * B ≤ reachBytes ∧ ∀ x ∈ xs, Fit x) t fuel := by
 intro H enc W cs x h hw
 rcases DataW.trod_slice ht h with ⟨rfl, rfl⟩ | ⟨a, len, cap, elems, rest, n, rfl, rfl, rfl, _, hl, hm, he, hel, _, _⟩
 ·exact ⟨[], ⟨none, 0, rfl, Nat.le_refl _, Kd.C_nil _ _⟩, by simp, by simp⟩
 ·have hlen : len * B ≤ reachBytes := by
   have := hw ((elems.length + rest.length) * B) (by simp [DataW.weights, ht, hB])
   exact Nat.le_trans (Nat.mul_le_mul_right _ (by omega)) this
  have hone : ∀ i, i < len → ∃ cs' y a', elems[i]? = some y ∧ W.cells? 0 (a.add (i * d.sz)) d.sz = some cs' ∧ d.K W a' cs' ∧ Fit a' := by
   intro i hi
   have h1 := hel i hi
   rw [hc] at h1
   have hy := List.getElem?_eq_getElem (show i < elems.length by omega)
   rw [hy] at h1
   obtain ⟨cs', hcs, hx⟩ := Option.bind_eq_some_iff.1 h1
   obtain ⟨a', hK, hF⟩ := hd n (Nat.lt_succ_self _) H enc W cs' elems[i] hx (fun q hq => hw q (by
    simp only [DataW.weights, ht]
    refine List.mem_cons_of_mem _ (List.mem_append_left _ (mem_weightsAll (List.mem_map_of_mem (List.getElem_mem (show i < elems.length by omega))) hq))))
   exact ⟨cs', elems[i], a', hy, hcs, hK, hF⟩
  have hall : ∀ m : Nat, m ≤ len → ∃ xs : List α, xs.length = m ∧ ∀ i, (hi : i < xs.length) → ∃ cs', W.cells? 0 (a.add (i * d.sz)) d.sz = some cs' ∧ d.K W xs[i] cs' ∧ Fit xs[i] := by
   intro m
   induction m with
   | zero => exact fun _ => ⟨[], rfl, fun i hi => absurd hi (Nat.not_lt_zero _)⟩
   | succ m ih =>
    intro hm
    obtain ⟨xs, h1, h2⟩ := ih (by omega)
    obtain ⟨cs', y, a', _, hcs, hK, hF⟩ := hone m (by omega)
    refine ⟨xs ++ [a'], by simp [h1], fun i hi => ?_⟩
    rcases Nat.lt_or_ge i xs.length with hlt | hge
    ·rw [List.getElem_append_left hlt]
     exact h2 i hlt
    ·have : i = m := by simp at hi; omega
     subst this
     rw [List.getElem_append_right (by omega)]
     simp only [h1, Nat.sub_self, List.getElem_cons_zero]
     exact ⟨cs', hcs, hK, hF⟩
  obtain ⟨xs, hx1, hx2⟩ := hall len (Nat.le_refl _)
  subst hx1
  refine ⟨xs, ⟨some a, cap, rfl, hl, rfl, Nat.le_trans hl (by simpa [maxLen] using hm), fun _ => ⟨a, rfl, fun j p hj => ?_⟩⟩, hlen, fun y hy => ?_⟩
  ·obtain ⟨hjl, rfl⟩ := List.getElem?_eq_some_iff.1 hj
   obtain ⟨cs', hcs, hK, _⟩ := hx2 j hjl
   obtain ⟨g1, g2⟩ := cells_of_cells? hcs
   refine ⟨cs', g1, hK, fun i u hu => ?_⟩
   rw [← add_add]
   exact g2 i u hu
  ·obtain ⟨j, hj, rfl⟩ := List.getElem_of_mem hy
   obtain ⟨_, _, _, hF⟩ := hx2 j hj
   exact hF
def OpensSeq {α : Type} (P : Program) (d : Kd α) (Fit : α → Prop) (fs : List Field) (off : Nat) (fuel : Nat) : Prop :=
 ∀ (H : Type) (enc : TypeId × Value → H) (W : World) (cs : List Value) (xs : List (DataW H × List MemPlace)), (∀ (i : Nat) (f : Field), fs[i]? = some f → DataW.trod enc P W 0 (fun _ => true) true fuel f.type ((cs.drop f.offset).take (P.cellsOf f.type)) = xs[i]?) → xs.length = fs.length →
  (∀ n ∈ DataW.weightsEach P (fs.map (·.type)) (xs.map (·.1)), n ≤ reachBytes) → cs.length = off + d.sz → ∃ a, d.K W a (cs.drop off) ∧ Fit a
theorem opens_last {α : Type} {P : Program} {d : Kd α} {Fit : α → Prop} {f : Field} {off fuel : Nat} (ho : f.offset = off) (hc : P.cellsOf f.type = d.sz) (hd : OpensAt P d Fit f.type fuel) : OpensSeq P d Fit [f] off fuel := by
 intro H enc W cs xs h hl hw hcs
 match xs, hl with
 | [x], _ =>
  have h0 := h 0 f rfl
  rw [ho, hc, List.take_of_length_le (by rw [List.length_drop]; omega)] at h0
  exact hd H enc W _ x h0 (fun n hn => hw n (by simp [DataW.weightsEach, hn]))
theorem xbd {α β : Type} {P : Program} {d : Kd α} {d' : Kd β} {Fit : α → Prop} {Fit' : β → Prop} {f : Field} {fs : List Field} {off fuel : Nat} (ho : f.offset = off) (hc : P.cellsOf f.type = d.sz) (hd : OpensAt P d Fit f.type fuel) (hs : OpensSeq P d' Fit' fs (off + d.sz) fuel) :
  OpensSeq P (Kd.pair d d') (fun x => Fit x.1 ∧ Fit' x.2) (f :: fs) off fuel := by
 intro H enc W cs xs h hl hw hcs
 match xs, hl with
 | x :: xs, hl =>
  have h0 := h 0 f rfl
  rw [ho, hc] at h0
  have hcs' : cs.length = off + (d.sz + d'.sz) := hcs
  obtain ⟨a, hK, hF⟩ := hd H enc W _ x h0 (fun n hn => hw n (by simp only [List.map_cons, DataW.weightsEach]; exact List.mem_append_left _ hn))
  obtain ⟨b, hK2, hF2⟩ := hs H enc W cs xs (fun i g hg => by have := h (i + 1) g (by simpa using hg); simpa using this) (by simpa using hl) (fun n hn => hw n (by simp only [List.map_cons, DataW.weightsEach]; exact List.mem_append_right _ hn)) (by omega)
  refine ⟨(a, b), ⟨(cs.drop off).take d.sz, cs.drop (off + d.sz), ?_, hK, hK2⟩, hF, hF2⟩
  rw [← List.drop_drop, List.take_append_drop]
theorem xbi {α : Type} {P : Program} {d : Kd α} {Fit : α → Prop} {t : TypeId} {fs : Array Field} {fuel : Nat} (ht : P.underlying t = some (.struct fs)) (hc : P.cellsOf t = d.sz) (hs : ∀ n, n < fuel → OpensSeq P d Fit fs.toList 0 n) : OpensAt P d Fit t fuel := by
 intro H enc W cs x h hw
 obtain ⟨xs, n, rfl, rfl, hl, hx, hf⟩ := DataW.trod_struct ht h
 have := hs n (Nat.lt_succ_self _) H enc W cs xs (fun i f hi => hf i f (by simpa using hi)) (by simpa using hx) (fun q hq => hw q (by simp only [DataW.weights, ht]; exact hq)) (by omega)
 simpa using this
theorem xbj {α β : Type} {P : Program} {d : Kd α} {Fit : α → Prop} {f : β → α} (g : α → β) (hg : ∀ x, f (g x) = x) {fs : List Field} {off fuel : Nat} (h : OpensSeq P d Fit fs off fuel) : OpensSeq P (Kd.iso d f) (fun y => Fit (f y)) fs off fuel := by
 intro H enc W cs xs h1 h2 h3 h4
 obtain ⟨a, hK, hF⟩ := h H enc W cs xs h1 h2 h3 h4
 exact ⟨g a, by show d.K W (f (g a)) _; rw [hg]; exact hK, by show Fit (f (g a)); rw [hg]; exact hF⟩
abbrev FV (x : S26) : Prop := (Lit.int .i8 x.f0).wf = true ∧ (Lit.int .i64 x.f1).wf = true ∧ x.f2.size ≤ reachBytes
theorem opens_value (fuel : Nat) : OpensAt Tryd.prog k26 FV 26 fuel :=
 xbi Tryd.underlying26 (by kernel_rfl) (fun n _ => xbj (fun q : Int × Int × ByteArray => (⟨q.1, q.2.1, q.2.2⟩ : S26)) (fun _ => rfl) (xbd rfl (by kernel_rfl) (opens_int (by kernel_rfl) n) (xbd rfl (by kernel_rfl) (opens_int (by kernel_rfl) n) (opens_last rfl (by kernel_rfl) (opens_string (by kernel_rfl) n)))))
abbrev FT (x : S28) : Prop := x.f0.size ≤ reachBytes ∧ FV x.f1
theorem opens_term (fuel : Nat) : OpensAt Tryd.prog k28 FT 28 fuel :=
 xbi Tryd.underlying28 (by kernel_rfl) (fun n _ => xbj (fun q : ByteArray × S26 => (⟨q.1, q.2⟩ : S28)) (fun _ => rfl) (xbd rfl (by kernel_rfl) (opens_string (by kernel_rfl) n) (opens_last rfl (by kernel_rfl) (opens_value n))))
def FE : Nat → S31 → Prop
 | 0, _ => False
 | n + 1, x => (Lit.int .i8 x.f0).wf = true ∧ FT x.f1 ∧ x.f2.length * 80 ≤ reachBytes ∧ ∀ k ∈ x.f2, FE n k
set_option maxRecDepth 100000 in
theorem opens_exprN : ∀ fuel : Nat, ∀ m, m ≤ fuel → OpensAt Tryd.prog (Kd.upto F31 6 [31] fuel) (FE fuel) 31 m
 | 0, m, hm => by
  obtain rfl : m = 0 := by omega
  intro H enc W cs x h _
  simp [DataW.trod] at h
 | fuel + 1, m, hm => by
  have ih := opens_exprN fuel
  refine xbi (d := F31 (Kd.upto F31 6 [31] fuel)) Tryd.underlying31 (show _ = 6 from by kernel_rfl) (fun n hn => ?_)
  have hs : (Kd.upto F31 6 [31] fuel).sz = 6 := sz31 fuel
  exact xbj (fun q : Int × S28 × List S31 => (⟨q.1, q.2.1, q.2.2⟩ : S31)) (fun _ => rfl) (xbd rfl (by kernel_rfl) (opens_int (by kernel_rfl) n) (xbd rfl (by kernel_rfl) (opens_term n) (opens_last rfl (by kernel_rfl) (opens_slice Tryd.underlying29 (by rw [hs]; kernel_rfl) (by kernel_rfl) (fun j hj => ih j (by omega))))))
def FX (x : S31) : Prop := ∃ n, FE n x
theorem opens_expr (fuel : Nat) : OpensAt Tryd.prog k31 FX 31 fuel := by
 intro H enc W cs x h hw
 obtain ⟨a, hK, hF⟩ := opens_exprN fuel fuel (Nat.le_refl _) H enc W cs x h hw
 exact ⟨a, ⟨fuel, hK⟩, ⟨fuel, hF⟩⟩
abbrev FA (x : S53) : Prop := x.f0.size ≤ reachBytes ∧ x.f1.length * 48 ≤ reachBytes ∧ ∀ t ∈ x.f1, FT t
set_option maxRecDepth 100000 in
theorem opens_atom (fuel : Nat) : OpensAt Tryd.prog k53 FA 53 fuel :=
 xbi Tryd.underlying53 (by kernel_rfl) (fun n _ => xbj (fun q : ByteArray × List S28 => (⟨q.1, q.2⟩ : S53)) (fun _ => rfl) (xbd rfl (by kernel_rfl) (opens_string (by kernel_rfl) n) (opens_last rfl (by kernel_rfl) (opens_slice Tryd.underlying51 (by kernel_rfl) (by kernel_rfl) (fun j _ => opens_term j)))))
abbrev FL (x : S56) : Prop := (Lit.int .i8 x.f0).wf = true ∧ FA x.f1 ∧ (Lit.int .i8 x.f2).wf = true ∧ FX x.f3 ∧ FX x.f4
set_option maxRecDepth 100000 in
theorem opens_literal (fuel : Nat) : OpensAt Tryd.prog k56 FL 56 fuel :=
 xbi Tryd.underlying56 (by kernel_rfl) (fun n _ => xbj (fun q : Int × S53 × Int × S31 × S31 => (⟨q.1, q.2.1, q.2.2.1, q.2.2.2.1, q.2.2.2.2⟩ : S56)) (fun _ => rfl) (xbd rfl (by kernel_rfl) (opens_int (by kernel_rfl) n) (xbd rfl (by kernel_rfl) (opens_atom n) (xbd rfl (by kernel_rfl) (opens_int (by kernel_rfl) n) (xbd rfl (by kernel_rfl) (opens_expr n) (opens_last rfl (by kernel_rfl) (opens_expr n)))))))
theorem toList_loop_eq (s : ByteArray) (d : Nat) : ∀ (i : Nat) (r : List UInt8), s.size - i = d → i ≤ s.size → ByteArray.toList.loop s i r = r.reverse ++ s.data.toList.drop i := by
 induction d with
 | zero =>
  intro i r hd hi
  unfold ByteArray.toList.loop
  have : ¬ i < s.size := by omega
  rw [if_neg this]
  have hz : s.data.toList.length = s.size := by simp
  rw [List.drop_eq_nil_of_le (by omega)]; simp
 | succ d ih =>
  intro i r hd hi
  unfold ByteArray.toList.loop
  have hlt : i < s.size := by omega
  rw [if_pos hlt, ih (i + 1) _ (by omega) (by omega)]
  have hz : s.data.toList.length = s.size := by simp
  have hl : i < s.data.toList.length := by rw [hz]; exact hlt
  have hg : s.get! i = s.data.toList[i] := by
   simp [ByteArray.get!, getElem!_pos, hlt]
  rw [List.drop_eq_getElem_cons (i := i) (l := s.data.toList) hl, hg]; simp
theorem toList_eq_data (s : ByteArray) : s.toList = s.data.toList := by
 unfold ByteArray.toList
 rw [toList_loop_eq s s.size 0 [] (by omega) (by omega)]; simp
def SMap (P : Program) (k : TypeId) (w : World) (b n : Nat) (f : List UInt8 → Option Value) : Prop :=
 ∃ D : DataW Value, w.ownsMap P k (fun v => some (.held v, [])) b n D ∧ Maps.IsMap D ∧ ∀ s : List UInt8, Maps.has D (.string s) = (f s).isSome ∧ ∀ z, D.atKey (.string s) z = ((f s).map DataW.held).getD z
theorem SMap.made (P : Program) (k : TypeId) (w : World) : SMap P k (w.alloc (.map #[] 0)) w.heap.size 0 (fun _ => none) :=
 ⟨.map [], World.ownsMap_made w P k _, World.ownsMap.isMap (World.ownsMap_made w P k (fun v => some (.held v, []))), fun s => ⟨rfl, fun z => rfl⟩⟩
theorem SMap.kept {P : Program} {k : TypeId} {w w' : World} {b n : Nat} {f : List UInt8 → Option Value} (h : SMap P k w b n f) {row : Option Nat} (hg : w.grownBy w' row) (hne : some b ≠ row) : SMap P k w' b n f := by
 obtain ⟨D, h1, h2, h3⟩ := h
 exact ⟨D, h1.kept hg hne, h2, h3⟩
theorem SMap.move {P : Program} {k : TypeId} {w w' : World} {b n : Nat} {f : List UInt8 → Option Value} (h : SMap P k w b n f) (hb : w'.heap[b]? = w.heap[b]?) : SMap P k w' b n f := by
 obtain ⟨D, ⟨es, clock, h0, h1⟩, h2, h3⟩ := h
 exact ⟨D, ⟨es, clock, hb.trans h0, h1⟩, h2, h3⟩
theorem SMap.lt {P : Program} {k : TypeId} {w : World} {b n : Nat} {f : List UInt8 → Option Value} (h : SMap P k w b n f) : b < w.heap.size := by
 obtain ⟨D, h1, _⟩ := h
 exact h1.lt
theorem SMap.block {P : Program} {k : TypeId} {w : World} {b n : Nat} {f : List UInt8 → Option Value} (h : SMap P k w b n f) : ∃ es clock, w.heap[b]? = some (.map es clock) := by
 obtain ⟨D, ⟨es, clock, h0, h1⟩, _⟩ := h
 exact ⟨es, clock, h0⟩
theorem smap_key {P : Program} {k : TypeId} (hk : P.underlying k = some .string) (s : ByteArray) (hs : s.size ≤ maxLen) : keyOf P k (.string s) = some (.string s.data.toList) := by
 rw [keyOf_string hk]
 simp [mapKey, hk, hs]
theorem SMap.look {P : Program} {k t e : TypeId} {w : World} {b n : Nat} {f : List UInt8 → Option Value} (h : SMap P k w b n f) (hk : P.underlying k = some .string) (ht : P.underlying t = some (.map k e)) {z : Value} (hz : (zeroValue e).run P w = .ok z w) (s : ByteArray) (hs : s.size ≤ maxLen) :
  (Instr.lookup t (.map (some b)) (.string s) false).run P w = .ok ((f s.data.toList).getD z) w := by
 obtain ⟨D, h1, h2, h3⟩ := h
 obtain ⟨v, ps, hrun, hv⟩ := h1.lookup (Maps.string_keyed hk) ht hz (zd := .held z) (zp := []) rfl (smap_key hk s hs)
 rw [(h3 s.data.toList).2] at hv
 rw [hrun]
 cases hf : f s.data.toList with
 | none => rw [hf] at hv; simp at hv; simp [hv.1]
 | some u => rw [hf] at hv; simp at hv; simp [hv.1]
theorem SMap.put {P : Program} {k t e : TypeId} {w : World} {b n : Nat} {f : List UInt8 → Option Value} (h : SMap P k w b n f) (hk : P.underlying k = some .string) (ht : P.underlying t = some (.map k e)) (hn : n < maxLen) (s : ByteArray) (hs : s.size ≤ maxLen) (v : Value) :
  ∃ w', (Instr.mapUpdate t (.map (some b)) (.string s) v).run P w = .ok () w' ∧ SMap P k w' b (n + 1) (fun q => if q = s.data.toList then some v else f q) ∧ w.grownBy w' (some b) := by
 obtain ⟨D, h1, h2, h3⟩ := h
 obtain ⟨w', hrun, hown, hg⟩ := h1.update (Maps.string_keyed hk) ht hn (smap_key hk s hs) (val := v) (d := .held v) (ps := []) rfl
 have hkl : WideAt.IsKeyLit (.string s.data.toList) := (Maps.string_keyed hk).key (smap_key hk s hs)
 refine ⟨w', hrun, ⟨D.put (.string s.data.toList) (.held v), hown, ?_, fun q => ?_⟩, hg⟩
 ·exact World.ownsMap.isMap hown
 ·by_cases hq : q = s.data.toList
  ·subst hq
   rw [Maps.has_put_same h2 hkl]
   simp [Maps.atKey_put_same h2 hkl]
  ·have hne : (Lit.string q) ≠ .string s.data.toList := fun h => hq (Lit.string.inj h)
   rw [Maps.has_put_other hne]
   simp only [if_neg hq]
   exact ⟨(h3 q).1, fun z => by rw [Maps.atKey_put_other hne]; exact (h3 q).2 z⟩
def r4_In.l0 : Nat → ByteArray → List ByteArray → Int → Option (Bool)
 | 0, _, _, _ => none
 | k + 1, x0, x1, x5 => if x5 < (x1.length : Int) then (if 0 ≤ x5 then (if (rdOf ByteArray.empty x1 x5).toList = x0.toList then (some true) else (r4_In.l0 k x0 x1 (wrap64 (x5 + 1)))) else (none)) else (some false)
def r4_In.f (k : Nat) (a0 : ByteArray) (l1 : List ByteArray) : Option (Bool) := r4_In.l0 k a0 l1 0
set_option maxHeartbeats 8000000 in
set_option maxRecDepth 100000 in
theorem r4_In.calls (k : Nat) (a0 : ByteArray) (A1 : Option Addr) (c1 : Nat) (l1 : List ByteArray) (r : Bool) (w : World) (hr1 : Kd.C Kd.string w A1 l1.length l1) (hc1 : l1.length ≤ c1) (h : r4_In.f k a0 l1 = some r) :
  Calls Tryd.prog 14 #[.string a0, .slice A1 l1.length c1] w fun e w' => e = .returned (.bool r) ∧ Drawn0 w w' := by
 have HR1 := Aside0.mk hr1
 have HC1 := Aside0.mk hc1
 clear hr1 hc1
 have H : (r4_In.l0 k a0 l1 0) = some r := h
 clear h
 have H' := Aside0.mk H
 clear H
 go_enter Tryd.func14, Tryd.ntmps14
 go_wp2
 go_loopg [5] k (fun kq v5 w' => ∃ (x5_1 : Int), v5 = .int .i64 x5_1 ∧ Aside0 (r4_In.l0 kq a0 l1 x5_1 = some r) ∧ Aside0 (kq ≤ k) ∧ Drawn0 w w')
 case atStart => exact ⟨(0), (by first | rfl | (simp; done) | (simp [*]; done)), H', ⟨Nat.le_refl _⟩, by repeat (first | exact Drawn0.refl _ | apply Drawn0.step)⟩
 case round =>
  clear H'
  try clear c1
  try clear p2
  obtain ⟨x5_1, rfl, HA, HK1, ⟨m1, rfl⟩⟩ := hrel
  cases gk with
  | zero => exact absurd HA.out (by simp [r4_In.l0])
  | succ k1 =>
   have H := HA.out
   clear HA
   simp only [r4_In.l0] at H
   by_cases c3 : x5_1 < (l1.length : Int)
   ·rw [if_pos c3] at H
    have c3b0 : decide (x5_1 < (l1.length : Int)) = true := decide_eq_true c3
    clear c3
    by_cases c4 : 0 ≤ x5_1
    ·rw [if_pos c4] at H
     have c4b0 : decide (0 ≤ x5_1) = true := decide_eq_true c4
     clear c4
     by_cases c5 : (rdOf ByteArray.empty l1 x5_1).toList = a0.toList
     ·rw [if_pos c5] at H
      have c5b0 : ((rdOf ByteArray.empty l1 x5_1).toList == a0.toList) = true := beq_iff_eq.mpr c5
      have c5b1 : ((rdOf ByteArray.empty l1 x5_1).toList != a0.toList) = false := bne_eq_false_iff_eq.mpr c5
      clear c5
      obtain rfl := Option.some.inj H
      have p192 : 0 ≤ (x5_1 : Int) := of_decide_eq_true (by first | (with_reducible assumption) | assumption)
      have q192 : x5_1 < (l1.length : Int) := of_decide_eq_true (by first | (with_reducible assumption) | assumption)
      obtain ⟨ad192, e192, hx192_0⟩ := Kd.at_string HR1.out x5_1 p192 q192
      cases e192
      replace p192 := eq_true p192
      replace q192 := eq_true q192
      go_wp2
      go_ret
      exact ⟨by first | rfl | (simp; done) | (simp [*]; done), by repeat (first | exact Drawn0.refl _ | apply Drawn0.step)⟩
     ·rw [if_neg c5] at H
      have c5b0 : ((rdOf ByteArray.empty l1 x5_1).toList == a0.toList) = false := beq_eq_false_iff_ne.mpr c5
      have c5b1 : ((rdOf ByteArray.empty l1 x5_1).toList != a0.toList) = true := bne_iff_ne.mpr c5
      have H' := Aside0.mk H
      clear H
      have p192 : 0 ≤ (x5_1 : Int) := of_decide_eq_true (by first | (with_reducible assumption) | assumption)
      have q192 : x5_1 < (l1.length : Int) := of_decide_eq_true (by first | (with_reducible assumption) | assumption)
      obtain ⟨ad192, e192, hx192_0⟩ := Kd.at_string HR1.out x5_1 p192 q192
      cases e192
      replace p192 := eq_true p192
      replace q192 := eq_true q192
      go_wp2
      go_roundg k1
      case measure => have := HK1.out; omega
      case rel => exact ⟨(wrap64 (x5_1 + 1)), (by first | rfl | (simp; done) | (simp [*]; done)), H', ⟨by have := HK1.out; omega⟩, by repeat (first | exact Drawn0.refl _ | apply Drawn0.step)⟩
    ·rw [if_neg c4] at H
     exact absurd H (by simp)
   ·rw [if_neg c3] at H
    have c3b0 : decide (x5_1 < (l1.length : Int)) = false := decide_eq_false c3
    clear c3
    obtain rfl := Option.some.inj H
    go_wp2
    go_ret
    exact ⟨by first | rfl | (simp; done) | (simp [*]; done), by repeat (first | exact Drawn0.refl _ | apply Drawn0.step)⟩
def r4_vars.l0 : Nat → List (S28) → List ByteArray → Int → Option (List ByteArray)
 | 0, _, _, _ => none
 | k + 1, x0, x3, x4 => if x4 < (x0.length : Int) then (if 0 ≤ x4 then (if ((rd_T28 x0 x4).f0).toList = ([] : List UInt8) then (r4_vars.l0 k x0 x3 (wrap64 (x4 + 1))) else (if ((rd_T28 x0 x4).f0).toList = ([95] : List UInt8) then (r4_vars.l0 k x0 x3 (wrap64 (x4 + 1))) else ((r4_In.f k ((rd_T28 x0 x4).f0) x3).bind fun t194 => (if t194 = true then (r4_vars.l0 k x0 x3 (wrap64 (x4 + 1))) else (if x3.length < 8796093022208 then (r4_vars.l0 k x0 (x3 ++ [(rd_T28 x0 x4).f0]) (wrap64 (x4 + 1))) else (none)))))) else (none)) else (some x3)
def r4_vars.f (k : Nat) (l0 : List (S28)) : Option (List ByteArray) := r4_vars.l0 k l0 ([] : List ByteArray) 0
set_option maxHeartbeats 8000000 in
set_option maxRecDepth 100000 in
theorem r4_vars.calls (k : Nat) (A0 : Option Addr) (c0 : Nat) (l0 : List (S28)) (r : List ByteArray) (w : World) (hr0 : Kd.C k28 w A0 l0.length l0) (hc0 : l0.length ≤ c0) (h : r4_vars.f k l0 = some r) :
  Calls Tryd.prog 56 #[.slice A0 l0.length c0] w fun e w' => ∃ v0_ : Value, e = .returned (v0_) ∧ Kd.R Kd.string 9 w' w.heap.size (fun _ => True) v0_ r ∧ Below w.heap.size w w' := by
 have HR0 := Aside0.mk hr0
 have HC0 := Aside0.mk hc0
 clear hr0 hc0
 have HB := Aside0.mk (Below.refl w.heap.size w)
 have H : (r4_vars.l0 k l0 ([] : List ByteArray) 0) = some r := h
 clear h
 have H' := Aside0.mk H
 clear H
 go_enter Tryd.func56, Tryd.ntmps56
 go_wp2
 go_loopg [3, 4] k (fun kq v3 v4 w' => ∃ (x3_1 : List ByteArray) (x4_1 : Int), v4 = .int .i64 x4_1 ∧ Aside0 (r4_vars.l0 kq l0 x3_1 x4_1 = some r) ∧ Aside0 (kq ≤ k) ∧ Aside0 (Kd.R Kd.string 9 w' w.heap.size (fun _ => True) v3 x3_1) ∧ Aside0 (Below w.heap.size w w'))
 case atStart => exact ⟨(([] : List ByteArray)), (0), (by first | rfl | (simp; done) | (simp [*]; done)), H', ⟨Nat.le_refl _⟩, ⟨by first | exact Kd.R_nil _ _ _ _ _ | exact Kd.N_nil _ _ _ _ _ | exact Kd.V_nil _ _ _ _ _ | exact Kd.Q_nil _ _ _ _ _ | exact Kd.S_nil _ _ _ _ _⟩, ⟨by repeat (first | (with_reducible first | exact HB.out | apply xab | apply xaa | apply xac) | exact HB.out)⟩⟩
 case round =>
  clear H'
  obtain ⟨x3_1, x4_1, rfl, HA, HK1, HO_3, HB⟩ := hrel
  cases gk with
  | zero => exact absurd HA.out (by simp [r4_vars.l0])
  | succ k1 =>
   have H := HA.out
   clear HA
   simp only [r4_vars.l0] at H
   by_cases c2 : x4_1 < (l0.length : Int)
   ·rw [if_pos c2] at H
    have c2b0 : decide (x4_1 < (l0.length : Int)) = true := decide_eq_true c2
    clear c2
    by_cases c3 : 0 ≤ x4_1
    ·rw [if_pos c3] at H
     have c3b0 : decide (0 ≤ x4_1) = true := decide_eq_true c3
     clear c3
     by_cases c4 : ((rd_T28 l0 x4_1).f0).toList = ([] : List UInt8)
     ·rw [if_pos c4] at H
      have c4b0 : (((rd_T28 l0 x4_1).f0).toList == ([] : List UInt8)) = true := beq_iff_eq.mpr c4
      have c4b1 : (((rd_T28 l0 x4_1).f0).toList != ([] : List UInt8)) = false := bne_eq_false_iff_eq.mpr c4
      clear c4
      have H' := Aside0.mk H
      clear H
      have p193 : 0 ≤ (x4_1 : Int) := of_decide_eq_true (by first | (with_reducible assumption) | assumption)
      have q193 : x4_1 < (l0.length : Int) := of_decide_eq_true (by first | (with_reducible assumption) | assumption)
      obtain ⟨ad193, e193, hx193_0, hx193_1, hx193_2, hx193_3⟩ := at_T28 HR0.out x4_1 p193 q193
      cases e193
      replace hx193_0 := (HB.out.cell (World.block_lt_of_cell? w _ hx193_0)).trans hx193_0
      replace hx193_1 := (HB.out.cell (World.block_lt_of_cell? w _ hx193_1)).trans hx193_1
      replace hx193_2 := (HB.out.cell (World.block_lt_of_cell? w _ hx193_2)).trans hx193_2
      replace hx193_3 := (HB.out.cell (World.block_lt_of_cell? w _ hx193_3)).trans hx193_3
      replace p193 := eq_true p193
      replace q193 := eq_true q193
      go_wp2
      go_roundg k1
      case measure => have := HK1.out; omega
      case rel => exact ⟨(x3_1), (wrap64 (x4_1 + 1)), (by first | rfl | (simp; done) | (simp [*]; done)), H', ⟨by have := HK1.out; omega⟩, ⟨by (with_reducible repeat (first | apply Kd.R_alloc | apply Kd.R_drewN | apply Kd.R_drew)); exact HO_3.out⟩, ⟨by repeat (first | (with_reducible first | exact HB.out | apply xab | apply xaa | apply xac) | exact HB.out)⟩⟩
     ·rw [if_neg c4] at H
      have c4b0 : (((rd_T28 l0 x4_1).f0).toList == ([] : List UInt8)) = false := beq_eq_false_iff_ne.mpr c4
      have c4b1 : (((rd_T28 l0 x4_1).f0).toList != ([] : List UInt8)) = true := bne_iff_ne.mpr c4
      by_cases c5 : ((rd_T28 l0 x4_1).f0).toList = ([95] : List UInt8)
      ·rw [if_pos c5] at H
       have c5b0 : (((rd_T28 l0 x4_1).f0).toList == ([95] : List UInt8)) = true := beq_iff_eq.mpr c5
       have c5b1 : (((rd_T28 l0 x4_1).f0).toList != ([95] : List UInt8)) = false := bne_eq_false_iff_eq.mpr c5
       clear c5
       have H' := Aside0.mk H
       clear H
       have p193 : 0 ≤ (x4_1 : Int) := of_decide_eq_true (by first | (with_reducible assumption) | assumption)
       have q193 : x4_1 < (l0.length : Int) := of_decide_eq_true (by first | (with_reducible assumption) | assumption)
       obtain ⟨ad193, e193, hx193_0, hx193_1, hx193_2, hx193_3⟩ := at_T28 HR0.out x4_1 p193 q193
       cases e193
       replace hx193_0 := (HB.out.cell (World.block_lt_of_cell? w _ hx193_0)).trans hx193_0
       replace hx193_1 := (HB.out.cell (World.block_lt_of_cell? w _ hx193_1)).trans hx193_1
       replace hx193_2 := (HB.out.cell (World.block_lt_of_cell? w _ hx193_2)).trans hx193_2
       replace hx193_3 := (HB.out.cell (World.block_lt_of_cell? w _ hx193_3)).trans hx193_3
       replace p193 := eq_true p193
       replace q193 := eq_true q193
       go_wp2
       go_roundg k1
       case measure => have := HK1.out; omega
       case rel => exact ⟨(x3_1), (wrap64 (x4_1 + 1)), (by first | rfl | (simp; done) | (simp [*]; done)), H', ⟨by have := HK1.out; omega⟩, ⟨by (with_reducible repeat (first | apply Kd.R_alloc | apply Kd.R_drewN | apply Kd.R_drew)); exact HO_3.out⟩, ⟨by repeat (first | (with_reducible first | exact HB.out | apply xab | apply xaa | apply xac) | exact HB.out)⟩⟩
      ·rw [if_neg c5] at H
       have c5b0 : (((rd_T28 l0 x4_1).f0).toList == ([95] : List UInt8)) = false := beq_eq_false_iff_ne.mpr c5
       have c5b1 : (((rd_T28 l0 x4_1).f0).toList != ([95] : List UInt8)) = true := bne_iff_ne.mpr c5
       replace H := Option.bind_eq_some_iff.mp H
       obtain ⟨t194, A60, H⟩ := H
       replace H : (if t194 = true then (r4_vars.l0 k1 l0 x3_1 (wrap64 (x4_1 + 1))) else (if x3_1.length < 8796093022208 then (r4_vars.l0 k1 l0 (x3_1 ++ [(rd_T28 l0 x4_1).f0]) (wrap64 (x4_1 + 1))) else (none))) = some r := H
       have A6 := Aside0.mk A60
       clear A60
       by_cases c7 : t194 = true
       ·subst c7
        have H1 : (r4_vars.l0 k1 l0 x3_1 (wrap64 (x4_1 + 1))) = some r := by rw [if_pos rfl] at H; exact H
        clear H
        have H := H1
        clear H1
        have H' := Aside0.mk H
        clear H
        have p193 : 0 ≤ (x4_1 : Int) := of_decide_eq_true (by first | (with_reducible assumption) | assumption)
        have q193 : x4_1 < (l0.length : Int) := of_decide_eq_true (by first | (with_reducible assumption) | assumption)
        obtain ⟨ad193, e193, hx193_0, hx193_1, hx193_2, hx193_3⟩ := at_T28 HR0.out x4_1 p193 q193
        cases e193
        replace hx193_0 := (HB.out.cell (World.block_lt_of_cell? w _ hx193_0)).trans hx193_0
        replace hx193_1 := (HB.out.cell (World.block_lt_of_cell? w _ hx193_1)).trans hx193_1
        replace hx193_2 := (HB.out.cell (World.block_lt_of_cell? w _ hx193_2)).trans hx193_2
        replace hx193_3 := (HB.out.cell (World.block_lt_of_cell? w _ hx193_3)).trans hx193_3
        replace p193 := eq_true p193
        replace q193 := eq_true q193
        obtain ⟨Ao8, co8, eo8⟩ := Kd.R_slice HO_3.out
        subst eo8
        go_wp2_with (first | (go_at_call 14; (with_reducible refine (r4_In.calls k1 ((rd_T28 l0 x4_1).f0) _ _ x3_1 true _ ?side1 ?side2 A6.out).mono ?_); (case side1 => repeat (first | exact (Kd.R_reads' HO_3.out).2.2 | (with_reducible refine Kd.C_alloc ?_ _) | (with_reducible refine Kd.C_drewN ?_ _) | (with_reducible refine Kd.C_drew ?_))); (case side2 => exact (Kd.R_reads' HO_3.out).2.1); rintro e w' ⟨rfl, ⟨nd, rfl⟩⟩))
        go_roundg k1
        case measure => have := HK1.out; omega
        case rel => exact ⟨(x3_1), (wrap64 (x4_1 + 1)), (by first | rfl | (simp; done) | (simp [*]; done)), H', ⟨by have := HK1.out; omega⟩, ⟨by (with_reducible repeat (first | apply Kd.R_alloc | apply Kd.R_drewN | apply Kd.R_drew)); exact HO_3.out⟩, ⟨by repeat (first | (with_reducible first | exact HB.out | apply xab | apply xaa | apply xac) | exact HB.out)⟩⟩
       ·replace c7 := Bool.eq_false_iff.mpr c7
        subst c7
        have H1 : (if x3_1.length < 8796093022208 then (r4_vars.l0 k1 l0 (x3_1 ++ [(rd_T28 l0 x4_1).f0]) (wrap64 (x4_1 + 1))) else (none)) = some r := by rw [if_neg (show ¬ (false = true) by decide)] at H; exact H
        clear H
        have H := H1
        clear H1
        by_cases c9 : x3_1.length < 8796093022208
        ·rw [if_pos c9] at H
         have LMc9 := Aside0.mk c9
         clear c9
         obtain ⟨y195, hy195⟩ : ∃ y_ : List ByteArray, y_ = (x3_1 ++ [(rd_T28 l0 x4_1).f0]) := ⟨_, rfl⟩
         replace H : (r4_vars.l0 k1 l0 y195 (wrap64 (x4_1 + 1))) = some r := by first | (rw [hy195]; with_reducible exact H) | (have H2_ := (Option.bind_some _ _).symm.trans H; rw [hy195]; with_reducible exact H2_) | (have H2_ := (Option.bind_some _ _).symm.trans H; with_reducible exact H2_) | with_reducible exact H | (rw [hy195]; exact H) | exact H
         have Ny195 := Aside0.mk hy195
         clear hy195
         have H' := Aside0.mk H
         clear H
         have p193 : 0 ≤ (x4_1 : Int) := of_decide_eq_true (by first | (with_reducible assumption) | assumption)
         have q193 : x4_1 < (l0.length : Int) := of_decide_eq_true (by first | (with_reducible assumption) | assumption)
         obtain ⟨ad193, e193, hx193_0, hx193_1, hx193_2, hx193_3⟩ := at_T28 HR0.out x4_1 p193 q193
         cases e193
         replace hx193_0 := (HB.out.cell (World.block_lt_of_cell? w _ hx193_0)).trans hx193_0
         replace hx193_1 := (HB.out.cell (World.block_lt_of_cell? w _ hx193_1)).trans hx193_1
         replace hx193_2 := (HB.out.cell (World.block_lt_of_cell? w _ hx193_2)).trans hx193_2
         replace hx193_3 := (HB.out.cell (World.block_lt_of_cell? w _ hx193_3)).trans hx193_3
         replace p193 := eq_true p193
         replace q193 := eq_true q193
         obtain ⟨Ao10, co10, eo10⟩ := Kd.R_slice HO_3.out
         subst eo10
         go_wp2_with (first | (go_at_call 14; (with_reducible refine (r4_In.calls k1 ((rd_T28 l0 x4_1).f0) _ _ x3_1 false _ ?side1 ?side2 A6.out).mono ?_); (case side1 => repeat (first | exact (Kd.R_reads' HO_3.out).2.2 | (with_reducible refine Kd.C_alloc ?_ _) | (with_reducible refine Kd.C_drewN ?_ _) | (with_reducible refine Kd.C_drew ?_))); (case side2 => exact (Kd.R_reads' HO_3.out).2.1); rintro e w' ⟨rfl, ⟨nd, rfl⟩⟩) | ((with_reducible refine gate_builtin (b := .append) (xs := #[.tmp 29, .tmp 31]) rfl ?_); at_builtin; refine Kd.R_append Kd.string (w0 := w) w.heap.size rfl (.tmp 29) (.tmp 31) 39 9 (.string ⟨#[]⟩) 16 rfl Tryd.underlying39 info9 rfl (by decide) (by omega) (.slice Ao10 x3_1.length co10) x3_1 ((rd_T28 l0 x4_1).f0) [.string ((rd_T28 l0 x4_1).f0)] (fun _ => True) (fun _ => False) rfl rfl ?aP (fun _ hk => hk.elim) ?aF ?aO ?aB ?aS ?aL ?_; (case aP => exact rfl); (case aB => exact (by repeat (first | (with_reducible first | exact HB.out | apply xab | apply xaa | apply xac) | exact HB.out))); (case aF => exact (fun _ _ => trivial)); (case aO => exact (by (with_reducible repeat (first | apply Kd.R_alloc | apply Kd.R_drewN | apply Kd.R_drew)); exact HO_3.out)); (case aS => exact (xao (by repeat (first | (with_reducible first | exact HB.out | apply xab | apply xaa | apply xac) | exact HB.out)))); (case aL => have := LMc9.out; omega); intro v196 w11 ho hb hg hat; rw [← Ny195.out] at ho; have n0_ := Aside0.mk (hb); have n1_ := Aside0.mk (ho); clear HB; clear HO_3; have HB := n0_; have HO197 := n1_; clear n0_ n1_; clear ho hb hg hat))
         go_roundg k1
         case measure => have := HK1.out; omega
         case rel => exact ⟨(y195), (wrap64 (x4_1 + 1)), (by first | rfl | (simp; done) | (simp [*]; done)), H', ⟨by have := HK1.out; omega⟩, ⟨by (with_reducible repeat (first | apply Kd.R_alloc | apply Kd.R_drewN | apply Kd.R_drew)); exact HO197.out⟩, ⟨by repeat (first | (with_reducible first | exact HB.out | apply xab | apply xaa | apply xac) | exact HB.out)⟩⟩
        ·rw [if_neg c9] at H
         exact absurd H (by simp)
    ·rw [if_neg c3] at H
     exact absurd H (by simp)
   ·rw [if_neg c2] at H
    have c2b0 : decide (x4_1 < (l0.length : Int)) = false := decide_eq_false c2
    clear c2
    obtain rfl := Option.some.inj H
    go_wp2
    go_ret
    exact ⟨_, by first | rfl | (simp [xak, xaj] <;> rfl) | (simp [*, xak, xaj] <;> rfl), by (with_reducible repeat (first | apply Kd.R_alloc | apply Kd.R_drewN | apply Kd.R_drew)); exact HO_3.out, by repeat (first | (with_reducible first | exact HB.out | apply xab | apply xaa | apply xac) | exact HB.out)⟩
theorem add_block (a : Addr) (n : Nat) : (a.add n).block = a.block := by unfold Addr.add; split <;> rfl
theorem kid_kept {w : World} {S : Nat → Prop} {A : Option Addr} {n : Nat} {xs : List S31} (h : ∀ W', Kept w W' S → Kd.C k31 W' A n xs) (k : Nat) (hk : k < n) :
  ∃ ad A5 c5, A = some ad ∧ ¬ S ad.block ∧ ad.block < w.heap.size ∧ ExprAt w (ad.add (k * 6)) (rd_T31 xs k) A5 c5 ∧ ∀ W', Kept w W' S → Kd.C k31 W' A5 (rd_T31 xs k).f2.length (rd_T31 xs k).f2 := by
 obtain ⟨ad, A5, c5, e0, hE⟩ := exprAt_elem (h w (Kept.refl w S)) k hk
 subst e0
 have hne := Kd.foot_neS h (by omega) (by decide)
 refine ⟨ad, A5, c5, rfl, hne, Kd.foot_ltS h (by omega) (by decide), hE, fun W' hW => ?_⟩
 obtain ⟨ad', A5', c5', e0', hE'⟩ := exprAt_elem (h W' hW) k hk
 injection e0' with e0'
 subst e0'
 have hc := cell_kept hE.c5 hW (by show ¬ S (ad.add (k * 6)).block; rw [add_block]; exact hne)
 rw [hE'.c5] at hc
 injection hc with hc
 injection hc with ha _ _
 rw [← ha]
 exact hE'.hC
structure ETI (w0 w wr : World) (P0 : Nat → Prop) (bx : Array Value) (v : Value) (L : List S28) : Prop where
 row : Kd.R k28 28 wr w0.heap.size (fun k => (P0 k ∨ w.heap.size ≤ k) ∧ k ≠ w.heap.size) v L
 below : Below w0.heap.size w0 wr
 kept : Kept w wr P0
 box : wr.heap[w.heap.size]? = some (.cells bx 31 (0, 0))
def ExprTermsAt (n : Nat) : Prop := ∀ (P0_ : Nat → Prop) (u : Value) (l0 : List S28) (x : S31) (A : Option Addr) (c : Nat) (w0 w : World), SizeOf.sizeOf x < n → Below w0.heap.size w0 w → Kd.R k28 28 w w0.heap.size P0_ u l0 → (∀ W_, Kept w W_ (fun k_ => P0_ k_) → Kd.C k31 W_ A x.f2.length x.f2) → x.f2.length ≤ c → l0.length + (exprTermsL x).length < 2000000000000 →
  Calls Tryd.prog 57 #[u, .agg #[.int .i8 x.f0, .string x.f1.f0, .int .i8 x.f1.f1.f0, .int .i64 x.f1.f1.f1, .string x.f1.f1.f2, .slice A x.f2.length c]] w fun e w' => ∃ v0_ : Value, e = .returned (v0_) ∧ Kd.R k28 28 w' w0.heap.size (fun k_ => (P0_ k_ ∨ w.heap.size ≤ k_)) v0_ (l0 ++ exprTermsL x) ∧ Below w0.heap.size w0 w' ∧ Kept w w' (fun k_ => P0_ k_)
set_option maxHeartbeats 4000000 in
set_option maxRecDepth 100000 in
theorem exprTerms_step (n : Nat) (ih : Hid (ExprTermsAt n)) : ExprTermsAt (n + 1) := by
 intro P0 u l0 x A c w0 w hn hB hO hr hc hlen
 have hm : x.f2.length ≤ 9223372036854775807 := (hr w (Kept.refl _ _)).2.1
 have HR := Lib.hid hr
 have HE := Lib.hid (xbc x)
 have hl0 : l0.length + 1 + (kidsTermsL x.f2).length < 2000000000000 := by rw [xbc] at hlen; simp at hlen; omega
 have HO : Hid (Kd.R k28 28 (w.alloc (.cells #[.int .i8 x.f0, .string x.f1.f0, .int .i8 x.f1.f1.f0, .int .i64 x.f1.f1.f1, .string x.f1.f1.f2, .slice A x.f2.length c] 31 (0, 0))) w0.heap.size (fun k => (P0 k ∨ w.heap.size ≤ k) ∧ k ≠ w.heap.size) u l0) :=
  Lib.hid (Kd.R_mono (Kd.R_grown (Kd.R_bound hO) (World.grownBy_alloc w _ none) (by simp)) (fun k hk => ⟨.inl hk.1, by have := hk.2.2.1; omega⟩))
 have HP := Lib.hid hO.1
 have HBa := Lib.hid (xab hB (.cells #[.int .i8 x.f0, .string x.f1.f0, .int .i8 x.f1.f1.f0, .int .i64 x.f1.f1.f1, .string x.f1.f1.f2, .slice A x.f2.length c] 31 (0, 0)))
 have HK := Lib.hid (Kept.alloc (Kept.refl w P0) (.cells #[.int .i8 x.f0, .string x.f1.f0, .int .i8 x.f1.f1.f0, .int .i64 x.f1.f1.f1, .string x.f1.f1.f2, .slice A x.f2.length c] 31 (0, 0)))
 have HBK := Lib.hid (xaz w (.cells #[.int .i8 x.f0, .string x.f1.f0, .int .i8 x.f1.f1.f0, .int .i64 x.f1.f1.f1, .string x.f1.f1.f2, .slice A x.f2.length c] 31 (0, 0)))
 have HSZ := Lib.hid (show (w.alloc (.cells #[.int .i8 x.f0, .string x.f1.f0, .int .i8 x.f1.f1.f0, .int .i64 x.f1.f1.f1, .string x.f1.f1.f2, .slice A x.f2.length c] 31 (0, 0))).heap.size = w.heap.size + 1 by simp)
 clear hB hO hr hlen
 go_enter Tryd.func57, Tryd.ntmps57
 go_wp2_with (at_builtin; go_loud (refine Kd.R_append k28 (w0 := w0) (W := w.alloc (.cells #[.int .i8 x.f0, .string x.f1.f0, .int .i8 x.f1.f1.f0, .int .i64 x.f1.f1.f1, .string x.f1.f1.f2, .slice A x.f2.length c] 31 (0, 0))) w0.heap.size rfl (.tmp 6) (.tmp 9) 51 28 (.agg #[(.string ⟨#[]⟩), (.int .i8 0), (.int .i64 0), (.string ⟨#[]⟩)]) 48 rfl Tryd.underlying51 info28 rfl (by decide) (by decide) u l0 x.f1 [.string x.f1.f0, .int .i8 x.f1.f1.f0, .int .i64 x.f1.f1.f1, .string x.f1.f1.f2] (fun k => (P0 k ∨ w.heap.size ≤ k) ∧ k ≠ w.heap.size) (fun _ => False) rfl (by rw [HSZ.out]; rfl) (k28_mkM _ _ _ x.f1) (fun _ h => h.elim) (fun k hk => by rw [HSZ.out] at hk; exact ⟨.inr (by omega), by omega⟩) HO.out HBa.out HBa.out.size (by omega) ?_); intro v1 w1 hR hB1 hG _; have HI := Lib.hid (show ETI w0 w w1 P0 #[.int .i8 x.f0, .string x.f1.f0, .int .i8 x.f1.f1.f0, .int .i64 x.f1.f1.f1, .string x.f1.f1.f2, .slice A x.f2.length c] v1 (l0 ++ [x.f1]) from ⟨hR, hB1, Kept.of_grown hG HK.out (fun k hk => .inl (HP.out k hk)), xbf HBK.out hG (Kd.R_ne HO.out HBK.out (by decide))⟩); clear hR hB1 hG)
 go_loopw [0, 5] (fun v i wr => ∃ k : Nat, k ≤ x.f2.length ∧ i = .int .i64 k ∧ Hid (ETI w0 w wr P0 #[.int .i8 x.f0, .string x.f1.f0, .int .i8 x.f1.f1.f0, .int .i64 x.f1.f1.f1, .string x.f1.f1.f2, .slice A x.f2.length c] v (l0 ++ [x.f1] ++ kidsTermsL (x.f2.take k)))) (fun _ i _ => x.f2.length - (intOf i).toNat)
 case atStart => exact ⟨0, Nat.zero_le _, rfl, Lib.hid (by rw [List.take_zero, kidsTermsL, List.append_nil]; exact HI.out)⟩
 case round =>
  clear HI HO HBa HK HBK
  obtain ⟨k, hk, rfl, HI⟩ := hrel
  have hb5 : wr.cell? ⟨w.heap.size, 5, none⟩ = some (.slice A x.f2.length c) := (xae HI.out.box 5).trans rfl
  by_cases hlt : k < x.f2.length
  ·obtain ⟨ad, A5, c5, e0, hne, hltb, hE, hF⟩ := kid_kept HR.out k hlt
   subst e0
   have hEr : ∀ {a : Addr} {u : Value}, w.cell? a = some u → a.block = ad.block → wr.cell? a = some u := fun {a u} hcell ha => cell_kept hcell HI.out.kept (by rw [ha]; exact hne)
   have hab := add_block ad (k * 6)
   have g0 := hEr hE.c0 hab
   have g1 := hEr hE.ct.c0 hab
   have g2 := hEr hE.ct.c1 hab
   have g3 := hEr hE.ct.c2 hab
   have g4 := hEr hE.ct.c3 hab
   have g5 := hEr hE.c5 hab
   have HF := Lib.hid (fun W_ (hk : Kept wr W_ (fun k => (P0 k ∨ w.heap.size ≤ k) ∧ k ≠ w.heap.size)) => hF W_ (HI.out.kept.then_ hk (fun k h => h.1)))
   have HL := Lib.hid hE.hl
   have HS := Lib.hid (kidsTermsL_take x.f2 k hlt)
   have HZ := Lib.hid (show SizeOf.sizeOf (x.f2.getD k z31) < n by have := sizeOf_getD x.f2 k hlt; have := sizeOf_kids x; omega)
   have HQ := Lib.hid (show (l0 ++ [x.f1] ++ kidsTermsL (x.f2.take k)).length + (exprTermsL (x.f2.getD k z31)).length < 2000000000000 by
    have := congrArg List.length (kids_parts x.f2 k hlt)
    simp only [List.length_append, List.length_singleton] at this ⊢
    omega)
   have HRD : Hid (rd_T31 x.f2 k = x.f2.getD k z31) := Lib.hid rfl
   rw [← HRD.out] at HS HZ HQ
   clear hEr hab hne hltb hE hF
   generalize rd_T31 x.f2 k = y at *
   clear HRD
   go_wp2_with fail
   refine (ih.out _ _ _ y A5 c5 w0 wr HZ.out HI.out.below HI.out.row HF.out HL.out HQ.out).mono ?_
   rintro e w2 ⟨v2, rfl, hR2, hB2, hK2⟩
   have HI2 : Hid (ETI w0 w w2 P0 #[.int .i8 x.f0, .string x.f1.f0, .int .i8 x.f1.f1.f0, .int .i64 x.f1.f1.f1, .string x.f1.f1.f2, .slice (some ad) x.f2.length c] v2 (l0 ++ [x.f1] ++ kidsTermsL (x.f2.take (k + 1)))) := Lib.hid ⟨by
     rw [HS.out, ← List.append_assoc]
     exact Kd.R_mono hR2 (fun k h => h.elim id (fun h => ⟨.inr (Nat.le_trans HI.out.kept.1 h), by have := blk_lt HI.out.box; omega⟩)), hB2, HI.out.kept.then_ hK2 (fun k h => h.1), blk_kept HI.out.box hK2 (fun h => h.2 rfl)⟩
   clear hR2 hB2 hK2 HI g0 g1 g2 g3 g4 g5
   go_wp2_with fail
   go_roundw
   case rel => exact ⟨k + 1, by omega, by go_num, HI2⟩
   case measure => simp [intOf]; omega
  ·go_wp2_with fail
   go_ret
   have HI' := HI.out
   rw [List.take_of_length_le (by omega)] at HI'
   exact ⟨_, rfl, by rw [HE.out]; have := Kd.R_mono HI'.row (fun k h => h.1); simpa using this, HI'.below, HI'.kept⟩
theorem exprTerms_all : ∀ n, ExprTermsAt n
 | 0 => fun _ _ _ _ _ _ _ _ hn => absurd hn (Nat.not_lt_zero _)
 | n + 1 => exprTerms_step n (Lib.hid (exprTerms_all n))
def r4_exprTerms.f (l0 : List (S28)) (a1_0 : Int) (a1_1 : ByteArray) (a1_2 : Int) (a1_3 : Int) (a1_4 : ByteArray) (l1_5 : List (S31)) : Option ((List (S28))) := let x : S31 := ⟨a1_0, ⟨a1_1, ⟨a1_2, a1_3, a1_4⟩⟩, l1_5⟩; if l0.length + (exprTermsL x).length < 2000000000000 then some (l0 ++ exprTermsL x) else none
theorem r4_exprTerms.calls (P0_ : Nat → Prop) (u9000_ : Value) (l0 : List (S28)) (a1_0 : Int) (a1_1 : ByteArray) (a1_2 : Int) (a1_3 : Int) (a1_4 : ByteArray) (A1_5 : Option Addr) (c1_5 : Nat) (l1_5 : List (S31)) (r : List (S28)) (w0 w : World) (hB : Below w0.heap.size w0 w) (ho0 : Kd.R k28 28 w w0.heap.size P0_ u9000_ l0) (hr1_5 : ∀ W_, Kept w W_ (fun k_ => P0_ k_) → Kd.C k31 W_ A1_5 l1_5.length l1_5) (hc1_5 : l1_5.length ≤ c1_5) (h : r4_exprTerms.f l0 a1_0 a1_1 a1_2 a1_3 a1_4 l1_5 = some r) :
  Calls Tryd.prog 57 #[u9000_, .agg #[.int .i8 a1_0, .string a1_1, .int .i8 a1_2, .int .i64 a1_3, .string a1_4, .slice A1_5 l1_5.length c1_5]] w fun e w' => ∃ v0_ : Value, e = .returned (v0_) ∧ Kd.R k28 28 w' w0.heap.size (fun k_ => (P0_ k_ ∨ w.heap.size ≤ k_)) v0_ r ∧ Below w0.heap.size w0 w' ∧ Kept w w' (fun k_ => P0_ k_) := by
 unfold r4_exprTerms.f at h
 dsimp only at h
 split at h
 ·rename_i hl
  obtain rfl := Option.some.inj h
  exact exprTerms_all _ P0_ u9000_ l0 ⟨a1_0, ⟨a1_1, ⟨a1_2, a1_3, a1_4⟩⟩, l1_5⟩ A1_5 c1_5 w0 w (Nat.lt_succ_self _) hB ho0 hr1_5 hc1_5 hl
 ·cases h
def w1_SameTexts.l0 : Nat → List ByteArray → List ByteArray → Int → Option (Bool)
 | 0, _, _, _ => none
 | k + 1, x0, x1, x5 => if x5 < (x0.length : Int) then (if 0 ≤ x5 then (if x5 < (x1.length : Int) then (if (rdOf ByteArray.empty x0 x5).toList = (rdOf ByteArray.empty x1 x5).toList then (w1_SameTexts.l0 k x0 x1 (wrap64 (x5 + 1))) else (some false)) else (none)) else (none)) else (some true)
def w1_SameTexts.f (k : Nat) (l0 : List ByteArray) (l1 : List ByteArray) : Option (Bool) := if (l0.length : Int) = (l1.length : Int) then (w1_SameTexts.l0 k l0 l1 0) else (some false)
set_option maxHeartbeats 8000000 in
set_option maxRecDepth 100000 in
theorem w1_SameTexts.calls (k : Nat) (A0 : Option Addr) (c0 : Nat) (l0 : List ByteArray) (A1 : Option Addr) (c1 : Nat) (l1 : List ByteArray) (r : Bool) (w : World) (hr0 : Kd.C Kd.string w A0 l0.length l0) (hc0 : l0.length ≤ c0) (hr1 : Kd.C Kd.string w A1 l1.length l1) (hc1 : l1.length ≤ c1) (h : w1_SameTexts.f k l0 l1 = some r) :
  Calls Tryd.prog 22 #[.slice A0 l0.length c0, .slice A1 l1.length c1] w fun e w' => e = .returned (.bool r) ∧ Drawn0 w w' := by
 have HR0 := Aside0.mk hr0
 have HC0 := Aside0.mk hc0
 clear hr0 hc0
 have HR1 := Aside0.mk hr1
 have HC1 := Aside0.mk hc1
 clear hr1 hc1
 have H : (if (l0.length : Int) = (l1.length : Int) then (w1_SameTexts.l0 k l0 l1 0) else (some false)) = some r := h
 clear h
 by_cases c3 : (l0.length : Int) = (l1.length : Int)
 ·rw [if_pos c3] at H
  have c3b0 : ((l0.length : Int) == (l1.length : Int)) = true := beq_iff_eq.mpr c3
  have c3b1 : ((l0.length : Int) != (l1.length : Int)) = false := bne_eq_false_iff_eq.mpr c3
  have c3b2 : (l0.length == l1.length) = true := by first | simpa using c3 | (simp at c3 ⊢; omega)
  clear c3
  have H' := Aside0.mk H
  clear H
  go_enter Tryd.func22, Tryd.ntmps22
  go_wp2
  repeat (go_quiet (fail); try go_wp2)
  go_loopg [5] k (fun kq v5 w' => ∃ (x5_1 : Int), v5 = .int .i64 x5_1 ∧ Aside0 (w1_SameTexts.l0 kq l0 l1 x5_1 = some r) ∧ Aside0 (kq ≤ k) ∧ Drawn0 w w')
  case atStart => exact ⟨(0), (by first | rfl | (simp; done) | (simp [*]; done)), H', ⟨Nat.le_refl _⟩, by repeat (first | exact Drawn0.refl _ | apply Drawn0.step)⟩
  case round =>
   clear H'
   try clear c1
   try clear c2
   try clear p2
   try clear c3
   try clear c3b0
   try clear c3b1
   try clear c3b2
   obtain ⟨x5_1, rfl, HA, HK1, ⟨m1, rfl⟩⟩ := hrel
   cases gk with
   | zero => exact absurd HA.out (by simp [w1_SameTexts.l0])
   | succ k1 =>
    have H := HA.out
    clear HA
    simp only [w1_SameTexts.l0] at H
    by_cases c4 : x5_1 < (l0.length : Int)
    ·rw [if_pos c4] at H
     have c4b0 : decide (x5_1 < (l0.length : Int)) = true := decide_eq_true c4
     clear c4
     by_cases c5 : 0 ≤ x5_1
     ·rw [if_pos c5] at H
      have c5b0 : decide (0 ≤ x5_1) = true := decide_eq_true c5
      clear c5
      by_cases c6 : x5_1 < (l1.length : Int)
      ·rw [if_pos c6] at H
       have c6b0 : decide (x5_1 < (l1.length : Int)) = true := decide_eq_true c6
       clear c6
       by_cases c7 : (rdOf ByteArray.empty l0 x5_1).toList = (rdOf ByteArray.empty l1 x5_1).toList
       ·rw [if_pos c7] at H
        have c7b0 : ((rdOf ByteArray.empty l0 x5_1).toList == (rdOf ByteArray.empty l1 x5_1).toList) = true := beq_iff_eq.mpr c7
        have c7b1 : ((rdOf ByteArray.empty l0 x5_1).toList != (rdOf ByteArray.empty l1 x5_1).toList) = false := bne_eq_false_iff_eq.mpr c7
        clear c7
        have H' := Aside0.mk H
        clear H
        have p294 : 0 ≤ (x5_1 : Int) := of_decide_eq_true (by first | (with_reducible assumption) | assumption)
        have q294 : x5_1 < (l0.length : Int) := of_decide_eq_true (by first | (with_reducible assumption) | assumption)
        obtain ⟨ad294, e294, hx294_0⟩ := Kd.at_string HR0.out x5_1 p294 q294
        cases e294
        replace p294 := eq_true p294
        replace q294 := eq_true q294
        have p295 : 0 ≤ (x5_1 : Int) := of_decide_eq_true (by first | (with_reducible assumption) | assumption)
        have q295 : x5_1 < (l1.length : Int) := of_decide_eq_true (by first | (with_reducible assumption) | assumption)
        obtain ⟨ad295, e295, hx295_0⟩ := Kd.at_string HR1.out x5_1 p295 q295
        cases e295
        replace p295 := eq_true p295
        replace q295 := eq_true q295
        go_wp2
        repeat (go_quiet (fail); try go_wp2)
        go_roundg k1
        case measure => have := HK1.out; omega
        case rel => exact ⟨(wrap64 (x5_1 + 1)), (by first | rfl | (simp; done) | (simp [*]; done)), H', ⟨by have := HK1.out; omega⟩, by repeat (first | exact Drawn0.refl _ | apply Drawn0.step)⟩
       ·rw [if_neg c7] at H
        have c7b0 : ((rdOf ByteArray.empty l0 x5_1).toList == (rdOf ByteArray.empty l1 x5_1).toList) = false := beq_eq_false_iff_ne.mpr c7
        have c7b1 : ((rdOf ByteArray.empty l0 x5_1).toList != (rdOf ByteArray.empty l1 x5_1).toList) = true := bne_iff_ne.mpr c7
        obtain rfl := Option.some.inj H
        have p294 : 0 ≤ (x5_1 : Int) := of_decide_eq_true (by first | (with_reducible assumption) | assumption)
        have q294 : x5_1 < (l0.length : Int) := of_decide_eq_true (by first | (with_reducible assumption) | assumption)
        obtain ⟨ad294, e294, hx294_0⟩ := Kd.at_string HR0.out x5_1 p294 q294
        cases e294
        replace p294 := eq_true p294
        replace q294 := eq_true q294
        have p295 : 0 ≤ (x5_1 : Int) := of_decide_eq_true (by first | (with_reducible assumption) | assumption)
        have q295 : x5_1 < (l1.length : Int) := of_decide_eq_true (by first | (with_reducible assumption) | assumption)
        obtain ⟨ad295, e295, hx295_0⟩ := Kd.at_string HR1.out x5_1 p295 q295
        cases e295
        replace p295 := eq_true p295
        replace q295 := eq_true q295
        go_wp2
        repeat (go_quiet (fail); try go_wp2)
        go_ret
        exact ⟨by first | rfl | (simp; done) | (simp [*]; done), by repeat (first | exact Drawn0.refl _ | apply Drawn0.step)⟩
      ·rw [if_neg c6] at H
       exact absurd H (by simp)
     ·rw [if_neg c5] at H
      exact absurd H (by simp)
    ·rw [if_neg c4] at H
     have c4b0 : decide (x5_1 < (l0.length : Int)) = false := decide_eq_false c4
     clear c4
     obtain rfl := Option.some.inj H
     go_wp2
     repeat (go_quiet (fail); try go_wp2)
     go_ret
     exact ⟨by first | rfl | (simp; done) | (simp [*]; done), by repeat (first | exact Drawn0.refl _ | apply Drawn0.step)⟩
 ·rw [if_neg c3] at H
  have c3b0 : ((l0.length : Int) == (l1.length : Int)) = false := beq_eq_false_iff_ne.mpr c3
  have c3b1 : ((l0.length : Int) != (l1.length : Int)) = true := bne_iff_ne.mpr c3
  have c3b2 : (l0.length == l1.length) = false := by first | simpa using c3 | (simp at c3 ⊢; omega)
  obtain rfl := Option.some.inj H
  go_enter Tryd.func22, Tryd.ntmps22
  go_wp2
  repeat (go_quiet (fail); try go_wp2)
  go_ret
  exact ⟨by first | rfl | (simp; done) | (simp [*]; done), by repeat (first | exact Drawn0.refl _ | apply Drawn0.step)⟩
def varStep (L : List ByteArray) (x : S28) : List ByteArray := if x.f0.toList = [] ∨ x.f0.toList = [95] ∨ L.any (fun y => y.data.toList == x.f0.data.toList) = true then L else L ++ [x.f0]
def placeOf (L : List ByteArray) (q : List UInt8) : Option Value := (L.findIdx? (fun y => y.data.toList == q)).map fun i => .int .i64 ((i : Int) + 1)
structure VS (w0 : World) (L M : List ByteArray) (v u : Value) (w : World) : Prop where
 below : Below w0.heap.size w0 w
 bt : w.heap[w0.heap.size + 2]? = some (.cells #[.map (some (w0.heap.size + 1))] 154 (0, 0))
 sm : SMap Tryd.prog 9 w (w0.heap.size + 1) M.length (placeOf M)
 bl : w.heap[w0.heap.size]? = some (.cells #[v] 39 (0, 0))
 row : Kd.string.R 9 w w0.heap.size (fun _ => True) u L
structure VarsI (w0 : World) (L : List ByteArray) (w : World) : Prop where
 sizes : ∀ y ∈ L, y.size ≤ 140737488351232
 len : L.length ≤ 4294967296
 vs : ∃ v, VS w0 L L v v w
theorem VS.alloc {w0 : World} {L M : List ByteArray} {v u : Value} {w : World} (h : VS w0 L M v u w) (o : Obj) : VS w0 L M v u (w.alloc o) :=
 ⟨xab h.below o, xaf h.bt o, h.sm.kept (World.grownBy_alloc w o none) (by simp), xaf h.bl o, Kd.R_grown h.row (World.grownBy_alloc w o none) (by simp)⟩
theorem VS.drew {w0 : World} {L M : List ByteArray} {v u : Value} {w : World} (h : VS w0 L M v u w) : VS w0 L M v u w.drew :=
 ⟨xbl h.below, h.bt, h.sm.move rfl, h.bl, Kd.R_move h.row (fun _ _ => rfl)⟩
theorem VS.ne {w0 : World} {L M : List ByteArray} {v u : Value} {w : World} (h : VS w0 L M v u w) : some w0.heap.size ≠ u.ownBlock ∧ some (w0.heap.size + 1) ≠ u.ownBlock ∧ some (w0.heap.size + 2) ≠ u.ownBlock := by
 refine ⟨Kd.R_ne h.row h.bl (by decide), ?_, Kd.R_ne h.row h.bt (by decide)⟩
 intro e
 obtain ⟨es, clock, hm⟩ := h.sm.block
 obtain ⟨inner, ho⟩ := Kd.R_own h.row
 obtain ⟨cells, hc⟩ := own_typed ho _ e.symm
 rw [hm] at hc
 cases hc
theorem VS.appended {w0 : World} {L M : List ByteArray} {v u : Value} {W w1 : World} (h : VS w0 L M v u W) (s : ByteArray) {u1 : Value} (hR : Kd.string.R 9 w1 w0.heap.size (fun _ => True) u1 (L ++ [s])) (hB : Below w0.heap.size w0 w1) (hG : W.grownBy w1 u.ownBlock) : VS w0 (L ++ [s]) M v u1 w1 :=
 ⟨hB, xbf h.bt hG h.ne.2.2, h.sm.kept hG h.ne.2.1, xbf h.bl hG h.ne.1, hR⟩
theorem VS.stored {w0 : World} {L M : List ByteArray} {v u : Value} {w : World} (h : VS w0 L M v u w) : VS w0 L M u u (w.setCell ⟨w0.heap.size, 0, none⟩ u) :=
 ⟨xad h.below (Nat.le_refl _), xax h.bt (by simp) _, h.sm.move (Below.heap_setCell w ⟨w0.heap.size, 0, none⟩ u _ (by simp)), by have := blk_set h.bl 0 u; simpa using this, Kd.R_set h.row h.bl (by intro q hq; simp [Kd.string, Kd.scalar] at hq; subst hq; decide) 0 u⟩
theorem VS.mapped {w0 : World} {L M M' : List ByteArray} {v u : Value} {w w1 : World} (h : VS w0 L M v u w) (hS : SMap Tryd.prog 9 w1 (w0.heap.size + 1) M'.length (placeOf M')) (hG : w.grownBy w1 (some (w0.heap.size + 1))) : VS w0 L M' v u w1 :=
 ⟨h.below.grown hG h.below.size (by simp), xbf h.bt hG (by simp), hS, xbf h.bl hG (by simp), Kd.R_mono (Kd.R_grown (Kd.R_bound h.row) hG (fun k hk e => by
  obtain ⟨es, clock, hm⟩ := h.sm.block
  obtain ⟨_, _, _, q, _, cells, hc⟩ := hk
  obtain rfl := Option.some.inj e
  rw [hm] at hc
  cases hc)) (fun _ hk => hk.1)⟩
theorem placeOf_some (L : List ByteArray) (q : List UInt8) (h : L.any (fun y => y.data.toList == q) = true) : ∃ i : Nat, placeOf L q = some (.int .i64 ((i : Int) + 1)) ∧ i < L.length := by
 unfold placeOf
 rw [List.any_eq_true] at h
 obtain ⟨y, hy, hq⟩ := h
 cases hf : L.findIdx? (fun y => y.data.toList == q) with
 | none => rw [List.findIdx?_eq_none_iff] at hf; rw [hf y hy] at hq; cases hq
 | some i => exact ⟨i, rfl, by have := List.findIdx?_eq_some_iff_getElem.mp hf; exact this.1⟩
theorem placeOf_none (L : List ByteArray) (q : List UInt8) (h : L.any (fun y => y.data.toList == q) = false) : placeOf L q = none := by
 unfold placeOf
 rw [List.any_eq_false] at h
 rw [List.findIdx?_eq_none_iff.mpr (fun y hy => by simpa using h y hy)]
 rfl
theorem placeOf_snoc (L : List ByteArray) (x : ByteArray) (h : L.any (fun y => y.data.toList == x.data.toList) = false) : (fun q => if q = x.data.toList then some (.int .i64 ((L.length : Int) + 1)) else placeOf L q) = placeOf (L ++ [x]) := by
 funext q
 unfold placeOf
 rw [List.findIdx?_append]
 by_cases hq : q = x.data.toList
 ·subst hq
  have : L.findIdx? (fun y => y.data.toList == x.data.toList) = none := List.findIdx?_eq_none_iff.mpr (fun y hy => by have := List.any_eq_false.mp h y hy; simpa using this)
  rw [this]
  simp [List.findIdx?_cons]
 ·rw [if_neg hq]
  have : (x.data.toList == q) = false := by rw [beq_eq_false_iff_ne]; exact fun e => hq e.symm
  cases L.findIdx? (fun y => y.data.toList == q) <;> simp [List.findIdx?_cons, this]
end Go.Proofs.YtllcmggmcogokaaDoor.PAll
end
