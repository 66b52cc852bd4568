/- Contracts of functions of the program. No condition beyond the hypotheses that each theorem names. -/
import Derived.Test.YtdcinhpdpoodfaaGreatPFnExactFinishedx0
import Derived.Test.YtdcinhpdpoodfaaGreatPFnExactFinishedx3
namespace Go.Proofs.YtdcinhpdpoodfaaGreat.PFnExactFinished
open Go.RowKit Go.Proofs.YtdcinhpdpoodfaaGreatW.PrintWords Go.Proofs.YtdcinhpdpoodfaaGreatW.PrintLast Go.Proofs.YtdcinhpdpoodfaaGreatW.PrintMore
attribute [local go_sem] max2_int min2_int max_two min_two max_three min_three max_four min_four
set_option linter.unusedVariables false
set_option linter.unusedSimpArgs false
def spec_l9Call.f (k : Nat) (l0_0 : List (S39)) (l0_1 : List (S52)) (l0_2 : List (S62)) (a0_3 : Int) (l0_4 : List (S147)) (l0_5 : List Int) (l0_6 : List Int) (a0_7 : Int) (a1_0 : Int) (a1_1 : Int) (a1_2 : Int) (a1_3 : Int) (a1_4 : Int) (a1_5 : Int) (a1_6 : Int) (a1_7 : Int) (l1_8 : List Int) : Option (Bool) := (spec_l1In.f a1_0 0 (wrap64 ((l0_2.length : Int) - 1))).bind fun t194 => (if t194 = true then ((spec_OpOk.f k a1_1 a1_2 a1_3).bind fun t195 => (if t195 = true then ((spec_l1In.f a1_4 0 a0_3).bind fun t196 => (if t196 = true then (if a1_5 = (-1) then (if a1_6 = (-1) then (some true) else ((spec_l1In.f a1_6 a1_4 a0_3).bind fun t197 => (some t197))) else ((spec_l1In.f a1_5 a1_4 a0_3).bind fun t198 => (if t198 = true then (if a1_6 = (-1) then (some true) else ((spec_l1In.f a1_6 a1_4 a0_3).bind fun t199 => (some t199))) else (some false)))) else (some false))) else (some false))) else (some false))
set_option maxHeartbeats 8000000 in
set_option maxRecDepth 100000 in
theorem spec_l9Call.calls (k : Nat) (A0_0 : Option Addr) (c0_0 : Nat) (l0_0 : List (S39)) (A0_1 : Option Addr) (c0_1 : Nat) (l0_1 : List (S52)) (A0_2 : Option Addr) (c0_2 : Nat) (l0_2 : List (S62)) (a0_3 : Int) (A0_4 : Option Addr) (c0_4 : Nat) (l0_4 : List (S147)) (A0_5 : Option Addr) (c0_5 : Nat) (l0_5 : List Int) (A0_6 : Option Addr) (c0_6 : Nat) (l0_6 : List Int) (a0_7 : Int) (a1_0 : Int) (a1_1 : Int) (a1_2 : Int) (a1_3 : Int) (a1_4 : Int) (a1_5 : Int) (a1_6 : Int) (a1_7 : Int) (A1_8 : Option Addr) (c1_8 : Nat) (l1_8 : List Int) (r : Bool) (w : World) (hr0_0 : Kd.C k39 w A0_0 l0_0.length l0_0) (hc0_0 : l0_0.length ≤ c0_0) (hr0_1 : Kd.C k52 w A0_1 l0_1.length l0_1) (hc0_1 : l0_1.length ≤ c0_1) (hr0_2 : Kd.C k62 w A0_2 l0_2.length l0_2) (hc0_2 : l0_2.length ≤ c0_2) (hr0_4 : Kd.C k147 w A0_4 l0_4.length l0_4) (hc0_4 : l0_4.length ≤ c0_4) (hr0_5 : Kd.C (Kd.int .i64) w A0_5 l0_5.length l0_5) (hc0_5 : l0_5.length ≤ c0_5) (hr0_6 : Kd.C (Kd.int .i64) w A0_6 l0_6.length l0_6) (hc0_6 : l0_6.length ≤ c0_6) (hr1_8 : Kd.C (Kd.int .i64) w A1_8 l1_8.length l1_8) (hc1_8 : l1_8.length ≤ c1_8) (h : spec_l9Call.f k l0_0 l0_1 l0_2 a0_3 l0_4 l0_5 l0_6 a0_7 a1_0 a1_1 a1_2 a1_3 a1_4 a1_5 a1_6 a1_7 l1_8 = some r) :
    Calls Tryz.prog 154 #[.agg #[.slice A0_0 l0_0.length c0_0, .slice A0_1 l0_1.length c0_1, .slice A0_2 l0_2.length c0_2, .int .i64 a0_3, .slice A0_4 l0_4.length c0_4, .slice A0_5 l0_5.length c0_5, .slice A0_6 l0_6.length c0_6, .int .i64 a0_7], .agg #[.int .i64 a1_0, .int .i64 a1_1, .int .i64 a1_2, .int .i64 a1_3, .int .i64 a1_4, .int .i64 a1_5, .int .i64 a1_6, .int .i64 a1_7, .slice A1_8 l1_8.length c1_8]] w fun e w' => e = .returned (.bool r) ∧ Below w.heap.size w w' := by
 have hu93 := Tryz.underlying93
 have hu147 := Tryz.underlying147
 have hu122 := Tryz.underlying122
 have HR0_0 := A_ hr0_0
 have HC0_0 := A_ hc0_0
 clear hr0_0 hc0_0
 have HR0_1 := A_ hr0_1
 have HC0_1 := A_ hc0_1
 clear hr0_1 hc0_1
 have HR0_2 := A_ hr0_2
 have HC0_2 := A_ hc0_2
 clear hr0_2 hc0_2
 have HR0_4 := A_ hr0_4
 have HC0_4 := A_ hc0_4
 clear hr0_4 hc0_4
 have HR0_5 := A_ hr0_5
 have HC0_5 := A_ hc0_5
 clear hr0_5 hc0_5
 have HR0_6 := A_ hr0_6
 have HC0_6 := A_ hc0_6
 clear hr0_6 hc0_6
 have HR1_8 := A_ hr1_8
 have HC1_8 := A_ hc1_8
 clear hr1_8 hc1_8
 have HB := A_ (Below.refl w.heap.size w)
 have H : ((spec_l1In.f a1_0 0 (wrap64 ((l0_2.length : Int) - 1))).bind fun t194 => (if t194 = true then ((spec_OpOk.f k a1_1 a1_2 a1_3).bind fun t195 => (if t195 = true then ((spec_l1In.f a1_4 0 a0_3).bind fun t196 => (if t196 = true then (if a1_5 = (-1) then (if a1_6 = (-1) then (some true) else ((spec_l1In.f a1_6 a1_4 a0_3).bind fun t197 => (some t197))) else ((spec_l1In.f a1_5 a1_4 a0_3).bind fun t198 => (if t198 = true then (if a1_6 = (-1) then (some true) else ((spec_l1In.f a1_6 a1_4 a0_3).bind fun t199 => (some t199))) else (some false)))) else (some false))) else (some false))) else (some false))) = some r := h
 clear h
 replace H := bs_ H
 obtain ⟨t194, A3, H⟩ := H
 by_cases c4 : t194 = true
 ·
  subst c4
  replace H := it_ H
  replace H := bs_ H
  obtain ⟨t195, A5, H⟩ := H
  by_cases c6 : t195 = true
  ·
   subst c6
   replace H := it_ H
   replace H := bs_ H
   obtain ⟨t196, A7, H⟩ := H
   by_cases c8 : t196 = true
   ·
    subst c8
    replace H := it_ H
    by_cases c9 : a1_5 = (-1)
    ·
     rw [if_pos c9] at H
     have c9b0 : (a1_5 == (-1)) = true := beq_iff_eq.mpr c9
     have c9b1 : (a1_5 != (-1)) = false := bne_eq_false_iff_eq.mpr c9
     clear c9
     by_cases c10 : a1_6 = (-1)
     ·
      rw [if_pos c10] at H
      have c10b0 : (a1_6 == (-1)) = true := beq_iff_eq.mpr c10
      have c10b1 : (a1_6 != (-1)) = false := bne_eq_false_iff_eq.mpr c10
      clear c10
      obtain rfl := Option.some.inj H
      go_enter Tryz.func154, Tryz.ntmps154
      go_wp2_with (first | ((with_reducible refine gate_dst (N := 2) rfl ?_); refine Y51_ ?_; clear HB; intro gb192 w11 BK192 GW192 HB) | ((with_reducible refine gate_dst (N := 3) rfl ?_); refine Y52_ ?_; clear HB BK192; intro gb193 w12 BK193 GW193 HB NB192_193 NB193_192 BK192 hnb13 hnc13 z14_0 z14_1 z14_2 z14_3 z14_4 z14_5 z14_6 z14_7 z14_8 y14_0 y14_1 y14_2 y14_3 y14_4 y14_5 y14_6 y14_7 y14_8 z15_0 z15_1 z15_2 z15_3 z15_4 z15_5 z15_6 z15_7 y15_0 y15_1 y15_2 y15_3 y15_4 y15_5 y15_6 y15_7) | ((with_reducible refine gate_callee (f := 70) rfl ?_); refine Y53_ ?_; intro nd) | (go_at_call 95; refine Y54_ ?_; clear BK192 BK193 HB; intro w16 BK192 BK193 HB z17_0 z17_1 z17_2 z17_3 z17_4 z17_5 z17_6 z17_7 z17_8 y17_0 y17_1 y17_2 y17_3 y17_4 y17_5 y17_6 y17_7 y17_8 z18_0 z18_1 z18_2 z18_3 z18_4 z18_5 z18_6 z18_7 y18_0 y18_1 y18_2 y18_3 y18_4 y18_5 y18_6 y18_7) | (go_at_call 70; refine Y55_ ?_; intro nd))
      go_ret
      exact ⟨rs_, hb_ HB⟩
     rw [if_neg c10] at H
     have c10b0 : (a1_6 == (-1)) = false := beq_eq_false_iff_ne.mpr c10
     have c10b1 : (a1_6 != (-1)) = true := bne_iff_ne.mpr c10
     replace H := bs_ H
     obtain ⟨t197, A19, H⟩ := H
     obtain rfl := Option.some.inj H
     go_enter Tryz.func154, Tryz.ntmps154
     go_wp2_with (first | ((with_reducible refine gate_dst (N := 2) rfl ?_); refine Y51_ ?_; clear HB; intro gb192 w20 BK192 GW192 HB) | ((with_reducible refine gate_dst (N := 3) rfl ?_); refine Y52_ ?_; clear HB BK192; intro gb193 w21 BK193 GW193 HB NB192_193 NB193_192 BK192 hnb22 hnc22 z23_0 z23_1 z23_2 z23_3 z23_4 z23_5 z23_6 z23_7 z23_8 y23_0 y23_1 y23_2 y23_3 y23_4 y23_5 y23_6 y23_7 y23_8 z24_0 z24_1 z24_2 z24_3 z24_4 z24_5 z24_6 z24_7 y24_0 y24_1 y24_2 y24_3 y24_4 y24_5 y24_6 y24_7) | ((with_reducible refine gate_callee (f := 70) rfl ?_); refine Y53_ ?_; intro nd) | (go_at_call 95; refine Y54_ ?_; clear BK192 BK193 HB; intro w25 BK192 BK193 HB z26_0 z26_1 z26_2 z26_3 z26_4 z26_5 z26_6 z26_7 z26_8 y26_0 y26_1 y26_2 y26_3 y26_4 y26_5 y26_6 y26_7 y26_8 z27_0 z27_1 z27_2 z27_3 z27_4 z27_5 z27_6 z27_7 y27_0 y27_1 y27_2 y27_3 y27_4 y27_5 y27_6 y27_7) | (go_at_call 70; refine Y55_ ?_; intro nd) | (go_at_call 70; (with_reducible refine (spec_l1In.calls a1_6 a1_4 a0_3 t197 _ A19.out).mono ?_); rintro e w' ⟨rfl, ⟨nd, rfl⟩⟩))
     go_ret
     exact ⟨rs_, hb_ HB⟩
    rw [if_neg c9] at H
    have c9b0 : (a1_5 == (-1)) = false := beq_eq_false_iff_ne.mpr c9
    have c9b1 : (a1_5 != (-1)) = true := bne_iff_ne.mpr c9
    replace H := bs_ H
    obtain ⟨t198, A28, H⟩ := H
    by_cases c29 : t198 = true
    ·
     subst c29
     replace H := it_ H
     by_cases c30 : a1_6 = (-1)
     ·
      rw [if_pos c30] at H
      have c30b0 : (a1_6 == (-1)) = true := beq_iff_eq.mpr c30
      have c30b1 : (a1_6 != (-1)) = false := bne_eq_false_iff_eq.mpr c30
      clear c30
      obtain rfl := Option.some.inj H
      go_enter Tryz.func154, Tryz.ntmps154
      go_wp2_with (first | ((with_reducible refine gate_dst (N := 2) rfl ?_); refine Y51_ ?_; clear HB; intro gb192 w31 BK192 GW192 HB) | ((with_reducible refine gate_dst (N := 3) rfl ?_); refine Y52_ ?_; clear HB BK192; intro gb193 w32 BK193 GW193 HB NB192_193 NB193_192 BK192 hnb33 hnc33 z34_0 z34_1 z34_2 z34_3 z34_4 z34_5 z34_6 z34_7 z34_8 y34_0 y34_1 y34_2 y34_3 y34_4 y34_5 y34_6 y34_7 y34_8 z35_0 z35_1 z35_2 z35_3 z35_4 z35_5 z35_6 z35_7 y35_0 y35_1 y35_2 y35_3 y35_4 y35_5 y35_6 y35_7) | ((with_reducible refine gate_callee (f := 70) rfl ?_); refine Y53_ ?_; intro nd) | (go_at_call 95; refine Y54_ ?_; clear BK192 BK193 HB; intro w36 BK192 BK193 HB z37_0 z37_1 z37_2 z37_3 z37_4 z37_5 z37_6 z37_7 z37_8 y37_0 y37_1 y37_2 y37_3 y37_4 y37_5 y37_6 y37_7 y37_8 z38_0 z38_1 z38_2 z38_3 z38_4 z38_5 z38_6 z38_7 y38_0 y38_1 y38_2 y38_3 y38_4 y38_5 y38_6 y38_7) | (go_at_call 70; refine Y55_ ?_; intro nd) | (go_at_call 70; (with_reducible refine (spec_l1In.calls a1_5 a1_4 a0_3 true _ A28.out).mono ?_); rintro e w' ⟨rfl, ⟨nd, rfl⟩⟩))
      go_ret
      exact ⟨rs_, hb_ HB⟩
     rw [if_neg c30] at H
     have c30b0 : (a1_6 == (-1)) = false := beq_eq_false_iff_ne.mpr c30
     have c30b1 : (a1_6 != (-1)) = true := bne_iff_ne.mpr c30
     replace H := bs_ H
     obtain ⟨t199, A39, H⟩ := H
     obtain rfl := Option.some.inj H
     go_enter Tryz.func154, Tryz.ntmps154
     go_wp2_with (first | ((with_reducible refine gate_dst (N := 2) rfl ?_); refine Y51_ ?_; clear HB; intro gb192 w40 BK192 GW192 HB) | ((with_reducible refine gate_dst (N := 3) rfl ?_); refine Y52_ ?_; clear HB BK192; intro gb193 w41 BK193 GW193 HB NB192_193 NB193_192 BK192 hnb42 hnc42 z43_0 z43_1 z43_2 z43_3 z43_4 z43_5 z43_6 z43_7 z43_8 y43_0 y43_1 y43_2 y43_3 y43_4 y43_5 y43_6 y43_7 y43_8 z44_0 z44_1 z44_2 z44_3 z44_4 z44_5 z44_6 z44_7 y44_0 y44_1 y44_2 y44_3 y44_4 y44_5 y44_6 y44_7) | ((with_reducible refine gate_callee (f := 70) rfl ?_); refine Y53_ ?_; intro nd) | (go_at_call 95; refine Y54_ ?_; clear BK192 BK193 HB; intro w45 BK192 BK193 HB z46_0 z46_1 z46_2 z46_3 z46_4 z46_5 z46_6 z46_7 z46_8 y46_0 y46_1 y46_2 y46_3 y46_4 y46_5 y46_6 y46_7 y46_8 z47_0 z47_1 z47_2 z47_3 z47_4 z47_5 z47_6 z47_7 y47_0 y47_1 y47_2 y47_3 y47_4 y47_5 y47_6 y47_7) | (go_at_call 70; refine Y55_ ?_; intro nd) | (go_at_call 70; (with_reducible refine (spec_l1In.calls a1_5 a1_4 a0_3 true _ A28.out).mono ?_); rintro e w' ⟨rfl, ⟨nd, rfl⟩⟩) | (go_at_call 70; (with_reducible refine (spec_l1In.calls a1_6 a1_4 a0_3 t199 _ A39.out).mono ?_); rintro e w' ⟨rfl, ⟨nd, rfl⟩⟩))
     go_ret
     exact ⟨rs_, hb_ HB⟩
    obtain rfl := Bool.eq_false_iff.mpr c29
    replace H := iF_ H
    obtain rfl := Option.some.inj H
    go_enter Tryz.func154, Tryz.ntmps154
    go_wp2_with (first | ((with_reducible refine gate_dst (N := 2) rfl ?_); refine Y51_ ?_; clear HB; intro gb192 w48 BK192 GW192 HB) | ((with_reducible refine gate_dst (N := 3) rfl ?_); refine Y52_ ?_; clear HB BK192; intro gb193 w49 BK193 GW193 HB NB192_193 NB193_192 BK192 hnb50 hnc50 z51_0 z51_1 z51_2 z51_3 z51_4 z51_5 z51_6 z51_7 z51_8 y51_0 y51_1 y51_2 y51_3 y51_4 y51_5 y51_6 y51_7 y51_8 z52_0 z52_1 z52_2 z52_3 z52_4 z52_5 z52_6 z52_7 y52_0 y52_1 y52_2 y52_3 y52_4 y52_5 y52_6 y52_7) | ((with_reducible refine gate_callee (f := 70) rfl ?_); refine Y53_ ?_; intro nd) | (go_at_call 95; refine Y54_ ?_; clear BK192 BK193 HB; intro w53 BK192 BK193 HB z54_0 z54_1 z54_2 z54_3 z54_4 z54_5 z54_6 z54_7 z54_8 y54_0 y54_1 y54_2 y54_3 y54_4 y54_5 y54_6 y54_7 y54_8 z55_0 z55_1 z55_2 z55_3 z55_4 z55_5 z55_6 z55_7 y55_0 y55_1 y55_2 y55_3 y55_4 y55_5 y55_6 y55_7) | (go_at_call 70; refine Y55_ ?_; intro nd) | (go_at_call 70; (with_reducible refine (spec_l1In.calls a1_5 a1_4 a0_3 false _ A28.out).mono ?_); rintro e w' ⟨rfl, ⟨nd, rfl⟩⟩))
    go_ret
    exact ⟨rs_, hb_ HB⟩
   obtain rfl := Bool.eq_false_iff.mpr c8
   replace H := iF_ H
   obtain rfl := Option.some.inj H
   go_enter Tryz.func154, Tryz.ntmps154
   go_wp2_with (first | ((with_reducible refine gate_dst (N := 2) rfl ?_); refine Y51_ ?_; clear HB; intro gb192 w56 BK192 GW192 HB) | ((with_reducible refine gate_dst (N := 3) rfl ?_); refine Y52_ ?_; clear HB BK192; intro gb193 w57 BK193 GW193 HB NB192_193 NB193_192 BK192 hnb58 hnc58 z59_0 z59_1 z59_2 z59_3 z59_4 z59_5 z59_6 z59_7 z59_8 y59_0 y59_1 y59_2 y59_3 y59_4 y59_5 y59_6 y59_7 y59_8 z60_0 z60_1 z60_2 z60_3 z60_4 z60_5 z60_6 z60_7 y60_0 y60_1 y60_2 y60_3 y60_4 y60_5 y60_6 y60_7) | ((with_reducible refine gate_callee (f := 70) rfl ?_); refine Y53_ ?_; intro nd) | (go_at_call 95; refine Y54_ ?_; clear BK192 BK193 HB; intro w61 BK192 BK193 HB z62_0 z62_1 z62_2 z62_3 z62_4 z62_5 z62_6 z62_7 z62_8 y62_0 y62_1 y62_2 y62_3 y62_4 y62_5 y62_6 y62_7 y62_8 z63_0 z63_1 z63_2 z63_3 z63_4 z63_5 z63_6 z63_7 y63_0 y63_1 y63_2 y63_3 y63_4 y63_5 y63_6 y63_7) | (go_at_call 70; (with_reducible refine (spec_l1In.calls a1_4 0 a0_3 false _ A7.out).mono ?_); rintro e w' ⟨rfl, ⟨nd, rfl⟩⟩))
   go_ret
   exact ⟨rs_, hb_ HB⟩
  obtain rfl := Bool.eq_false_iff.mpr c6
  replace H := iF_ H
  obtain rfl := Option.some.inj H
  go_enter Tryz.func154, Tryz.ntmps154
  go_wp2_with (first | ((with_reducible refine gate_dst (N := 2) rfl ?_); refine Y51_ ?_; clear HB; intro gb192 w64 BK192 GW192 HB) | ((with_reducible refine gate_dst (N := 3) rfl ?_); refine Y52_ ?_; clear HB BK192; intro gb193 w65 BK193 GW193 HB NB192_193 NB193_192 BK192 hnb66 hnc66 z67_0 z67_1 z67_2 z67_3 z67_4 z67_5 z67_6 z67_7 z67_8 y67_0 y67_1 y67_2 y67_3 y67_4 y67_5 y67_6 y67_7 y67_8 z68_0 z68_1 z68_2 z68_3 z68_4 z68_5 z68_6 z68_7 y68_0 y68_1 y68_2 y68_3 y68_4 y68_5 y68_6 y68_7) | ((with_reducible refine gate_callee (f := 70) rfl ?_); refine Y53_ ?_; intro nd) | (go_at_call 95; (with_reducible refine (spec_OpOk.calls k a1_1 a1_2 a1_3 false _ A5.out).mono ?_); rintro e w69 ⟨rfl, hb⟩; replace BK192 := bb_ BK192 hb; replace BK193 := bb_ BK193 hb; replace HB := hs_ HB hb; clear hb))
  go_ret
  exact ⟨rs_, hb_ HB⟩
 obtain rfl := Bool.eq_false_iff.mpr c4
 replace H := iF_ H
 obtain rfl := Option.some.inj H
 go_enter Tryz.func154, Tryz.ntmps154
 go_wp2_with (first | ((with_reducible refine gate_dst (N := 2) rfl ?_); refine Y51_ ?_; clear HB; intro gb192 w70 BK192 GW192 HB) | ((with_reducible refine gate_dst (N := 3) rfl ?_); refine Y52_ ?_; clear HB BK192; intro gb193 w71 BK193 GW193 HB NB192_193 NB193_192 BK192 hnb72 hnc72 z73_0 z73_1 z73_2 z73_3 z73_4 z73_5 z73_6 z73_7 z73_8 y73_0 y73_1 y73_2 y73_3 y73_4 y73_5 y73_6 y73_7 y73_8 z74_0 z74_1 z74_2 z74_3 z74_4 z74_5 z74_6 z74_7 y74_0 y74_1 y74_2 y74_3 y74_4 y74_5 y74_6 y74_7) | ((with_reducible refine gate_callee (f := 70) rfl ?_); refine goesL_ (some 11) rfl rfl Tryz.func70 (by kernel_rfl) rfl #[.int .i64 a1_0, .int .i64 0, .int .i64 (wrap64 ((l0_2.length : Int) - 1))] rfl al_ ?_; (with_reducible refine (spec_l1In.calls a1_0 0 (wrap64 ((l0_2.length : Int) - 1)) false _ A3.out).mono ?_); rintro e w' ⟨rfl, ⟨nd, rfl⟩⟩; refine ⟨_, rfl, ?_⟩))
 go_ret
 exact ⟨rs_, hb_ HB⟩
def spec_l1Bit.f (a0 : Bool) : Option (Int) := if a0 = true then (some 1) else (some 0)
set_option maxHeartbeats 8000000 in
set_option maxRecDepth 100000 in
theorem spec_l1Bit.calls (a0 : Bool) (r : Int) (w : World) (h : spec_l1Bit.f a0 = some r) :
    Calls Tryz.prog 155 #[.bool a0] w fun e w' => e = .returned (.int .i64 r) ∧ Drawn0 w w' := by
 have H : (if a0 = true then (some 1) else (some 0)) = some r := h
 clear h
 by_cases c2 : a0 = true
 ·
  subst c2
  replace H := it_ H
  obtain rfl := Option.some.inj H
  go_enter Tryz.func155, Tryz.ntmps155
  go_wp2
  go_ret
  exact ⟨rt_, by repeat (first | exact Drawn0.refl _ | apply Drawn0.step)⟩
 obtain rfl := Bool.eq_false_iff.mpr c2
 replace H := iF_ H
 obtain rfl := Option.some.inj H
 go_enter Tryz.func155, Tryz.ntmps155
 go_wp2
 go_ret
 exact ⟨rt_, by repeat (first | exact Drawn0.refl _ | apply Drawn0.step)⟩
end Go.Proofs.YtdcinhpdpoodfaaGreat.PFnExactFinished
