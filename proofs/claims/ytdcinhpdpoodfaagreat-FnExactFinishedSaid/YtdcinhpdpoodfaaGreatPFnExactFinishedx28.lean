/- Contracts of functions of the program. No condition beyond the hypotheses that each theorem names. -/
import Derived.Test.YtdcinhpdpoodfaaGreatPFnExactFinishedx27
namespace Go.Proofs.YtdcinhpdpoodfaaGreat.PFnExactFinished
open Go.RowKit Go.Proofs.YtdcinhpdpoodfaaGreatW.PrintWords Go.Proofs.YtdcinhpdpoodfaaGreatW.PrintLast Go.Proofs.YtdcinhpdpoodfaaGreatW.PrintMore
attribute [local go_sem] max2_int min2_int max_two min_two max_three min_three max_four min_four
set_option linter.unusedVariables false
set_option linter.unusedSimpArgs false
def laws_eqMachine.f (k : Nat) (l0_0 : List (S39)) (l0_1 : List (S52)) (l0_2 : List (S62)) (a0_3 : Int) (l0_4 : List (S147)) (l0_5 : List Int) (l0_6 : List Int) (a0_7 : Int) (l1_0 : List (S39)) (l1_1 : List (S52)) (l1_2 : List (S62)) (a1_3 : Int) (l1_4 : List (S147)) (l1_5 : List Int) (l1_6 : List Int) (a1_7 : Int) : Option (Bool) := (laws_eqMem.f k l0_0 l0_1 l1_0 l1_1).bind fun t371 => (if t371 = true then ((laws_eqThreadS.f k l0_2 l1_2).bind fun t372 => (if t372 = true then (if a0_3 = a1_3 then ((laws_eqCallS.f k l0_4 l1_4).bind fun t373 => (if t373 = true then ((laws_eqIntS.f k l0_5 l1_5).bind fun t374 => (if t374 = true then ((laws_eqRows.f k l0_6 a0_7 l1_6 a1_7).bind fun t375 => (if t375 = true then (some true) else (none))) else (none))) else (none))) else (none)) else (none))) else (none))
set_option maxHeartbeats 8000000 in
set_option maxRecDepth 100000 in
theorem laws_eqMachine.calls (k : Nat) (A0_0 : Option Addr) (c0_0 : Nat) (l0_0 : List (S39)) (A0_1 : Option Addr) (c0_1 : Nat) (l0_1 : List (S52)) (A0_2 : Option Addr) (c0_2 : Nat) (l0_2 : List (S62)) (a0_3 : Int) (A0_4 : Option Addr) (c0_4 : Nat) (l0_4 : List (S147)) (A0_5 : Option Addr) (c0_5 : Nat) (l0_5 : List Int) (A0_6 : Option Addr) (c0_6 : Nat) (l0_6 : List Int) (a0_7 : Int) (A1_0 : Option Addr) (c1_0 : Nat) (l1_0 : List (S39)) (A1_1 : Option Addr) (c1_1 : Nat) (l1_1 : List (S52)) (A1_2 : Option Addr) (c1_2 : Nat) (l1_2 : List (S62)) (a1_3 : Int) (A1_4 : Option Addr) (c1_4 : Nat) (l1_4 : List (S147)) (A1_5 : Option Addr) (c1_5 : Nat) (l1_5 : List Int) (A1_6 : Option Addr) (c1_6 : Nat) (l1_6 : List Int) (a1_7 : Int) (r : Bool) (w : World) (hr0_0 : Kd.C k39 w A0_0 l0_0.length l0_0) (hc0_0 : l0_0.length ≤ c0_0) (hr0_1 : Kd.C k52 w A0_1 l0_1.length l0_1) (hc0_1 : l0_1.length ≤ c0_1) (hr0_2 : Kd.C k62 w A0_2 l0_2.length l0_2) (hc0_2 : l0_2.length ≤ c0_2) (hr0_4 : Kd.C k147 w A0_4 l0_4.length l0_4) (hc0_4 : l0_4.length ≤ c0_4) (hr0_5 : Kd.C (Kd.int .i64) w A0_5 l0_5.length l0_5) (hc0_5 : l0_5.length ≤ c0_5) (hr0_6 : Kd.C (Kd.int .i64) w A0_6 l0_6.length l0_6) (hc0_6 : l0_6.length ≤ c0_6) (hr1_0 : Kd.C k39 w A1_0 l1_0.length l1_0) (hc1_0 : l1_0.length ≤ c1_0) (hr1_1 : Kd.C k52 w A1_1 l1_1.length l1_1) (hc1_1 : l1_1.length ≤ c1_1) (hr1_2 : Kd.C k62 w A1_2 l1_2.length l1_2) (hc1_2 : l1_2.length ≤ c1_2) (hr1_4 : Kd.C k147 w A1_4 l1_4.length l1_4) (hc1_4 : l1_4.length ≤ c1_4) (hr1_5 : Kd.C (Kd.int .i64) w A1_5 l1_5.length l1_5) (hc1_5 : l1_5.length ≤ c1_5) (hr1_6 : Kd.C (Kd.int .i64) w A1_6 l1_6.length l1_6) (hc1_6 : l1_6.length ≤ c1_6) (h : laws_eqMachine.f k l0_0 l0_1 l0_2 a0_3 l0_4 l0_5 l0_6 a0_7 l1_0 l1_1 l1_2 a1_3 l1_4 l1_5 l1_6 a1_7 = some r) :
    Calls Tryz.prog 51 #[.agg #[.slice A0_0 l0_0.length c0_0, .slice A0_1 l0_1.length c0_1, .slice A0_2 l0_2.length c0_2, .int .i64 a0_3, .slice A0_4 l0_4.length c0_4, .slice A0_5 l0_5.length c0_5, .slice A0_6 l0_6.length c0_6, .int .i64 a0_7], .agg #[.slice A1_0 l1_0.length c1_0, .slice A1_1 l1_1.length c1_1, .slice A1_2 l1_2.length c1_2, .int .i64 a1_3, .slice A1_4 l1_4.length c1_4, .slice A1_5 l1_5.length c1_5, .slice A1_6 l1_6.length c1_6, .int .i64 a1_7]] w fun e w' => e = .returned (.bool r) ∧ Below w.heap.size w w' := by
 have hu93 := Tryz.underlying93
 have hu27 := Tryz.underlying27
 have hu91 := Tryz.underlying91
 have HR0_0 := A_ hr0_0
 have HC0_0 := A_ hc0_0
 clear hr0_0 hc0_0
 have HR0_1 := A_ hr0_1
 have HC0_1 := A_ hc0_1
 clear hr0_1 hc0_1
 have HR0_2 := A_ hr0_2
 have HC0_2 := A_ hc0_2
 clear hr0_2 hc0_2
 have HR0_4 := A_ hr0_4
 have HC0_4 := A_ hc0_4
 clear hr0_4 hc0_4
 have HR0_5 := A_ hr0_5
 have HC0_5 := A_ hc0_5
 clear hr0_5 hc0_5
 have HR0_6 := A_ hr0_6
 have HC0_6 := A_ hc0_6
 clear hr0_6 hc0_6
 have HR1_0 := A_ hr1_0
 have HC1_0 := A_ hc1_0
 clear hr1_0 hc1_0
 have HR1_1 := A_ hr1_1
 have HC1_1 := A_ hc1_1
 clear hr1_1 hc1_1
 have HR1_2 := A_ hr1_2
 have HC1_2 := A_ hc1_2
 clear hr1_2 hc1_2
 have HR1_4 := A_ hr1_4
 have HC1_4 := A_ hc1_4
 clear hr1_4 hc1_4
 have HR1_5 := A_ hr1_5
 have HC1_5 := A_ hc1_5
 clear hr1_5 hc1_5
 have HR1_6 := A_ hr1_6
 have HC1_6 := A_ hc1_6
 clear hr1_6 hc1_6
 have HB := A_ (Below.refl w.heap.size w)
 have H : ((laws_eqMem.f k l0_0 l0_1 l1_0 l1_1).bind fun t371 => (if t371 = true then ((laws_eqThreadS.f k l0_2 l1_2).bind fun t372 => (if t372 = true then (if a0_3 = a1_3 then ((laws_eqCallS.f k l0_4 l1_4).bind fun t373 => (if t373 = true then ((laws_eqIntS.f k l0_5 l1_5).bind fun t374 => (if t374 = true then ((laws_eqRows.f k l0_6 a0_7 l1_6 a1_7).bind fun t375 => (if t375 = true then (some true) else (none))) else (none))) else (none))) else (none)) else (none))) else (none))) = some r := h
 clear h
 replace H := bs_ H
 obtain ⟨t371, A3, H⟩ := H
 by_cases c4 : t371 = true
 ·
  subst c4
  replace H := it_ H
  replace H := bs_ H
  obtain ⟨t372, A5, H⟩ := H
  by_cases c6 : t372 = true
  ·
   subst c6
   replace H := it_ H
   replace H := iy_ H
   obtain ⟨c7b0, c7b1, H⟩ := H
   replace H := bs_ H
   obtain ⟨t373, A8, H⟩ := H
   by_cases c9 : t373 = true
   ·
    subst c9
    replace H := it_ H
    replace H := bs_ H
    obtain ⟨t374, A10, H⟩ := H
    by_cases c11 : t374 = true
    ·
     subst c11
     replace H := it_ H
     replace H := bs_ H
     obtain ⟨t375, A12, H⟩ := H
     by_cases c13 : t375 = true
     ·
      subst c13
      replace H := it_ H
      obtain rfl := Option.some.inj H
      go_enter Tryz.func51, Tryz.ntmps51
      go_wp2_with (first | ((with_reducible refine gate_dst (N := 2) rfl ?_); refine bx_ HB rfl (N := 2) rfl (cs := #[.slice A0_0 l0_0.length c0_0, .slice A0_1 l0_1.length c0_1, .slice A0_2 l0_2.length c0_2, .int .i64 a0_3, .slice A0_4 l0_4.length c0_4, .slice A0_5 l0_5.length c0_5, .slice A0_6 l0_6.length c0_6, .int .i64 a0_7]) (t := 93) hr_ ?_; clear HB; intro gb369 w14 hg hb BK369 GW369 HB; clear hb hg) | ((with_reducible refine gate_dst (N := 3) rfl ?_); refine bx_ HB rfl (N := 3) rfl (cs := #[.slice A1_0 l1_0.length c1_0, .slice A1_1 l1_1.length c1_1, .slice A1_2 l1_2.length c1_2, .int .i64 a1_3, .slice A1_4 l1_4.length c1_4, .slice A1_5 l1_5.length c1_5, .slice A1_6 l1_6.length c1_6, .int .i64 a1_7]) (t := 93) hr_ ?_; clear HB; intro gb370 w15 hg hb BK370 GW370 HB; have NB369_370 := ng_ BK369 hg; have NB370_369 := ns_ (ng_ BK369 hg); replace BK369 := bb_ BK369 hb; clear hb hg; have hnb16 := NB369_370.out; have hnc16 := NB370_369.out; obtain ⟨z17_0, z17_1, z17_2, z17_3, z17_4, z17_5, z17_6, z17_7, y17_0, y17_1, y17_2, y17_3, y17_4, y17_5, y17_6, y17_7⟩ := cz8_ BK369; obtain ⟨z18_0, z18_1, z18_2, z18_3, z18_4, z18_5, z18_6, z18_7, y18_0, y18_1, y18_2, y18_3, y18_4, y18_5, y18_6, y18_7⟩ := cz8_ BK370) | ((with_reducible refine gate_callee (f := 114) rfl ?_); refine goesL_ (some 9) rfl rfl Tryz.func114 (by kernel_rfl) rfl #[.agg #[.slice A0_0 l0_0.length c0_0, .slice A0_1 l0_1.length c0_1], .agg #[.slice A1_0 l1_0.length c1_0, .slice A1_1 l1_1.length c1_1]] rfl al_ ?_; (with_reducible refine (laws_eqMem.calls k _ _ l0_0 _ _ l0_1 _ _ l1_0 _ _ l1_1 true _ ?s1 ?s2 ?s3 ?s4 ?s5 ?s6 ?s7 ?s8 A3.out).mono ?_); (case s1 => exact cb_ (Kd.C_below HR0_0.out HB.out)); (case s2 => exact HC0_0.out); (case s3 => exact cb_ (Kd.C_below HR0_1.out HB.out)); (case s4 => exact HC0_1.out); (case s5 => exact cb_ (Kd.C_below HR1_0.out HB.out)); (case s6 => exact HC1_0.out); (case s7 => exact cb_ (Kd.C_below HR1_1.out HB.out)); (case s8 => exact HC1_1.out); rintro e w19 ⟨rfl, hb⟩; refine ⟨_, rfl, ?_⟩; replace BK369 := bb_ BK369 hb; replace BK370 := bb_ BK370 hb; replace HB := hs_ HB hb; clear hb; obtain ⟨z20_0, z20_1, z20_2, z20_3, z20_4, z20_5, z20_6, z20_7, y20_0, y20_1, y20_2, y20_3, y20_4, y20_5, y20_6, y20_7⟩ := cz8_ BK369; obtain ⟨z21_0, z21_1, z21_2, z21_3, z21_4, z21_5, z21_6, z21_7, y21_0, y21_1, y21_2, y21_3, y21_4, y21_5, y21_6, y21_7⟩ := cz8_ BK370) | ((with_reducible refine gate_callee (f := 115) rfl ?_); refine goesL_ (some 15) rfl rfl Tryz.func115 (by kernel_rfl) rfl #[.slice A0_2 l0_2.length c0_2, .slice A1_2 l1_2.length c1_2] rfl al_ ?_; (with_reducible refine (laws_eqThreadS.calls k _ _ l0_2 _ _ l1_2 true _ ?s1 ?s2 ?s3 ?s4 A5.out).mono ?_); (case s1 => exact cb_ (Kd.C_below HR0_2.out HB.out)); (case s2 => exact HC0_2.out); (case s3 => exact cb_ (Kd.C_below HR1_2.out HB.out)); (case s4 => exact HC1_2.out); rintro e w22 ⟨rfl, hb⟩; refine ⟨_, rfl, ?_⟩; replace BK369 := bb_ BK369 hb; replace BK370 := bb_ BK370 hb; replace HB := hs_ HB hb; clear hb; obtain ⟨z23_0, z23_1, z23_2, z23_3, z23_4, z23_5, z23_6, z23_7, y23_0, y23_1, y23_2, y23_3, y23_4, y23_5, y23_6, y23_7⟩ := cz8_ BK369; obtain ⟨z24_0, z24_1, z24_2, z24_3, z24_4, z24_5, z24_6, z24_7, y24_0, y24_1, y24_2, y24_3, y24_4, y24_5, y24_6, y24_7⟩ := cz8_ BK370) | ((with_reducible refine gate_callee (f := 116) rfl ?_); refine goesL_ (some 26) rfl rfl Tryz.func116 (by kernel_rfl) rfl #[.slice A0_4 l0_4.length c0_4, .slice A1_4 l1_4.length c1_4] rfl al_ ?_; (with_reducible refine (laws_eqCallS.calls k _ _ l0_4 _ _ l1_4 true _ ?s1 ?s2 ?s3 ?s4 A8.out).mono ?_); (case s1 => exact cb_ (Kd.C_below HR0_4.out HB.out)); (case s2 => exact HC0_4.out); (case s3 => exact cb_ (Kd.C_below HR1_4.out HB.out)); (case s4 => exact HC1_4.out); rintro e w25 ⟨rfl, hb⟩; refine ⟨_, rfl, ?_⟩; replace BK369 := bb_ BK369 hb; replace BK370 := bb_ BK370 hb; replace HB := hs_ HB hb; clear hb; obtain ⟨z26_0, z26_1, z26_2, z26_3, z26_4, z26_5, z26_6, z26_7, y26_0, y26_1, y26_2, y26_3, y26_4, y26_5, y26_6, y26_7⟩ := cz8_ BK369; obtain ⟨z27_0, z27_1, z27_2, z27_3, z27_4, z27_5, z27_6, z27_7, y27_0, y27_1, y27_2, y27_3, y27_4, y27_5, y27_6, y27_7⟩ := cz8_ BK370) | ((with_reducible refine gate_callee (f := 117) rfl ?_); refine goesL_ (some 32) rfl rfl Tryz.func117 (by kernel_rfl) rfl #[.slice A0_5 l0_5.length c0_5, .slice A1_5 l1_5.length c1_5] rfl al_ ?_; (with_reducible refine (laws_eqIntS.calls k _ _ l0_5 _ _ l1_5 true _ ?s1 ?s2 ?s3 ?s4 A10.out).mono ?_); (case s1 => exact cb_ (Kd.C_below HR0_5.out HB.out)); (case s2 => exact HC0_5.out); (case s3 => exact cb_ (Kd.C_below HR1_5.out HB.out)); (case s4 => exact HC1_5.out); rintro e w' ⟨rfl, ⟨nd, rfl⟩⟩; refine ⟨_, rfl, ?_⟩) | ((with_reducible refine gate_callee (f := 118) rfl ?_); refine goesL_ (some 38) rfl rfl Tryz.func118 (by kernel_rfl) rfl #[.agg #[.slice A0_6 l0_6.length c0_6, .int .i64 a0_7], .agg #[.slice A1_6 l1_6.length c1_6, .int .i64 a1_7]] rfl al_ ?_; (with_reducible refine (laws_eqRows.calls k _ _ l0_6 a0_7 _ _ l1_6 a1_7 true _ ?s1 ?s2 ?s3 ?s4 A12.out).mono ?_); (case s1 => exact cb_ (Kd.C_below HR0_6.out (hb_ HB))); (case s2 => exact HC0_6.out); (case s3 => exact cb_ (Kd.C_below HR1_6.out (hb_ HB))); (case s4 => exact HC1_6.out); rintro e w28 ⟨rfl, hb⟩; refine ⟨_, rfl, ?_⟩; replace BK369 := bb_ BK369 hb; replace BK370 := bb_ BK370 hb; replace HB := hs_ HB hb; clear hb))
      go_ret
      exact ⟨rs_, hb_ HB⟩
     obtain rfl := Bool.eq_false_iff.mpr c13
     replace H := iF_ H
     exact absurd H (by simp)
    obtain rfl := Bool.eq_false_iff.mpr c11
    replace H := iF_ H
    exact absurd H (by simp)
   obtain rfl := Bool.eq_false_iff.mpr c9
   replace H := iF_ H
   exact absurd H (by simp)
  obtain rfl := Bool.eq_false_iff.mpr c6
  replace H := iF_ H
  exact absurd H (by simp)
 obtain rfl := Bool.eq_false_iff.mpr c4
 replace H := iF_ H
 exact absurd H (by simp)
def laws_FnExactFinished.f (k : Nat) (l0_0 : List (S207)) (l0_1 : List (S201)) (l0_2 : List (S176)) (a0_3 : Int) (l0_4 : List (S181)) (l0_5 : List Int) (l0_6 : List Int) (a0_7 : Int) : Option (Bool) := (laws_szMachine.f k l0_0 l0_1 l0_2 a0_3 l0_4 l0_5 l0_6 a0_7 1048576).bind fun t608 => (if t608 < 0 then (some true) else ((laws_toMachine.f k l0_0 l0_1 l0_2 a0_3 l0_4 l0_5 l0_6 a0_7).bind fun bt609 => ((spec_Finished.f k bt609.1 bt609.2.1 bt609.2.2.1 bt609.2.2.2.1 bt609.2.2.2.2.1 bt609.2.2.2.2.2.1 bt609.2.2.2.2.2.2.1 bt609.2.2.2.2.2.2.2).bind fun t629 => ((laws_toMachine.f k l0_0 l0_1 l0_2 a0_3 l0_4 l0_5 l0_6 a0_7).bind fun bt630 => ((impl_Finished.f k bt630.1 bt630.2.1 bt630.2.2.1 bt630.2.2.2.1 bt630.2.2.2.2.1 bt630.2.2.2.2.2.1 bt630.2.2.2.2.2.2.1 bt630.2.2.2.2.2.2.2).bind fun t651 => (if (t651 != t629) = true then (none) else ((laws_toMachine.f k l0_0 l0_1 l0_2 a0_3 l0_4 l0_5 l0_6 a0_7).bind fun bt652 => ((laws_eqMachine.f k bt630.1 bt630.2.1 bt630.2.2.1 bt630.2.2.2.1 bt630.2.2.2.2.1 bt630.2.2.2.2.2.1 bt630.2.2.2.2.2.2.1 bt630.2.2.2.2.2.2.2 bt652.1 bt652.2.1 bt652.2.2.1 bt652.2.2.2.1 bt652.2.2.2.2.1 bt652.2.2.2.2.2.1 bt652.2.2.2.2.2.2.1 bt652.2.2.2.2.2.2.2).bind fun t672 => (if t672 = true then (some true) else (none))))))))))
set_option maxHeartbeats 8000000 in
set_option maxRecDepth 100000 in
theorem laws_FnExactFinished.calls (k : Nat) (A0_0 : Option Addr) (c0_0 : Nat) (l0_0 : List (S207)) (A0_1 : Option Addr) (c0_1 : Nat) (l0_1 : List (S201)) (A0_2 : Option Addr) (c0_2 : Nat) (l0_2 : List (S176)) (a0_3 : Int) (A0_4 : Option Addr) (c0_4 : Nat) (l0_4 : List (S181)) (A0_5 : Option Addr) (c0_5 : Nat) (l0_5 : List Int) (A0_6 : Option Addr) (c0_6 : Nat) (l0_6 : List Int) (a0_7 : Int) (r : Bool) (w : World) (hr0_0 : Kd.C k207 w A0_0 l0_0.length l0_0) (hc0_0 : l0_0.length ≤ c0_0) (hr0_1 : Kd.C k201 w A0_1 l0_1.length l0_1) (hc0_1 : l0_1.length ≤ c0_1) (hr0_2 : Kd.C k176 w A0_2 l0_2.length l0_2) (hc0_2 : l0_2.length ≤ c0_2) (hr0_4 : Kd.C k181 w A0_4 l0_4.length l0_4) (hc0_4 : l0_4.length ≤ c0_4) (hr0_5 : Kd.C (Kd.int .i64) w A0_5 l0_5.length l0_5) (hc0_5 : l0_5.length ≤ c0_5) (hr0_6 : Kd.C (Kd.int .i64) w A0_6 l0_6.length l0_6) (hc0_6 : l0_6.length ≤ c0_6) (h : laws_FnExactFinished.f k l0_0 l0_1 l0_2 a0_3 l0_4 l0_5 l0_6 a0_7 = some r) :
    Calls Tryz.prog 8 #[.agg #[.slice A0_0 l0_0.length c0_0, .slice A0_1 l0_1.length c0_1, .slice A0_2 l0_2.length c0_2, .int .i64 a0_3, .slice A0_4 l0_4.length c0_4, .slice A0_5 l0_5.length c0_5, .slice A0_6 l0_6.length c0_6, .int .i64 a0_7]] w fun e w' => e = .returned (.bool r) ∧ Below w.heap.size w w' := by
 have hu86 := Tryz.underlying86
 have hu93 := Tryz.underlying93
 have HR0_0 := A_ hr0_0
 have HC0_0 := A_ hc0_0
 clear hr0_0 hc0_0
 have HR0_1 := A_ hr0_1
 have HC0_1 := A_ hc0_1
 clear hr0_1 hc0_1
 have HR0_2 := A_ hr0_2
 have HC0_2 := A_ hc0_2
 clear hr0_2 hc0_2
 have HR0_4 := A_ hr0_4
 have HC0_4 := A_ hc0_4
 clear hr0_4 hc0_4
 have HR0_5 := A_ hr0_5
 have HC0_5 := A_ hc0_5
 clear hr0_5 hc0_5
 have HR0_6 := A_ hr0_6
 have HC0_6 := A_ hc0_6
 clear hr0_6 hc0_6
 have HB := A_ (Below.refl w.heap.size w)
 have H : ((laws_szMachine.f k l0_0 l0_1 l0_2 a0_3 l0_4 l0_5 l0_6 a0_7 1048576).bind fun t608 => (if t608 < 0 then (some true) else ((laws_toMachine.f k l0_0 l0_1 l0_2 a0_3 l0_4 l0_5 l0_6 a0_7).bind fun bt609 => ((spec_Finished.f k bt609.1 bt609.2.1 bt609.2.2.1 bt609.2.2.2.1 bt609.2.2.2.2.1 bt609.2.2.2.2.2.1 bt609.2.2.2.2.2.2.1 bt609.2.2.2.2.2.2.2).bind fun t629 => ((laws_toMachine.f k l0_0 l0_1 l0_2 a0_3 l0_4 l0_5 l0_6 a0_7).bind fun bt630 => ((impl_Finished.f k bt630.1 bt630.2.1 bt630.2.2.1 bt630.2.2.2.1 bt630.2.2.2.2.1 bt630.2.2.2.2.2.1 bt630.2.2.2.2.2.2.1 bt630.2.2.2.2.2.2.2).bind fun t651 => (if (t651 != t629) = true then (none) else ((laws_toMachine.f k l0_0 l0_1 l0_2 a0_3 l0_4 l0_5 l0_6 a0_7).bind fun bt652 => ((laws_eqMachine.f k bt630.1 bt630.2.1 bt630.2.2.1 bt630.2.2.2.1 bt630.2.2.2.2.1 bt630.2.2.2.2.2.1 bt630.2.2.2.2.2.2.1 bt630.2.2.2.2.2.2.2 bt652.1 bt652.2.1 bt652.2.2.1 bt652.2.2.2.1 bt652.2.2.2.2.1 bt652.2.2.2.2.2.1 bt652.2.2.2.2.2.2.1 bt652.2.2.2.2.2.2.2).bind fun t672 => (if t672 = true then (some true) else (none))))))))))) = some r := h
 clear h
 replace H := bs_ H
 obtain ⟨t608, A2, H⟩ := H
 replace H := ic_ H
 rcases H with ⟨c3b0, H⟩ | ⟨c3b0, H⟩
 ·
  obtain rfl := Option.some.inj H
  go_enter Tryz.func8, Tryz.ntmps8
  go_wp2_with (first | ((with_reducible refine gate_dst (N := 1) rfl ?_); refine bx_ HB rfl (N := 1) rfl (cs := #[.slice A0_0 l0_0.length c0_0, .slice A0_1 l0_1.length c0_1, .slice A0_2 l0_2.length c0_2, .int .i64 a0_3, .slice A0_4 l0_4.length c0_4, .slice A0_5 l0_5.length c0_5, .slice A0_6 l0_6.length c0_6, .int .i64 a0_7]) (t := 86) hr_ ?_; clear HB; intro gb607 w4 hg hb BK607 GW607 HB; clear hb hg; obtain ⟨z5_0, z5_1, z5_2, z5_3, z5_4, z5_5, z5_6, z5_7, y5_0, y5_1, y5_2, y5_3, y5_4, y5_5, y5_6, y5_7⟩ := cz8_ BK607) | ((with_reducible refine gate_callee (f := 47) rfl ?_); refine goesL_ (some 9) rfl rfl Tryz.func47 (by kernel_rfl) rfl #[.agg #[.slice A0_0 l0_0.length c0_0, .slice A0_1 l0_1.length c0_1, .slice A0_2 l0_2.length c0_2, .int .i64 a0_3, .slice A0_4 l0_4.length c0_4, .slice A0_5 l0_5.length c0_5, .slice A0_6 l0_6.length c0_6, .int .i64 a0_7], .int .i64 1048576] rfl al_ ?_; (with_reducible refine (laws_szMachine.calls k _ _ l0_0 _ _ l0_1 _ _ l0_2 a0_3 _ _ l0_4 _ _ l0_5 _ _ l0_6 a0_7 1048576 t608 _ ?s1 ?s2 ?s3 ?s4 ?s5 ?s6 ?s7 ?s8 ?s9 ?s10 ?s11 ?s12 A2.out).mono ?_); (case s1 => exact cb_ (Kd.C_below HR0_0.out HB.out)); (case s2 => exact HC0_0.out); (case s3 => exact cb_ (Kd.C_below HR0_1.out HB.out)); (case s4 => exact HC0_1.out); (case s5 => exact cb_ (Kd.C_below HR0_2.out HB.out)); (case s6 => exact HC0_2.out); (case s7 => exact cb_ (Kd.C_below HR0_4.out HB.out)); (case s8 => exact HC0_4.out); (case s9 => exact cb_ (Kd.C_below HR0_5.out HB.out)); (case s10 => exact HC0_5.out); (case s11 => exact cb_ (Kd.C_below HR0_6.out HB.out)); (case s12 => exact HC0_6.out); rintro e w6 ⟨rfl, hb⟩; refine ⟨_, rfl, ?_⟩; replace BK607 := bb_ BK607 hb; replace HB := hs_ HB hb; clear hb))
  go_ret
  exact ⟨rs_, hb_ HB⟩
 replace H := bs_ H
 obtain ⟨⟨t609, t612, t615, t618, t619, t622, t625, t628⟩, A7, H⟩ := H
 dsimp only at H
 replace H := bs_ H
 obtain ⟨t629, A8, H⟩ := H
 replace H := bs_ H
 obtain ⟨⟨t630, t633, t636, t639, t640, t643, t646, t649⟩, A9, H⟩ := H
 dsimp only at H
 replace H := bs_ H
 obtain ⟨t651, A10, H⟩ := H
 by_cases c11 : (t651 != t629) = true
 ·
  rw [if_pos c11] at H
  exact absurd H (by simp)
 rw [if_neg c11] at H
 have c11b0 : (t651 != t629) = false := by simpa using c11
 (try (have c11b1 : decide (t651 = t629) = true := by simpa using c11))
 (try (have c11b2 : (t651 == t629) = true := by simpa using c11))
 clear c11
 replace H := bs_ H
 obtain ⟨⟨t652, t655, t658, t661, t662, t665, t668, t671⟩, A12, H⟩ := H
 dsimp only at H
 replace H := bs_ H
 obtain ⟨t672, A13, H⟩ := H
 by_cases c14 : t672 = true
 ·
  subst c14
  replace H := it_ H
  obtain rfl := Option.some.inj H
  go_enter Tryz.func8, Tryz.ntmps8
  try go_wp2_with (first | ((with_reducible refine gate_dst (N := 1) rfl ?_); refine bx_ HB rfl (N := 1) rfl (cs := #[.slice A0_0 l0_0.length c0_0, .slice A0_1 l0_1.length c0_1, .slice A0_2 l0_2.length c0_2, .int .i64 a0_3, .slice A0_4 l0_4.length c0_4, .slice A0_5 l0_5.length c0_5, .slice A0_6 l0_6.length c0_6, .int .i64 a0_7]) (t := 86) hr_ ?_; clear HB; intro gb607 w15 hg hb BK607 GW607 HB; clear hb hg; obtain ⟨z16_0, z16_1, z16_2, z16_3, z16_4, z16_5, z16_6, z16_7, y16_0, y16_1, y16_2, y16_3, y16_4, y16_5, y16_6, y16_7⟩ := cz8_ BK607) | ((with_reducible refine gate_callee (f := 47) rfl ?_); refine goesL_ (some 9) rfl rfl Tryz.func47 (by kernel_rfl) rfl #[.agg #[.slice A0_0 l0_0.length c0_0, .slice A0_1 l0_1.length c0_1, .slice A0_2 l0_2.length c0_2, .int .i64 a0_3, .slice A0_4 l0_4.length c0_4, .slice A0_5 l0_5.length c0_5, .slice A0_6 l0_6.length c0_6, .int .i64 a0_7], .int .i64 1048576] rfl al_ ?_; (with_reducible refine (laws_szMachine.calls k _ _ l0_0 _ _ l0_1 _ _ l0_2 a0_3 _ _ l0_4 _ _ l0_5 _ _ l0_6 a0_7 1048576 t608 _ ?s1 ?s2 ?s3 ?s4 ?s5 ?s6 ?s7 ?s8 ?s9 ?s10 ?s11 ?s12 A2.out).mono ?_); (case s1 => exact cb_ (Kd.C_below HR0_0.out HB.out)); (case s2 => exact HC0_0.out); (case s3 => exact cb_ (Kd.C_below HR0_1.out HB.out)); (case s4 => exact HC0_1.out); (case s5 => exact cb_ (Kd.C_below HR0_2.out HB.out)); (case s6 => exact HC0_2.out); (case s7 => exact cb_ (Kd.C_below HR0_4.out HB.out)); (case s8 => exact HC0_4.out); (case s9 => exact cb_ (Kd.C_below HR0_5.out HB.out)); (case s10 => exact HC0_5.out); (case s11 => exact cb_ (Kd.C_below HR0_6.out HB.out)); (case s12 => exact HC0_6.out); rintro e w17 ⟨rfl, hb⟩; refine ⟨_, rfl, ?_⟩; replace BK607 := bb_ BK607 hb; replace HB := hs_ HB hb; clear hb; obtain ⟨z18_0, z18_1, z18_2, z18_3, z18_4, z18_5, z18_6, z18_7, y18_0, y18_1, y18_2, y18_3, y18_4, y18_5, y18_6, y18_7⟩ := cz8_ BK607) | ((with_reducible refine gate_callee (f := 49) rfl ?_); refine goesL_ (some 13) rfl rfl Tryz.func49 (by kernel_rfl) rfl #[.agg #[.slice A0_0 l0_0.length c0_0, .slice A0_1 l0_1.length c0_1, .slice A0_2 l0_2.length c0_2, .int .i64 a0_3, .slice A0_4 l0_4.length c0_4, .slice A0_5 l0_5.length c0_5, .slice A0_6 l0_6.length c0_6, .int .i64 a0_7]] rfl al_ ?_; (with_reducible refine (laws_toMachine.calls k _ _ l0_0 _ _ l0_1 _ _ l0_2 a0_3 _ _ l0_4 _ _ l0_5 _ _ l0_6 a0_7 t609 t612 t615 t618 t619 t622 t625 t628 _ ?s1 ?s2 ?s3 ?s4 ?s5 ?s6 ?s7 ?s8 ?s9 ?s10 ?s11 ?s12 A7.out).mono ?_); (case s1 => exact cb_ (Kd.C_below HR0_0.out HB.out)); (case s2 => exact HC0_0.out); (case s3 => exact cb_ (Kd.C_below HR0_1.out HB.out)); (case s4 => exact HC0_1.out); (case s5 => exact cb_ (Kd.C_below HR0_2.out HB.out)); (case s6 => exact HC0_2.out); (case s7 => exact cb_ (Kd.C_below HR0_4.out HB.out)); (case s8 => exact HC0_4.out); (case s9 => exact cb_ (Kd.C_below HR0_5.out HB.out)); (case s10 => exact HC0_5.out); (case s11 => exact cb_ (Kd.C_below HR0_6.out HB.out)); (case s12 => exact HC0_6.out); rintro e w19 ⟨v610, v613, v616, v620, v623, v626, rfl, ho0, ho1, ho2, ho3, ho4, ho5, hb⟩; refine ⟨_, rfl, ?_⟩; have HO611 := A_ (Kd.R_lower ho0 (below_size (hb_ HB))); have HO614 := A_ (Kd.S_lower ho1 (below_size (hb_ HB))); have HO617 := A_ (Kd.S_lower ho2 (below_size (hb_ HB))); have HO621 := A_ (Kd.S_lower ho3 (below_size (hb_ HB))); have HO624 := A_ (Kd.R_lower ho4 (below_size (hb_ HB))); have HO627 := A_ (Kd.R_lower ho5 (below_size (hb_ HB))); replace BK607 := bb_ BK607 hb; replace HB := hs_ HB hb; clear hb; (try clear ho0); (try clear ho1); (try clear ho2); (try clear ho3); (try clear ho4); (try clear ho5); obtain ⟨Ao20, co20, eo20⟩ := Kd.R_slice HO611.out; subst eo20; obtain ⟨Ao21, co21, eo21⟩ := Kd.S_slice HO614.out; subst eo21; obtain ⟨Ao22, co22, eo22⟩ := Kd.S_slice HO617.out; subst eo22; obtain ⟨Ao23, co23, eo23⟩ := Kd.S_slice HO621.out; subst eo23; obtain ⟨Ao24, co24, eo24⟩ := Kd.R_slice HO624.out; subst eo24; obtain ⟨Ao25, co25, eo25⟩ := Kd.R_slice HO627.out; subst eo25) | ((with_reducible refine gate_callee (f := 52) rfl ?_); refine goesL_ (some 14) rfl rfl Tryz.func52 (by kernel_rfl) rfl #[.agg #[.slice Ao20 t609.length co20, .slice Ao21 t612.length co21, .slice Ao22 t615.length co22, .int .i64 t618, .slice Ao23 t619.length co23, .slice Ao24 t622.length co24, .slice Ao25 t625.length co25, .int .i64 t628]] rfl al_ ?_; (with_reducible refine (spec_Finished.calls k _ _ t609 _ _ t612 _ _ t615 t618 _ _ t619 _ _ t622 _ _ t625 t628 t629 _ ?s1 ?s2 ?s3 ?s4 ?s5 ?s6 ?s7 ?s8 ?s9 ?s10 ?s11 ?s12 A8.out).mono ?_); (case s1 => repeat (first | exact (Kd.R_reads' HO611.out).2.2 | (with_reducible refine Kd.C_alloc ?_ _) | (with_reducible refine Kd.C_drewN ?_ _) | (with_reducible refine Kd.C_drew ?_))); (case s2 => exact (Kd.R_reads' HO611.out).2.1); (case s3 => repeat (first | exact (Kd.S_reads' HO614.out).2.2 | (with_reducible refine Kd.C_alloc ?_ _) | (with_reducible refine Kd.C_drewN ?_ _) | (with_reducible refine Kd.C_drew ?_))); (case s4 => exact (Kd.S_reads' HO614.out).2.1); (case s5 => repeat (first | exact (Kd.S_reads' HO617.out).2.2 | (with_reducible refine Kd.C_alloc ?_ _) | (with_reducible refine Kd.C_drewN ?_ _) | (with_reducible refine Kd.C_drew ?_))); (case s6 => exact (Kd.S_reads' HO617.out).2.1); (case s7 => repeat (first | exact (Kd.S_reads' HO621.out).2.2 | (with_reducible refine Kd.C_alloc ?_ _) | (with_reducible refine Kd.C_drewN ?_ _) | (with_reducible refine Kd.C_drew ?_))); (case s8 => exact (Kd.S_reads' HO621.out).2.1); (case s9 => repeat (first | exact (Kd.R_reads' HO624.out).2.2 | (with_reducible refine Kd.C_alloc ?_ _) | (with_reducible refine Kd.C_drewN ?_ _) | (with_reducible refine Kd.C_drew ?_))); (case s10 => exact (Kd.R_reads' HO624.out).2.1); (case s11 => repeat (first | exact (Kd.R_reads' HO627.out).2.2 | (with_reducible refine Kd.C_alloc ?_ _) | (with_reducible refine Kd.C_drewN ?_ _) | (with_reducible refine Kd.C_drew ?_))); (case s12 => exact (Kd.R_reads' HO627.out).2.1); rintro e w26 ⟨rfl, hb⟩; refine ⟨_, rfl, ?_⟩; replace HO611 := A_ (Kd.R_below (rb_ HO611.out) hb); replace HO614 := A_ (Kd.S_below (sb_ HO614.out) hb); replace HO617 := A_ (Kd.S_below (sb_ HO617.out) hb); replace HO621 := A_ (Kd.S_below (sb_ HO621.out) hb); replace HO624 := A_ (Kd.R_below (rb_ HO624.out) hb); replace HO627 := A_ (Kd.R_below (rb_ HO627.out) hb); replace BK607 := bb_ BK607 hb; replace HB := hs_ HB hb; clear hb; obtain ⟨z27_0, z27_1, z27_2, z27_3, z27_4, z27_5, z27_6, z27_7, y27_0, y27_1, y27_2, y27_3, y27_4, y27_5, y27_6, y27_7⟩ := cz8_ BK607) | ((with_reducible refine gate_callee (f := 49) rfl ?_); refine goesL_ (some 16) rfl rfl Tryz.func49 (by kernel_rfl) rfl #[.agg #[.slice A0_0 l0_0.length c0_0, .slice A0_1 l0_1.length c0_1, .slice A0_2 l0_2.length c0_2, .int .i64 a0_3, .slice A0_4 l0_4.length c0_4, .slice A0_5 l0_5.length c0_5, .slice A0_6 l0_6.length c0_6, .int .i64 a0_7]] rfl al_ ?_; (with_reducible refine (laws_toMachine.calls k _ _ l0_0 _ _ l0_1 _ _ l0_2 a0_3 _ _ l0_4 _ _ l0_5 _ _ l0_6 a0_7 t630 t633 t636 t639 t640 t643 t646 t649 _ ?s1 ?s2 ?s3 ?s4 ?s5 ?s6 ?s7 ?s8 ?s9 ?s10 ?s11 ?s12 A9.out).mono ?_); (case s1 => exact cb_ (Kd.C_below HR0_0.out HB.out)); (case s2 => exact HC0_0.out); (case s3 => exact cb_ (Kd.C_below HR0_1.out HB.out)); (case s4 => exact HC0_1.out); (case s5 => exact cb_ (Kd.C_below HR0_2.out HB.out)); (case s6 => exact HC0_2.out); (case s7 => exact cb_ (Kd.C_below HR0_4.out HB.out)); (case s8 => exact HC0_4.out); (case s9 => exact cb_ (Kd.C_below HR0_5.out HB.out)); (case s10 => exact HC0_5.out); (case s11 => exact cb_ (Kd.C_below HR0_6.out HB.out)); (case s12 => exact HC0_6.out); rintro e w28 ⟨v631, v634, v637, v641, v644, v647, rfl, ho0, ho1, ho2, ho3, ho4, ho5, hb⟩; refine ⟨_, rfl, ?_⟩; have HO632 := A_ (Kd.R_lower (Kd.R_new' ho0 (Kd.R_lt (rb_ HO611.out))) (below_size (hb_ HB))); have HO635 := A_ (Kd.S_lower (Kd.S_new' (Kd.S_new' (Kd.S_new' ho1 (Kd.S_lt (sb_ HO614.out))) (Kd.R_lt (rb_ HO624.out))) (Kd.R_lt (rb_ HO627.out))) (below_size (hb_ HB))); have HO638 := A_ (Kd.S_lower (Kd.S_new' ho2 (Kd.S_lt (sb_ HO617.out))) (below_size (hb_ HB))); have HO642 := A_ (Kd.S_lower (Kd.S_new' (Kd.S_new' (Kd.S_new' ho3 (Kd.S_lt (sb_ HO621.out))) (Kd.R_lt (rb_ HO624.out))) (Kd.R_lt (rb_ HO627.out))) (below_size (hb_ HB))); have HO645 := A_ (Kd.R_lower (Kd.R_new' (Kd.R_new' ho4 (Kd.R_lt (rb_ HO624.out))) (Kd.R_lt (rb_ HO627.out))) (below_size (hb_ HB))); have HO648 := A_ (Kd.R_lower (Kd.R_new' (Kd.R_new' ho5 (Kd.R_lt (rb_ HO624.out))) (Kd.R_lt (rb_ HO627.out))) (below_size (hb_ HB))); replace HO611 := A_ (Kd.R_elder' (rb_ HO611.out) (Kd.R_base ho0) hb); replace HO614 := A_ (Kd.S_mono (Kd.S_told (Kd.S_told (Kd.S_told (Kd.S_old (sb_ HO614.out) hb) (Kd.S_base ho1)) (Kd.R_base ho4)) (Kd.R_base ho5)) (fun _ h_ => h_.1)); replace HO617 := A_ (Kd.S_elder' (sb_ HO617.out) (Kd.S_base ho2) hb); replace HO621 := A_ (Kd.S_mono (Kd.S_told (Kd.S_told (Kd.S_told (Kd.S_old (sb_ HO621.out) hb) (Kd.S_base ho3)) (Kd.R_base ho4)) (Kd.R_base ho5)) (fun _ h_ => h_.1)); replace HO624 := A_ (Kd.R_mono (Kd.R_told (Kd.R_told (Kd.R_old (rb_ HO624.out) hb) (Kd.R_base ho4)) (Kd.R_base ho5)) (fun _ h_ => h_.1)); replace HO627 := A_ (Kd.R_mono (Kd.R_told (Kd.R_told (Kd.R_old (rb_ HO627.out) hb) (Kd.R_base ho4)) (Kd.R_base ho5)) (fun _ h_ => h_.1)); replace BK607 := bb_ BK607 hb; replace HB := hs_ HB hb; clear hb; (try clear ho0); (try clear ho1); (try clear ho2); (try clear ho3); (try clear ho4); (try clear ho5)) | ((with_reducible refine gate_dst (N := 5) rfl ?_); refine bx_ HB rfl (N := 5) rfl (cs := #[.slice none 0 0, .slice none 0 0, .slice none 0 0, .int .i64 0, .slice none 0 0, .slice none 0 0, .slice none 0 0, .int .i64 0]) (t := 93) hr_ ?_; clear HB; intro gb650 w29 hg hb BK650 GW650 HB; have NB607_650 := ng_ BK607 hg; have NB650_607 := ns_ (ng_ BK607 hg); replace HO611 := A_ (Kd.R_below (rb_ HO611.out) hb); replace HO614 := A_ (Kd.S_below (sb_ HO614.out) hb); replace HO617 := A_ (Kd.S_below (sb_ HO617.out) hb); replace HO621 := A_ (Kd.S_below (sb_ HO621.out) hb); replace HO624 := A_ (Kd.R_below (rb_ HO624.out) hb); replace HO627 := A_ (Kd.R_below (rb_ HO627.out) hb); replace HO632 := A_ (Kd.R_below (rb_ HO632.out) hb); replace HO635 := A_ (Kd.S_below (sb_ HO635.out) hb); replace HO638 := A_ (Kd.S_below (sb_ HO638.out) hb); replace HO642 := A_ (Kd.S_below (sb_ HO642.out) hb); replace HO645 := A_ (Kd.R_below (rb_ HO645.out) hb); replace HO648 := A_ (Kd.R_below (rb_ HO648.out) hb); replace BK607 := bb_ BK607 hb; clear hb hg; obtain ⟨Ao30, co30, eo30⟩ := Kd.R_slice HO632.out; subst eo30; have hnb31 := NB650_607.out; have hnc31 := NB607_650.out; obtain ⟨z32_0, z32_1, z32_2, z32_3, z32_4, z32_5, z32_6, z32_7, y32_0, y32_1, y32_2, y32_3, y32_4, y32_5, y32_6, y32_7⟩ := cz8_ BK650; obtain ⟨Ao33, co33, eo33⟩ := Kd.S_slice HO635.out; subst eo33; obtain ⟨Ao34, co34, eo34⟩ := Kd.S_slice HO638.out; subst eo34; obtain ⟨Ao35, co35, eo35⟩ := Kd.S_slice HO642.out; subst eo35; obtain ⟨Ao36, co36, eo36⟩ := Kd.R_slice HO645.out; subst eo36; obtain ⟨Ao37, co37, eo37⟩ := Kd.R_slice HO648.out; subst eo37) | ((with_reducible refine gate_callee (f := 53) rfl ?_); refine goesL_ (some 18) rfl rfl Tryz.func53 (by kernel_rfl) rfl #[.agg #[.slice Ao30 t630.length co30, .slice Ao33 t633.length co33, .slice Ao34 t636.length co34, .int .i64 t639, .slice Ao35 t640.length co35, .slice Ao36 t643.length co36, .slice Ao37 t646.length co37, .int .i64 t649]] rfl al_ ?_; (with_reducible refine (impl_Finished.calls k _ _ t630 _ _ t633 _ _ t636 t639 _ _ t640 _ _ t643 _ _ t646 t649 t651 _ ?s1 ?s2 ?s3 ?s4 ?s5 ?s6 ?s7 ?s8 ?s9 ?s10 ?s11 ?s12 A10.out).mono ?_); (case s1 => refine (Kd.R_reads' (e := 39) (base := w.heap.size) (ok := fun k_ => (True ∧ some k_ ≠ (.slice Ao20 t609.length co20 : Value).ownBlock)) (n := t630.length) (c := co30) ?_).2.2; exact (by (with_reducible repeat (first | apply Kd.R_alloc | apply Kd.R_drewN | apply Kd.R_drew)); exact (Kd.R_mono (Kd.R_far (p := ⟨gb650, 7, none⟩) (Kd.R_far (p := ⟨gb650, 6, none⟩) (Kd.R_far (p := ⟨gb650, 5, none⟩) (Kd.R_far (p := ⟨gb650, 4, none⟩) (Kd.R_far (p := ⟨gb650, 3, none⟩) (Kd.R_far (p := ⟨gb650, 2, none⟩) (Kd.R_far (p := ⟨gb650, 1, none⟩) (Kd.R_far (p := ⟨gb650, 0, none⟩) (Kd.R_types HO632.out BK650.out (by decide)) (fun _ hk => hk.2) (.slice Ao30 t630.length co30)) (fun _ hk => hk.2) (.slice Ao33 t633.length co33)) (fun _ hk => hk.2) (.slice Ao34 t636.length co34)) (fun _ hk => hk.2) (.int .i64 t639)) (fun _ hk => hk.2) (.slice Ao35 t640.length co35)) (fun _ hk => hk.2) (.slice Ao36 t643.length co36)) (fun _ hk => hk.2) (.slice Ao37 t646.length co37)) (fun _ hk => hk.2) (.int .i64 t649)) (fun _ h_ => h_.1)))); (case s2 => exact (Kd.R_reads' HO632.out).2.1); (case s3 => refine (Kd.S_reads' (e := 52) (base := w.heap.size) (ok := fun k_ => ((((some k_ ≠ (.slice Ao36 t643.length co36 : Value).ownBlock ∧ some k_ ≠ (.slice Ao37 t646.length co37 : Value).ownBlock) ∧ some k_ ≠ (.slice Ao21 t612.length co21 : Value).ownBlock) ∧ some k_ ≠ (.slice Ao24 t622.length co24 : Value).ownBlock) ∧ some k_ ≠ (.slice Ao25 t625.length co25 : Value).ownBlock)) (n := t633.length) (c := co33) ?_).2.2; exact (by (with_reducible repeat (first | apply Kd.S_alloc | apply Kd.S_drewN | apply Kd.S_drew)); exact (Kd.S_mono (Kd.S_far (p := ⟨gb650, 7, none⟩) (Kd.S_far (p := ⟨gb650, 6, none⟩) (Kd.S_far (p := ⟨gb650, 5, none⟩) (Kd.S_far (p := ⟨gb650, 4, none⟩) (Kd.S_far (p := ⟨gb650, 3, none⟩) (Kd.S_far (p := ⟨gb650, 2, none⟩) (Kd.S_far (p := ⟨gb650, 1, none⟩) (Kd.S_far (p := ⟨gb650, 0, none⟩) (Kd.S_types HO635.out BK650.out (by decide)) (fun _ hk => hk.2) (.slice Ao30 t630.length co30)) (fun _ hk => hk.2) (.slice Ao33 t633.length co33)) (fun _ hk => hk.2) (.slice Ao34 t636.length co34)) (fun _ hk => hk.2) (.int .i64 t639)) (fun _ hk => hk.2) (.slice Ao35 t640.length co35)) (fun _ hk => hk.2) (.slice Ao36 t643.length co36)) (fun _ hk => hk.2) (.slice Ao37 t646.length co37)) (fun _ hk => hk.2) (.int .i64 t649)) (fun _ h_ => h_.1)))); (case s4 => exact (Kd.S_reads' HO635.out).2.1); (case s5 => refine (Kd.S_reads' (e := 62) (base := w.heap.size) (ok := fun k_ => (True ∧ some k_ ≠ (.slice Ao22 t615.length co22 : Value).ownBlock)) (n := t636.length) (c := co34) ?_).2.2; exact (by (with_reducible repeat (first | apply Kd.S_alloc | apply Kd.S_drewN | apply Kd.S_drew)); exact (Kd.S_mono (Kd.S_far (p := ⟨gb650, 7, none⟩) (Kd.S_far (p := ⟨gb650, 6, none⟩) (Kd.S_far (p := ⟨gb650, 5, none⟩) (Kd.S_far (p := ⟨gb650, 4, none⟩) (Kd.S_far (p := ⟨gb650, 3, none⟩) (Kd.S_far (p := ⟨gb650, 2, none⟩) (Kd.S_far (p := ⟨gb650, 1, none⟩) (Kd.S_far (p := ⟨gb650, 0, none⟩) (Kd.S_types HO638.out BK650.out (by decide)) (fun _ hk => hk.2) (.slice Ao30 t630.length co30)) (fun _ hk => hk.2) (.slice Ao33 t633.length co33)) (fun _ hk => hk.2) (.slice Ao34 t636.length co34)) (fun _ hk => hk.2) (.int .i64 t639)) (fun _ hk => hk.2) (.slice Ao35 t640.length co35)) (fun _ hk => hk.2) (.slice Ao36 t643.length co36)) (fun _ hk => hk.2) (.slice Ao37 t646.length co37)) (fun _ hk => hk.2) (.int .i64 t649)) (fun _ h_ => h_.1)))); (case s6 => exact (Kd.S_reads' HO638.out).2.1); (case s7 => refine (Kd.S_reads' (e := 147) (base := w.heap.size) (ok := fun k_ => ((((some k_ ≠ (.slice Ao36 t643.length co36 : Value).ownBlock ∧ some k_ ≠ (.slice Ao37 t646.length co37 : Value).ownBlock) ∧ some k_ ≠ (.slice Ao23 t619.length co23 : Value).ownBlock) ∧ some k_ ≠ (.slice Ao24 t622.length co24 : Value).ownBlock) ∧ some k_ ≠ (.slice Ao25 t625.length co25 : Value).ownBlock)) (n := t640.length) (c := co35) ?_).2.2; exact (by (with_reducible repeat (first | apply Kd.S_alloc | apply Kd.S_drewN | apply Kd.S_drew)); exact (Kd.S_mono (Kd.S_far (p := ⟨gb650, 7, none⟩) (Kd.S_far (p := ⟨gb650, 6, none⟩) (Kd.S_far (p := ⟨gb650, 5, none⟩) (Kd.S_far (p := ⟨gb650, 4, none⟩) (Kd.S_far (p := ⟨gb650, 3, none⟩) (Kd.S_far (p := ⟨gb650, 2, none⟩) (Kd.S_far (p := ⟨gb650, 1, none⟩) (Kd.S_far (p := ⟨gb650, 0, none⟩) (Kd.S_types HO642.out BK650.out (by decide)) (fun _ hk => hk.2) (.slice Ao30 t630.length co30)) (fun _ hk => hk.2) (.slice Ao33 t633.length co33)) (fun _ hk => hk.2) (.slice Ao34 t636.length co34)) (fun _ hk => hk.2) (.int .i64 t639)) (fun _ hk => hk.2) (.slice Ao35 t640.length co35)) (fun _ hk => hk.2) (.slice Ao36 t643.length co36)) (fun _ hk => hk.2) (.slice Ao37 t646.length co37)) (fun _ hk => hk.2) (.int .i64 t649)) (fun _ h_ => h_.1)))); (case s8 => exact (Kd.S_reads' HO642.out).2.1); (case s9 => refine (Kd.R_reads' (e := 3) (base := w.heap.size) (ok := fun k_ => ((some k_ ≠ (.slice Ao37 t646.length co37 : Value).ownBlock ∧ some k_ ≠ (.slice Ao24 t622.length co24 : Value).ownBlock) ∧ some k_ ≠ (.slice Ao25 t625.length co25 : Value).ownBlock)) (n := t643.length) (c := co36) ?_).2.2; exact (by (with_reducible repeat (first | apply Kd.R_alloc | apply Kd.R_drewN | apply Kd.R_drew)); exact (Kd.R_mono (Kd.R_far (p := ⟨gb650, 7, none⟩) (Kd.R_far (p := ⟨gb650, 6, none⟩) (Kd.R_far (p := ⟨gb650, 5, none⟩) (Kd.R_far (p := ⟨gb650, 4, none⟩) (Kd.R_far (p := ⟨gb650, 3, none⟩) (Kd.R_far (p := ⟨gb650, 2, none⟩) (Kd.R_far (p := ⟨gb650, 1, none⟩) (Kd.R_far (p := ⟨gb650, 0, none⟩) (Kd.R_types HO645.out BK650.out (by decide)) (fun _ hk => hk.2) (.slice Ao30 t630.length co30)) (fun _ hk => hk.2) (.slice Ao33 t633.length co33)) (fun _ hk => hk.2) (.slice Ao34 t636.length co34)) (fun _ hk => hk.2) (.int .i64 t639)) (fun _ hk => hk.2) (.slice Ao35 t640.length co35)) (fun _ hk => hk.2) (.slice Ao36 t643.length co36)) (fun _ hk => hk.2) (.slice Ao37 t646.length co37)) (fun _ hk => hk.2) (.int .i64 t649)) (fun _ h_ => h_.1)))); (case s10 => exact (Kd.R_reads' HO645.out).2.1); (case s11 => refine (Kd.R_reads' (e := 3) (base := w.heap.size) (ok := fun k_ => ((some k_ ≠ (.slice Ao36 t643.length co36 : Value).ownBlock ∧ some k_ ≠ (.slice Ao24 t622.length co24 : Value).ownBlock) ∧ some k_ ≠ (.slice Ao25 t625.length co25 : Value).ownBlock)) (n := t646.length) (c := co37) ?_).2.2; exact (by (with_reducible repeat (first | apply Kd.R_alloc | apply Kd.R_drewN | apply Kd.R_drew)); exact (Kd.R_mono (Kd.R_far (p := ⟨gb650, 7, none⟩) (Kd.R_far (p := ⟨gb650, 6, none⟩) (Kd.R_far (p := ⟨gb650, 5, none⟩) (Kd.R_far (p := ⟨gb650, 4, none⟩) (Kd.R_far (p := ⟨gb650, 3, none⟩) (Kd.R_far (p := ⟨gb650, 2, none⟩) (Kd.R_far (p := ⟨gb650, 1, none⟩) (Kd.R_far (p := ⟨gb650, 0, none⟩) (Kd.R_types HO648.out BK650.out (by decide)) (fun _ hk => hk.2) (.slice Ao30 t630.length co30)) (fun _ hk => hk.2) (.slice Ao33 t633.length co33)) (fun _ hk => hk.2) (.slice Ao34 t636.length co34)) (fun _ hk => hk.2) (.int .i64 t639)) (fun _ hk => hk.2) (.slice Ao35 t640.length co35)) (fun _ hk => hk.2) (.slice Ao36 t643.length co36)) (fun _ hk => hk.2) (.slice Ao37 t646.length co37)) (fun _ hk => hk.2) (.int .i64 t649)) (fun _ h_ => h_.1)))); (case s12 => exact (Kd.R_reads' HO648.out).2.1); rintro e w38 ⟨rfl, hb⟩; refine ⟨_, rfl, ?_⟩; replace HO611 := A_ (Kd.R_below (by (with_reducible repeat (first | apply Kd.R_alloc | apply Kd.R_drewN | apply Kd.R_drew)); exact (Kd.R_mono (Kd.R_far (p := ⟨gb650, 7, none⟩) (Kd.R_far (p := ⟨gb650, 6, none⟩) (Kd.R_far (p := ⟨gb650, 5, none⟩) (Kd.R_far (p := ⟨gb650, 4, none⟩) (Kd.R_far (p := ⟨gb650, 3, none⟩) (Kd.R_far (p := ⟨gb650, 2, none⟩) (Kd.R_far (p := ⟨gb650, 1, none⟩) (Kd.R_far (p := ⟨gb650, 0, none⟩) (Kd.R_types HO611.out BK650.out (by decide)) (fun _ hk => hk.2) (.slice Ao30 t630.length co30)) (fun _ hk => hk.2) (.slice Ao33 t633.length co33)) (fun _ hk => hk.2) (.slice Ao34 t636.length co34)) (fun _ hk => hk.2) (.int .i64 t639)) (fun _ hk => hk.2) (.slice Ao35 t640.length co35)) (fun _ hk => hk.2) (.slice Ao36 t643.length co36)) (fun _ hk => hk.2) (.slice Ao37 t646.length co37)) (fun _ hk => hk.2) (.int .i64 t649)) (fun _ h_ => h_.1))) hb); replace HO614 := A_ (Kd.S_below (by (with_reducible repeat (first | apply Kd.S_alloc | apply Kd.S_drewN | apply Kd.S_drew)); exact (Kd.S_mono (Kd.S_far (p := ⟨gb650, 7, none⟩) (Kd.S_far (p := ⟨gb650, 6, none⟩) (Kd.S_far (p := ⟨gb650, 5, none⟩) (Kd.S_far (p := ⟨gb650, 4, none⟩) (Kd.S_far (p := ⟨gb650, 3, none⟩) (Kd.S_far (p := ⟨gb650, 2, none⟩) (Kd.S_far (p := ⟨gb650, 1, none⟩) (Kd.S_far (p := ⟨gb650, 0, none⟩) (Kd.S_types HO614.out BK650.out (by decide)) (fun _ hk => hk.2) (.slice Ao30 t630.length co30)) (fun _ hk => hk.2) (.slice Ao33 t633.length co33)) (fun _ hk => hk.2) (.slice Ao34 t636.length co34)) (fun _ hk => hk.2) (.int .i64 t639)) (fun _ hk => hk.2) (.slice Ao35 t640.length co35)) (fun _ hk => hk.2) (.slice Ao36 t643.length co36)) (fun _ hk => hk.2) (.slice Ao37 t646.length co37)) (fun _ hk => hk.2) (.int .i64 t649)) (fun _ h_ => h_.1))) hb); replace HO617 := A_ (Kd.S_below (by (with_reducible repeat (first | apply Kd.S_alloc | apply Kd.S_drewN | apply Kd.S_drew)); exact (Kd.S_mono (Kd.S_far (p := ⟨gb650, 7, none⟩) (Kd.S_far (p := ⟨gb650, 6, none⟩) (Kd.S_far (p := ⟨gb650, 5, none⟩) (Kd.S_far (p := ⟨gb650, 4, none⟩) (Kd.S_far (p := ⟨gb650, 3, none⟩) (Kd.S_far (p := ⟨gb650, 2, none⟩) (Kd.S_far (p := ⟨gb650, 1, none⟩) (Kd.S_far (p := ⟨gb650, 0, none⟩) (Kd.S_types HO617.out BK650.out (by decide)) (fun _ hk => hk.2) (.slice Ao30 t630.length co30)) (fun _ hk => hk.2) (.slice Ao33 t633.length co33)) (fun _ hk => hk.2) (.slice Ao34 t636.length co34)) (fun _ hk => hk.2) (.int .i64 t639)) (fun _ hk => hk.2) (.slice Ao35 t640.length co35)) (fun _ hk => hk.2) (.slice Ao36 t643.length co36)) (fun _ hk => hk.2) (.slice Ao37 t646.length co37)) (fun _ hk => hk.2) (.int .i64 t649)) (fun _ h_ => h_.1))) hb); replace HO621 := A_ (Kd.S_below (by (with_reducible repeat (first | apply Kd.S_alloc | apply Kd.S_drewN | apply Kd.S_drew)); exact (Kd.S_mono (Kd.S_far (p := ⟨gb650, 7, none⟩) (Kd.S_far (p := ⟨gb650, 6, none⟩) (Kd.S_far (p := ⟨gb650, 5, none⟩) (Kd.S_far (p := ⟨gb650, 4, none⟩) (Kd.S_far (p := ⟨gb650, 3, none⟩) (Kd.S_far (p := ⟨gb650, 2, none⟩) (Kd.S_far (p := ⟨gb650, 1, none⟩) (Kd.S_far (p := ⟨gb650, 0, none⟩) (Kd.S_types HO621.out BK650.out (by decide)) (fun _ hk => hk.2) (.slice Ao30 t630.length co30)) (fun _ hk => hk.2) (.slice Ao33 t633.length co33)) (fun _ hk => hk.2) (.slice Ao34 t636.length co34)) (fun _ hk => hk.2) (.int .i64 t639)) (fun _ hk => hk.2) (.slice Ao35 t640.length co35)) (fun _ hk => hk.2) (.slice Ao36 t643.length co36)) (fun _ hk => hk.2) (.slice Ao37 t646.length co37)) (fun _ hk => hk.2) (.int .i64 t649)) (fun _ h_ => h_.1))) hb); replace HO624 := A_ (Kd.R_below (by (with_reducible repeat (first | apply Kd.R_alloc | apply Kd.R_drewN | apply Kd.R_drew)); exact (Kd.R_mono (Kd.R_far (p := ⟨gb650, 7, none⟩) (Kd.R_far (p := ⟨gb650, 6, none⟩) (Kd.R_far (p := ⟨gb650, 5, none⟩) (Kd.R_far (p := ⟨gb650, 4, none⟩) (Kd.R_far (p := ⟨gb650, 3, none⟩) (Kd.R_far (p := ⟨gb650, 2, none⟩) (Kd.R_far (p := ⟨gb650, 1, none⟩) (Kd.R_far (p := ⟨gb650, 0, none⟩) (Kd.R_types HO624.out BK650.out (by decide)) (fun _ hk => hk.2) (.slice Ao30 t630.length co30)) (fun _ hk => hk.2) (.slice Ao33 t633.length co33)) (fun _ hk => hk.2) (.slice Ao34 t636.length co34)) (fun _ hk => hk.2) (.int .i64 t639)) (fun _ hk => hk.2) (.slice Ao35 t640.length co35)) (fun _ hk => hk.2) (.slice Ao36 t643.length co36)) (fun _ hk => hk.2) (.slice Ao37 t646.length co37)) (fun _ hk => hk.2) (.int .i64 t649)) (fun _ h_ => h_.1))) hb); replace HO627 := A_ (Kd.R_below (by (with_reducible repeat (first | apply Kd.R_alloc | apply Kd.R_drewN | apply Kd.R_drew)); exact (Kd.R_mono (Kd.R_far (p := ⟨gb650, 7, none⟩) (Kd.R_far (p := ⟨gb650, 6, none⟩) (Kd.R_far (p := ⟨gb650, 5, none⟩) (Kd.R_far (p := ⟨gb650, 4, none⟩) (Kd.R_far (p := ⟨gb650, 3, none⟩) (Kd.R_far (p := ⟨gb650, 2, none⟩) (Kd.R_far (p := ⟨gb650, 1, none⟩) (Kd.R_far (p := ⟨gb650, 0, none⟩) (Kd.R_types HO627.out BK650.out (by decide)) (fun _ hk => hk.2) (.slice Ao30 t630.length co30)) (fun _ hk => hk.2) (.slice Ao33 t633.length co33)) (fun _ hk => hk.2) (.slice Ao34 t636.length co34)) (fun _ hk => hk.2) (.int .i64 t639)) (fun _ hk => hk.2) (.slice Ao35 t640.length co35)) (fun _ hk => hk.2) (.slice Ao36 t643.length co36)) (fun _ hk => hk.2) (.slice Ao37 t646.length co37)) (fun _ hk => hk.2) (.int .i64 t649)) (fun _ h_ => h_.1))) hb); replace HO632 := A_ (Kd.R_below (by (with_reducible repeat (first | apply Kd.R_alloc | apply Kd.R_drewN | apply Kd.R_drew)); exact (Kd.R_mono (Kd.R_far (p := ⟨gb650, 7, none⟩) (Kd.R_far (p := ⟨gb650, 6, none⟩) (Kd.R_far (p := ⟨gb650, 5, none⟩) (Kd.R_far (p := ⟨gb650, 4, none⟩) (Kd.R_far (p := ⟨gb650, 3, none⟩) (Kd.R_far (p := ⟨gb650, 2, none⟩) (Kd.R_far (p := ⟨gb650, 1, none⟩) (Kd.R_far (p := ⟨gb650, 0, none⟩) (Kd.R_types HO632.out BK650.out (by decide)) (fun _ hk => hk.2) (.slice Ao30 t630.length co30)) (fun _ hk => hk.2) (.slice Ao33 t633.length co33)) (fun _ hk => hk.2) (.slice Ao34 t636.length co34)) (fun _ hk => hk.2) (.int .i64 t639)) (fun _ hk => hk.2) (.slice Ao35 t640.length co35)) (fun _ hk => hk.2) (.slice Ao36 t643.length co36)) (fun _ hk => hk.2) (.slice Ao37 t646.length co37)) (fun _ hk => hk.2) (.int .i64 t649)) (fun _ h_ => h_.1))) hb); replace HO635 := A_ (Kd.S_below (by (with_reducible repeat (first | apply Kd.S_alloc | apply Kd.S_drewN | apply Kd.S_drew)); exact (Kd.S_mono (Kd.S_far (p := ⟨gb650, 7, none⟩) (Kd.S_far (p := ⟨gb650, 6, none⟩) (Kd.S_far (p := ⟨gb650, 5, none⟩) (Kd.S_far (p := ⟨gb650, 4, none⟩) (Kd.S_far (p := ⟨gb650, 3, none⟩) (Kd.S_far (p := ⟨gb650, 2, none⟩) (Kd.S_far (p := ⟨gb650, 1, none⟩) (Kd.S_far (p := ⟨gb650, 0, none⟩) (Kd.S_types HO635.out BK650.out (by decide)) (fun _ hk => hk.2) (.slice Ao30 t630.length co30)) (fun _ hk => hk.2) (.slice Ao33 t633.length co33)) (fun _ hk => hk.2) (.slice Ao34 t636.length co34)) (fun _ hk => hk.2) (.int .i64 t639)) (fun _ hk => hk.2) (.slice Ao35 t640.length co35)) (fun _ hk => hk.2) (.slice Ao36 t643.length co36)) (fun _ hk => hk.2) (.slice Ao37 t646.length co37)) (fun _ hk => hk.2) (.int .i64 t649)) (fun _ h_ => h_.1))) hb); replace HO638 := A_ (Kd.S_below (by (with_reducible repeat (first | apply Kd.S_alloc | apply Kd.S_drewN | apply Kd.S_drew)); exact (Kd.S_mono (Kd.S_far (p := ⟨gb650, 7, none⟩) (Kd.S_far (p := ⟨gb650, 6, none⟩) (Kd.S_far (p := ⟨gb650, 5, none⟩) (Kd.S_far (p := ⟨gb650, 4, none⟩) (Kd.S_far (p := ⟨gb650, 3, none⟩) (Kd.S_far (p := ⟨gb650, 2, none⟩) (Kd.S_far (p := ⟨gb650, 1, none⟩) (Kd.S_far (p := ⟨gb650, 0, none⟩) (Kd.S_types HO638.out BK650.out (by decide)) (fun _ hk => hk.2) (.slice Ao30 t630.length co30)) (fun _ hk => hk.2) (.slice Ao33 t633.length co33)) (fun _ hk => hk.2) (.slice Ao34 t636.length co34)) (fun _ hk => hk.2) (.int .i64 t639)) (fun _ hk => hk.2) (.slice Ao35 t640.length co35)) (fun _ hk => hk.2) (.slice Ao36 t643.length co36)) (fun _ hk => hk.2) (.slice Ao37 t646.length co37)) (fun _ hk => hk.2) (.int .i64 t649)) (fun _ h_ => h_.1))) hb); replace HO642 := A_ (Kd.S_below (by (with_reducible repeat (first | apply Kd.S_alloc | apply Kd.S_drewN | apply Kd.S_drew)); exact (Kd.S_mono (Kd.S_far (p := ⟨gb650, 7, none⟩) (Kd.S_far (p := ⟨gb650, 6, none⟩) (Kd.S_far (p := ⟨gb650, 5, none⟩) (Kd.S_far (p := ⟨gb650, 4, none⟩) (Kd.S_far (p := ⟨gb650, 3, none⟩) (Kd.S_far (p := ⟨gb650, 2, none⟩) (Kd.S_far (p := ⟨gb650, 1, none⟩) (Kd.S_far (p := ⟨gb650, 0, none⟩) (Kd.S_types HO642.out BK650.out (by decide)) (fun _ hk => hk.2) (.slice Ao30 t630.length co30)) (fun _ hk => hk.2) (.slice Ao33 t633.length co33)) (fun _ hk => hk.2) (.slice Ao34 t636.length co34)) (fun _ hk => hk.2) (.int .i64 t639)) (fun _ hk => hk.2) (.slice Ao35 t640.length co35)) (fun _ hk => hk.2) (.slice Ao36 t643.length co36)) (fun _ hk => hk.2) (.slice Ao37 t646.length co37)) (fun _ hk => hk.2) (.int .i64 t649)) (fun _ h_ => h_.1))) hb); replace HO645 := A_ (Kd.R_below (by (with_reducible repeat (first | apply Kd.R_alloc | apply Kd.R_drewN | apply Kd.R_drew)); exact (Kd.R_mono (Kd.R_far (p := ⟨gb650, 7, none⟩) (Kd.R_far (p := ⟨gb650, 6, none⟩) (Kd.R_far (p := ⟨gb650, 5, none⟩) (Kd.R_far (p := ⟨gb650, 4, none⟩) (Kd.R_far (p := ⟨gb650, 3, none⟩) (Kd.R_far (p := ⟨gb650, 2, none⟩) (Kd.R_far (p := ⟨gb650, 1, none⟩) (Kd.R_far (p := ⟨gb650, 0, none⟩) (Kd.R_types HO645.out BK650.out (by decide)) (fun _ hk => hk.2) (.slice Ao30 t630.length co30)) (fun _ hk => hk.2) (.slice Ao33 t633.length co33)) (fun _ hk => hk.2) (.slice Ao34 t636.length co34)) (fun _ hk => hk.2) (.int .i64 t639)) (fun _ hk => hk.2) (.slice Ao35 t640.length co35)) (fun _ hk => hk.2) (.slice Ao36 t643.length co36)) (fun _ hk => hk.2) (.slice Ao37 t646.length co37)) (fun _ hk => hk.2) (.int .i64 t649)) (fun _ h_ => h_.1))) hb); replace HO648 := A_ (Kd.R_below (by (with_reducible repeat (first | apply Kd.R_alloc | apply Kd.R_drewN | apply Kd.R_drew)); exact (Kd.R_mono (Kd.R_far (p := ⟨gb650, 7, none⟩) (Kd.R_far (p := ⟨gb650, 6, none⟩) (Kd.R_far (p := ⟨gb650, 5, none⟩) (Kd.R_far (p := ⟨gb650, 4, none⟩) (Kd.R_far (p := ⟨gb650, 3, none⟩) (Kd.R_far (p := ⟨gb650, 2, none⟩) (Kd.R_far (p := ⟨gb650, 1, none⟩) (Kd.R_far (p := ⟨gb650, 0, none⟩) (Kd.R_types HO648.out BK650.out (by decide)) (fun _ hk => hk.2) (.slice Ao30 t630.length co30)) (fun _ hk => hk.2) (.slice Ao33 t633.length co33)) (fun _ hk => hk.2) (.slice Ao34 t636.length co34)) (fun _ hk => hk.2) (.int .i64 t639)) (fun _ hk => hk.2) (.slice Ao35 t640.length co35)) (fun _ hk => hk.2) (.slice Ao36 t643.length co36)) (fun _ hk => hk.2) (.slice Ao37 t646.length co37)) (fun _ hk => hk.2) (.int .i64 t649)) (fun _ h_ => h_.1))) hb); replace BK607 := bb_ BK607 hb; replace BK650 := bq_ (o' := .cells #[.slice Ao30 t630.length co30, .slice Ao33 t633.length co33, .slice Ao34 t636.length co34, .int .i64 t639, .slice Ao35 t640.length co35, .slice Ao36 t643.length co36, .slice Ao37 t646.length co37, .int .i64 t649] 93 (0, 0)) BK650 hb; replace HB := hs_ HB hb; (try clear hb); (try clear hb2); (try clear hk); (try clear hi)))
  replace HO611 := A_ (Kd.R_drew HO611.out)
  replace HO614 := A_ (Kd.S_drew HO614.out)
  replace HO617 := A_ (Kd.S_drew HO617.out)
  replace HO621 := A_ (Kd.S_drew HO621.out)
  replace HO624 := A_ (Kd.R_drew HO624.out)
  replace HO627 := A_ (Kd.R_drew HO627.out)
  replace HO632 := A_ (Kd.R_drew HO632.out)
  replace HO635 := A_ (Kd.S_drew HO635.out)
  replace HO638 := A_ (Kd.S_drew HO638.out)
  replace HO642 := A_ (Kd.S_drew HO642.out)
  replace HO645 := A_ (Kd.R_drew HO645.out)
  replace HO648 := A_ (Kd.R_drew HO648.out)
  replace BK607 := A_ (blk_drew BK607.out)
  replace BK650 := A_ (blk_drew BK650.out)
  replace HB := A_ (below_drew1 HB.out)
  refine start_ (n := 5) (S := fun w' => w'.cell? ⟨gb650, 0, none⟩ = some (.slice Ao30 t630.length co30) ∧ w'.cell? ⟨gb650, 1, none⟩ = some (.slice Ao33 t633.length co33) ∧ w'.cell? ⟨gb650, 2, none⟩ = some (.slice Ao34 t636.length co34) ∧ w'.cell? ⟨gb650, 3, none⟩ = some (.int .i64 t639) ∧ w'.cell? ⟨gb650, 4, none⟩ = some (.slice Ao35 t640.length co35) ∧ w'.cell? ⟨gb650, 5, none⟩ = some (.slice Ao36 t643.length co36) ∧ w'.cell? ⟨gb650, 6, none⟩ = some (.slice Ao37 t646.length co37) ∧ w'.cell? ⟨gb650, 7, none⟩ = some (.int .i64 t649) ∧ w'.cell? ⟨gb607, 0, none⟩ = some (.slice A0_0 l0_0.length c0_0) ∧ w'.cell? ⟨gb607, 1, none⟩ = some (.slice A0_1 l0_1.length c0_1) ∧ w'.cell? ⟨gb607, 2, none⟩ = some (.slice A0_2 l0_2.length c0_2) ∧ w'.cell? ⟨gb607, 3, none⟩ = some (.int .i64 a0_3) ∧ w'.cell? ⟨gb607, 4, none⟩ = some (.slice A0_4 l0_4.length c0_4) ∧ w'.cell? ⟨gb607, 5, none⟩ = some (.slice A0_5 l0_5.length c0_5) ∧ w'.cell? ⟨gb607, 6, none⟩ = some (.slice A0_6 l0_6.length c0_6) ∧ w'.cell? ⟨gb607, 7, none⟩ = some (.int .i64 a0_7)) (ds := []) (bt_ 0 5) (by kernel_rfl) rfl rfl ⟨(blk_cell BK650.out 0).trans rfl, (blk_cell BK650.out 1).trans rfl, (blk_cell BK650.out 2).trans rfl, (blk_cell BK650.out 3).trans rfl, (blk_cell BK650.out 4).trans rfl, (blk_cell BK650.out 5).trans rfl, (blk_cell BK650.out 6).trans rfl, (blk_cell BK650.out 7).trans rfl, (blk_cell BK607.out 0).trans rfl, (blk_cell BK607.out 1).trans rfl, (blk_cell BK607.out 2).trans rfl, (blk_cell BK607.out 3).trans rfl, (blk_cell BK607.out 4).trans rfl, (blk_cell BK607.out 5).trans rfl, (blk_cell BK607.out 6).trans rfl, (blk_cell BK607.out 7).trans rfl⟩ (fun hHeld => ?_)
  generalize w38.drew = w39 at HO611 HO614 HO617 HO621 HO624 HO627 HO632 HO635 HO638 HO642 HO645 HO648 BK607 BK650 HB hHeld ⊢
  refine take_ (i := 0) (N := some 22) (v := ?_) (a' := ?_) (bt_ 1 5) rfl rfl (by kernel_rfl) (fun _ _ _ h => h) (Or.inl ⟨by rfl, ?_⟩) hHeld ?_ ?_
  rotate_left
  ·
   rintro w' ⟨s0, s1, s2, s3, s4, s5, s6, s7, s8, s9, s10, s11, s12, s13, s14, s15⟩
   go_simp
   with_reducible rfl
  rotate_left
  ·
   simp only [Act.put, List.setIfInBounds_toArray, List.set_cons_zero, List.set_cons_succ, i64_w, i32_w]
   rfl
  refine take_ (i := 1) (N := some 23) (v := ?_) (a' := ?_) (bt_ 3 5) rfl rfl (by kernel_rfl) (fun _ _ _ h => h) (Or.inl ⟨by rfl, ?_⟩) hHeld ?_ ?_
  rotate_left
  ·
   rintro w' ⟨s0, s1, s2, s3, s4, s5, s6, s7, s8, s9, s10, s11, s12, s13, s14, s15⟩
   go_simp
   with_reducible rfl
  rotate_left
  ·
   simp only [Act.put, List.setIfInBounds_toArray, List.set_cons_zero, List.set_cons_succ, i64_w, i32_w]
   rfl
  refine one_ (i := 2) (N := some 24) (bt_ 7 5) rfl rfl (by kernel_rfl) (by decide) (fun K hK => ?_)
  refine goes_ Tryz.func49 (by kernel_rfl) rfl #[.agg #[.slice A0_0 l0_0.length c0_0, .slice A0_1 l0_1.length c0_1, .slice A0_2 l0_2.length c0_2, .int .i64 a0_3, .slice A0_4 l0_4.length c0_4, .slice A0_5 l0_5.length c0_5, .slice A0_6 l0_6.length c0_6, .int .i64 a0_7]] (by rfl) rfl rfl al_ ?_
  with_reducible refine (laws_toMachine.calls k _ _ l0_0 _ _ l0_1 _ _ l0_2 a0_3 _ _ l0_4 _ _ l0_5 _ _ l0_6 a0_7 t652 t655 t658 t661 t662 t665 t668 t671 _ ?s1 ?s2 ?s3 ?s4 ?s5 ?s6 ?s7 ?s8 ?s9 ?s10 ?s11 ?s12 A12.out).mono ?_
  (case s1 => exact cb_ (Kd.C_below HR0_0.out HB.out))
  (case s2 => exact HC0_0.out)
  (case s3 => exact cb_ (Kd.C_below HR0_1.out HB.out))
  (case s4 => exact HC0_1.out)
  (case s5 => exact cb_ (Kd.C_below HR0_2.out HB.out))
  (case s6 => exact HC0_2.out)
  (case s7 => exact cb_ (Kd.C_below HR0_4.out HB.out))
  (case s8 => exact HC0_4.out)
  (case s9 => exact cb_ (Kd.C_below HR0_5.out HB.out))
  (case s10 => exact HC0_5.out)
  (case s11 => exact cb_ (Kd.C_below HR0_6.out HB.out))
  (case s12 => exact HC0_6.out)
  rintro e w40 ⟨v653, v656, v659, v663, v666, v669, rfl, ho0, ho1, ho2, ho3, ho4, ho5, hb⟩
  refine ⟨_, rfl, ?_⟩
  have HO654 := A_ (Kd.R_lower (Kd.R_new' (Kd.R_new' ho0 (Kd.R_lt (rb_ HO611.out))) (Kd.R_lt (rb_ HO632.out))) (below_size (hb_ HB)))
  have HO657 := A_ (Kd.S_lower (Kd.S_new' (Kd.S_new' (Kd.S_new' (Kd.S_new' (Kd.S_new' (Kd.S_new' ho1 (Kd.S_lt (sb_ HO614.out))) (Kd.R_lt (rb_ HO624.out))) (Kd.R_lt (rb_ HO627.out))) (Kd.S_lt (sb_ HO635.out))) (Kd.R_lt (rb_ HO645.out))) (Kd.R_lt (rb_ HO648.out))) (below_size (hb_ HB)))
  have HO660 := A_ (Kd.S_lower (Kd.S_new' (Kd.S_new' ho2 (Kd.S_lt (sb_ HO617.out))) (Kd.S_lt (sb_ HO638.out))) (below_size (hb_ HB)))
  have HO664 := A_ (Kd.S_lower (Kd.S_new' (Kd.S_new' (Kd.S_new' (Kd.S_new' (Kd.S_new' (Kd.S_new' ho3 (Kd.S_lt (sb_ HO621.out))) (Kd.R_lt (rb_ HO624.out))) (Kd.R_lt (rb_ HO627.out))) (Kd.S_lt (sb_ HO642.out))) (Kd.R_lt (rb_ HO645.out))) (Kd.R_lt (rb_ HO648.out))) (below_size (hb_ HB)))
  have HO667 := A_ (Kd.R_lower (Kd.R_new' (Kd.R_new' (Kd.R_new' (Kd.R_new' ho4 (Kd.R_lt (rb_ HO624.out))) (Kd.R_lt (rb_ HO627.out))) (Kd.R_lt (rb_ HO645.out))) (Kd.R_lt (rb_ HO648.out))) (below_size (hb_ HB)))
  have HO670 := A_ (Kd.R_lower (Kd.R_new' (Kd.R_new' (Kd.R_new' (Kd.R_new' ho5 (Kd.R_lt (rb_ HO624.out))) (Kd.R_lt (rb_ HO627.out))) (Kd.R_lt (rb_ HO645.out))) (Kd.R_lt (rb_ HO648.out))) (below_size (hb_ HB)))
  replace HO611 := A_ (Kd.R_elder' (rb_ HO611.out) (Kd.R_base ho0) hb)
  replace HO614 := A_ (Kd.S_mono (Kd.S_told (Kd.S_told (Kd.S_told (Kd.S_old (sb_ HO614.out) hb) (Kd.S_base ho1)) (Kd.R_base ho4)) (Kd.R_base ho5)) (fun _ h_ => h_.1))
  replace HO617 := A_ (Kd.S_elder' (sb_ HO617.out) (Kd.S_base ho2) hb)
  replace HO621 := A_ (Kd.S_mono (Kd.S_told (Kd.S_told (Kd.S_told (Kd.S_old (sb_ HO621.out) hb) (Kd.S_base ho3)) (Kd.R_base ho4)) (Kd.R_base ho5)) (fun _ h_ => h_.1))
  replace HO624 := A_ (Kd.R_mono (Kd.R_told (Kd.R_told (Kd.R_old (rb_ HO624.out) hb) (Kd.R_base ho4)) (Kd.R_base ho5)) (fun _ h_ => h_.1))
  replace HO627 := A_ (Kd.R_mono (Kd.R_told (Kd.R_told (Kd.R_old (rb_ HO627.out) hb) (Kd.R_base ho4)) (Kd.R_base ho5)) (fun _ h_ => h_.1))
  replace HO632 := A_ (Kd.R_elder' (rb_ HO632.out) (Kd.R_base ho0) hb)
  replace HO635 := A_ (Kd.S_mono (Kd.S_told (Kd.S_told (Kd.S_told (Kd.S_old (sb_ HO635.out) hb) (Kd.S_base ho1)) (Kd.R_base ho4)) (Kd.R_base ho5)) (fun _ h_ => h_.1))
  replace HO638 := A_ (Kd.S_elder' (sb_ HO638.out) (Kd.S_base ho2) hb)
  replace HO642 := A_ (Kd.S_mono (Kd.S_told (Kd.S_told (Kd.S_told (Kd.S_old (sb_ HO642.out) hb) (Kd.S_base ho3)) (Kd.R_base ho4)) (Kd.R_base ho5)) (fun _ h_ => h_.1))
  replace HO645 := A_ (Kd.R_mono (Kd.R_told (Kd.R_told (Kd.R_old (rb_ HO645.out) hb) (Kd.R_base ho4)) (Kd.R_base ho5)) (fun _ h_ => h_.1))
  replace HO648 := A_ (Kd.R_mono (Kd.R_told (Kd.R_told (Kd.R_old (rb_ HO648.out) hb) (Kd.R_base ho4)) (Kd.R_base ho5)) (fun _ h_ => h_.1))
  replace BK607 := bb_ BK607 hb
  replace BK650 := bb_ BK650 hb
  replace HB := hs_ HB hb
  (try clear hb)
  (try clear hb2)
  (try clear hk)
  (try clear hi)
  (try clear ho0)
  (try clear ho1)
  (try clear ho2)
  (try clear ho3)
  (try clear ho4)
  (try clear ho5)
  obtain ⟨Ao41, co41, eo41⟩ := Kd.R_slice HO654.out
  (first | subst eo41 | (injection eo41 with f1_ f2_ f3_; have f4_ := f1_.symm; have f5_ := f3_.symm; clear f1_ f2_ f3_; subst f4_; subst f5_))
  obtain ⟨Ao42, co42, eo42⟩ := Kd.S_slice HO657.out
  (first | subst eo42 | (injection eo42 with f1_ f2_ f3_; have f4_ := f1_.symm; have f5_ := f3_.symm; clear f1_ f2_ f3_; subst f4_; subst f5_))
  obtain ⟨Ao43, co43, eo43⟩ := Kd.S_slice HO660.out
  (first | subst eo43 | (injection eo43 with f1_ f2_ f3_; have f4_ := f1_.symm; have f5_ := f3_.symm; clear f1_ f2_ f3_; subst f4_; subst f5_))
  obtain ⟨Ao44, co44, eo44⟩ := Kd.S_slice HO664.out
  (first | subst eo44 | (injection eo44 with f1_ f2_ f3_; have f4_ := f1_.symm; have f5_ := f3_.symm; clear f1_ f2_ f3_; subst f4_; subst f5_))
  obtain ⟨Ao45, co45, eo45⟩ := Kd.R_slice HO667.out
  (first | subst eo45 | (injection eo45 with f1_ f2_ f3_; have f4_ := f1_.symm; have f5_ := f3_.symm; clear f1_ f2_ f3_; subst f4_; subst f5_))
  obtain ⟨Ao46, co46, eo46⟩ := Kd.R_slice HO670.out
  (first | subst eo46 | (injection eo46 with f1_ f2_ f3_; have f4_ := f1_.symm; have f5_ := f3_.symm; clear f1_ f2_ f3_; subst f4_; subst f5_))
  refine hK.out _ _ ⟨(blk_cell BK650.out 0).trans rfl, (blk_cell BK650.out 1).trans rfl, (blk_cell BK650.out 2).trans rfl, (blk_cell BK650.out 3).trans rfl, (blk_cell BK650.out 4).trans rfl, (blk_cell BK650.out 5).trans rfl, (blk_cell BK650.out 6).trans rfl, (blk_cell BK650.out 7).trans rfl, (blk_cell BK607.out 0).trans rfl, (blk_cell BK607.out 1).trans rfl, (blk_cell BK607.out 2).trans rfl, (blk_cell BK607.out 3).trans rfl, (blk_cell BK607.out 4).trans rfl, (blk_cell BK607.out 5).trans rfl, (blk_cell BK607.out 6).trans rfl, (blk_cell BK607.out 7).trans rfl⟩ (fun hHeld => ?_)
  clear hK K
  refine norm_ (a' := ?_) ?_ ?_
  rotate_left
  ·
   show Act.put _ (some 24) _ = _
   simp only [Act.put, List.setIfInBounds_toArray, List.set_cons_zero, List.set_cons_succ, i64_w, i32_w]
   rfl
  refine one_ (i := 3) (N := some 25) (bt_ 15 5) rfl rfl (by kernel_rfl) (by decide) (fun K hK => ?_)
  refine goes_ Tryz.func51 (by kernel_rfl) rfl #[.agg #[.slice Ao30 t630.length co30, .slice Ao33 t633.length co33, .slice Ao34 t636.length co34, .int .i64 t639, .slice Ao35 t640.length co35, .slice Ao36 t643.length co36, .slice Ao37 t646.length co37, .int .i64 t649], .agg #[.slice Ao41 t652.length co41, .slice Ao42 t655.length co42, .slice Ao43 t658.length co43, .int .i64 t661, .slice Ao44 t662.length co44, .slice Ao45 t665.length co45, .slice Ao46 t668.length co46, .int .i64 t671]] (by rfl) rfl rfl al_ ?_
  with_reducible refine (laws_eqMachine.calls k _ _ t630 _ _ t633 _ _ t636 t639 _ _ t640 _ _ t643 _ _ t646 t649 _ _ t652 _ _ t655 _ _ t658 t661 _ _ t662 _ _ t665 _ _ t668 t671 true _ ?s1 ?s2 ?s3 ?s4 ?s5 ?s6 ?s7 ?s8 ?s9 ?s10 ?s11 ?s12 ?s13 ?s14 ?s15 ?s16 ?s17 ?s18 ?s19 ?s20 ?s21 ?s22 ?s23 ?s24 A13.out).mono ?_
  (case s1 => repeat (first | exact (Kd.R_reads' HO632.out).2.2 | (with_reducible refine Kd.C_alloc ?_ _) | (with_reducible refine Kd.C_drewN ?_ _) | (with_reducible refine Kd.C_drew ?_)))
  (case s2 => exact (Kd.R_reads' HO632.out).2.1)
  (case s3 => repeat (first | exact (Kd.S_reads' HO635.out).2.2 | (with_reducible refine Kd.C_alloc ?_ _) | (with_reducible refine Kd.C_drewN ?_ _) | (with_reducible refine Kd.C_drew ?_)))
  (case s4 => exact (Kd.S_reads' HO635.out).2.1)
  (case s5 => repeat (first | exact (Kd.S_reads' HO638.out).2.2 | (with_reducible refine Kd.C_alloc ?_ _) | (with_reducible refine Kd.C_drewN ?_ _) | (with_reducible refine Kd.C_drew ?_)))
  (case s6 => exact (Kd.S_reads' HO638.out).2.1)
  (case s7 => repeat (first | exact (Kd.S_reads' HO642.out).2.2 | (with_reducible refine Kd.C_alloc ?_ _) | (with_reducible refine Kd.C_drewN ?_ _) | (with_reducible refine Kd.C_drew ?_)))
  (case s8 => exact (Kd.S_reads' HO642.out).2.1)
  (case s9 => repeat (first | exact (Kd.R_reads' HO645.out).2.2 | (with_reducible refine Kd.C_alloc ?_ _) | (with_reducible refine Kd.C_drewN ?_ _) | (with_reducible refine Kd.C_drew ?_)))
  (case s10 => exact (Kd.R_reads' HO645.out).2.1)
  (case s11 => repeat (first | exact (Kd.R_reads' HO648.out).2.2 | (with_reducible refine Kd.C_alloc ?_ _) | (with_reducible refine Kd.C_drewN ?_ _) | (with_reducible refine Kd.C_drew ?_)))
  (case s12 => exact (Kd.R_reads' HO648.out).2.1)
  (case s13 => repeat (first | exact (Kd.R_reads' HO654.out).2.2 | (with_reducible refine Kd.C_alloc ?_ _) | (with_reducible refine Kd.C_drewN ?_ _) | (with_reducible refine Kd.C_drew ?_)))
  (case s14 => exact (Kd.R_reads' HO654.out).2.1)
  (case s15 => repeat (first | exact (Kd.S_reads' HO657.out).2.2 | (with_reducible refine Kd.C_alloc ?_ _) | (with_reducible refine Kd.C_drewN ?_ _) | (with_reducible refine Kd.C_drew ?_)))
  (case s16 => exact (Kd.S_reads' HO657.out).2.1)
  (case s17 => repeat (first | exact (Kd.S_reads' HO660.out).2.2 | (with_reducible refine Kd.C_alloc ?_ _) | (with_reducible refine Kd.C_drewN ?_ _) | (with_reducible refine Kd.C_drew ?_)))
  (case s18 => exact (Kd.S_reads' HO660.out).2.1)
  (case s19 => repeat (first | exact (Kd.S_reads' HO664.out).2.2 | (with_reducible refine Kd.C_alloc ?_ _) | (with_reducible refine Kd.C_drewN ?_ _) | (with_reducible refine Kd.C_drew ?_)))
  (case s20 => exact (Kd.S_reads' HO664.out).2.1)
  (case s21 => repeat (first | exact (Kd.R_reads' HO667.out).2.2 | (with_reducible refine Kd.C_alloc ?_ _) | (with_reducible refine Kd.C_drewN ?_ _) | (with_reducible refine Kd.C_drew ?_)))
  (case s22 => exact (Kd.R_reads' HO667.out).2.1)
  (case s23 => repeat (first | exact (Kd.R_reads' HO670.out).2.2 | (with_reducible refine Kd.C_alloc ?_ _) | (with_reducible refine Kd.C_drewN ?_ _) | (with_reducible refine Kd.C_drew ?_)))
  (case s24 => exact (Kd.R_reads' HO670.out).2.1)
  rintro e w47 ⟨rfl, hb⟩
  refine ⟨_, rfl, ?_⟩
  replace HO611 := A_ (Kd.R_below (rb_ HO611.out) hb)
  replace HO614 := A_ (Kd.S_below (sb_ HO614.out) hb)
  replace HO617 := A_ (Kd.S_below (sb_ HO617.out) hb)
  replace HO621 := A_ (Kd.S_below (sb_ HO621.out) hb)
  replace HO624 := A_ (Kd.R_below (rb_ HO624.out) hb)
  replace HO627 := A_ (Kd.R_below (rb_ HO627.out) hb)
  replace HO632 := A_ (Kd.R_below (rb_ HO632.out) hb)
  replace HO635 := A_ (Kd.S_below (sb_ HO635.out) hb)
  replace HO638 := A_ (Kd.S_below (sb_ HO638.out) hb)
  replace HO642 := A_ (Kd.S_below (sb_ HO642.out) hb)
  replace HO645 := A_ (Kd.R_below (rb_ HO645.out) hb)
  replace HO648 := A_ (Kd.R_below (rb_ HO648.out) hb)
  replace HO654 := A_ (Kd.R_below (rb_ HO654.out) hb)
  replace HO657 := A_ (Kd.S_below (sb_ HO657.out) hb)
  replace HO660 := A_ (Kd.S_below (sb_ HO660.out) hb)
  replace HO664 := A_ (Kd.S_below (sb_ HO664.out) hb)
  replace HO667 := A_ (Kd.R_below (rb_ HO667.out) hb)
  replace HO670 := A_ (Kd.R_below (rb_ HO670.out) hb)
  replace BK607 := bb_ BK607 hb
  replace BK650 := bb_ BK650 hb
  replace HB := hs_ HB hb
  (try clear hb)
  (try clear hb2)
  (try clear hk)
  (try clear hi)
  refine hK.out _ _ ⟨(blk_cell BK650.out 0).trans rfl, (blk_cell BK650.out 1).trans rfl, (blk_cell BK650.out 2).trans rfl, (blk_cell BK650.out 3).trans rfl, (blk_cell BK650.out 4).trans rfl, (blk_cell BK650.out 5).trans rfl, (blk_cell BK650.out 6).trans rfl, (blk_cell BK650.out 7).trans rfl, (blk_cell BK607.out 0).trans rfl, (blk_cell BK607.out 1).trans rfl, (blk_cell BK607.out 2).trans rfl, (blk_cell BK607.out 3).trans rfl, (blk_cell BK607.out 4).trans rfl, (blk_cell BK607.out 5).trans rfl, (blk_cell BK607.out 6).trans rfl, (blk_cell BK607.out 7).trans rfl⟩ (fun hHeld => ?_)
  clear hK K
  refine norm_ (a' := ?_) ?_ ?_
  rotate_left
  ·
   show Act.put _ (some 25) _ = _
   simp only [Act.put, List.setIfInBounds_toArray, List.set_cons_zero, List.set_cons_succ, i64_w, i32_w]
   rfl
  refine pure_ (i := 4) (N := some 26) (v := ?_) (a' := ?_) (bt_ 31 5) rfl rfl (by kernel_rfl) (fun _ _ _ h => h) (Or.inl ⟨by rfl, ?_⟩) ?_ ?_
  rotate_left
  ·
   intro w'
   go_simp
   with_reducible rfl
  rotate_left
  ·
   simp only [Act.put, List.setIfInBounds_toArray, List.set_cons_zero, List.set_cons_succ, i64_w, i32_w]
   rfl
  refine done_ (by kernel_rfl) ?_
  try go_wp2
  go_ret
  exact ⟨rs_, hb_ HB⟩
 obtain rfl := Bool.eq_false_iff.mpr c14
 replace H := iF_ H
 exact absurd H (by simp)
end Go.Proofs.YtdcinhpdpoodfaaGreat.PFnExactFinished
