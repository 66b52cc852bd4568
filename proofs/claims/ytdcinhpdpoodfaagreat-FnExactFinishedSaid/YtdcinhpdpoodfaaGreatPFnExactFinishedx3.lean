/- Contracts of functions of the program. No condition beyond the hypotheses that each theorem names. -/
import Derived.Test.YtdcinhpdpoodfaaGreatPFnExactFinishedx0
import Derived.Test.YtdcinhpdpoodfaaGreatPFnExactFinishedx2
namespace Go.Proofs.YtdcinhpdpoodfaaGreat.PFnExactFinished
open Go.RowKit Go.Proofs.YtdcinhpdpoodfaaGreatW.PrintWords Go.Proofs.YtdcinhpdpoodfaaGreatW.PrintLast Go.Proofs.YtdcinhpdpoodfaaGreatW.PrintMore
attribute [local go_sem] max2_int min2_int max_two min_two max_three min_three max_four min_four
set_option linter.unusedVariables false
set_option linter.unusedSimpArgs false
def laws_szRows.f (l0_0 : List Int) (a0_1 : Int) (a1 : Int) : Option (Int) := (laws_szIntS.f l0_0 a1).bind fun t122 => (if t122 < 0 then (some (-1)) else (some t122))
set_option maxHeartbeats 8000000 in
set_option maxRecDepth 100000 in
theorem laws_szRows.calls (A0_0 : Option Addr) (c0_0 : Nat) (l0_0 : List Int) (a0_1 : Int) (a1 : Int) (r : Int) (w : World) (hr0_0 : Kd.C (Kd.int .i64) w A0_0 l0_0.length l0_0) (hc0_0 : l0_0.length ≤ c0_0) (h : laws_szRows.f l0_0 a0_1 a1 = some r) :
    Calls Tryz.prog 101 #[.agg #[.slice A0_0 l0_0.length c0_0, .int .i64 a0_1], .int .i64 a1] w fun e w' => e = .returned (.int .i64 r) ∧ Below w.heap.size w w' := by
 have hu84 := Tryz.underlying84
 have HR0_0 := A_ hr0_0
 have HC0_0 := A_ hc0_0
 clear hr0_0 hc0_0
 have HB := A_ (Below.refl w.heap.size w)
 have H : ((laws_szIntS.f l0_0 a1).bind fun t122 => (if t122 < 0 then (some (-1)) else (some t122))) = some r := h
 clear h
 replace H := bs_ H
 obtain ⟨t122, A3, H⟩ := H
 replace H := ic_ H
 rcases H with ⟨c4b0, H⟩ | ⟨c4b0, H⟩
 ·
  obtain rfl := Option.some.inj H
  go_enter Tryz.func101, Tryz.ntmps101
  go_wp2_with (first | ((with_reducible refine gate_dst (N := 2) rfl ?_); refine bx_ HB rfl (N := 2) rfl (cs := #[.slice A0_0 l0_0.length c0_0, .int .i64 a0_1]) (t := 84) hr_ ?_; clear HB; intro gb121 w5 hg hb BK121 GW121 HB; clear hb hg; obtain ⟨z6_0, z6_1, y6_0, y6_1⟩ := cz2_ BK121) | ((with_reducible refine gate_callee (f := 100) rfl ?_); refine Y15_ ?_; intro nd))
  go_ret
  exact ⟨rs_, hb_ HB⟩
 obtain rfl := Option.some.inj H
 go_enter Tryz.func101, Tryz.ntmps101
 go_wp2_with (first | ((with_reducible refine gate_dst (N := 2) rfl ?_); refine bx_ HB rfl (N := 2) rfl (cs := #[.slice A0_0 l0_0.length c0_0, .int .i64 a0_1]) (t := 84) hr_ ?_; clear HB; intro gb121 w7 hg hb BK121 GW121 HB; clear hb hg; obtain ⟨z8_0, z8_1, y8_0, y8_1⟩ := cz2_ BK121) | ((with_reducible refine gate_callee (f := 100) rfl ?_); refine Y15_ ?_; intro nd))
 go_ret
 exact ⟨rs_, hb_ HB⟩
def laws_szMachine.f (k : Nat) (l0_0 : List (S207)) (l0_1 : List (S201)) (l0_2 : List (S176)) (a0_3 : Int) (l0_4 : List (S181)) (l0_5 : List Int) (l0_6 : List Int) (a0_7 : Int) (a1 : Int) : Option (Int) := (laws_szMem.f k l0_0 l0_1 a1).bind fun t124 => (if t124 < 0 then (some (-1)) else ((laws_szThreadS.f k l0_2 t124).bind fun t125 => (if t125 < 0 then (some (-1)) else ((laws_szCallS.f k l0_4 t125).bind fun t126 => (if t126 < 0 then (some (-1)) else ((laws_szIntS.f l0_5 t126).bind fun t127 => (if t127 < 0 then (some (-1)) else ((laws_szRows.f l0_6 a0_7 t127).bind fun t128 => (if t128 < 0 then (some (-1)) else (some t128))))))))))
set_option maxHeartbeats 8000000 in
set_option maxRecDepth 100000 in
theorem laws_szMachine.calls (k : Nat) (A0_0 : Option Addr) (c0_0 : Nat) (l0_0 : List (S207)) (A0_1 : Option Addr) (c0_1 : Nat) (l0_1 : List (S201)) (A0_2 : Option Addr) (c0_2 : Nat) (l0_2 : List (S176)) (a0_3 : Int) (A0_4 : Option Addr) (c0_4 : Nat) (l0_4 : List (S181)) (A0_5 : Option Addr) (c0_5 : Nat) (l0_5 : List Int) (A0_6 : Option Addr) (c0_6 : Nat) (l0_6 : List Int) (a0_7 : Int) (a1 : Int) (r : Int) (w : World) (hr0_0 : Kd.C k207 w A0_0 l0_0.length l0_0) (hc0_0 : l0_0.length ≤ c0_0) (hr0_1 : Kd.C k201 w A0_1 l0_1.length l0_1) (hc0_1 : l0_1.length ≤ c0_1) (hr0_2 : Kd.C k176 w A0_2 l0_2.length l0_2) (hc0_2 : l0_2.length ≤ c0_2) (hr0_4 : Kd.C k181 w A0_4 l0_4.length l0_4) (hc0_4 : l0_4.length ≤ c0_4) (hr0_5 : Kd.C (Kd.int .i64) w A0_5 l0_5.length l0_5) (hc0_5 : l0_5.length ≤ c0_5) (hr0_6 : Kd.C (Kd.int .i64) w A0_6 l0_6.length l0_6) (hc0_6 : l0_6.length ≤ c0_6) (h : laws_szMachine.f k l0_0 l0_1 l0_2 a0_3 l0_4 l0_5 l0_6 a0_7 a1 = some r) :
    Calls Tryz.prog 47 #[.agg #[.slice A0_0 l0_0.length c0_0, .slice A0_1 l0_1.length c0_1, .slice A0_2 l0_2.length c0_2, .int .i64 a0_3, .slice A0_4 l0_4.length c0_4, .slice A0_5 l0_5.length c0_5, .slice A0_6 l0_6.length c0_6, .int .i64 a0_7], .int .i64 a1] w fun e w' => e = .returned (.int .i64 r) ∧ Below w.heap.size w w' := by
 have hu86 := Tryz.underlying86
 have hu80 := Tryz.underlying80
 have hu84 := Tryz.underlying84
 have HR0_0 := A_ hr0_0
 have HC0_0 := A_ hc0_0
 clear hr0_0 hc0_0
 have HR0_1 := A_ hr0_1
 have HC0_1 := A_ hc0_1
 clear hr0_1 hc0_1
 have HR0_2 := A_ hr0_2
 have HC0_2 := A_ hc0_2
 clear hr0_2 hc0_2
 have HR0_4 := A_ hr0_4
 have HC0_4 := A_ hc0_4
 clear hr0_4 hc0_4
 have HR0_5 := A_ hr0_5
 have HC0_5 := A_ hc0_5
 clear hr0_5 hc0_5
 have HR0_6 := A_ hr0_6
 have HC0_6 := A_ hc0_6
 clear hr0_6 hc0_6
 have HB := A_ (Below.refl w.heap.size w)
 have H : ((laws_szMem.f k l0_0 l0_1 a1).bind fun t124 => (if t124 < 0 then (some (-1)) else ((laws_szThreadS.f k l0_2 t124).bind fun t125 => (if t125 < 0 then (some (-1)) else ((laws_szCallS.f k l0_4 t125).bind fun t126 => (if t126 < 0 then (some (-1)) else ((laws_szIntS.f l0_5 t126).bind fun t127 => (if t127 < 0 then (some (-1)) else ((laws_szRows.f l0_6 a0_7 t127).bind fun t128 => (if t128 < 0 then (some (-1)) else (some t128))))))))))) = some r := h
 clear h
 replace H := bs_ H
 obtain ⟨t124, A3, H⟩ := H
 replace H := ic_ H
 rcases H with ⟨c4b0, H⟩ | ⟨c4b0, H⟩
 ·
  obtain rfl := Option.some.inj H
  go_enter Tryz.func47, Tryz.ntmps47
  go_wp2_with (first | ((with_reducible refine gate_dst (N := 2) rfl ?_); refine Y16_ ?_; clear HB; intro gb123 w5 BK123 GW123 HB z6_0 z6_1 z6_2 z6_3 z6_4 z6_5 z6_6 z6_7 y6_0 y6_1 y6_2 y6_3 y6_4 y6_5 y6_6 y6_7) | ((with_reducible refine gate_callee (f := 97) rfl ?_); refine goesL_ (some 8) rfl rfl Tryz.func97 (by kernel_rfl) rfl #[.agg #[.slice A0_0 l0_0.length c0_0, .slice A0_1 l0_1.length c0_1], .int .i64 a1] rfl al_ ?_; (with_reducible refine (laws_szMem.calls k _ _ l0_0 _ _ l0_1 a1 t124 _ ?s1 ?s2 ?s3 ?s4 A3.out).mono ?_); (case s1 => exact cb_ (Kd.C_below HR0_0.out HB.out)); (case s2 => exact HC0_0.out); (case s3 => exact cb_ (Kd.C_below HR0_1.out HB.out)); (case s4 => exact HC0_1.out); rintro e w7 ⟨rfl, hb⟩; refine ⟨_, rfl, ?_⟩; replace BK123 := bb_ BK123 hb; replace HB := hs_ HB hb; clear hb))
  go_ret
  exact ⟨rs_, hb_ HB⟩
 replace H := bs_ H
 obtain ⟨t125, A8, H⟩ := H
 replace H := ic_ H
 rcases H with ⟨c9b0, H⟩ | ⟨c9b0, H⟩
 ·
  obtain rfl := Option.some.inj H
  go_enter Tryz.func47, Tryz.ntmps47
  go_wp2_with (first | ((with_reducible refine gate_dst (N := 2) rfl ?_); refine Y16_ ?_; clear HB; intro gb123 w10 BK123 GW123 HB z11_0 z11_1 z11_2 z11_3 z11_4 z11_5 z11_6 z11_7 y11_0 y11_1 y11_2 y11_3 y11_4 y11_5 y11_6 y11_7) | ((with_reducible refine gate_callee (f := 97) rfl ?_); refine Y17_ ?_; clear BK123 HB; intro w12 BK123 HB z13_0 z13_1 z13_2 z13_3 z13_4 z13_5 z13_6 z13_7 y13_0 y13_1 y13_2 y13_3 y13_4 y13_5 y13_6 y13_7) | ((with_reducible refine gate_callee (f := 98) rfl ?_); refine goesL_ (some 14) rfl rfl Tryz.func98 (by kernel_rfl) rfl #[.slice A0_2 l0_2.length c0_2, .int .i64 t124] rfl al_ ?_; (with_reducible refine (laws_szThreadS.calls k _ _ l0_2 t124 t125 _ ?s1 ?s2 A8.out).mono ?_); (case s1 => exact cb_ (Kd.C_below HR0_2.out HB.out)); (case s2 => exact HC0_2.out); rintro e w14 ⟨rfl, hb⟩; refine ⟨_, rfl, ?_⟩; replace BK123 := bb_ BK123 hb; replace HB := hs_ HB hb; clear hb))
  go_ret
  exact ⟨rs_, hb_ HB⟩
 replace H := bs_ H
 obtain ⟨t126, A15, H⟩ := H
 replace H := ic_ H
 rcases H with ⟨c16b0, H⟩ | ⟨c16b0, H⟩
 ·
  obtain rfl := Option.some.inj H
  go_enter Tryz.func47, Tryz.ntmps47
  go_wp2_with (first | ((with_reducible refine gate_dst (N := 2) rfl ?_); refine Y16_ ?_; clear HB; intro gb123 w17 BK123 GW123 HB z18_0 z18_1 z18_2 z18_3 z18_4 z18_5 z18_6 z18_7 y18_0 y18_1 y18_2 y18_3 y18_4 y18_5 y18_6 y18_7) | ((with_reducible refine gate_callee (f := 97) rfl ?_); refine Y17_ ?_; clear BK123 HB; intro w19 BK123 HB z20_0 z20_1 z20_2 z20_3 z20_4 z20_5 z20_6 z20_7 y20_0 y20_1 y20_2 y20_3 y20_4 y20_5 y20_6 y20_7) | ((with_reducible refine gate_callee (f := 98) rfl ?_); refine Y18_ ?_; clear BK123 HB; intro w21 BK123 HB z22_0 z22_1 z22_2 z22_3 z22_4 z22_5 z22_6 z22_7 y22_0 y22_1 y22_2 y22_3 y22_4 y22_5 y22_6 y22_7) | ((with_reducible refine gate_callee (f := 99) rfl ?_); refine goesL_ (some 20) rfl rfl Tryz.func99 (by kernel_rfl) rfl #[.slice A0_4 l0_4.length c0_4, .int .i64 t125] rfl al_ ?_; (with_reducible refine (laws_szCallS.calls k _ _ l0_4 t125 t126 _ ?s1 ?s2 A15.out).mono ?_); (case s1 => exact cb_ (Kd.C_below HR0_4.out HB.out)); (case s2 => exact HC0_4.out); rintro e w23 ⟨rfl, hb⟩; refine ⟨_, rfl, ?_⟩; replace BK123 := bb_ BK123 hb; replace HB := hs_ HB hb; clear hb))
  go_ret
  exact ⟨rs_, hb_ HB⟩
 replace H := bs_ H
 obtain ⟨t127, A24, H⟩ := H
 replace H := ic_ H
 rcases H with ⟨c25b0, H⟩ | ⟨c25b0, H⟩
 ·
  obtain rfl := Option.some.inj H
  go_enter Tryz.func47, Tryz.ntmps47
  go_wp2_with (first | ((with_reducible refine gate_dst (N := 2) rfl ?_); refine Y16_ ?_; clear HB; intro gb123 w26 BK123 GW123 HB z27_0 z27_1 z27_2 z27_3 z27_4 z27_5 z27_6 z27_7 y27_0 y27_1 y27_2 y27_3 y27_4 y27_5 y27_6 y27_7) | ((with_reducible refine gate_callee (f := 97) rfl ?_); refine Y17_ ?_; clear BK123 HB; intro w28 BK123 HB z29_0 z29_1 z29_2 z29_3 z29_4 z29_5 z29_6 z29_7 y29_0 y29_1 y29_2 y29_3 y29_4 y29_5 y29_6 y29_7) | ((with_reducible refine gate_callee (f := 98) rfl ?_); refine Y18_ ?_; clear BK123 HB; intro w30 BK123 HB z31_0 z31_1 z31_2 z31_3 z31_4 z31_5 z31_6 z31_7 y31_0 y31_1 y31_2 y31_3 y31_4 y31_5 y31_6 y31_7) | ((with_reducible refine gate_callee (f := 99) rfl ?_); refine Y19_ ?_; clear BK123 HB; intro w32 BK123 HB z33_0 z33_1 z33_2 z33_3 z33_4 z33_5 z33_6 z33_7 y33_0 y33_1 y33_2 y33_3 y33_4 y33_5 y33_6 y33_7) | ((with_reducible refine gate_callee (f := 100) rfl ?_); refine Y20_ ?_; intro nd))
  go_ret
  exact ⟨rs_, hb_ HB⟩
 replace H := bs_ H
 obtain ⟨t128, A34, H⟩ := H
 replace H := ic_ H
 rcases H with ⟨c35b0, H⟩ | ⟨c35b0, H⟩
 ·
  obtain rfl := Option.some.inj H
  go_enter Tryz.func47, Tryz.ntmps47
  go_wp2_with (first | ((with_reducible refine gate_dst (N := 2) rfl ?_); refine Y16_ ?_; clear HB; intro gb123 w36 BK123 GW123 HB z37_0 z37_1 z37_2 z37_3 z37_4 z37_5 z37_6 z37_7 y37_0 y37_1 y37_2 y37_3 y37_4 y37_5 y37_6 y37_7) | ((with_reducible refine gate_callee (f := 97) rfl ?_); refine Y17_ ?_; clear BK123 HB; intro w38 BK123 HB z39_0 z39_1 z39_2 z39_3 z39_4 z39_5 z39_6 z39_7 y39_0 y39_1 y39_2 y39_3 y39_4 y39_5 y39_6 y39_7) | ((with_reducible refine gate_callee (f := 98) rfl ?_); refine Y18_ ?_; clear BK123 HB; intro w40 BK123 HB z41_0 z41_1 z41_2 z41_3 z41_4 z41_5 z41_6 z41_7 y41_0 y41_1 y41_2 y41_3 y41_4 y41_5 y41_6 y41_7) | ((with_reducible refine gate_callee (f := 99) rfl ?_); refine Y19_ ?_; clear BK123 HB; intro w42 BK123 HB z43_0 z43_1 z43_2 z43_3 z43_4 z43_5 z43_6 z43_7 y43_0 y43_1 y43_2 y43_3 y43_4 y43_5 y43_6 y43_7) | ((with_reducible refine gate_callee (f := 100) rfl ?_); refine Y20_ ?_; intro nd) | ((with_reducible refine gate_callee (f := 101) rfl ?_); refine Y21_ ?_; clear BK123 HB; intro w44 BK123 HB))
  go_ret
  exact ⟨rs_, hb_ HB⟩
 obtain rfl := Option.some.inj H
 go_enter Tryz.func47, Tryz.ntmps47
 go_wp2_with (first | ((with_reducible refine gate_dst (N := 2) rfl ?_); refine Y16_ ?_; clear HB; intro gb123 w45 BK123 GW123 HB z46_0 z46_1 z46_2 z46_3 z46_4 z46_5 z46_6 z46_7 y46_0 y46_1 y46_2 y46_3 y46_4 y46_5 y46_6 y46_7) | ((with_reducible refine gate_callee (f := 97) rfl ?_); refine Y17_ ?_; clear BK123 HB; intro w47 BK123 HB z48_0 z48_1 z48_2 z48_3 z48_4 z48_5 z48_6 z48_7 y48_0 y48_1 y48_2 y48_3 y48_4 y48_5 y48_6 y48_7) | ((with_reducible refine gate_callee (f := 98) rfl ?_); refine Y18_ ?_; clear BK123 HB; intro w49 BK123 HB z50_0 z50_1 z50_2 z50_3 z50_4 z50_5 z50_6 z50_7 y50_0 y50_1 y50_2 y50_3 y50_4 y50_5 y50_6 y50_7) | ((with_reducible refine gate_callee (f := 99) rfl ?_); refine Y19_ ?_; clear BK123 HB; intro w51 BK123 HB z52_0 z52_1 z52_2 z52_3 z52_4 z52_5 z52_6 z52_7 y52_0 y52_1 y52_2 y52_3 y52_4 y52_5 y52_6 y52_7) | ((with_reducible refine gate_callee (f := 100) rfl ?_); refine Y20_ ?_; intro nd) | ((with_reducible refine gate_callee (f := 101) rfl ?_); refine Y21_ ?_; clear BK123 HB; intro w53 BK123 HB))
 go_ret
 exact ⟨rs_, hb_ HB⟩
def spec_l1In.f (a0 : Int) (a1 : Int) (a2 : Int) : Option (Bool) := if a0 ≥ a1 then (some (decide (a0 ≤ a2))) else (some false)
set_option maxHeartbeats 8000000 in
set_option maxRecDepth 100000 in
theorem spec_l1In.calls (a0 : Int) (a1 : Int) (a2 : Int) (r : Bool) (w : World) (h : spec_l1In.f a0 a1 a2 = some r) :
    Calls Tryz.prog 70 #[.int .i64 a0, .int .i64 a1, .int .i64 a2] w fun e w' => e = .returned (.bool r) ∧ Drawn0 w w' := by
 have H : (if a0 ≥ a1 then (some (decide (a0 ≤ a2))) else (some false)) = some r := h
 clear h
 replace H := ic_ H
 rcases H with ⟨c4b0, H⟩ | ⟨c4b0, H⟩
 ·
  obtain rfl := Option.some.inj H
  go_enter Tryz.func70, Tryz.ntmps70
  go_wp2
  go_ret
  exact ⟨rt_, by repeat (first | exact Drawn0.refl _ | apply Drawn0.step)⟩
 obtain rfl := Option.some.inj H
 go_enter Tryz.func70, Tryz.ntmps70
 go_wp2
 go_ret
 exact ⟨rt_, by repeat (first | exact Drawn0.refl _ | apply Drawn0.step)⟩
def spec_l4Key.f (a0 : Int) : Option (Bool) := (spec_l1In.f a0 1 4).bind fun t129 => (some t129)
set_option maxHeartbeats 8000000 in
set_option maxRecDepth 100000 in
theorem spec_l4Key.calls (a0 : Int) (r : Bool) (w : World) (h : spec_l4Key.f a0 = some r) :
    Calls Tryz.prog 145 #[.int .i64 a0] w fun e w' => e = .returned (.bool r) ∧ Drawn0 w w' := by
 have H : ((spec_l1In.f a0 1 4).bind fun t129 => (some t129)) = some r := h
 clear h
 replace H := bs_ H
 obtain ⟨t129, A2, H⟩ := H
 obtain rfl := Option.some.inj H
 go_enter Tryz.func145, Tryz.ntmps145
 go_wp2_with (first | ((with_reducible refine gate_callee (f := 70) rfl ?_); refine goesL_ (some 4) rfl rfl Tryz.func70 (by kernel_rfl) rfl #[.int .i64 a0, .int .i64 1, .int .i64 4] rfl al_ ?_; (with_reducible refine (spec_l1In.calls a0 1 4 t129 _ A2.out).mono ?_); rintro e w' ⟨rfl, ⟨nd, rfl⟩⟩; refine ⟨_, rfl, ?_⟩))
 go_ret
 exact ⟨rt_, by repeat (first | exact Drawn0.refl _ | apply Drawn0.step)⟩
def spec_KeyOk.f (a0 : Int) : Option (Bool) := (spec_l1In.f a0 0 3).bind fun t130 => (some t130)
set_option maxHeartbeats 8000000 in
set_option maxRecDepth 100000 in
theorem spec_KeyOk.calls (a0 : Int) (r : Bool) (w : World) (h : spec_KeyOk.f a0 = some r) :
    Calls Tryz.prog 146 #[.int .i64 a0] w fun e w' => e = .returned (.bool r) ∧ Drawn0 w w' := by
 have H : ((spec_l1In.f a0 0 3).bind fun t130 => (some t130)) = some r := h
 clear h
 replace H := bs_ H
 obtain ⟨t130, A2, H⟩ := H
 obtain rfl := Option.some.inj H
 go_enter Tryz.func146, Tryz.ntmps146
 go_wp2_with (first | ((with_reducible refine gate_callee (f := 70) rfl ?_); refine goesL_ (some 4) rfl rfl Tryz.func70 (by kernel_rfl) rfl #[.int .i64 a0, .int .i64 0, .int .i64 3] rfl al_ ?_; (with_reducible refine (spec_l1In.calls a0 0 3 t130 _ A2.out).mono ?_); rintro e w' ⟨rfl, ⟨nd, rfl⟩⟩; refine ⟨_, rfl, ?_⟩))
 go_ret
 exact ⟨rt_, by repeat (first | exact Drawn0.refl _ | apply Drawn0.step)⟩
def spec_l4Val.f (a0 : Int) : Option (Bool) := if a0 = 1 then (some true) else (if a0 = 2 then (some true) else (if a0 = 5 then (some true) else (some (a0 == 10))))
set_option maxHeartbeats 8000000 in
set_option maxRecDepth 100000 in
theorem spec_l4Val.calls (a0 : Int) (r : Bool) (w : World) (h : spec_l4Val.f a0 = some r) :
    Calls Tryz.prog 147 #[.int .i64 a0] w fun e w' => e = .returned (.bool r) ∧ Drawn0 w w' := by
 have H : (if a0 = 1 then (some true) else (if a0 = 2 then (some true) else (if a0 = 5 then (some true) else (some (a0 == 10))))) = some r := h
 clear h
 by_cases c2 : a0 = 1
 ·
  rw [if_pos c2] at H
  have c2b0 : (a0 == 1) = true := beq_iff_eq.mpr c2
  have c2b1 : (a0 != 1) = false := bne_eq_false_iff_eq.mpr c2
  clear c2
  obtain rfl := Option.some.inj H
  go_enter Tryz.func147, Tryz.ntmps147
  go_wp2
  go_ret
  exact ⟨rt_, by repeat (first | exact Drawn0.refl _ | apply Drawn0.step)⟩
 rw [if_neg c2] at H
 have c2b0 : (a0 == 1) = false := beq_eq_false_iff_ne.mpr c2
 have c2b1 : (a0 != 1) = true := bne_iff_ne.mpr c2
 by_cases c3 : a0 = 2
 ·
  rw [if_pos c3] at H
  have c3b0 : (a0 == 2) = true := beq_iff_eq.mpr c3
  have c3b1 : (a0 != 2) = false := bne_eq_false_iff_eq.mpr c3
  clear c3
  obtain rfl := Option.some.inj H
  go_enter Tryz.func147, Tryz.ntmps147
  go_wp2
  go_ret
  exact ⟨rt_, by repeat (first | exact Drawn0.refl _ | apply Drawn0.step)⟩
 rw [if_neg c3] at H
 have c3b0 : (a0 == 2) = false := beq_eq_false_iff_ne.mpr c3
 have c3b1 : (a0 != 2) = true := bne_iff_ne.mpr c3
 by_cases c4 : a0 = 5
 ·
  rw [if_pos c4] at H
  have c4b0 : (a0 == 5) = true := beq_iff_eq.mpr c4
  have c4b1 : (a0 != 5) = false := bne_eq_false_iff_eq.mpr c4
  clear c4
  obtain rfl := Option.some.inj H
  go_enter Tryz.func147, Tryz.ntmps147
  go_wp2
  go_ret
  exact ⟨rt_, by repeat (first | exact Drawn0.refl _ | apply Drawn0.step)⟩
 rw [if_neg c4] at H
 have c4b0 : (a0 == 5) = false := beq_eq_false_iff_ne.mpr c4
 have c4b1 : (a0 != 5) = true := bne_iff_ne.mpr c4
 obtain rfl := Option.some.inj H
 go_enter Tryz.func147, Tryz.ntmps147
 go_wp2
 go_ret
 exact ⟨rt_, by repeat (first | exact Drawn0.refl _ | apply Drawn0.step)⟩
def spec_ValOk.f (a0 : Int) : Option (Bool) := (spec_l1In.f a0 1 6).bind fun t131 => (some t131)
set_option maxHeartbeats 8000000 in
set_option maxRecDepth 100000 in
theorem spec_ValOk.calls (a0 : Int) (r : Bool) (w : World) (h : spec_ValOk.f a0 = some r) :
    Calls Tryz.prog 148 #[.int .i64 a0] w fun e w' => e = .returned (.bool r) ∧ Drawn0 w w' := by
 have H : ((spec_l1In.f a0 1 6).bind fun t131 => (some t131)) = some r := h
 clear h
 replace H := bs_ H
 obtain ⟨t131, A2, H⟩ := H
 obtain rfl := Option.some.inj H
 go_enter Tryz.func148, Tryz.ntmps148
 go_wp2_with (first | ((with_reducible refine gate_callee (f := 70) rfl ?_); refine goesL_ (some 4) rfl rfl Tryz.func70 (by kernel_rfl) rfl #[.int .i64 a0, .int .i64 1, .int .i64 6] rfl al_ ?_; (with_reducible refine (spec_l1In.calls a0 1 6 t131 _ A2.out).mono ?_); rintro e w' ⟨rfl, ⟨nd, rfl⟩⟩; refine ⟨_, rfl, ?_⟩))
 go_ret
 exact ⟨rt_, by repeat (first | exact Drawn0.refl _ | apply Drawn0.step)⟩
mutual
def spec_OpOk.j0 : Nat → Bool → Int → Int → Int → Option (Bool)
 | 0, _, _, _, _ => none
 | k + 1, x3, x133000, x133001, x133002 => if x133000 = 6 then ((spec_l1In.f x133001 0 2).bind fun t136 => (spec_OpOk.j1 k t136 x133000 x133001 x133002)) else (spec_OpOk.j1 k x3 x133000 x133001 x133002)
def spec_OpOk.j1 : Nat → Bool → Int → Int → Int → Option (Bool)
 | 0, _, _, _, _ => none
 | k + 1, x3, x133000, x133001, x133002 => (spec_l4Val.f x133000).bind fun t137 => (if t137 = true then (if x3 = true then ((spec_ValOk.f x133002).bind fun t138 => (some t138)) else (some false)) else (if x3 = true then (some (x133002 == 0)) else (some false)))
end
def spec_OpOk.f (k : Nat) (a0_0 : Int) (a0_1 : Int) (a0_2 : Int) : Option (Bool) := (spec_l1In.f a0_0 1 10).bind fun t133 => (if t133 = true then ((spec_l4Key.f a0_0).bind fun t134 => (if t134 = true then ((spec_KeyOk.f a0_1).bind fun t135 => (spec_OpOk.j0 k t135 a0_0 a0_1 a0_2)) else (spec_OpOk.j0 k (a0_1 == 0) a0_0 a0_1 a0_2))) else (some false))
set_option maxHeartbeats 8000000 in
set_option maxRecDepth 100000 in
theorem spec_OpOk.calls (k : Nat) (a0_0 : Int) (a0_1 : Int) (a0_2 : Int) (r : Bool) (w : World) (h : spec_OpOk.f k a0_0 a0_1 a0_2 = some r) :
    Calls Tryz.prog 95 #[.agg #[.int .i64 a0_0, .int .i64 a0_1, .int .i64 a0_2]] w fun e w' => e = .returned (.bool r) ∧ Below w.heap.size w w' := by
 have hu122 := Tryz.underlying122
 have HB := A_ (Below.refl w.heap.size w)
 have H : ((spec_l1In.f a0_0 1 10).bind fun t133 => (if t133 = true then ((spec_l4Key.f a0_0).bind fun t134 => (if t134 = true then ((spec_KeyOk.f a0_1).bind fun t135 => (spec_OpOk.j0 k t135 a0_0 a0_1 a0_2)) else (spec_OpOk.j0 k (a0_1 == 0) a0_0 a0_1 a0_2))) else (some false))) = some r := h
 clear h
 replace H := bs_ H
 obtain ⟨t133, A2, H⟩ := H
 by_cases c3 : t133 = true
 ·
  subst c3
  replace H := it_ H
  replace H := bs_ H
  obtain ⟨t134, A4, H⟩ := H
  have HC5 := A_ H
  clear H
  go_enter Tryz.func95, Tryz.ntmps95
  go_upto_if 13 with (first | ((with_reducible refine gate_dst (N := 1) rfl ?_); refine Y22_ ?_; clear HB; intro gb132 w6 BK132 GW132 HB z7_0 z7_1 z7_2 y7_0 y7_1 y7_2) | ((with_reducible refine gate_callee (f := 70) rfl ?_); refine goesL_ (some 6) rfl rfl Tryz.func70 (by kernel_rfl) rfl #[.int .i64 a0_0, .int .i64 1, .int .i64 10] rfl al_ ?_; (with_reducible refine (spec_l1In.calls a0_0 1 10 true _ A2.out).mono ?_); rintro e w' ⟨rfl, ⟨nd, rfl⟩⟩; refine ⟨_, rfl, ?_⟩) | ((with_reducible refine gate_callee (f := 145) rfl ?_); refine goesL_ (some 13) rfl rfl Tryz.func145 (by kernel_rfl) rfl #[.int .i64 a0_0] rfl al_ ?_; (with_reducible refine (spec_l4Key.calls a0_0 t134 _ A4.out).mono ?_); rintro e w' ⟨rfl, ⟨nd, rfl⟩⟩; refine ⟨_, rfl, ?_⟩))
  (try simp only [Act.put, List.setIfInBounds_toArray, List.set_cons_zero, List.set_cons_succ])
  go_cut [3] (fun v3 wc => ∃ (kq : Nat) (x3_4 : Bool), v3 = .bool x3_4 ∧ Aside0 (spec_OpOk.j0 kq x3_4 a0_0 a0_1 a0_2 = some r) ∧ Aside0 (kq ≤ k) ∧ Aside0 (wc.heap[gb132]? = some (.cells #[.int .i64 a0_0, .int .i64 a0_1, .int .i64 a0_2] 122 (0, 0))) ∧ Aside0 (Below w.heap.size w wc))
  case first =>
   have H := HC5.out
   clear HC5
   by_cases c8 : t134 = true
   ·
    subst c8
    replace H := it_ H
    replace H := bs_ H
    obtain ⟨t135, A9, H⟩ := H
    replace H' := A_ H; clear H
    obtain ⟨z10_0, z10_1, z10_2, y10_0, y10_1, y10_2⟩ := cz3_ BK132
    go_wp2_with (first | ((with_reducible refine gate_callee (f := 146) rfl ?_); refine goesL_ (some 16) rfl rfl Tryz.func146 (by kernel_rfl) rfl #[.int .i64 a0_1] rfl al_ ?_; (with_reducible refine (spec_KeyOk.calls a0_1 t135 _ A9.out).mono ?_); rintro e w' ⟨rfl, ⟨nd, rfl⟩⟩; refine ⟨_, rfl, ?_⟩))
    go_meet
    case rel => exact ⟨_, (t135), rt_, H', ⟨by first | omega | exact Nat.le_refl _⟩, ⟨bk_ BK132⟩, ⟨hb_ HB⟩⟩
   obtain rfl := Bool.eq_false_iff.mpr c8
   replace H := iF_ H
   replace H' := A_ H; clear H
   go_wp2
   go_meet
   case rel => exact ⟨_, ((a0_1 == 0)), rt_, H', ⟨by first | omega | exact Nat.le_refl _⟩, ⟨bk_ BK132⟩, ⟨hb_ HB⟩⟩
  case rest =>
   clear HC5
   try clear c3
   try clear c8
   obtain ⟨kq, x3_4, rfl, HA, HJ4, BK132, HB⟩ := hcut
   cases kq with
   | zero => exact absurd HA.out (by simp [spec_OpOk.j0])
   | succ kj4 =>
    have H := HA.out
    clear HA
    simp only [spec_OpOk.j0] at H
    have HC11 := A_ H
    clear H
    obtain ⟨z12_0, z12_1, z12_2, y12_0, y12_1, y12_2⟩ := cz3_ BK132
    go_upto_if 19 with (fail)
    go_cut [3] (fun v3 wc => ∃ (kq : Nat) (x3_10 : Bool), v3 = .bool x3_10 ∧ Aside0 (spec_OpOk.j1 kq x3_10 a0_0 a0_1 a0_2 = some r) ∧ Aside0 (kq ≤ kj4) ∧ Aside0 (wc.heap[gb132]? = some (.cells #[.int .i64 a0_0, .int .i64 a0_1, .int .i64 a0_2] 122 (0, 0))) ∧ Aside0 (Below w.heap.size w wc))
    case first =>
     have H := HC11.out
     clear HC11
     by_cases c13 : a0_0 = 6
     ·
      rw [if_pos c13] at H
      have c13b0 : (a0_0 == 6) = true := beq_iff_eq.mpr c13
      have c13b1 : (a0_0 != 6) = false := bne_eq_false_iff_eq.mpr c13
      clear c13
      (first | rw [c13b0] | (simp only [i64_w, i32_w]; rw [c13b0]) | skip)
      replace H := bs_ H
      obtain ⟨t136, A14, H⟩ := H
      replace H' := A_ H; clear H
      obtain ⟨z15_0, z15_1, z15_2, y15_0, y15_1, y15_2⟩ := cz3_ BK132
      go_wp2_with (first | ((with_reducible refine gate_callee (f := 70) rfl ?_); refine goesL_ (some 22) rfl rfl Tryz.func70 (by kernel_rfl) rfl #[.int .i64 a0_1, .int .i64 0, .int .i64 2] rfl al_ ?_; (with_reducible refine (spec_l1In.calls a0_1 0 2 t136 _ A14.out).mono ?_); rintro e w' ⟨rfl, ⟨nd, rfl⟩⟩; refine ⟨_, rfl, ?_⟩))
      go_meet
      case rel => exact ⟨_, (t136), rt_, H', ⟨by have := HJ4.out; first | omega | exact Nat.le_refl _⟩, ⟨bk_ BK132⟩, ⟨hb_ HB⟩⟩
     rw [if_neg c13] at H
     have c13b0 : (a0_0 == 6) = false := beq_eq_false_iff_ne.mpr c13
     have c13b1 : (a0_0 != 6) = true := bne_iff_ne.mpr c13
     (first | rw [c13b0] | (simp only [i64_w, i32_w]; rw [c13b0]) | skip)
     replace H' := A_ H; clear H
     go_wp2
     go_meet
     case rel => exact ⟨_, (x3_4), rt_, H', ⟨by have := HJ4.out; first | omega | exact Nat.le_refl _⟩, ⟨bk_ BK132⟩, ⟨hb_ HB⟩⟩
    case rest =>
     clear HC11
     try clear c3
     try clear c8
     try clear c13
     try clear c13b0
     try clear c13b1
     obtain ⟨kq, x3_10, rfl, HA, HJ10, BK132, HB⟩ := hcut
     cases kq with
     | zero => exact absurd HA.out (by simp [spec_OpOk.j1])
     | succ kj10 =>
      have H := HA.out
      clear HA
      simp only [spec_OpOk.j1] at H
      replace H := bs_ H
      obtain ⟨t137, A16, H⟩ := H
      by_cases c17 : t137 = true
      ·
       subst c17
       replace H := it_ H
       by_cases c18 : x3_10 = true
       ·
        subst c18
        replace H := it_ H
        replace H := bs_ H
        obtain ⟨t138, A19, H⟩ := H
        obtain rfl := Option.some.inj H
        obtain ⟨z20_0, z20_1, z20_2, y20_0, y20_1, y20_2⟩ := cz3_ BK132
        go_wp2_with (first | ((with_reducible refine gate_callee (f := 147) rfl ?_); refine Y23_ ?_; intro nd) | (go_at_call 148; (with_reducible refine (spec_ValOk.calls a0_2 t138 _ A19.out).mono ?_); rintro e w' ⟨rfl, ⟨nd, rfl⟩⟩))
        go_ret
        exact ⟨rs_, hb_ HB⟩
       obtain rfl := Bool.eq_false_iff.mpr c18
       replace H := iF_ H
       obtain rfl := Option.some.inj H
       obtain ⟨z21_0, z21_1, z21_2, y21_0, y21_1, y21_2⟩ := cz3_ BK132
       go_wp2_with (first | ((with_reducible refine gate_callee (f := 147) rfl ?_); refine Y23_ ?_; intro nd))
       go_ret
       exact ⟨rs_, hb_ HB⟩
      obtain rfl := Bool.eq_false_iff.mpr c17
      replace H := iF_ H
      by_cases c22 : x3_10 = true
      ·
       subst c22
       replace H := it_ H
       obtain rfl := Option.some.inj H
       obtain ⟨z23_0, z23_1, z23_2, y23_0, y23_1, y23_2⟩ := cz3_ BK132
       go_wp2_with (first | ((with_reducible refine gate_callee (f := 147) rfl ?_); refine Y24_ ?_; intro nd))
       go_ret
       exact ⟨rs_, hb_ HB⟩
      obtain rfl := Bool.eq_false_iff.mpr c22
      replace H := iF_ H
      obtain rfl := Option.some.inj H
      obtain ⟨z24_0, z24_1, z24_2, y24_0, y24_1, y24_2⟩ := cz3_ BK132
      go_wp2_with (first | ((with_reducible refine gate_callee (f := 147) rfl ?_); refine Y24_ ?_; intro nd))
      go_ret
      exact ⟨rs_, hb_ HB⟩
 obtain rfl := Bool.eq_false_iff.mpr c3
 replace H := iF_ H
 obtain rfl := Option.some.inj H
 go_enter Tryz.func95, Tryz.ntmps95
 go_wp2_with (first | ((with_reducible refine gate_dst (N := 1) rfl ?_); refine Y22_ ?_; clear HB; intro gb132 w25 BK132 GW132 HB z26_0 z26_1 z26_2 y26_0 y26_1 y26_2) | ((with_reducible refine gate_callee (f := 70) rfl ?_); refine goesL_ (some 6) rfl rfl Tryz.func70 (by kernel_rfl) rfl #[.int .i64 a0_0, .int .i64 1, .int .i64 10] rfl al_ ?_; (with_reducible refine (spec_l1In.calls a0_0 1 10 false _ A2.out).mono ?_); rintro e w' ⟨rfl, ⟨nd, rfl⟩⟩; refine ⟨_, rfl, ?_⟩))
 go_ret
 exact ⟨rs_, hb_ HB⟩
end Go.Proofs.YtdcinhpdpoodfaaGreat.PFnExactFinished
