/- Contracts of functions of the program. No condition beyond the hypotheses that each theorem names. -/
import Derived.Test.YtdcinhpdpoodfaaGreatPFnExactFinishedx0
namespace Go.Proofs.YtdcinhpdpoodfaaGreat.PFnExactFinished
open Go.RowKit Go.Proofs.YtdcinhpdpoodfaaGreatW.PrintWords Go.Proofs.YtdcinhpdpoodfaaGreatW.PrintLast Go.Proofs.YtdcinhpdpoodfaaGreatW.PrintMore
attribute [local go_sem] max2_int min2_int max_two min_two max_three min_three max_four min_four
set_option linter.unusedVariables false
set_option linter.unusedSimpArgs false
def laws_szWordS.f (l0 : List (S207)) (a1 : Int) : Option (Int) := if (wrap64 (a1 - (l0.length : Int))) < 0 then (some (-1)) else (some (wrap64 (a1 - (l0.length : Int))))
set_option maxHeartbeats 8000000 in
set_option maxRecDepth 100000 in
theorem laws_szWordS.calls (A0 : Option Addr) (c0 : Nat) (l0 : List (S207)) (a1 : Int) (r : Int) (w : World) (hr0 : Kd.C k207 w A0 l0.length l0) (hc0 : l0.length ≤ c0) (h : laws_szWordS.f l0 a1 = some r) :
    Calls Tryz.prog 149 #[.slice A0 l0.length c0, .int .i64 a1] w fun e w' => e = .returned (.int .i64 r) ∧ Drawn0 w w' := by
 have HR0 := A_ hr0
 have HC0 := A_ hc0
 clear hr0 hc0
 have H : (if (wrap64 (a1 - (l0.length : Int))) < 0 then (some (-1)) else (some (wrap64 (a1 - (l0.length : Int))))) = some r := h
 clear h
 replace H := ic_ H
 rcases H with ⟨c3b0, H⟩ | ⟨c3b0, H⟩
 ·
  obtain rfl := Option.some.inj H
  go_enter Tryz.func149, Tryz.ntmps149
  go_wp2
  go_ret
  exact ⟨rt_, by repeat (first | exact Drawn0.refl _ | apply Drawn0.step)⟩
 obtain rfl := Option.some.inj H
 go_enter Tryz.func149, Tryz.ntmps149
 go_wp2
 go_ret
 exact ⟨rt_, by repeat (first | exact Drawn0.refl _ | apply Drawn0.step)⟩
def laws_szIntS.f (l0 : List Int) (a1 : Int) : Option (Int) := if (wrap64 (a1 - (l0.length : Int))) < 0 then (some (-1)) else (some (wrap64 (a1 - (l0.length : Int))))
set_option maxHeartbeats 8000000 in
set_option maxRecDepth 100000 in
theorem laws_szIntS.calls (A0 : Option Addr) (c0 : Nat) (l0 : List Int) (a1 : Int) (r : Int) (w : World) (hr0 : Kd.C (Kd.int .i64) w A0 l0.length l0) (hc0 : l0.length ≤ c0) (h : laws_szIntS.f l0 a1 = some r) :
    Calls Tryz.prog 100 #[.slice A0 l0.length c0, .int .i64 a1] w fun e w' => e = .returned (.int .i64 r) ∧ Drawn0 w w' := by
 have HR0 := A_ hr0
 have HC0 := A_ hc0
 clear hr0 hc0
 have H : (if (wrap64 (a1 - (l0.length : Int))) < 0 then (some (-1)) else (some (wrap64 (a1 - (l0.length : Int))))) = some r := h
 clear h
 replace H := ic_ H
 rcases H with ⟨c3b0, H⟩ | ⟨c3b0, H⟩
 ·
  obtain rfl := Option.some.inj H
  go_enter Tryz.func100, Tryz.ntmps100
  go_wp2
  go_ret
  exact ⟨rt_, by repeat (first | exact Drawn0.refl _ | apply Drawn0.step)⟩
 obtain rfl := Option.some.inj H
 go_enter Tryz.func100, Tryz.ntmps100
 go_wp2
 go_ret
 exact ⟨rt_, by repeat (first | exact Drawn0.refl _ | apply Drawn0.step)⟩
def laws_szRes.f (a0_0 : Int) (l0_1 : List Int) (a1 : Int) : Option (Int) := (laws_szIntS.f l0_1 a1).bind fun t102 => (if t102 < 0 then (some (-1)) else (some t102))
set_option maxHeartbeats 8000000 in
set_option maxRecDepth 100000 in
theorem laws_szRes.calls (a0_0 : Int) (A0_1 : Option Addr) (c0_1 : Nat) (l0_1 : List Int) (a1 : Int) (r : Int) (w : World) (hr0_1 : Kd.C (Kd.int .i64) w A0_1 l0_1.length l0_1) (hc0_1 : l0_1.length ≤ c0_1) (h : laws_szRes.f a0_0 l0_1 a1 = some r) :
    Calls Tryz.prog 173 #[.agg #[.int .i64 a0_0, .slice A0_1 l0_1.length c0_1], .int .i64 a1] w fun e w' => e = .returned (.int .i64 r) ∧ Below w.heap.size w w' := by
 have hu179 := Tryz.underlying179
 have HR0_1 := A_ hr0_1
 have HC0_1 := A_ hc0_1
 clear hr0_1 hc0_1
 have HB := A_ (Below.refl w.heap.size w)
 have H : ((laws_szIntS.f l0_1 a1).bind fun t102 => (if t102 < 0 then (some (-1)) else (some t102))) = some r := h
 clear h
 replace H := bs_ H
 obtain ⟨t102, A3, H⟩ := H
 replace H := ic_ H
 rcases H with ⟨c4b0, H⟩ | ⟨c4b0, H⟩
 ·
  obtain rfl := Option.some.inj H
  go_enter Tryz.func173, Tryz.ntmps173
  go_wp2_with (first | ((with_reducible refine gate_dst (N := 2) rfl ?_); refine bx_ HB rfl (N := 2) rfl (cs := #[.int .i64 a0_0, .slice A0_1 l0_1.length c0_1]) (t := 179) hr_ ?_; clear HB; intro gb101 w5 hg hb BK101 GW101 HB; clear hb hg; obtain ⟨z6_0, z6_1, y6_0, y6_1⟩ := cz2_ BK101) | ((with_reducible refine gate_callee (f := 100) rfl ?_); refine Y0_ ?_; intro nd))
  go_ret
  exact ⟨rs_, hb_ HB⟩
 obtain rfl := Option.some.inj H
 go_enter Tryz.func173, Tryz.ntmps173
 go_wp2_with (first | ((with_reducible refine gate_dst (N := 2) rfl ?_); refine bx_ HB rfl (N := 2) rfl (cs := #[.int .i64 a0_0, .slice A0_1 l0_1.length c0_1]) (t := 179) hr_ ?_; clear HB; intro gb101 w7 hg hb BK101 GW101 HB; clear hb hg; obtain ⟨z8_0, z8_1, y8_0, y8_1⟩ := cz2_ BK101) | ((with_reducible refine gate_callee (f := 100) rfl ?_); refine Y0_ ?_; intro nd))
 go_ret
 exact ⟨rs_, hb_ HB⟩
def laws_szEntryS.f (l0 : List (S236)) (a1 : Int) : Option (Int) := if (wrap64 (a1 - (l0.length : Int))) < 0 then (some (-1)) else (some (wrap64 (a1 - (l0.length : Int))))
set_option maxHeartbeats 8000000 in
set_option maxRecDepth 100000 in
theorem laws_szEntryS.calls (A0 : Option Addr) (c0 : Nat) (l0 : List (S236)) (a1 : Int) (r : Int) (w : World) (hr0 : Kd.C k236 w A0 l0.length l0) (hc0 : l0.length ≤ c0) (h : laws_szEntryS.f l0 a1 = some r) :
    Calls Tryz.prog 190 #[.slice A0 l0.length c0, .int .i64 a1] w fun e w' => e = .returned (.int .i64 r) ∧ Drawn0 w w' := by
 have HR0 := A_ hr0
 have HC0 := A_ hc0
 clear hr0 hc0
 have H : (if (wrap64 (a1 - (l0.length : Int))) < 0 then (some (-1)) else (some (wrap64 (a1 - (l0.length : Int))))) = some r := h
 clear h
 replace H := ic_ H
 rcases H with ⟨c3b0, H⟩ | ⟨c3b0, H⟩
 ·
  obtain rfl := Option.some.inj H
  go_enter Tryz.func190, Tryz.ntmps190
  go_wp2
  go_ret
  exact ⟨rt_, by repeat (first | exact Drawn0.refl _ | apply Drawn0.step)⟩
 obtain rfl := Option.some.inj H
 go_enter Tryz.func190, Tryz.ntmps190
 go_wp2
 go_ret
 exact ⟨rt_, by repeat (first | exact Drawn0.refl _ | apply Drawn0.step)⟩
def laws_szDesc.f (a0_0 : Int) (a0_1 : Int) (l0_2 : List (S236)) (a0_3 : Int) (l0_4 : List Int) (a1 : Int) : Option (Int) := (laws_szEntryS.f l0_2 a1).bind fun t104 => (if t104 < 0 then (some (-1)) else ((laws_szRes.f a0_3 l0_4 t104).bind fun t105 => (if t105 < 0 then (some (-1)) else (some t105))))
set_option maxHeartbeats 8000000 in
set_option maxRecDepth 100000 in
theorem laws_szDesc.calls (a0_0 : Int) (a0_1 : Int) (A0_2 : Option Addr) (c0_2 : Nat) (l0_2 : List (S236)) (a0_3 : Int) (A0_4 : Option Addr) (c0_4 : Nat) (l0_4 : List Int) (a1 : Int) (r : Int) (w : World) (hr0_2 : Kd.C k236 w A0_2 l0_2.length l0_2) (hc0_2 : l0_2.length ≤ c0_2) (hr0_4 : Kd.C (Kd.int .i64) w A0_4 l0_4.length l0_4) (hc0_4 : l0_4.length ≤ c0_4) (h : laws_szDesc.f a0_0 a0_1 l0_2 a0_3 l0_4 a1 = some r) :
    Calls Tryz.prog 169 #[.agg #[.int .i64 a0_0, .int .i64 a0_1, .slice A0_2 l0_2.length c0_2, .int .i64 a0_3, .slice A0_4 l0_4.length c0_4], .int .i64 a1] w fun e w' => e = .returned (.int .i64 r) ∧ Below w.heap.size w w' := by
 have hu201 := Tryz.underlying201
 have hu179 := Tryz.underlying179
 have HR0_2 := A_ hr0_2
 have HC0_2 := A_ hc0_2
 clear hr0_2 hc0_2
 have HR0_4 := A_ hr0_4
 have HC0_4 := A_ hc0_4
 clear hr0_4 hc0_4
 have HB := A_ (Below.refl w.heap.size w)
 have H : ((laws_szEntryS.f l0_2 a1).bind fun t104 => (if t104 < 0 then (some (-1)) else ((laws_szRes.f a0_3 l0_4 t104).bind fun t105 => (if t105 < 0 then (some (-1)) else (some t105))))) = some r := h
 clear h
 replace H := bs_ H
 obtain ⟨t104, A3, H⟩ := H
 replace H := ic_ H
 rcases H with ⟨c4b0, H⟩ | ⟨c4b0, H⟩
 ·
  obtain rfl := Option.some.inj H
  go_enter Tryz.func169, Tryz.ntmps169
  go_wp2_with (first | ((with_reducible refine gate_dst (N := 2) rfl ?_); refine Y1_ ?_; clear HB; intro gb103 w5 BK103 GW103 HB z6_0 z6_1 z6_2 z6_3 z6_4 y6_0 y6_1 y6_2 y6_3 y6_4) | ((with_reducible refine gate_callee (f := 190) rfl ?_); refine Y2_ ?_; intro nd))
  go_ret
  exact ⟨rs_, hb_ HB⟩
 replace H := bs_ H
 obtain ⟨t105, A7, H⟩ := H
 replace H := ic_ H
 rcases H with ⟨c8b0, H⟩ | ⟨c8b0, H⟩
 ·
  obtain rfl := Option.some.inj H
  go_enter Tryz.func169, Tryz.ntmps169
  go_wp2_with (first | ((with_reducible refine gate_dst (N := 2) rfl ?_); refine Y1_ ?_; clear HB; intro gb103 w9 BK103 GW103 HB z10_0 z10_1 z10_2 z10_3 z10_4 y10_0 y10_1 y10_2 y10_3 y10_4) | ((with_reducible refine gate_callee (f := 190) rfl ?_); refine Y2_ ?_; intro nd) | ((with_reducible refine gate_callee (f := 173) rfl ?_); refine Y3_ ?_; clear BK103 HB; intro w11 BK103 HB))
  go_ret
  exact ⟨rs_, hb_ HB⟩
 obtain rfl := Option.some.inj H
 go_enter Tryz.func169, Tryz.ntmps169
 go_wp2_with (first | ((with_reducible refine gate_dst (N := 2) rfl ?_); refine Y1_ ?_; clear HB; intro gb103 w12 BK103 GW103 HB z13_0 z13_1 z13_2 z13_3 z13_4 y13_0 y13_1 y13_2 y13_3 y13_4) | ((with_reducible refine gate_callee (f := 190) rfl ?_); refine Y2_ ?_; intro nd) | ((with_reducible refine gate_callee (f := 173) rfl ?_); refine Y3_ ?_; clear BK103 HB; intro w14 BK103 HB))
 go_ret
 exact ⟨rs_, hb_ HB⟩
def laws_szDescS.l0 : Nat → List (S201) → Int → Int → Option (Int)
 | 0, _, _, _ => none
 | k + 1, x0, x1, x5 => if x5 < (x0.length : Int) then (if 0 ≤ x5 then ((laws_szDesc.f ((rd_T201 x0 x5).f0) ((rd_T201 x0 x5).f1) ((rd_T201 x0 x5).f2) ((rd_T201 x0 x5).f3.f0) ((rd_T201 x0 x5).f3.f1) x1).bind fun t107 => (if t107 < 0 then (some (-1)) else (laws_szDescS.l0 k x0 t107 (wrap64 (x5 + 1))))) else (none)) else (some x1)
def laws_szDescS.f (k : Nat) (l0 : List (S201)) (a1 : Int) : Option (Int) := if (wrap64 (a1 - (l0.length : Int))) < 0 then (some (-1)) else (laws_szDescS.l0 k l0 (wrap64 (a1 - (l0.length : Int))) 0)
set_option maxHeartbeats 8000000 in
set_option maxRecDepth 100000 in
theorem laws_szDescS.calls (k : Nat) (A0 : Option Addr) (c0 : Nat) (l0 : List (S201)) (a1 : Int) (r : Int) (w : World) (hr0 : Kd.C k201 w A0 l0.length l0) (hc0 : l0.length ≤ c0) (h : laws_szDescS.f k l0 a1 = some r) :
    Calls Tryz.prog 150 #[.slice A0 l0.length c0, .int .i64 a1] w fun e w' => e = .returned (.int .i64 r) ∧ Below w.heap.size w w' := by
 have hu201 := Tryz.underlying201
 have HR0 := A_ hr0
 have HC0 := A_ hc0
 clear hr0 hc0
 have HB := A_ (Below.refl w.heap.size w)
 have H : (if (wrap64 (a1 - (l0.length : Int))) < 0 then (some (-1)) else (laws_szDescS.l0 k l0 (wrap64 (a1 - (l0.length : Int))) 0)) = some r := h
 clear h
 replace H := ic_ H
 rcases H with ⟨c3b0, H⟩ | ⟨c3b0, H⟩
 ·
  obtain rfl := Option.some.inj H
  go_enter Tryz.func150, Tryz.ntmps150
  go_wp2
  go_ret
  exact ⟨rs_, hb_ HB⟩
 replace H' := A_ H; clear H
 go_enter Tryz.func150, Tryz.ntmps150
 go_wp2
 go_loopg [1, 5] k (fun kq v1 v5 w' => ∃ (x1_1 : Int) (x5_1 : Int), v1 = .int .i64 x1_1 ∧ v5 = .int .i64 x5_1 ∧ Aside0 (laws_szDescS.l0 kq l0 x1_1 x5_1 = some r) ∧ Aside0 (kq ≤ k) ∧ Aside0 (Below w.heap.size w w'))
 case atStart => exact ⟨(wrap64 (a1 - (l0.length : Int))), (0), rt_, rt_, H', ⟨Nat.le_refl _⟩, ⟨hb_ HB⟩⟩
 case round =>
  clear H'
  try clear c3b0
  obtain ⟨x1_1, x5_1, rfl, rfl, HA, HK1, HB⟩ := hrel
  cases gk with
  | zero => exact absurd HA.out (by simp [laws_szDescS.l0])
  | succ k1 =>
   have H := HA.out
   clear HA
   simp only [laws_szDescS.l0] at H
   replace H := ic_ H
   rcases H with ⟨c4b0, H⟩ | ⟨c4b0, H⟩
   ·
    replace H := ix_ H
    obtain ⟨c5b0, H⟩ := H
    replace H := bs_ H
    obtain ⟨t107, A6, H⟩ := H
    replace H := ic_ H
    rcases H with ⟨c7b0, H⟩ | ⟨c7b0, H⟩
    ·
     obtain rfl := Option.some.inj H
     obtain ⟨ad106, A106_2, c106_2, A106_4, c106_4, p106, q106, rfl, u106_0, u106_1, u106_2, u106_3, u106_4, HC106_2, HR106_2, HC106_4, HR106_4⟩ := ab_T201 HB HR0 x5_1
     go_wp2_with (first | ((with_reducible refine gate_callee (f := 169) rfl ?_); refine Y4_ ?_; clear HB; intro w8 HB))
     go_ret
     exact ⟨rs_, hb_ HB⟩
    replace H' := A_ H; clear H
    obtain ⟨ad106, A106_2, c106_2, A106_4, c106_4, p106, q106, rfl, u106_0, u106_1, u106_2, u106_3, u106_4, HC106_2, HR106_2, HC106_4, HR106_4⟩ := ab_T201 HB HR0 x5_1
    go_wp2_with (first | ((with_reducible refine gate_callee (f := 169) rfl ?_); refine Y4_ ?_; clear HB; intro w9 HB))
    go_roundg k1
    case measure => have := HK1.out; omega
    case rel => exact ⟨(t107), (wrap64 (x5_1 + 1)), rt_, rt_, H', ⟨by have := HK1.out; omega⟩, ⟨hb_ HB⟩⟩
   obtain rfl := Option.some.inj H
   go_wp2
   go_ret
   exact ⟨rs_, hb_ HB⟩
def laws_szMem.f (k : Nat) (l0_0 : List (S207)) (l0_1 : List (S201)) (a1 : Int) : Option (Int) := (laws_szWordS.f l0_0 a1).bind fun t109 => (if t109 < 0 then (some (-1)) else ((laws_szDescS.f k l0_1 t109).bind fun t110 => (if t110 < 0 then (some (-1)) else (some t110))))
set_option maxHeartbeats 8000000 in
set_option maxRecDepth 100000 in
theorem laws_szMem.calls (k : Nat) (A0_0 : Option Addr) (c0_0 : Nat) (l0_0 : List (S207)) (A0_1 : Option Addr) (c0_1 : Nat) (l0_1 : List (S201)) (a1 : Int) (r : Int) (w : World) (hr0_0 : Kd.C k207 w A0_0 l0_0.length l0_0) (hc0_0 : l0_0.length ≤ c0_0) (hr0_1 : Kd.C k201 w A0_1 l0_1.length l0_1) (hc0_1 : l0_1.length ≤ c0_1) (h : laws_szMem.f k l0_0 l0_1 a1 = some r) :
    Calls Tryz.prog 97 #[.agg #[.slice A0_0 l0_0.length c0_0, .slice A0_1 l0_1.length c0_1], .int .i64 a1] w fun e w' => e = .returned (.int .i64 r) ∧ Below w.heap.size w w' := by
 have hu80 := Tryz.underlying80
 have HR0_0 := A_ hr0_0
 have HC0_0 := A_ hc0_0
 clear hr0_0 hc0_0
 have HR0_1 := A_ hr0_1
 have HC0_1 := A_ hc0_1
 clear hr0_1 hc0_1
 have HB := A_ (Below.refl w.heap.size w)
 have H : ((laws_szWordS.f l0_0 a1).bind fun t109 => (if t109 < 0 then (some (-1)) else ((laws_szDescS.f k l0_1 t109).bind fun t110 => (if t110 < 0 then (some (-1)) else (some t110))))) = some r := h
 clear h
 replace H := bs_ H
 obtain ⟨t109, A3, H⟩ := H
 replace H := ic_ H
 rcases H with ⟨c4b0, H⟩ | ⟨c4b0, H⟩
 ·
  obtain rfl := Option.some.inj H
  go_enter Tryz.func97, Tryz.ntmps97
  go_wp2_with (first | ((with_reducible refine gate_dst (N := 2) rfl ?_); refine Y5_ ?_; clear HB; intro gb108 w5 BK108 GW108 HB z6_0 z6_1 y6_0 y6_1) | ((with_reducible refine gate_callee (f := 149) rfl ?_); refine Y6_ ?_; intro nd))
  go_ret
  exact ⟨rs_, hb_ HB⟩
 replace H := bs_ H
 obtain ⟨t110, A7, H⟩ := H
 replace H := ic_ H
 rcases H with ⟨c8b0, H⟩ | ⟨c8b0, H⟩
 ·
  obtain rfl := Option.some.inj H
  go_enter Tryz.func97, Tryz.ntmps97
  go_wp2_with (first | ((with_reducible refine gate_dst (N := 2) rfl ?_); refine Y5_ ?_; clear HB; intro gb108 w9 BK108 GW108 HB z10_0 z10_1 y10_0 y10_1) | ((with_reducible refine gate_callee (f := 149) rfl ?_); refine Y6_ ?_; intro nd) | ((with_reducible refine gate_callee (f := 150) rfl ?_); refine Y7_ ?_; clear BK108 HB; intro w11 BK108 HB))
  go_ret
  exact ⟨rs_, hb_ HB⟩
 obtain rfl := Option.some.inj H
 go_enter Tryz.func97, Tryz.ntmps97
 go_wp2_with (first | ((with_reducible refine gate_dst (N := 2) rfl ?_); refine Y5_ ?_; clear HB; intro gb108 w12 BK108 GW108 HB z13_0 z13_1 y13_0 y13_1) | ((with_reducible refine gate_callee (f := 149) rfl ?_); refine Y6_ ?_; intro nd) | ((with_reducible refine gate_callee (f := 150) rfl ?_); refine Y7_ ?_; clear BK108 HB; intro w14 BK108 HB))
 go_ret
 exact ⟨rs_, hb_ HB⟩
def laws_szOpS.f (l0 : List (S178)) (a1 : Int) : Option (Int) := if (wrap64 (a1 - (l0.length : Int))) < 0 then (some (-1)) else (some (wrap64 (a1 - (l0.length : Int))))
set_option maxHeartbeats 8000000 in
set_option maxRecDepth 100000 in
theorem laws_szOpS.calls (A0 : Option Addr) (c0 : Nat) (l0 : List (S178)) (a1 : Int) (r : Int) (w : World) (hr0 : Kd.C k178 w A0 l0.length l0) (hc0 : l0.length ≤ c0) (h : laws_szOpS.f l0 a1 = some r) :
    Calls Tryz.prog 170 #[.slice A0 l0.length c0, .int .i64 a1] w fun e w' => e = .returned (.int .i64 r) ∧ Drawn0 w w' := by
 have HR0 := A_ hr0
 have HC0 := A_ hc0
 clear hr0 hc0
 have H : (if (wrap64 (a1 - (l0.length : Int))) < 0 then (some (-1)) else (some (wrap64 (a1 - (l0.length : Int))))) = some r := h
 clear h
 replace H := ic_ H
 rcases H with ⟨c3b0, H⟩ | ⟨c3b0, H⟩
 ·
  obtain rfl := Option.some.inj H
  go_enter Tryz.func170, Tryz.ntmps170
  go_wp2
  go_ret
  exact ⟨rt_, by repeat (first | exact Drawn0.refl _ | apply Drawn0.step)⟩
 obtain rfl := Option.some.inj H
 go_enter Tryz.func170, Tryz.ntmps170
 go_wp2
 go_ret
 exact ⟨rt_, by repeat (first | exact Drawn0.refl _ | apply Drawn0.step)⟩
def laws_szPairS.f (l0 : List (S224)) (a1 : Int) : Option (Int) := if (wrap64 (a1 - (l0.length : Int))) < 0 then (some (-1)) else (some (wrap64 (a1 - (l0.length : Int))))
set_option maxHeartbeats 8000000 in
set_option maxRecDepth 100000 in
theorem laws_szPairS.calls (A0 : Option Addr) (c0 : Nat) (l0 : List (S224)) (a1 : Int) (r : Int) (w : World) (hr0 : Kd.C k224 w A0 l0.length l0) (hc0 : l0.length ≤ c0) (h : laws_szPairS.f l0 a1 = some r) :
    Calls Tryz.prog 171 #[.slice A0 l0.length c0, .int .i64 a1] w fun e w' => e = .returned (.int .i64 r) ∧ Drawn0 w w' := by
 have HR0 := A_ hr0
 have HC0 := A_ hc0
 clear hr0 hc0
 have H : (if (wrap64 (a1 - (l0.length : Int))) < 0 then (some (-1)) else (some (wrap64 (a1 - (l0.length : Int))))) = some r := h
 clear h
 replace H := ic_ H
 rcases H with ⟨c3b0, H⟩ | ⟨c3b0, H⟩
 ·
  obtain rfl := Option.some.inj H
  go_enter Tryz.func171, Tryz.ntmps171
  go_wp2
  go_ret
  exact ⟨rt_, by repeat (first | exact Drawn0.refl _ | apply Drawn0.step)⟩
 obtain rfl := Option.some.inj H
 go_enter Tryz.func171, Tryz.ntmps171
 go_wp2
 go_ret
 exact ⟨rt_, by repeat (first | exact Drawn0.refl _ | apply Drawn0.step)⟩
def laws_szHelpS.f (l0 : List (S226)) (a1 : Int) : Option (Int) := if (wrap64 (a1 - (l0.length : Int))) < 0 then (some (-1)) else (some (wrap64 (a1 - (l0.length : Int))))
set_option maxHeartbeats 8000000 in
set_option maxRecDepth 100000 in
theorem laws_szHelpS.calls (A0 : Option Addr) (c0 : Nat) (l0 : List (S226)) (a1 : Int) (r : Int) (w : World) (hr0 : Kd.C k226 w A0 l0.length l0) (hc0 : l0.length ≤ c0) (h : laws_szHelpS.f l0 a1 = some r) :
    Calls Tryz.prog 172 #[.slice A0 l0.length c0, .int .i64 a1] w fun e w' => e = .returned (.int .i64 r) ∧ Drawn0 w w' := by
 have HR0 := A_ hr0
 have HC0 := A_ hc0
 clear hr0 hc0
 have H : (if (wrap64 (a1 - (l0.length : Int))) < 0 then (some (-1)) else (some (wrap64 (a1 - (l0.length : Int))))) = some r := h
 clear h
 replace H := ic_ H
 rcases H with ⟨c3b0, H⟩ | ⟨c3b0, H⟩
 ·
  obtain rfl := Option.some.inj H
  go_enter Tryz.func172, Tryz.ntmps172
  go_wp2
  go_ret
  exact ⟨rt_, by repeat (first | exact Drawn0.refl _ | apply Drawn0.step)⟩
 obtain rfl := Option.some.inj H
 go_enter Tryz.func172, Tryz.ntmps172
 go_wp2
 go_ret
 exact ⟨rt_, by repeat (first | exact Drawn0.refl _ | apply Drawn0.step)⟩
def laws_szThread.f (l0_0 : List (S178)) (a0_1 : Int) (a0_2 : Bool) (l0_3 : List (S224)) (l0_4 : List (S226)) (a1 : Int) : Option (Int) := (laws_szOpS.f l0_0 a1).bind fun t112 => (if t112 < 0 then (some (-1)) else ((laws_szPairS.f l0_3 t112).bind fun t113 => (if t113 < 0 then (some (-1)) else ((laws_szHelpS.f l0_4 t113).bind fun t114 => (if t114 < 0 then (some (-1)) else (some t114))))))
set_option maxHeartbeats 8000000 in
set_option maxRecDepth 100000 in
theorem laws_szThread.calls (A0_0 : Option Addr) (c0_0 : Nat) (l0_0 : List (S178)) (a0_1 : Int) (a0_2 : Bool) (A0_3 : Option Addr) (c0_3 : Nat) (l0_3 : List (S224)) (A0_4 : Option Addr) (c0_4 : Nat) (l0_4 : List (S226)) (a1 : Int) (r : Int) (w : World) (hr0_0 : Kd.C k178 w A0_0 l0_0.length l0_0) (hc0_0 : l0_0.length ≤ c0_0) (hr0_3 : Kd.C k224 w A0_3 l0_3.length l0_3) (hc0_3 : l0_3.length ≤ c0_3) (hr0_4 : Kd.C k226 w A0_4 l0_4.length l0_4) (hc0_4 : l0_4.length ≤ c0_4) (h : laws_szThread.f l0_0 a0_1 a0_2 l0_3 l0_4 a1 = some r) :
    Calls Tryz.prog 151 #[.agg #[.slice A0_0 l0_0.length c0_0, .int .i64 a0_1, .bool a0_2, .slice A0_3 l0_3.length c0_3, .slice A0_4 l0_4.length c0_4], .int .i64 a1] w fun e w' => e = .returned (.int .i64 r) ∧ Below w.heap.size w w' := by
 have hu176 := Tryz.underlying176
 have HR0_0 := A_ hr0_0
 have HC0_0 := A_ hc0_0
 clear hr0_0 hc0_0
 have HR0_3 := A_ hr0_3
 have HC0_3 := A_ hc0_3
 clear hr0_3 hc0_3
 have HR0_4 := A_ hr0_4
 have HC0_4 := A_ hc0_4
 clear hr0_4 hc0_4
 have HB := A_ (Below.refl w.heap.size w)
 have H : ((laws_szOpS.f l0_0 a1).bind fun t112 => (if t112 < 0 then (some (-1)) else ((laws_szPairS.f l0_3 t112).bind fun t113 => (if t113 < 0 then (some (-1)) else ((laws_szHelpS.f l0_4 t113).bind fun t114 => (if t114 < 0 then (some (-1)) else (some t114))))))) = some r := h
 clear h
 replace H := bs_ H
 obtain ⟨t112, A3, H⟩ := H
 replace H := ic_ H
 rcases H with ⟨c4b0, H⟩ | ⟨c4b0, H⟩
 ·
  obtain rfl := Option.some.inj H
  go_enter Tryz.func151, Tryz.ntmps151
  go_wp2_with (first | ((with_reducible refine gate_dst (N := 2) rfl ?_); refine Y8_ ?_; clear HB; intro gb111 w5 BK111 GW111 HB z6_0 z6_1 z6_2 z6_3 z6_4 y6_0 y6_1 y6_2 y6_3 y6_4) | ((with_reducible refine gate_callee (f := 170) rfl ?_); refine Y9_ ?_; intro nd))
  go_ret
  exact ⟨rs_, hb_ HB⟩
 replace H := bs_ H
 obtain ⟨t113, A7, H⟩ := H
 replace H := ic_ H
 rcases H with ⟨c8b0, H⟩ | ⟨c8b0, H⟩
 ·
  obtain rfl := Option.some.inj H
  go_enter Tryz.func151, Tryz.ntmps151
  go_wp2_with (first | ((with_reducible refine gate_dst (N := 2) rfl ?_); refine Y8_ ?_; clear HB; intro gb111 w9 BK111 GW111 HB z10_0 z10_1 z10_2 z10_3 z10_4 y10_0 y10_1 y10_2 y10_3 y10_4) | ((with_reducible refine gate_callee (f := 170) rfl ?_); refine Y9_ ?_; intro nd) | ((with_reducible refine gate_callee (f := 171) rfl ?_); refine Y10_ ?_; intro nd))
  go_ret
  exact ⟨rs_, hb_ HB⟩
 replace H := bs_ H
 obtain ⟨t114, A11, H⟩ := H
 replace H := ic_ H
 rcases H with ⟨c12b0, H⟩ | ⟨c12b0, H⟩
 ·
  obtain rfl := Option.some.inj H
  go_enter Tryz.func151, Tryz.ntmps151
  go_wp2_with (first | ((with_reducible refine gate_dst (N := 2) rfl ?_); refine Y8_ ?_; clear HB; intro gb111 w13 BK111 GW111 HB z14_0 z14_1 z14_2 z14_3 z14_4 y14_0 y14_1 y14_2 y14_3 y14_4) | ((with_reducible refine gate_callee (f := 170) rfl ?_); refine Y9_ ?_; intro nd) | ((with_reducible refine gate_callee (f := 171) rfl ?_); refine Y10_ ?_; intro nd) | ((with_reducible refine gate_callee (f := 172) rfl ?_); refine Y11_ ?_; intro nd))
  go_ret
  exact ⟨rs_, hb_ HB⟩
 obtain rfl := Option.some.inj H
 go_enter Tryz.func151, Tryz.ntmps151
 go_wp2_with (first | ((with_reducible refine gate_dst (N := 2) rfl ?_); refine Y8_ ?_; clear HB; intro gb111 w15 BK111 GW111 HB z16_0 z16_1 z16_2 z16_3 z16_4 y16_0 y16_1 y16_2 y16_3 y16_4) | ((with_reducible refine gate_callee (f := 170) rfl ?_); refine Y9_ ?_; intro nd) | ((with_reducible refine gate_callee (f := 171) rfl ?_); refine Y10_ ?_; intro nd) | ((with_reducible refine gate_callee (f := 172) rfl ?_); refine Y11_ ?_; intro nd))
 go_ret
 exact ⟨rs_, hb_ HB⟩
def laws_szThreadS.l0 : Nat → List (S176) → Int → Int → Option (Int)
 | 0, _, _, _ => none
 | k + 1, x0, x1, x5 => if x5 < (x0.length : Int) then (if 0 ≤ x5 then ((laws_szThread.f ((rd_T176 x0 x5).f0) ((rd_T176 x0 x5).f1) ((rd_T176 x0 x5).f2) ((rd_T176 x0 x5).f3) ((rd_T176 x0 x5).f4) x1).bind fun t116 => (if t116 < 0 then (some (-1)) else (laws_szThreadS.l0 k x0 t116 (wrap64 (x5 + 1))))) else (none)) else (some x1)
def laws_szThreadS.f (k : Nat) (l0 : List (S176)) (a1 : Int) : Option (Int) := if (wrap64 (a1 - (l0.length : Int))) < 0 then (some (-1)) else (laws_szThreadS.l0 k l0 (wrap64 (a1 - (l0.length : Int))) 0)
set_option maxHeartbeats 8000000 in
set_option maxRecDepth 100000 in
theorem laws_szThreadS.calls (k : Nat) (A0 : Option Addr) (c0 : Nat) (l0 : List (S176)) (a1 : Int) (r : Int) (w : World) (hr0 : Kd.C k176 w A0 l0.length l0) (hc0 : l0.length ≤ c0) (h : laws_szThreadS.f k l0 a1 = some r) :
    Calls Tryz.prog 98 #[.slice A0 l0.length c0, .int .i64 a1] w fun e w' => e = .returned (.int .i64 r) ∧ Below w.heap.size w w' := by
 have hu176 := Tryz.underlying176
 have HR0 := A_ hr0
 have HC0 := A_ hc0
 clear hr0 hc0
 have HB := A_ (Below.refl w.heap.size w)
 have H : (if (wrap64 (a1 - (l0.length : Int))) < 0 then (some (-1)) else (laws_szThreadS.l0 k l0 (wrap64 (a1 - (l0.length : Int))) 0)) = some r := h
 clear h
 replace H := ic_ H
 rcases H with ⟨c3b0, H⟩ | ⟨c3b0, H⟩
 ·
  obtain rfl := Option.some.inj H
  go_enter Tryz.func98, Tryz.ntmps98
  go_wp2
  go_ret
  exact ⟨rs_, hb_ HB⟩
 replace H' := A_ H; clear H
 go_enter Tryz.func98, Tryz.ntmps98
 go_wp2
 go_loopg [1, 5] k (fun kq v1 v5 w' => ∃ (x1_1 : Int) (x5_1 : Int), v1 = .int .i64 x1_1 ∧ v5 = .int .i64 x5_1 ∧ Aside0 (laws_szThreadS.l0 kq l0 x1_1 x5_1 = some r) ∧ Aside0 (kq ≤ k) ∧ Aside0 (Below w.heap.size w w'))
 case atStart => exact ⟨(wrap64 (a1 - (l0.length : Int))), (0), rt_, rt_, H', ⟨Nat.le_refl _⟩, ⟨hb_ HB⟩⟩
 case round =>
  clear H'
  try clear c3b0
  obtain ⟨x1_1, x5_1, rfl, rfl, HA, HK1, HB⟩ := hrel
  cases gk with
  | zero => exact absurd HA.out (by simp [laws_szThreadS.l0])
  | succ k1 =>
   have H := HA.out
   clear HA
   simp only [laws_szThreadS.l0] at H
   replace H := ic_ H
   rcases H with ⟨c4b0, H⟩ | ⟨c4b0, H⟩
   ·
    replace H := ix_ H
    obtain ⟨c5b0, H⟩ := H
    replace H := bs_ H
    obtain ⟨t116, A6, H⟩ := H
    replace H := ic_ H
    rcases H with ⟨c7b0, H⟩ | ⟨c7b0, H⟩
    ·
     obtain rfl := Option.some.inj H
     obtain ⟨ad115, A115_0, c115_0, A115_3, c115_3, A115_4, c115_4, p115, q115, rfl, u115_0, u115_1, u115_2, u115_3, u115_4, HC115_0, HR115_0, HC115_3, HR115_3, HC115_4, HR115_4⟩ := ab_T176 HB HR0 x5_1
     go_wp2_with (first | ((with_reducible refine gate_callee (f := 151) rfl ?_); refine Y12_ ?_; clear HB; intro w8 HB))
     go_ret
     exact ⟨rs_, hb_ HB⟩
    replace H' := A_ H; clear H
    obtain ⟨ad115, A115_0, c115_0, A115_3, c115_3, A115_4, c115_4, p115, q115, rfl, u115_0, u115_1, u115_2, u115_3, u115_4, HC115_0, HR115_0, HC115_3, HR115_3, HC115_4, HR115_4⟩ := ab_T176 HB HR0 x5_1
    go_wp2_with (first | ((with_reducible refine gate_callee (f := 151) rfl ?_); refine Y12_ ?_; clear HB; intro w9 HB))
    go_roundg k1
    case measure => have := HK1.out; omega
    case rel => exact ⟨(t116), (wrap64 (x5_1 + 1)), rt_, rt_, H', ⟨by have := HK1.out; omega⟩, ⟨hb_ HB⟩⟩
   obtain rfl := Option.some.inj H
   go_wp2
   go_ret
   exact ⟨rs_, hb_ HB⟩
def laws_szCall.f (a0_0 : Int) (a0_1 : Int) (a0_2 : Int) (a0_3 : Int) (a0_4 : Int) (a0_5 : Int) (a0_6 : Int) (a0_7 : Int) (l0_8 : List Int) (a1 : Int) : Option (Int) := (laws_szRes.f a0_7 l0_8 a1).bind fun t118 => (if t118 < 0 then (some (-1)) else (some t118))
set_option maxHeartbeats 8000000 in
set_option maxRecDepth 100000 in
theorem laws_szCall.calls (a0_0 : Int) (a0_1 : Int) (a0_2 : Int) (a0_3 : Int) (a0_4 : Int) (a0_5 : Int) (a0_6 : Int) (a0_7 : Int) (A0_8 : Option Addr) (c0_8 : Nat) (l0_8 : List Int) (a1 : Int) (r : Int) (w : World) (hr0_8 : Kd.C (Kd.int .i64) w A0_8 l0_8.length l0_8) (hc0_8 : l0_8.length ≤ c0_8) (h : laws_szCall.f a0_0 a0_1 a0_2 a0_3 a0_4 a0_5 a0_6 a0_7 l0_8 a1 = some r) :
    Calls Tryz.prog 152 #[.agg #[.int .i64 a0_0, .int .i64 a0_1, .int .i64 a0_2, .int .i64 a0_3, .int .i64 a0_4, .int .i64 a0_5, .int .i64 a0_6, .int .i64 a0_7, .slice A0_8 l0_8.length c0_8], .int .i64 a1] w fun e w' => e = .returned (.int .i64 r) ∧ Below w.heap.size w w' := by
 have hu181 := Tryz.underlying181
 have hu179 := Tryz.underlying179
 have HR0_8 := A_ hr0_8
 have HC0_8 := A_ hc0_8
 clear hr0_8 hc0_8
 have HB := A_ (Below.refl w.heap.size w)
 have H : ((laws_szRes.f a0_7 l0_8 a1).bind fun t118 => (if t118 < 0 then (some (-1)) else (some t118))) = some r := h
 clear h
 replace H := bs_ H
 obtain ⟨t118, A3, H⟩ := H
 replace H := ic_ H
 rcases H with ⟨c4b0, H⟩ | ⟨c4b0, H⟩
 ·
  obtain rfl := Option.some.inj H
  go_enter Tryz.func152, Tryz.ntmps152
  go_wp2_with (first | ((with_reducible refine gate_dst (N := 2) rfl ?_); refine bx_ HB rfl (N := 2) rfl (cs := #[.int .i64 a0_0, .int .i64 a0_1, .int .i64 a0_2, .int .i64 a0_3, .int .i64 a0_4, .int .i64 a0_5, .int .i64 a0_6, .int .i64 a0_7, .slice A0_8 l0_8.length c0_8]) (t := 181) hr_ ?_; clear HB; intro gb117 w5 hg hb BK117 GW117 HB; clear hb hg; obtain ⟨z6_0, z6_1, z6_2, z6_3, z6_4, z6_5, z6_6, z6_7, z6_8, y6_0, y6_1, y6_2, y6_3, y6_4, y6_5, y6_6, y6_7, y6_8⟩ := cz9_ BK117) | ((with_reducible refine gate_callee (f := 173) rfl ?_); refine Y13_ ?_; clear BK117 HB; intro w7 BK117 HB))
  go_ret
  exact ⟨rs_, hb_ HB⟩
 obtain rfl := Option.some.inj H
 go_enter Tryz.func152, Tryz.ntmps152
 go_wp2_with (first | ((with_reducible refine gate_dst (N := 2) rfl ?_); refine bx_ HB rfl (N := 2) rfl (cs := #[.int .i64 a0_0, .int .i64 a0_1, .int .i64 a0_2, .int .i64 a0_3, .int .i64 a0_4, .int .i64 a0_5, .int .i64 a0_6, .int .i64 a0_7, .slice A0_8 l0_8.length c0_8]) (t := 181) hr_ ?_; clear HB; intro gb117 w8 hg hb BK117 GW117 HB; clear hb hg; obtain ⟨z9_0, z9_1, z9_2, z9_3, z9_4, z9_5, z9_6, z9_7, z9_8, y9_0, y9_1, y9_2, y9_3, y9_4, y9_5, y9_6, y9_7, y9_8⟩ := cz9_ BK117) | ((with_reducible refine gate_callee (f := 173) rfl ?_); refine Y13_ ?_; clear BK117 HB; intro w10 BK117 HB))
 go_ret
 exact ⟨rs_, hb_ HB⟩
def laws_szCallS.l0 : Nat → List (S181) → Int → Int → Option (Int)
 | 0, _, _, _ => none
 | k + 1, x0, x1, x5 => if x5 < (x0.length : Int) then (if 0 ≤ x5 then ((laws_szCall.f ((rd_T181 x0 x5).f0) ((rd_T181 x0 x5).f1.f0) ((rd_T181 x0 x5).f1.f1) ((rd_T181 x0 x5).f1.f2) ((rd_T181 x0 x5).f2) ((rd_T181 x0 x5).f3) ((rd_T181 x0 x5).f4) ((rd_T181 x0 x5).f5.f0) ((rd_T181 x0 x5).f5.f1) x1).bind fun t120 => (if t120 < 0 then (some (-1)) else (laws_szCallS.l0 k x0 t120 (wrap64 (x5 + 1))))) else (none)) else (some x1)
def laws_szCallS.f (k : Nat) (l0 : List (S181)) (a1 : Int) : Option (Int) := if (wrap64 (a1 - (l0.length : Int))) < 0 then (some (-1)) else (laws_szCallS.l0 k l0 (wrap64 (a1 - (l0.length : Int))) 0)
set_option maxHeartbeats 8000000 in
set_option maxRecDepth 100000 in
theorem laws_szCallS.calls (k : Nat) (A0 : Option Addr) (c0 : Nat) (l0 : List (S181)) (a1 : Int) (r : Int) (w : World) (hr0 : Kd.C k181 w A0 l0.length l0) (hc0 : l0.length ≤ c0) (h : laws_szCallS.f k l0 a1 = some r) :
    Calls Tryz.prog 99 #[.slice A0 l0.length c0, .int .i64 a1] w fun e w' => e = .returned (.int .i64 r) ∧ Below w.heap.size w w' := by
 have hu181 := Tryz.underlying181
 have HR0 := A_ hr0
 have HC0 := A_ hc0
 clear hr0 hc0
 have HB := A_ (Below.refl w.heap.size w)
 have H : (if (wrap64 (a1 - (l0.length : Int))) < 0 then (some (-1)) else (laws_szCallS.l0 k l0 (wrap64 (a1 - (l0.length : Int))) 0)) = some r := h
 clear h
 replace H := ic_ H
 rcases H with ⟨c3b0, H⟩ | ⟨c3b0, H⟩
 ·
  obtain rfl := Option.some.inj H
  go_enter Tryz.func99, Tryz.ntmps99
  go_wp2
  go_ret
  exact ⟨rs_, hb_ HB⟩
 replace H' := A_ H; clear H
 go_enter Tryz.func99, Tryz.ntmps99
 go_wp2
 go_loopg [1, 5] k (fun kq v1 v5 w' => ∃ (x1_1 : Int) (x5_1 : Int), v1 = .int .i64 x1_1 ∧ v5 = .int .i64 x5_1 ∧ Aside0 (laws_szCallS.l0 kq l0 x1_1 x5_1 = some r) ∧ Aside0 (kq ≤ k) ∧ Aside0 (Below w.heap.size w w'))
 case atStart => exact ⟨(wrap64 (a1 - (l0.length : Int))), (0), rt_, rt_, H', ⟨Nat.le_refl _⟩, ⟨hb_ HB⟩⟩
 case round =>
  clear H'
  try clear c3b0
  obtain ⟨x1_1, x5_1, rfl, rfl, HA, HK1, HB⟩ := hrel
  cases gk with
  | zero => exact absurd HA.out (by simp [laws_szCallS.l0])
  | succ k1 =>
   have H := HA.out
   clear HA
   simp only [laws_szCallS.l0] at H
   replace H := ic_ H
   rcases H with ⟨c4b0, H⟩ | ⟨c4b0, H⟩
   ·
    replace H := ix_ H
    obtain ⟨c5b0, H⟩ := H
    replace H := bs_ H
    obtain ⟨t120, A6, H⟩ := H
    replace H := ic_ H
    rcases H with ⟨c7b0, H⟩ | ⟨c7b0, H⟩
    ·
     obtain rfl := Option.some.inj H
     obtain ⟨ad119, A119_8, c119_8, p119, q119, rfl, u119_0, u119_1, u119_2, u119_3, u119_4, u119_5, u119_6, u119_7, u119_8, HC119_8, HR119_8⟩ := ab_T181 HB HR0 x5_1
     go_wp2_with (first | ((with_reducible refine gate_callee (f := 152) rfl ?_); refine Y14_ ?_; clear HB; intro w8 HB))
     go_ret
     exact ⟨rs_, hb_ HB⟩
    replace H' := A_ H; clear H
    obtain ⟨ad119, A119_8, c119_8, p119, q119, rfl, u119_0, u119_1, u119_2, u119_3, u119_4, u119_5, u119_6, u119_7, u119_8, HC119_8, HR119_8⟩ := ab_T181 HB HR0 x5_1
    go_wp2_with (first | ((with_reducible refine gate_callee (f := 152) rfl ?_); refine Y14_ ?_; clear HB; intro w9 HB))
    go_roundg k1
    case measure => have := HK1.out; omega
    case rel => exact ⟨(t120), (wrap64 (x5_1 + 1)), rt_, rt_, H', ⟨by have := HK1.out; omega⟩, ⟨hb_ HB⟩⟩
   obtain rfl := Option.some.inj H
   go_wp2
   go_ret
   exact ⟨rs_, hb_ HB⟩
end Go.Proofs.YtdcinhpdpoodfaaGreat.PFnExactFinished
