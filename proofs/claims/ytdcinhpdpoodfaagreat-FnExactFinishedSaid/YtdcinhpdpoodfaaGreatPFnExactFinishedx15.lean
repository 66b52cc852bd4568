/- Contracts of functions of the program. No condition beyond the hypotheses that each theorem names. -/
import Derived.Test.YtdcinhpdpoodfaaGreatPFnExactFinishedx0
namespace Go.Proofs.YtdcinhpdpoodfaaGreat.PFnExactFinished
open Go.RowKit Go.Proofs.YtdcinhpdpoodfaaGreatW.PrintWords Go.Proofs.YtdcinhpdpoodfaaGreatW.PrintLast Go.Proofs.YtdcinhpdpoodfaaGreatW.PrintMore
attribute [local go_sem] max2_int min2_int max_two min_two max_three min_three max_four min_four
set_option linter.unusedVariables false
set_option linter.unusedSimpArgs false
def impl_Entries.l0 : Nat → Int → List (S37) → Int → Int → Option (Int × Int × Int × Bool)
 | 0, _, _, _, _ => none
 | k + 1, x1, x9, x10, x11 => if x11 < x10 then (if 0 ≤ x11 then (if x11 < (x9.length : Int) then (if ((rd_T37 x9 x11).f0) = x1 then (some ((rd_T37 x9 x11).f0, (rd_T37 x9 x11).f1, (rd_T37 x9 x11).f2, true)) else (impl_Entries.l0 k x1 x9 x10 (wrap64 (x11 + 1)))) else (none)) else (none)) else (some (0, 0, 0, false))
def impl_Entries.f (k : Nat) (a0_0 : Int) (a0_1 : Int) (l0_2 : List (S37)) (a0_3 : Int) (l0_4 : List Int) (a1 : Int) : Option (Int × Int × Int × Bool) := impl_Entries.l0 k a1 l0_2 (l0_2.length : Int) 0
set_option maxHeartbeats 8000000 in
set_option maxRecDepth 100000 in
theorem impl_Entries.calls (k : Nat) (a0_0 : Int) (a0_1 : Int) (A0_2 : Option Addr) (c0_2 : Nat) (l0_2 : List (S37)) (a0_3 : Int) (A0_4 : Option Addr) (c0_4 : Nat) (l0_4 : List Int) (a1 : Int) (r1 : Int) (r2 : Int) (r3 : Int) (r4 : Bool) (w : World) (hr0_2 : Kd.C k37 w A0_2 l0_2.length l0_2) (hc0_2 : l0_2.length ≤ c0_2) (hr0_4 : Kd.C (Kd.int .i64) w A0_4 l0_4.length l0_4) (hc0_4 : l0_4.length ≤ c0_4) (h : impl_Entries.f k a0_0 a0_1 l0_2 a0_3 l0_4 a1 = some (r1, r2, r3, r4)) :
    Calls Tryz.prog 23 #[.agg #[.int .i64 a0_0, .int .i64 a0_1, .slice A0_2 l0_2.length c0_2, .int .i64 a0_3, .slice A0_4 l0_4.length c0_4], .int .i64 a1] w fun e w' => e = .returned (.tuple #[.agg #[.int .i64 r1, .int .i64 r2, .int .i64 r3], .bool r4]) ∧ Below w.heap.size w w' := by
 have hu52 := Tryz.underlying52
 have hu37 := Tryz.underlying37
 have HR0_2 := A_ hr0_2
 have HC0_2 := A_ hc0_2
 clear hr0_2 hc0_2
 have HR0_4 := A_ hr0_4
 have HC0_4 := A_ hc0_4
 clear hr0_4 hc0_4
 have HB := A_ (Below.refl w.heap.size w)
 have H : (impl_Entries.l0 k a1 l0_2 (l0_2.length : Int) 0) = some (r1, r2, r3, r4) := h
 clear h
 replace H' := A_ H; clear H
 go_enter Tryz.func23, Tryz.ntmps23
 go_wp2_with (first | ((with_reducible refine gate_dst (N := 2) rfl ?_); refine Y40_ ?_; clear HB; intro gb412 w3 BK412 GW412 HB) | ((with_reducible refine gate_dst (N := 4) rfl ?_); refine bx_ HB rfl (N := 4) rfl (cs := #[.int .i64 0, .int .i64 0, .int .i64 0]) (t := 37) hr_ ?_; clear HB; intro gb413 w4 hg hb BK413 GW413 HB; have NB412_413 := ng_ BK412 hg; have NB413_412 := ns_ (ng_ BK412 hg); replace BK412 := bb_ BK412 hb; clear hb hg; have hnb5 := NB412_413.out; have hnc5 := NB413_412.out; obtain ⟨z6_0, z6_1, z6_2, z6_3, z6_4, y6_0, y6_1, y6_2, y6_3, y6_4⟩ := cz5_ BK412))
 go_loopg [11] k (fun kq v11 w' => ∃ (x11_1 : Int) (x414000_1 : Int) (x414001_1 : Int) (x414002_1 : Int), v11 = .int .i64 x11_1 ∧ Aside0 (impl_Entries.l0 kq a1 l0_2 (l0_2.length : Int) x11_1 = some (r1, r2, r3, r4)) ∧ Aside0 (kq ≤ k) ∧ Aside0 (w'.heap[gb412]? = some (.cells #[.int .i64 a0_0, .int .i64 a0_1, (.slice A0_2 l0_2.length c0_2), .int .i64 a0_3, (.slice A0_4 l0_4.length c0_4)] 52 (0, 0))) ∧ Aside0 (w'.heap[gb413]? = some (.cells #[.int .i64 x414000_1, .int .i64 x414001_1, .int .i64 x414002_1] 37 (0, 0))) ∧ Aside0 (Below w.heap.size w w'))
 case atStart => exact ⟨(0), (0), (0), (0), rt_, H', ⟨Nat.le_refl _⟩, ⟨bk_ BK412⟩, ⟨bk_ BK413⟩, ⟨hb_ HB⟩⟩
 case round =>
  clear H'
  try clear c2
  try clear c5
  obtain ⟨x11_1, x414000_1, x414001_1, x414002_1, rfl, HA, HK1, BK412, BK413, HB⟩ := hrel
  cases gk with
  | zero => exact absurd HA.out (by simp [impl_Entries.l0])
  | succ k1 =>
   have H := HA.out
   clear HA
   simp only [impl_Entries.l0] at H
   replace H := ic_ H
   rcases H with ⟨c7b0, H⟩ | ⟨c7b0, H⟩
   ·
    replace H := ix_ H
    obtain ⟨c8b0, H⟩ := H
    replace H := ix_ H
    obtain ⟨c9b0, H⟩ := H
    by_cases c10 : ((rd_T37 l0_2 x11_1).f0) = a1
    ·
     rw [if_pos c10] at H
     have c10b0 : (((rd_T37 l0_2 x11_1).f0) == a1) = true := beq_iff_eq.mpr c10
     have c10b1 : (((rd_T37 l0_2 x11_1).f0) != a1) = false := bne_eq_false_iff_eq.mpr c10
     clear c10
     simp only [Option.some.injEq, Prod.mk.injEq] at H
     obtain ⟨rfl, rfl, rfl, rfl⟩ := H
     obtain ⟨ad414, p414, q414, rfl, u414_0, u414_1, u414_2⟩ := ab_T37 HB HR0_2 x11_1
     go_wp2_with (first | ((with_reducible refine gate_dst (N := 7) rfl ?_); refine bx_ HB rfl (N := 7) rfl (cs := #[.int .i64 0, .int .i64 0, .int .i64 0]) (t := 37) hr_ ?_; clear HB; intro gb415 w11 hg hb BK415 GW415 HB; have NB412_415 := ng_ BK412 hg; have NB415_412 := ns_ (ng_ BK412 hg); have NB413_415 := ng_ BK413 hg; have NB415_413 := ns_ (ng_ BK413 hg); replace BK412 := bb_ BK412 hb; replace BK413 := bb_ BK413 hb; clear hb hg; have hnb12 := NB415_412.out; have hnc12 := NB412_415.out; have hnb13 := NB415_413.out; have hnc13 := NB413_415.out; obtain ⟨z14_0, z14_1, z14_2, y14_0, y14_1, y14_2⟩ := cz3_ BK415; have hnb15 := NB413_412.out; have hnc15 := NB412_413.out; obtain ⟨z16_0, z16_1, z16_2, y16_0, y16_1, y16_2⟩ := cz3_ BK413))
     refine bodyPost_ret (results_ct rfl _ _ gb413 37 #[.int .i64 ((rd_T37 l0_2 x11_1).f0), .int .i64 ((rd_T37 l0_2 x11_1).f1), .int .i64 ((rd_T37 l0_2 x11_1).f2)] (0, 0) _ rfl (bp_ BK413) Tryz.underlying37 rfl (by kernel_rfl)) rfl ?_
     exact ⟨rs_, hb_ HB⟩
    rw [if_neg c10] at H
    have c10b0 : (((rd_T37 l0_2 x11_1).f0) == a1) = false := beq_eq_false_iff_ne.mpr c10
    have c10b1 : (((rd_T37 l0_2 x11_1).f0) != a1) = true := bne_iff_ne.mpr c10
    replace H' := A_ H; clear H
    obtain ⟨ad414, p414, q414, rfl, u414_0, u414_1, u414_2⟩ := ab_T37 HB HR0_2 x11_1
    go_wp2_with (first | ((with_reducible refine gate_dst (N := 7) rfl ?_); refine bx_ HB rfl (N := 7) rfl (cs := #[.int .i64 0, .int .i64 0, .int .i64 0]) (t := 37) hr_ ?_; clear HB; intro gb415 w17 hg hb BK415 GW415 HB; have NB412_415 := ng_ BK412 hg; have NB415_412 := ns_ (ng_ BK412 hg); have NB413_415 := ng_ BK413 hg; have NB415_413 := ns_ (ng_ BK413 hg); replace BK412 := bb_ BK412 hb; replace BK413 := bb_ BK413 hb; clear hb hg; have hnb18 := NB415_412.out; have hnc18 := NB412_415.out; have hnb19 := NB415_413.out; have hnc19 := NB413_415.out; obtain ⟨z20_0, z20_1, z20_2, y20_0, y20_1, y20_2⟩ := cz3_ BK415))
    go_roundg k1
    case measure => have := HK1.out; omega
    case rel => exact ⟨(wrap64 (x11_1 + 1)), (x414000_1), (x414001_1), (x414002_1), rt_, H', ⟨by have := HK1.out; omega⟩, ⟨bk_ BK412⟩, ⟨bk_ BK413⟩, ⟨hb_ HB⟩⟩
   simp only [Option.some.injEq, Prod.mk.injEq] at H
   obtain ⟨rfl, rfl, rfl, rfl⟩ := H
   have hnb21 := NB413_412.out
   have hnc21 := NB412_413.out
   obtain ⟨z22_0, z22_1, z22_2, y22_0, y22_1, y22_2⟩ := cz3_ BK413
   go_wp2
   refine bodyPost_ret (results_ct rfl _ _ gb413 37 #[.int .i64 0, .int .i64 0, .int .i64 0] (0, 0) _ rfl (bp_ BK413) Tryz.underlying37 rfl (by kernel_rfl)) rfl ?_
   exact ⟨rs_, hb_ HB⟩
def impl_from.f (a0 : Int) (a1 : Int) (a2 : Int) : Option (Bool) := if a0 ≥ a1 then (some (decide (a0 ≤ a2))) else (some false)
set_option maxHeartbeats 8000000 in
set_option maxRecDepth 100000 in
theorem impl_from.calls (a0 : Int) (a1 : Int) (a2 : Int) (r : Bool) (w : World) (h : impl_from.f a0 a1 a2 = some r) :
    Calls Tryz.prog 62 #[.int .i64 a0, .int .i64 a1, .int .i64 a2] w fun e w' => e = .returned (.bool r) ∧ Drawn0 w w' := by
 have H : (if a0 ≥ a1 then (some (decide (a0 ≤ a2))) else (some false)) = some r := h
 clear h
 replace H := ic_ H
 rcases H with ⟨c4b0, H⟩ | ⟨c4b0, H⟩
 ·
  obtain rfl := Option.some.inj H
  go_enter Tryz.func62, Tryz.ntmps62
  go_wp2
  go_ret
  exact ⟨rt_, by repeat (first | exact Drawn0.refl _ | apply Drawn0.step)⟩
 obtain rfl := Option.some.inj H
 go_enter Tryz.func62, Tryz.ntmps62
 go_wp2
 go_ret
 exact ⟨rt_, by repeat (first | exact Drawn0.refl _ | apply Drawn0.step)⟩
-- NOT PRINTED: function 134 (impl_Desc_134)
-- NOT PRINTED: function 76 (impl_Desc_76)
def impl_isWordNum.f (a0 : Int) : Option (Bool) := (impl_from.f a0 0 1000).bind fun t416 => (some t416)
set_option maxHeartbeats 8000000 in
set_option maxRecDepth 100000 in
theorem impl_isWordNum.calls (a0 : Int) (r : Bool) (w : World) (h : impl_isWordNum.f a0 = some r) :
    Calls Tryz.prog 92 #[.int .i64 a0] w fun e w' => e = .returned (.bool r) ∧ Drawn0 w w' := by
 have H : ((impl_from.f a0 0 1000).bind fun t416 => (some t416)) = some r := h
 clear h
 replace H := bs_ H
 obtain ⟨t416, A2, H⟩ := H
 obtain rfl := Option.some.inj H
 go_enter Tryz.func92, Tryz.ntmps92
 go_wp2_with (first | ((with_reducible refine gate_callee (f := 62) rfl ?_); refine goesL_ (some 4) rfl rfl Tryz.func62 (by kernel_rfl) rfl #[.int .i64 a0, .int .i64 0, .int .i64 1000] rfl al_ ?_; (with_reducible refine (impl_from.calls a0 0 1000 t416 _ A2.out).mono ?_); rintro e w' ⟨rfl, ⟨nd, rfl⟩⟩; refine ⟨_, rfl, ?_⟩))
 go_ret
 exact ⟨rt_, by repeat (first | exact Drawn0.refl _ | apply Drawn0.step)⟩
def impl_WordOk.f (a0_0 : Int) (a0_1 : Int) (a0_2 : Int) (a1 : Int) : Option (Bool) := if a0_1 = 0 then ((impl_isWordNum.f a0_0).bind fun t418 => (if t418 = true then (some (a0_2 == 0)) else (some false))) else (if a0_0 = 0 then ((impl_from.f a0_1 1 a1).bind fun t419 => (if t419 = true then ((impl_from.f a0_2 1 1000000).bind fun t420 => (some t420)) else (some false))) else (some false))
set_option maxHeartbeats 8000000 in
set_option maxRecDepth 100000 in
theorem impl_WordOk.calls (a0_0 : Int) (a0_1 : Int) (a0_2 : Int) (a1 : Int) (r : Bool) (w : World) (h : impl_WordOk.f a0_0 a0_1 a0_2 a1 = some r) :
    Calls Tryz.prog 79 #[.agg #[.int .i64 a0_0, .int .i64 a0_1, .int .i64 a0_2], .int .i64 a1] w fun e w' => e = .returned (.bool r) ∧ Below w.heap.size w w' := by
 have hu39 := Tryz.underlying39
 have HB := A_ (Below.refl w.heap.size w)
 have H : (if a0_1 = 0 then ((impl_isWordNum.f a0_0).bind fun t418 => (if t418 = true then (some (a0_2 == 0)) else (some false))) else (if a0_0 = 0 then ((impl_from.f a0_1 1 a1).bind fun t419 => (if t419 = true then ((impl_from.f a0_2 1 1000000).bind fun t420 => (some t420)) else (some false))) else (some false))) = some r := h
 clear h
 by_cases c3 : a0_1 = 0
 ·
  rw [if_pos c3] at H
  have c3b0 : (a0_1 == 0) = true := beq_iff_eq.mpr c3
  have c3b1 : (a0_1 != 0) = false := bne_eq_false_iff_eq.mpr c3
  clear c3
  replace H := bs_ H
  obtain ⟨t418, A4, H⟩ := H
  by_cases c5 : t418 = true
  ·
   subst c5
   replace H := it_ H
   obtain rfl := Option.some.inj H
   go_enter Tryz.func79, Tryz.ntmps79
   go_wp2_with (first | ((with_reducible refine gate_dst (N := 2) rfl ?_); refine Y39_ ?_; clear HB; intro gb417 w6 BK417 GW417 HB z7_0 z7_1 z7_2 y7_0 y7_1 y7_2) | ((with_reducible refine gate_callee (f := 92) rfl ?_); refine goesL_ (some 10) rfl rfl Tryz.func92 (by kernel_rfl) rfl #[.int .i64 a0_0] rfl al_ ?_; (with_reducible refine (impl_isWordNum.calls a0_0 true _ A4.out).mono ?_); rintro e w' ⟨rfl, ⟨nd, rfl⟩⟩; refine ⟨_, rfl, ?_⟩))
   go_ret
   exact ⟨rs_, hb_ HB⟩
  obtain rfl := Bool.eq_false_iff.mpr c5
  replace H := iF_ H
  obtain rfl := Option.some.inj H
  go_enter Tryz.func79, Tryz.ntmps79
  go_wp2_with (first | ((with_reducible refine gate_dst (N := 2) rfl ?_); refine Y39_ ?_; clear HB; intro gb417 w8 BK417 GW417 HB z9_0 z9_1 z9_2 y9_0 y9_1 y9_2) | ((with_reducible refine gate_callee (f := 92) rfl ?_); refine goesL_ (some 10) rfl rfl Tryz.func92 (by kernel_rfl) rfl #[.int .i64 a0_0] rfl al_ ?_; (with_reducible refine (impl_isWordNum.calls a0_0 false _ A4.out).mono ?_); rintro e w' ⟨rfl, ⟨nd, rfl⟩⟩; refine ⟨_, rfl, ?_⟩))
  go_ret
  exact ⟨rs_, hb_ HB⟩
 rw [if_neg c3] at H
 have c3b0 : (a0_1 == 0) = false := beq_eq_false_iff_ne.mpr c3
 have c3b1 : (a0_1 != 0) = true := bne_iff_ne.mpr c3
 by_cases c10 : a0_0 = 0
 ·
  rw [if_pos c10] at H
  have c10b0 : (a0_0 == 0) = true := beq_iff_eq.mpr c10
  have c10b1 : (a0_0 != 0) = false := bne_eq_false_iff_eq.mpr c10
  clear c10
  replace H := bs_ H
  obtain ⟨t419, A11, H⟩ := H
  by_cases c12 : t419 = true
  ·
   subst c12
   replace H := it_ H
   replace H := bs_ H
   obtain ⟨t420, A13, H⟩ := H
   obtain rfl := Option.some.inj H
   go_enter Tryz.func79, Tryz.ntmps79
   go_wp2_with (first | ((with_reducible refine gate_dst (N := 2) rfl ?_); refine Y39_ ?_; clear HB; intro gb417 w14 BK417 GW417 HB z15_0 z15_1 z15_2 y15_0 y15_1 y15_2) | (go_at_call 62; (with_reducible refine (impl_from.calls a0_1 1 a1 true _ A11.out).mono ?_); rintro e w' ⟨rfl, ⟨nd, rfl⟩⟩) | (go_at_call 62; (with_reducible refine (impl_from.calls a0_2 1 1000000 t420 _ A13.out).mono ?_); rintro e w' ⟨rfl, ⟨nd, rfl⟩⟩))
   go_ret
   exact ⟨rs_, hb_ HB⟩
  obtain rfl := Bool.eq_false_iff.mpr c12
  replace H := iF_ H
  obtain rfl := Option.some.inj H
  go_enter Tryz.func79, Tryz.ntmps79
  go_wp2_with (first | ((with_reducible refine gate_dst (N := 2) rfl ?_); refine Y39_ ?_; clear HB; intro gb417 w16 BK417 GW417 HB z17_0 z17_1 z17_2 y17_0 y17_1 y17_2) | (go_at_call 62; (with_reducible refine (impl_from.calls a0_1 1 a1 false _ A11.out).mono ?_); rintro e w' ⟨rfl, ⟨nd, rfl⟩⟩))
  go_ret
  exact ⟨rs_, hb_ HB⟩
 rw [if_neg c10] at H
 have c10b0 : (a0_0 == 0) = false := beq_eq_false_iff_ne.mpr c10
 have c10b1 : (a0_0 != 0) = true := bne_iff_ne.mpr c10
 obtain rfl := Option.some.inj H
 go_enter Tryz.func79, Tryz.ntmps79
 go_wp2_with (first | ((with_reducible refine gate_dst (N := 2) rfl ?_); refine Y39_ ?_; clear HB; intro gb417 w18 BK417 GW417 HB z19_0 z19_1 z19_2 y19_0 y19_1 y19_2))
 go_ret
 exact ⟨rs_, hb_ HB⟩
def impl_isPlace.f (a0 : Int) : Option (Bool) := (impl_from.f a0 0 19).bind fun t421 => (some t421)
set_option maxHeartbeats 8000000 in
set_option maxRecDepth 100000 in
theorem impl_isPlace.calls (a0 : Int) (r : Bool) (w : World) (h : impl_isPlace.f a0 = some r) :
    Calls Tryz.prog 91 #[.int .i64 a0] w fun e w' => e = .returned (.bool r) ∧ Drawn0 w w' := by
 have H : ((impl_from.f a0 0 19).bind fun t421 => (some t421)) = some r := h
 clear h
 replace H := bs_ H
 obtain ⟨t421, A2, H⟩ := H
 obtain rfl := Option.some.inj H
 go_enter Tryz.func91, Tryz.ntmps91
 go_wp2_with (first | ((with_reducible refine gate_callee (f := 62) rfl ?_); refine goesL_ (some 4) rfl rfl Tryz.func62 (by kernel_rfl) rfl #[.int .i64 a0, .int .i64 0, .int .i64 19] rfl al_ ?_; (with_reducible refine (impl_from.calls a0 0 19 t421 _ A2.out).mono ?_); rintro e w' ⟨rfl, ⟨nd, rfl⟩⟩; refine ⟨_, rfl, ?_⟩))
 go_ret
 exact ⟨rt_, by repeat (first | exact Drawn0.refl _ | apply Drawn0.step)⟩
def impl_DescOk.l0 : Nat → List (S37) → Int → Int → Int → Int → List (S37) → Int → List Int → Option (Bool)
 | 0, _, _, _, _, _, _, _, _ => none
 | k + 1, x31, x32, x33, x423000, x423001, x423002, x423003, x423004 => if x33 < x32 then (if 0 ≤ x33 then (if x33 < (x31.length : Int) then ((impl_isPlace.f ((rd_T37 x31 x33).f0)).bind fun t427 => (if t427 = true then ((impl_isWordNum.f ((rd_T37 x31 x33).f1)).bind fun t428 => (if t428 = true then ((impl_isWordNum.f ((rd_T37 x31 x33).f2)).bind fun t429 => (if t429 = true then (if x33 > 0 then (if 0 ≤ (wrap64 (x33 - 1)) then (if (wrap64 (x33 - 1)) < (x423002.length : Int) then (if ((rd_T37 x423002 (wrap64 (x33 - 1))).f0) ≥ ((rd_T37 x31 x33).f0) then (some false) else (impl_DescOk.l0 k x31 x32 (wrap64 (x33 + 1)) x423000 x423001 x423002 x423003 x423004)) else (none)) else (none)) else (impl_DescOk.l0 k x31 x32 (wrap64 (x33 + 1)) x423000 x423001 x423002 x423003 x423004)) else (some false))) else (some false))) else (some false))) else (none)) else (none)) else ((impl_from.f x423000 1 1000000).bind fun t423 => (if t423 = true then ((impl_from.f x423001 1 3).bind fun t424 => (if t424 = true then (some (decide ((x423002.length : Int) ≤ 20))) else (some false))) else (some false)))
def impl_DescOk.f (k : Nat) (a0_0 : Int) (a0_1 : Int) (l0_2 : List (S37)) (a0_3 : Int) (l0_4 : List Int) : Option (Bool) := if a0_0 = 0 then (if a0_1 = 0 then (if (l0_2.length : Int) = 0 then (if a0_3 = 0 then (some ((l0_4.length : Int) == 0)) else (some false)) else (some false)) else (some false)) else (impl_DescOk.l0 k l0_2 (l0_2.length : Int) 0 a0_0 a0_1 l0_2 a0_3 l0_4)
set_option maxHeartbeats 8000000 in
set_option maxRecDepth 100000 in
theorem impl_DescOk.calls (k : Nat) (a0_0 : Int) (a0_1 : Int) (A0_2 : Option Addr) (c0_2 : Nat) (l0_2 : List (S37)) (a0_3 : Int) (A0_4 : Option Addr) (c0_4 : Nat) (l0_4 : List Int) (r : Bool) (w : World) (hr0_2 : Kd.C k37 w A0_2 l0_2.length l0_2) (hc0_2 : l0_2.length ≤ c0_2) (hr0_4 : Kd.C (Kd.int .i64) w A0_4 l0_4.length l0_4) (hc0_4 : l0_4.length ≤ c0_4) (h : impl_DescOk.f k a0_0 a0_1 l0_2 a0_3 l0_4 = some r) :
    Calls Tryz.prog 78 #[.agg #[.int .i64 a0_0, .int .i64 a0_1, .slice A0_2 l0_2.length c0_2, .int .i64 a0_3, .slice A0_4 l0_4.length c0_4]] w fun e w' => e = .returned (.bool r) ∧ Below w.heap.size w w' := by
 have hu52 := Tryz.underlying52
 have hu37 := Tryz.underlying37
 have HR0_2 := A_ hr0_2
 have HC0_2 := A_ hc0_2
 clear hr0_2 hc0_2
 have HR0_4 := A_ hr0_4
 have HC0_4 := A_ hc0_4
 clear hr0_4 hc0_4
 have HB := A_ (Below.refl w.heap.size w)
 have H : (if a0_0 = 0 then (if a0_1 = 0 then (if (l0_2.length : Int) = 0 then (if a0_3 = 0 then (some ((l0_4.length : Int) == 0)) else (some false)) else (some false)) else (some false)) else (impl_DescOk.l0 k l0_2 (l0_2.length : Int) 0 a0_0 a0_1 l0_2 a0_3 l0_4)) = some r := h
 clear h
 by_cases c2 : a0_0 = 0
 ·
  rw [if_pos c2] at H
  have c2b0 : (a0_0 == 0) = true := beq_iff_eq.mpr c2
  have c2b1 : (a0_0 != 0) = false := bne_eq_false_iff_eq.mpr c2
  clear c2
  by_cases c3 : a0_1 = 0
  ·
   rw [if_pos c3] at H
   have c3b0 : (a0_1 == 0) = true := beq_iff_eq.mpr c3
   have c3b1 : (a0_1 != 0) = false := bne_eq_false_iff_eq.mpr c3
   clear c3
   by_cases c4 : (l0_2.length : Int) = 0
   ·
    rw [if_pos c4] at H
    have c4b0 : ((l0_2.length : Int) == 0) = true := beq_iff_eq.mpr c4
    have c4b1 : ((l0_2.length : Int) != 0) = false := bne_eq_false_iff_eq.mpr c4
    clear c4
    by_cases c5 : a0_3 = 0
    ·
     rw [if_pos c5] at H
     have c5b0 : (a0_3 == 0) = true := beq_iff_eq.mpr c5
     have c5b1 : (a0_3 != 0) = false := bne_eq_false_iff_eq.mpr c5
     clear c5
     obtain rfl := Option.some.inj H
     go_enter Tryz.func78, Tryz.ntmps78
     iterate 5 (try go_wp2_with (first | ((with_reducible refine gate_dst (N := 1) rfl ?_); refine Y30_ ?_; clear HB; intro gb422 w6 BK422 GW422 HB z7_0 z7_1 z7_2 z7_3 z7_4 y7_0 y7_1 y7_2 y7_3 y7_4)); try go_quiet (first | ((with_reducible refine gate_dst (N := 1) rfl ?_); refine Y30_ ?_; clear HB; intro gb422 w6 BK422 GW422 HB z7_0 z7_1 z7_2 z7_3 z7_4 y7_0 y7_1 y7_2 y7_3 y7_4)))
     go_ret
     exact ⟨rs_, hb_ HB⟩
    rw [if_neg c5] at H
    have c5b0 : (a0_3 == 0) = false := beq_eq_false_iff_ne.mpr c5
    have c5b1 : (a0_3 != 0) = true := bne_iff_ne.mpr c5
    obtain rfl := Option.some.inj H
    go_enter Tryz.func78, Tryz.ntmps78
    iterate 5 (try go_wp2_with (first | ((with_reducible refine gate_dst (N := 1) rfl ?_); refine Y30_ ?_; clear HB; intro gb422 w8 BK422 GW422 HB z9_0 z9_1 z9_2 z9_3 z9_4 y9_0 y9_1 y9_2 y9_3 y9_4)); try go_quiet (first | ((with_reducible refine gate_dst (N := 1) rfl ?_); refine Y30_ ?_; clear HB; intro gb422 w8 BK422 GW422 HB z9_0 z9_1 z9_2 z9_3 z9_4 y9_0 y9_1 y9_2 y9_3 y9_4)))
    go_ret
    exact ⟨rs_, hb_ HB⟩
   rw [if_neg c4] at H
   have c4b0 : ((l0_2.length : Int) == 0) = false := beq_eq_false_iff_ne.mpr c4
   have c4b1 : ((l0_2.length : Int) != 0) = true := bne_iff_ne.mpr c4
   have c4b2 : ¬ (l0_2 = []) := fun h_ => c4 (by rw [h_]; rfl)
   obtain rfl := Option.some.inj H
   go_enter Tryz.func78, Tryz.ntmps78
   iterate 5 (try go_wp2_with (first | ((with_reducible refine gate_dst (N := 1) rfl ?_); refine Y30_ ?_; clear HB; intro gb422 w10 BK422 GW422 HB z11_0 z11_1 z11_2 z11_3 z11_4 y11_0 y11_1 y11_2 y11_3 y11_4)); try go_quiet (first | ((with_reducible refine gate_dst (N := 1) rfl ?_); refine Y30_ ?_; clear HB; intro gb422 w10 BK422 GW422 HB z11_0 z11_1 z11_2 z11_3 z11_4 y11_0 y11_1 y11_2 y11_3 y11_4)))
   go_ret
   exact ⟨rs_, hb_ HB⟩
  rw [if_neg c3] at H
  have c3b0 : (a0_1 == 0) = false := beq_eq_false_iff_ne.mpr c3
  have c3b1 : (a0_1 != 0) = true := bne_iff_ne.mpr c3
  obtain rfl := Option.some.inj H
  go_enter Tryz.func78, Tryz.ntmps78
  iterate 5 (try go_wp2_with (first | ((with_reducible refine gate_dst (N := 1) rfl ?_); refine Y30_ ?_; clear HB; intro gb422 w12 BK422 GW422 HB z13_0 z13_1 z13_2 z13_3 z13_4 y13_0 y13_1 y13_2 y13_3 y13_4)); try go_quiet (first | ((with_reducible refine gate_dst (N := 1) rfl ?_); refine Y30_ ?_; clear HB; intro gb422 w12 BK422 GW422 HB z13_0 z13_1 z13_2 z13_3 z13_4 y13_0 y13_1 y13_2 y13_3 y13_4)))
  go_ret
  exact ⟨rs_, hb_ HB⟩
 rw [if_neg c2] at H
 have c2b0 : (a0_0 == 0) = false := beq_eq_false_iff_ne.mpr c2
 have c2b1 : (a0_0 != 0) = true := bne_iff_ne.mpr c2
 replace H' := A_ H; clear H
 go_enter Tryz.func78, Tryz.ntmps78
 iterate 5 (try go_wp2_with (first | ((with_reducible refine gate_dst (N := 1) rfl ?_); refine Y30_ ?_; clear HB; intro gb422 w14 BK422 GW422 HB z15_0 z15_1 z15_2 z15_3 z15_4 y15_0 y15_1 y15_2 y15_3 y15_4)); try go_quiet (first | ((with_reducible refine gate_dst (N := 1) rfl ?_); refine Y30_ ?_; clear HB; intro gb422 w14 BK422 GW422 HB z15_0 z15_1 z15_2 z15_3 z15_4 y15_0 y15_1 y15_2 y15_3 y15_4)))
 go_loopg [33] k (fun kq v33 w' => ∃ (x33_1 : Int), v33 = .int .i64 x33_1 ∧ Aside0 (impl_DescOk.l0 kq l0_2 (l0_2.length : Int) x33_1 a0_0 a0_1 l0_2 a0_3 l0_4 = some r) ∧ Aside0 (kq ≤ k) ∧ Aside0 (w'.heap[gb422]? = some (.cells #[.int .i64 a0_0, .int .i64 a0_1, (.slice A0_2 l0_2.length c0_2), .int .i64 a0_3, (.slice A0_4 l0_4.length c0_4)] 52 (0, 0))) ∧ Aside0 (Below w.heap.size w w'))
 case atStart => exact ⟨(0), rt_, H', ⟨Nat.le_refl _⟩, ⟨bk_ BK422⟩, ⟨hb_ HB⟩⟩
 case round =>
  clear H'
  try clear c2
  try clear c2b0
  try clear c2b1
  try clear c3
  try clear c3b0
  try clear c3b1
  try clear c4
  try clear c4b0
  try clear c4b1
  try clear c4b2
  try clear c5
  try clear c5b0
  try clear c5b1
  obtain ⟨x33_1, rfl, HA, HK1, BK422, HB⟩ := hrel
  cases gk with
  | zero => exact absurd HA.out (by simp [impl_DescOk.l0])
  | succ k1 =>
   have H := HA.out
   clear HA
   simp only [impl_DescOk.l0] at H
   replace H := ic_ H
   rcases H with ⟨c16b0, H⟩ | ⟨c16b0, H⟩
   ·
    replace H := ix_ H
    obtain ⟨c17b0, H⟩ := H
    replace H := ix_ H
    obtain ⟨c18b0, H⟩ := H
    replace H := bs_ H
    obtain ⟨t427, A19, H⟩ := H
    by_cases c20 : t427 = true
    ·
     subst c20
     replace H := it_ H
     replace H := bs_ H
     obtain ⟨t428, A21, H⟩ := H
     by_cases c22 : t428 = true
     ·
      subst c22
      replace H := it_ H
      replace H := bs_ H
      obtain ⟨t429, A23, H⟩ := H
      by_cases c24 : t429 = true
      ·
       subst c24
       replace H := it_ H
       replace H := ic_ H
       rcases H with ⟨c25b0, H⟩ | ⟨c25b0, H⟩
       ·
        obtain ⟨ji26, hji26⟩ : ∃ j_ : Int, (wrap64 (x33_1 - 1)) = j_ := ⟨_, rfl⟩
        replace H : (if 0 ≤ (ji26) then (if (ji26) < (l0_2.length : Int) then (if ((rd_T37 l0_2 (ji26)).f0) ≥ ((rd_T37 l0_2 x33_1).f0) then (some false) else (impl_DescOk.l0 k1 l0_2 (l0_2.length : Int) (wrap64 (x33_1 + 1)) a0_0 a0_1 l0_2 a0_3 l0_4)) else (none)) else (none)) = some r := by first | (rw [hji26] at H; exact H) | (simp only [hji26] at H ⊢; exact H)
        (try rw [hji26] at A19)
        (try rw [hji26] at A21)
        (try rw [hji26] at A23)
        have hji26w : (IntKind.i64.wrap (x33_1 - 1)) = ji26 := (i64_w _).trans hji26
        replace H := ix_ H
        obtain ⟨c27b0, H⟩ := H
        replace H := ix_ H
        obtain ⟨c28b0, H⟩ := H
        replace H := ic_ H
        rcases H with ⟨c29b0, H⟩ | ⟨c29b0, H⟩
        ·
         obtain rfl := Option.some.inj H
         obtain ⟨ad425, p425, q425, rfl, u425_0, u425_1, u425_2⟩ := ab_T37 HB HR0_2 x33_1
         iterate 5 (try go_wp2_with (first | ((with_reducible refine gate_dst (N := 4) rfl ?_); refine Y60_ ?_; clear HB BK422; intro gb426 w30 BK426 GW426 HB NB422_426 NB426_422 BK422 hnb31 hnc31 z32_0 z32_1 z32_2 y32_0 y32_1 y32_2) | (go_at_call 91; refine Y61_ ?_; intro nd; (try exact dd_)) | (go_at_call 92; refine Y62_ ?_; intro nd; (try exact dd_)) | (go_at_call 92; refine Y63_ ?_; intro nd; (try exact dd_); obtain ⟨z33_0, z33_1, z33_2, z33_3, z33_4, y33_0, y33_1, y33_2, y33_3, y33_4⟩ := cz5_ BK422; have p430 : 0 ≤ ((ji26) : Int) := od_; have q430 : (ji26) < (l0_2.length : Int) := od_; obtain ⟨ad430, e430, u430_0, u430_1, u430_2⟩ := at_T37 HR0_2.out (ji26) p430 q430; obtain rfl : ad425 = ad430 := (by injection e430); have hn430_0 : ad425.block ≠ gb426 := Nat.ne_of_lt (Nat.lt_of_lt_of_le (by have := World.block_lt_of_cell? _ _ u430_0; first | rwa [add_block] at this | exact this) GW426.out); have hn430_1 : ad425.block ≠ gb426 := Nat.ne_of_lt (Nat.lt_of_lt_of_le (by have := World.block_lt_of_cell? _ _ u430_0; first | rwa [add_block] at this | exact this) GW426.out); have hn430_2 : ad425.block ≠ gb426 := Nat.ne_of_lt (Nat.lt_of_lt_of_le (by have := World.block_lt_of_cell? _ _ u430_0; first | rwa [add_block] at this | exact this) GW426.out); replace u430_0 := hx_ HB u430_0; replace u430_1 := hx_ HB u430_1; replace u430_2 := hx_ HB u430_2; replace u430_0 := cf_ 0 hn430_0 (.int .i64 ((rd_T37 l0_2 x33_1).f0)) u430_0; replace u430_1 := cf_ 0 hn430_0 (.int .i64 ((rd_T37 l0_2 x33_1).f0)) u430_1; replace u430_2 := cf_ 0 hn430_0 (.int .i64 ((rd_T37 l0_2 x33_1).f0)) u430_2; replace u430_0 := cf_ 1 hn430_1 (.int .i64 ((rd_T37 l0_2 x33_1).f1)) u430_0; replace u430_1 := cf_ 1 hn430_1 (.int .i64 ((rd_T37 l0_2 x33_1).f1)) u430_1; replace u430_2 := cf_ 1 hn430_1 (.int .i64 ((rd_T37 l0_2 x33_1).f1)) u430_2; replace u430_0 := cf_ 2 hn430_2 (.int .i64 ((rd_T37 l0_2 x33_1).f2)) u430_0; replace u430_1 := cf_ 2 hn430_2 (.int .i64 ((rd_T37 l0_2 x33_1).f2)) u430_1; replace u430_2 := cf_ 2 hn430_2 (.int .i64 ((rd_T37 l0_2 x33_1).f2)) u430_2; (try have hy430_0 := fun (n_ : Nat) => (show (((((w30.drewN n_).setCell ⟨gb426, 0, none⟩ (.int .i64 ((rd_T37 l0_2 x33_1).f0))).setCell ⟨gb426, 1, none⟩ (.int .i64 ((rd_T37 l0_2 x33_1).f1))).setCell ⟨gb426, 2, none⟩ (.int .i64 ((rd_T37 l0_2 x33_1).f2)))).cell? _ = some _ from u430_0)); (try have hy430_1 := fun (n_ : Nat) => (show (((((w30.drewN n_).setCell ⟨gb426, 0, none⟩ (.int .i64 ((rd_T37 l0_2 x33_1).f0))).setCell ⟨gb426, 1, none⟩ (.int .i64 ((rd_T37 l0_2 x33_1).f1))).setCell ⟨gb426, 2, none⟩ (.int .i64 ((rd_T37 l0_2 x33_1).f2)))).cell? _ = some _ from u430_1)); (try have hy430_2 := fun (n_ : Nat) => (show (((((w30.drewN n_).setCell ⟨gb426, 0, none⟩ (.int .i64 ((rd_T37 l0_2 x33_1).f0))).setCell ⟨gb426, 1, none⟩ (.int .i64 ((rd_T37 l0_2 x33_1).f1))).setCell ⟨gb426, 2, none⟩ (.int .i64 ((rd_T37 l0_2 x33_1).f2)))).cell? _ = some _ from u430_2)); clear hn430_0; clear hn430_1; clear hn430_2; replace p430 := eq_true p430; replace q430 := eq_true q430)); try go_quiet (first | ((with_reducible refine gate_dst (N := 4) rfl ?_); refine Y60_ ?_; clear HB BK422; intro gb426 w30 BK426 GW426 HB NB422_426 NB426_422 BK422 hnb31 hnc31 z32_0 z32_1 z32_2 y32_0 y32_1 y32_2) | (go_at_call 91; refine Y61_ ?_; intro nd; (try exact dd_)) | (go_at_call 92; refine Y62_ ?_; intro nd; (try exact dd_)) | (go_at_call 92; refine Y63_ ?_; intro nd; (try exact dd_); obtain ⟨z33_0, z33_1, z33_2, z33_3, z33_4, y33_0, y33_1, y33_2, y33_3, y33_4⟩ := cz5_ BK422; have p430 : 0 ≤ ((ji26) : Int) := od_; have q430 : (ji26) < (l0_2.length : Int) := od_; obtain ⟨ad430, e430, u430_0, u430_1, u430_2⟩ := at_T37 HR0_2.out (ji26) p430 q430; obtain rfl : ad425 = ad430 := (by injection e430); have hn430_0 : ad425.block ≠ gb426 := Nat.ne_of_lt (Nat.lt_of_lt_of_le (by have := World.block_lt_of_cell? _ _ u430_0; first | rwa [add_block] at this | exact this) GW426.out); have hn430_1 : ad425.block ≠ gb426 := Nat.ne_of_lt (Nat.lt_of_lt_of_le (by have := World.block_lt_of_cell? _ _ u430_0; first | rwa [add_block] at this | exact this) GW426.out); have hn430_2 : ad425.block ≠ gb426 := Nat.ne_of_lt (Nat.lt_of_lt_of_le (by have := World.block_lt_of_cell? _ _ u430_0; first | rwa [add_block] at this | exact this) GW426.out); replace u430_0 := hx_ HB u430_0; replace u430_1 := hx_ HB u430_1; replace u430_2 := hx_ HB u430_2; replace u430_0 := cf_ 0 hn430_0 (.int .i64 ((rd_T37 l0_2 x33_1).f0)) u430_0; replace u430_1 := cf_ 0 hn430_0 (.int .i64 ((rd_T37 l0_2 x33_1).f0)) u430_1; replace u430_2 := cf_ 0 hn430_0 (.int .i64 ((rd_T37 l0_2 x33_1).f0)) u430_2; replace u430_0 := cf_ 1 hn430_1 (.int .i64 ((rd_T37 l0_2 x33_1).f1)) u430_0; replace u430_1 := cf_ 1 hn430_1 (.int .i64 ((rd_T37 l0_2 x33_1).f1)) u430_1; replace u430_2 := cf_ 1 hn430_1 (.int .i64 ((rd_T37 l0_2 x33_1).f1)) u430_2; replace u430_0 := cf_ 2 hn430_2 (.int .i64 ((rd_T37 l0_2 x33_1).f2)) u430_0; replace u430_1 := cf_ 2 hn430_2 (.int .i64 ((rd_T37 l0_2 x33_1).f2)) u430_1; replace u430_2 := cf_ 2 hn430_2 (.int .i64 ((rd_T37 l0_2 x33_1).f2)) u430_2; (try have hy430_0 := fun (n_ : Nat) => (show (((((w30.drewN n_).setCell ⟨gb426, 0, none⟩ (.int .i64 ((rd_T37 l0_2 x33_1).f0))).setCell ⟨gb426, 1, none⟩ (.int .i64 ((rd_T37 l0_2 x33_1).f1))).setCell ⟨gb426, 2, none⟩ (.int .i64 ((rd_T37 l0_2 x33_1).f2)))).cell? _ = some _ from u430_0)); (try have hy430_1 := fun (n_ : Nat) => (show (((((w30.drewN n_).setCell ⟨gb426, 0, none⟩ (.int .i64 ((rd_T37 l0_2 x33_1).f0))).setCell ⟨gb426, 1, none⟩ (.int .i64 ((rd_T37 l0_2 x33_1).f1))).setCell ⟨gb426, 2, none⟩ (.int .i64 ((rd_T37 l0_2 x33_1).f2)))).cell? _ = some _ from u430_1)); (try have hy430_2 := fun (n_ : Nat) => (show (((((w30.drewN n_).setCell ⟨gb426, 0, none⟩ (.int .i64 ((rd_T37 l0_2 x33_1).f0))).setCell ⟨gb426, 1, none⟩ (.int .i64 ((rd_T37 l0_2 x33_1).f1))).setCell ⟨gb426, 2, none⟩ (.int .i64 ((rd_T37 l0_2 x33_1).f2)))).cell? _ = some _ from u430_2)); clear hn430_0; clear hn430_1; clear hn430_2; replace p430 := eq_true p430; replace q430 := eq_true q430)))
         go_ret
         exact ⟨by first | rfl | (simp [errW_none, errW_some] <;> rfl) | (simp only [← hji26]; first | rfl | (simp [errW_none, errW_some] <;> rfl)) | (simp [*, errW_none, errW_some] <;> rfl), hb_ HB⟩
        replace H' := A_ H; clear H
        obtain ⟨ad425, p425, q425, rfl, u425_0, u425_1, u425_2⟩ := ab_T37 HB HR0_2 x33_1
        iterate 5 (try go_wp2_with (first | ((with_reducible refine gate_dst (N := 4) rfl ?_); refine Y60_ ?_; clear HB BK422; intro gb426 w34 BK426 GW426 HB NB422_426 NB426_422 BK422 hnb35 hnc35 z36_0 z36_1 z36_2 y36_0 y36_1 y36_2) | (go_at_call 91; refine Y61_ ?_; intro nd; (try exact dd_)) | (go_at_call 92; refine Y62_ ?_; intro nd; (try exact dd_)) | (go_at_call 92; refine Y63_ ?_; intro nd; (try exact dd_); obtain ⟨z37_0, z37_1, z37_2, z37_3, z37_4, y37_0, y37_1, y37_2, y37_3, y37_4⟩ := cz5_ BK422; have p430 : 0 ≤ ((ji26) : Int) := od_; have q430 : (ji26) < (l0_2.length : Int) := od_; obtain ⟨ad430, e430, u430_0, u430_1, u430_2⟩ := at_T37 HR0_2.out (ji26) p430 q430; obtain rfl : ad425 = ad430 := (by injection e430); have hn430_0 : ad425.block ≠ gb426 := Nat.ne_of_lt (Nat.lt_of_lt_of_le (by have := World.block_lt_of_cell? _ _ u430_0; first | rwa [add_block] at this | exact this) GW426.out); have hn430_1 : ad425.block ≠ gb426 := Nat.ne_of_lt (Nat.lt_of_lt_of_le (by have := World.block_lt_of_cell? _ _ u430_0; first | rwa [add_block] at this | exact this) GW426.out); have hn430_2 : ad425.block ≠ gb426 := Nat.ne_of_lt (Nat.lt_of_lt_of_le (by have := World.block_lt_of_cell? _ _ u430_0; first | rwa [add_block] at this | exact this) GW426.out); replace u430_0 := hx_ HB u430_0; replace u430_1 := hx_ HB u430_1; replace u430_2 := hx_ HB u430_2; replace u430_0 := cf_ 0 hn430_0 (.int .i64 ((rd_T37 l0_2 x33_1).f0)) u430_0; replace u430_1 := cf_ 0 hn430_0 (.int .i64 ((rd_T37 l0_2 x33_1).f0)) u430_1; replace u430_2 := cf_ 0 hn430_0 (.int .i64 ((rd_T37 l0_2 x33_1).f0)) u430_2; replace u430_0 := cf_ 1 hn430_1 (.int .i64 ((rd_T37 l0_2 x33_1).f1)) u430_0; replace u430_1 := cf_ 1 hn430_1 (.int .i64 ((rd_T37 l0_2 x33_1).f1)) u430_1; replace u430_2 := cf_ 1 hn430_1 (.int .i64 ((rd_T37 l0_2 x33_1).f1)) u430_2; replace u430_0 := cf_ 2 hn430_2 (.int .i64 ((rd_T37 l0_2 x33_1).f2)) u430_0; replace u430_1 := cf_ 2 hn430_2 (.int .i64 ((rd_T37 l0_2 x33_1).f2)) u430_1; replace u430_2 := cf_ 2 hn430_2 (.int .i64 ((rd_T37 l0_2 x33_1).f2)) u430_2; (try have hy430_0 := fun (n_ : Nat) => (show (((((w34.drewN n_).setCell ⟨gb426, 0, none⟩ (.int .i64 ((rd_T37 l0_2 x33_1).f0))).setCell ⟨gb426, 1, none⟩ (.int .i64 ((rd_T37 l0_2 x33_1).f1))).setCell ⟨gb426, 2, none⟩ (.int .i64 ((rd_T37 l0_2 x33_1).f2)))).cell? _ = some _ from u430_0)); (try have hy430_1 := fun (n_ : Nat) => (show (((((w34.drewN n_).setCell ⟨gb426, 0, none⟩ (.int .i64 ((rd_T37 l0_2 x33_1).f0))).setCell ⟨gb426, 1, none⟩ (.int .i64 ((rd_T37 l0_2 x33_1).f1))).setCell ⟨gb426, 2, none⟩ (.int .i64 ((rd_T37 l0_2 x33_1).f2)))).cell? _ = some _ from u430_1)); (try have hy430_2 := fun (n_ : Nat) => (show (((((w34.drewN n_).setCell ⟨gb426, 0, none⟩ (.int .i64 ((rd_T37 l0_2 x33_1).f0))).setCell ⟨gb426, 1, none⟩ (.int .i64 ((rd_T37 l0_2 x33_1).f1))).setCell ⟨gb426, 2, none⟩ (.int .i64 ((rd_T37 l0_2 x33_1).f2)))).cell? _ = some _ from u430_2)); clear hn430_0; clear hn430_1; clear hn430_2; replace p430 := eq_true p430; replace q430 := eq_true q430)); try go_quiet (first | ((with_reducible refine gate_dst (N := 4) rfl ?_); refine Y60_ ?_; clear HB BK422; intro gb426 w34 BK426 GW426 HB NB422_426 NB426_422 BK422 hnb35 hnc35 z36_0 z36_1 z36_2 y36_0 y36_1 y36_2) | (go_at_call 91; refine Y61_ ?_; intro nd; (try exact dd_)) | (go_at_call 92; refine Y62_ ?_; intro nd; (try exact dd_)) | (go_at_call 92; refine Y63_ ?_; intro nd; (try exact dd_); obtain ⟨z37_0, z37_1, z37_2, z37_3, z37_4, y37_0, y37_1, y37_2, y37_3, y37_4⟩ := cz5_ BK422; have p430 : 0 ≤ ((ji26) : Int) := od_; have q430 : (ji26) < (l0_2.length : Int) := od_; obtain ⟨ad430, e430, u430_0, u430_1, u430_2⟩ := at_T37 HR0_2.out (ji26) p430 q430; obtain rfl : ad425 = ad430 := (by injection e430); have hn430_0 : ad425.block ≠ gb426 := Nat.ne_of_lt (Nat.lt_of_lt_of_le (by have := World.block_lt_of_cell? _ _ u430_0; first | rwa [add_block] at this | exact this) GW426.out); have hn430_1 : ad425.block ≠ gb426 := Nat.ne_of_lt (Nat.lt_of_lt_of_le (by have := World.block_lt_of_cell? _ _ u430_0; first | rwa [add_block] at this | exact this) GW426.out); have hn430_2 : ad425.block ≠ gb426 := Nat.ne_of_lt (Nat.lt_of_lt_of_le (by have := World.block_lt_of_cell? _ _ u430_0; first | rwa [add_block] at this | exact this) GW426.out); replace u430_0 := hx_ HB u430_0; replace u430_1 := hx_ HB u430_1; replace u430_2 := hx_ HB u430_2; replace u430_0 := cf_ 0 hn430_0 (.int .i64 ((rd_T37 l0_2 x33_1).f0)) u430_0; replace u430_1 := cf_ 0 hn430_0 (.int .i64 ((rd_T37 l0_2 x33_1).f0)) u430_1; replace u430_2 := cf_ 0 hn430_0 (.int .i64 ((rd_T37 l0_2 x33_1).f0)) u430_2; replace u430_0 := cf_ 1 hn430_1 (.int .i64 ((rd_T37 l0_2 x33_1).f1)) u430_0; replace u430_1 := cf_ 1 hn430_1 (.int .i64 ((rd_T37 l0_2 x33_1).f1)) u430_1; replace u430_2 := cf_ 1 hn430_1 (.int .i64 ((rd_T37 l0_2 x33_1).f1)) u430_2; replace u430_0 := cf_ 2 hn430_2 (.int .i64 ((rd_T37 l0_2 x33_1).f2)) u430_0; replace u430_1 := cf_ 2 hn430_2 (.int .i64 ((rd_T37 l0_2 x33_1).f2)) u430_1; replace u430_2 := cf_ 2 hn430_2 (.int .i64 ((rd_T37 l0_2 x33_1).f2)) u430_2; (try have hy430_0 := fun (n_ : Nat) => (show (((((w34.drewN n_).setCell ⟨gb426, 0, none⟩ (.int .i64 ((rd_T37 l0_2 x33_1).f0))).setCell ⟨gb426, 1, none⟩ (.int .i64 ((rd_T37 l0_2 x33_1).f1))).setCell ⟨gb426, 2, none⟩ (.int .i64 ((rd_T37 l0_2 x33_1).f2)))).cell? _ = some _ from u430_0)); (try have hy430_1 := fun (n_ : Nat) => (show (((((w34.drewN n_).setCell ⟨gb426, 0, none⟩ (.int .i64 ((rd_T37 l0_2 x33_1).f0))).setCell ⟨gb426, 1, none⟩ (.int .i64 ((rd_T37 l0_2 x33_1).f1))).setCell ⟨gb426, 2, none⟩ (.int .i64 ((rd_T37 l0_2 x33_1).f2)))).cell? _ = some _ from u430_1)); (try have hy430_2 := fun (n_ : Nat) => (show (((((w34.drewN n_).setCell ⟨gb426, 0, none⟩ (.int .i64 ((rd_T37 l0_2 x33_1).f0))).setCell ⟨gb426, 1, none⟩ (.int .i64 ((rd_T37 l0_2 x33_1).f1))).setCell ⟨gb426, 2, none⟩ (.int .i64 ((rd_T37 l0_2 x33_1).f2)))).cell? _ = some _ from u430_2)); clear hn430_0; clear hn430_1; clear hn430_2; replace p430 := eq_true p430; replace q430 := eq_true q430)))
        go_roundg k1
        case measure => have := HK1.out; omega
        case rel => exact ⟨(wrap64 (x33_1 + 1)), rt_, H', ⟨by have := HK1.out; omega⟩, ⟨bk_ BK422⟩, ⟨hb_ HB⟩⟩
       replace H' := A_ H; clear H
       obtain ⟨ad425, p425, q425, rfl, u425_0, u425_1, u425_2⟩ := ab_T37 HB HR0_2 x33_1
       iterate 5 (try go_wp2_with (first | ((with_reducible refine gate_dst (N := 4) rfl ?_); refine Y60_ ?_; clear HB BK422; intro gb426 w38 BK426 GW426 HB NB422_426 NB426_422 BK422 hnb39 hnc39 z40_0 z40_1 z40_2 y40_0 y40_1 y40_2) | (go_at_call 91; refine Y61_ ?_; intro nd; (try exact dd_)) | (go_at_call 92; refine Y62_ ?_; intro nd; (try exact dd_)) | (go_at_call 92; refine Y63_ ?_; intro nd; (try exact dd_))); try go_quiet (first | ((with_reducible refine gate_dst (N := 4) rfl ?_); refine Y60_ ?_; clear HB BK422; intro gb426 w38 BK426 GW426 HB NB422_426 NB426_422 BK422 hnb39 hnc39 z40_0 z40_1 z40_2 y40_0 y40_1 y40_2) | (go_at_call 91; refine Y61_ ?_; intro nd; (try exact dd_)) | (go_at_call 92; refine Y62_ ?_; intro nd; (try exact dd_)) | (go_at_call 92; refine Y63_ ?_; intro nd; (try exact dd_))))
       go_roundg k1
       case measure => have := HK1.out; omega
       case rel => exact ⟨(wrap64 (x33_1 + 1)), rt_, H', ⟨by have := HK1.out; omega⟩, ⟨bk_ BK422⟩, ⟨hb_ HB⟩⟩
      obtain rfl := Bool.eq_false_iff.mpr c24
      replace H := iF_ H
      obtain rfl := Option.some.inj H
      obtain ⟨ad425, p425, q425, rfl, u425_0, u425_1, u425_2⟩ := ab_T37 HB HR0_2 x33_1
      iterate 5 (try go_wp2_with (first | ((with_reducible refine gate_dst (N := 4) rfl ?_); refine Y60_ ?_; clear HB BK422; intro gb426 w41 BK426 GW426 HB NB422_426 NB426_422 BK422 hnb42 hnc42 z43_0 z43_1 z43_2 y43_0 y43_1 y43_2) | (go_at_call 91; refine Y61_ ?_; intro nd; (try exact dd_)) | (go_at_call 92; refine Y62_ ?_; intro nd; (try exact dd_)) | (go_at_call 92; refine Y64_ ?_; intro nd; (try exact dd_))); try go_quiet (first | ((with_reducible refine gate_dst (N := 4) rfl ?_); refine Y60_ ?_; clear HB BK422; intro gb426 w41 BK426 GW426 HB NB422_426 NB426_422 BK422 hnb42 hnc42 z43_0 z43_1 z43_2 y43_0 y43_1 y43_2) | (go_at_call 91; refine Y61_ ?_; intro nd; (try exact dd_)) | (go_at_call 92; refine Y62_ ?_; intro nd; (try exact dd_)) | (go_at_call 92; refine Y64_ ?_; intro nd; (try exact dd_))))
      go_ret
      exact ⟨rs_, hb_ HB⟩
     obtain rfl := Bool.eq_false_iff.mpr c22
     replace H := iF_ H
     obtain rfl := Option.some.inj H
     obtain ⟨ad425, p425, q425, rfl, u425_0, u425_1, u425_2⟩ := ab_T37 HB HR0_2 x33_1
     iterate 5 (try go_wp2_with (first | ((with_reducible refine gate_dst (N := 4) rfl ?_); refine Y60_ ?_; clear HB BK422; intro gb426 w44 BK426 GW426 HB NB422_426 NB426_422 BK422 hnb45 hnc45 z46_0 z46_1 z46_2 y46_0 y46_1 y46_2) | (go_at_call 91; refine Y61_ ?_; intro nd; (try exact dd_)) | (go_at_call 92; refine Y65_ ?_; intro nd; (try exact dd_))); try go_quiet (first | ((with_reducible refine gate_dst (N := 4) rfl ?_); refine Y60_ ?_; clear HB BK422; intro gb426 w44 BK426 GW426 HB NB422_426 NB426_422 BK422 hnb45 hnc45 z46_0 z46_1 z46_2 y46_0 y46_1 y46_2) | (go_at_call 91; refine Y61_ ?_; intro nd; (try exact dd_)) | (go_at_call 92; refine Y65_ ?_; intro nd; (try exact dd_))))
     go_ret
     exact ⟨rs_, hb_ HB⟩
    obtain rfl := Bool.eq_false_iff.mpr c20
    replace H := iF_ H
    obtain rfl := Option.some.inj H
    obtain ⟨ad425, p425, q425, rfl, u425_0, u425_1, u425_2⟩ := ab_T37 HB HR0_2 x33_1
    iterate 5 (try go_wp2_with (first | ((with_reducible refine gate_dst (N := 4) rfl ?_); refine Y60_ ?_; clear HB BK422; intro gb426 w47 BK426 GW426 HB NB422_426 NB426_422 BK422 hnb48 hnc48 z49_0 z49_1 z49_2 y49_0 y49_1 y49_2) | (go_at_call 91; refine Y66_ ?_; intro nd; (try exact dd_))); try go_quiet (first | ((with_reducible refine gate_dst (N := 4) rfl ?_); refine Y60_ ?_; clear HB BK422; intro gb426 w47 BK426 GW426 HB NB422_426 NB426_422 BK422 hnb48 hnc48 z49_0 z49_1 z49_2 y49_0 y49_1 y49_2) | (go_at_call 91; refine Y66_ ?_; intro nd; (try exact dd_))))
    go_ret
    exact ⟨rs_, hb_ HB⟩
   replace H := bs_ H
   obtain ⟨t423, A50, H⟩ := H
   by_cases c51 : t423 = true
   ·
    subst c51
    replace H := it_ H
    replace H := bs_ H
    obtain ⟨t424, A52, H⟩ := H
    by_cases c53 : t424 = true
    ·
     subst c53
     replace H := it_ H
     obtain rfl := Option.some.inj H
     obtain ⟨z54_0, z54_1, z54_2, z54_3, z54_4, y54_0, y54_1, y54_2, y54_3, y54_4⟩ := cz5_ BK422
     iterate 5 (try go_wp2_with (first | (go_at_call 62; refine Y67_ ?_; intro nd; (try exact dd_)) | (go_at_call 62; (with_reducible refine (impl_from.calls a0_1 1 3 true _ A52.out).mono ?_); rintro e w' ⟨rfl, ⟨nd, rfl⟩⟩; (try exact dd_))); try go_quiet (first | (go_at_call 62; refine Y67_ ?_; intro nd; (try exact dd_)) | (go_at_call 62; (with_reducible refine (impl_from.calls a0_1 1 3 true _ A52.out).mono ?_); rintro e w' ⟨rfl, ⟨nd, rfl⟩⟩; (try exact dd_))))
     go_ret
     exact ⟨rs_, hb_ HB⟩
    obtain rfl := Bool.eq_false_iff.mpr c53
    replace H := iF_ H
    obtain rfl := Option.some.inj H
    obtain ⟨z55_0, z55_1, z55_2, z55_3, z55_4, y55_0, y55_1, y55_2, y55_3, y55_4⟩ := cz5_ BK422
    iterate 5 (try go_wp2_with (first | (go_at_call 62; refine Y67_ ?_; intro nd; (try exact dd_)) | (go_at_call 62; (with_reducible refine (impl_from.calls a0_1 1 3 false _ A52.out).mono ?_); rintro e w' ⟨rfl, ⟨nd, rfl⟩⟩; (try exact dd_))); try go_quiet (first | (go_at_call 62; refine Y67_ ?_; intro nd; (try exact dd_)) | (go_at_call 62; (with_reducible refine (impl_from.calls a0_1 1 3 false _ A52.out).mono ?_); rintro e w' ⟨rfl, ⟨nd, rfl⟩⟩; (try exact dd_))))
    go_ret
    exact ⟨rs_, hb_ HB⟩
   obtain rfl := Bool.eq_false_iff.mpr c51
   replace H := iF_ H
   obtain rfl := Option.some.inj H
   obtain ⟨z56_0, z56_1, z56_2, z56_3, z56_4, y56_0, y56_1, y56_2, y56_3, y56_4⟩ := cz5_ BK422
   iterate 5 (try go_wp2_with (first | (go_at_call 62; (with_reducible refine (impl_from.calls a0_0 1 1000000 false _ A50.out).mono ?_); rintro e w' ⟨rfl, ⟨nd, rfl⟩⟩; (try exact dd_))); try go_quiet (first | (go_at_call 62; (with_reducible refine (impl_from.calls a0_0 1 1000000 false _ A50.out).mono ?_); rintro e w' ⟨rfl, ⟨nd, rfl⟩⟩; (try exact dd_))))
   go_ret
   exact ⟨rs_, hb_ HB⟩
def impl_MemOk_c1.f (k : Nat) (a0_0 : Int) (a0_1 : Int) (l0_2 : List (S37)) (a0_3 : Int) (l0_4 : List Int) : Option (Bool) := (impl_DescOk.f k a0_0 a0_1 l0_2 a0_3 l0_4).bind fun t432 => (some (!t432))
set_option maxHeartbeats 8000000 in
set_option maxRecDepth 100000 in
theorem impl_MemOk_c1.calls (k : Nat) (a0_0 : Int) (a0_1 : Int) (A0_2 : Option Addr) (c0_2 : Nat) (l0_2 : List (S37)) (a0_3 : Int) (A0_4 : Option Addr) (c0_4 : Nat) (l0_4 : List Int) (r : Bool) (w : World) (hr0_2 : Kd.C k37 w A0_2 l0_2.length l0_2) (hc0_2 : l0_2.length ≤ c0_2) (hr0_4 : Kd.C (Kd.int .i64) w A0_4 l0_4.length l0_4) (hc0_4 : l0_4.length ≤ c0_4) (h : impl_MemOk_c1.f k a0_0 a0_1 l0_2 a0_3 l0_4 = some r) :
    Calls Tryz.prog 77 #[.agg #[.int .i64 a0_0, .int .i64 a0_1, .slice A0_2 l0_2.length c0_2, .int .i64 a0_3, .slice A0_4 l0_4.length c0_4]] w fun e w' => e = .returned (.bool r) ∧ Below w.heap.size w w' := by
 have hu52 := Tryz.underlying52
 have HR0_2 := A_ hr0_2
 have HC0_2 := A_ hc0_2
 clear hr0_2 hc0_2
 have HR0_4 := A_ hr0_4
 have HC0_4 := A_ hc0_4
 clear hr0_4 hc0_4
 have HB := A_ (Below.refl w.heap.size w)
 have H : ((impl_DescOk.f k a0_0 a0_1 l0_2 a0_3 l0_4).bind fun t432 => (some (!t432))) = some r := h
 clear h
 replace H := bs_ H
 obtain ⟨t432, A2, H⟩ := H
 obtain rfl := Option.some.inj H
 go_enter Tryz.func77, Tryz.ntmps77
 go_wp2_with (first | ((with_reducible refine gate_dst (N := 1) rfl ?_); refine bx_ HB rfl (N := 1) rfl (cs := #[.int .i64 a0_0, .int .i64 a0_1, .slice A0_2 l0_2.length c0_2, .int .i64 a0_3, .slice A0_4 l0_4.length c0_4]) (t := 52) hr_ ?_; clear HB; intro gb431 w3 hg hb BK431 GW431 HB; clear hb hg; obtain ⟨z4_0, z4_1, z4_2, z4_3, z4_4, y4_0, y4_1, y4_2, y4_3, y4_4⟩ := cz5_ BK431) | ((with_reducible refine gate_callee (f := 78) rfl ?_); refine goesL_ (some 4) rfl rfl Tryz.func78 (by kernel_rfl) rfl #[.agg #[.int .i64 a0_0, .int .i64 a0_1, .slice A0_2 l0_2.length c0_2, .int .i64 a0_3, .slice A0_4 l0_4.length c0_4]] rfl al_ ?_; (with_reducible refine (impl_DescOk.calls k a0_0 a0_1 _ _ l0_2 a0_3 _ _ l0_4 t432 _ ?s1 ?s2 ?s3 ?s4 A2.out).mono ?_); (case s1 => exact cb_ (Kd.C_below HR0_2.out HB.out)); (case s2 => exact HC0_2.out); (case s3 => exact cb_ (Kd.C_below HR0_4.out HB.out)); (case s4 => exact HC0_4.out); rintro e w5 ⟨rfl, hb⟩; refine ⟨_, rfl, ?_⟩; replace BK431 := bb_ BK431 hb; replace HB := hs_ HB hb; clear hb))
 go_ret
 exact ⟨rs_, hb_ HB⟩
end Go.Proofs.YtdcinhpdpoodfaaGreat.PFnExactFinished
