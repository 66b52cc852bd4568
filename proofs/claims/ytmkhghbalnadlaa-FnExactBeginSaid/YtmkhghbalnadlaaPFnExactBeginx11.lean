/- Contracts of functions of the program: each says that the call does what a plain Lean function tells. Made by programs of this session and of the kit. No condition beyond the hypotheses that each theorem names. -/
import Derived.Test.YtmkhghbalnadlaaPFnExactBeginx0
namespace Go.Proofs.Ytmkhghbalnadlaa.PFnExactBegin
open Go.RowKit Go.Proofs.YtmkhghbalnadlaaW.PrintWords Go.Proofs.YtmkhghbalnadlaaW.PrintLast Go.Proofs.YtmkhghbalnadlaaW.PrintMore
attribute [local go_sem] max2_int min2_int max_two min_two max_three min_three max_four min_four   -- for this text's walks alone
set_option linter.unusedVariables false
set_option linter.unusedSimpArgs false

/-! ### impl_from: function 93 -/
def impl_from.f (a0 : Int) (a1 : Int) (a2 : Int) : Option (Bool) := if a0 ≥ a1 then (some (decide (a0 ≤ a2))) else (some false)
set_option maxHeartbeats 8000000 in
set_option maxRecDepth 100000 in
theorem impl_from.calls (a0 : Int) (a1 : Int) (a2 : Int) (r : Bool) (w : World) (h : impl_from.f a0 a1 a2 = some r) :
    Calls Try.prog 93 #[.int .i64 a0, .int .i64 a1, .int .i64 a2] w fun e w' => e = .returned (.bool r) ∧ Drawn0 w w' := by
 have H : (if a0 ≥ a1 then (some (decide (a0 ≤ a2))) else (some false)) = some r := h
 clear h
 replace H := ic_ H
 rcases H with ⟨c4b0, H⟩ | ⟨c4b0, H⟩
 ·
  obtain rfl := Option.some.inj H
  go_enter Try.func93, Try.ntmps93
  go_wp2
  go_ret
  exact ⟨rt_, by repeat (first | exact Drawn0.refl _ | apply Drawn0.step)⟩
 obtain rfl := Option.some.inj H
 go_enter Try.func93, Try.ntmps93
 go_wp2
 go_ret
 exact ⟨rt_, by repeat (first | exact Drawn0.refl _ | apply Drawn0.step)⟩

-- NOT PRINTED: function 150 (impl_Desc_150)

-- NOT PRINTED: function 118 (impl_Desc_118)

/-! ### impl_isWordNum: function 152 -/
def impl_isWordNum.f (a0 : Int) : Option (Bool) := (impl_from.f a0 0 1000).bind fun t349 => (some t349)
set_option maxHeartbeats 8000000 in
set_option maxRecDepth 100000 in
theorem impl_isWordNum.calls (a0 : Int) (r : Bool) (w : World) (h : impl_isWordNum.f a0 = some r) :
    Calls Try.prog 152 #[.int .i64 a0] w fun e w' => e = .returned (.bool r) ∧ Drawn0 w w' := by
 have H : ((impl_from.f a0 0 1000).bind fun t349 => (some t349)) = some r := h
 clear h
 replace H := bs_ H
 obtain ⟨t349, A2, H⟩ := H
 obtain rfl := Option.some.inj H
 go_enter Try.func152, Try.ntmps152
 go_wp2_with (first | ((with_reducible refine gate_callee (f := 93) rfl ?_); refine goesL_ (some 4) rfl rfl Try.func93 (by kernel_rfl) rfl #[.int .i64 a0, .int .i64 0, .int .i64 1000] rfl al_ ?_; (with_reducible refine (impl_from.calls a0 0 1000 t349 _ A2.out).mono ?_); rintro e w' ⟨rfl, ⟨nd, rfl⟩⟩; refine ⟨_, rfl, ?_⟩))
 go_ret
 exact ⟨rt_, by repeat (first | exact Drawn0.refl _ | apply Drawn0.step)⟩

/-! ### impl_WordOk: function 121 -/
def impl_WordOk.f (a0_0 : Int) (a0_1 : Int) (a0_2 : Int) (a1 : Int) : Option (Bool) := if a0_1 = 0 then ((impl_isWordNum.f a0_0).bind fun t351 => (if t351 = true then (some (a0_2 == 0)) else (some false))) else (if a0_0 = 0 then ((impl_from.f a0_1 1 a1).bind fun t352 => (if t352 = true then ((impl_from.f a0_2 1 1000000).bind fun t353 => (some t353)) else (some false))) else (some false))
set_option maxHeartbeats 8000000 in
set_option maxRecDepth 100000 in
theorem impl_WordOk.calls (a0_0 : Int) (a0_1 : Int) (a0_2 : Int) (a1 : Int) (r : Bool) (w : World) (h : impl_WordOk.f a0_0 a0_1 a0_2 a1 = some r) :
    Calls Try.prog 121 #[.agg #[.int .i64 a0_0, .int .i64 a0_1, .int .i64 a0_2], .int .i64 a1] w fun e w' => e = .returned (.bool r) ∧ Below w.heap.size w w' := by
 have hu95 := Try.underlying95
 have HB := A_ (Below.refl w.heap.size w)
 have H : (if a0_1 = 0 then ((impl_isWordNum.f a0_0).bind fun t351 => (if t351 = true then (some (a0_2 == 0)) else (some false))) else (if a0_0 = 0 then ((impl_from.f a0_1 1 a1).bind fun t352 => (if t352 = true then ((impl_from.f a0_2 1 1000000).bind fun t353 => (some t353)) else (some false))) else (some false))) = some r := h
 clear h
 by_cases c3 : a0_1 = 0
 ·
  rw [if_pos c3] at H
  have c3b0 : (a0_1 == 0) = true := beq_iff_eq.mpr c3
  have c3b1 : (a0_1 != 0) = false := bne_eq_false_iff_eq.mpr c3
  clear c3
  replace H := bs_ H
  obtain ⟨t351, A4, H⟩ := H
  by_cases c5 : t351 = true
  ·
   subst c5
   replace H := it_ H
   obtain rfl := Option.some.inj H
   go_enter Try.func121, Try.ntmps121
   go_wp2_with (first | ((with_reducible refine gate_dst (N := 2) rfl ?_); refine bx_ HB rfl (N := 2) rfl (cs := #[.int .i64 a0_0, .int .i64 a0_1, .int .i64 a0_2]) (t := 95) hr_ ?_; clear HB; intro gb350 w6 hg hb BK350 GW350 HB; clear hb hg; obtain ⟨hcz7_0, hcz7_1, hcz7_2, hfz7_0, hfz7_1, hfz7_2⟩ := cz3_ BK350) | ((with_reducible refine gate_callee (f := 152) rfl ?_); refine goesL_ (some 10) rfl rfl Try.func152 (by kernel_rfl) rfl #[.int .i64 a0_0] rfl al_ ?_; (with_reducible refine (impl_isWordNum.calls a0_0 true _ A4.out).mono ?_); rintro e w' ⟨rfl, ⟨nd, rfl⟩⟩; refine ⟨_, rfl, ?_⟩))
   go_ret
   exact ⟨rs_, hb_ HB⟩
  obtain rfl := Bool.eq_false_iff.mpr c5
  replace H := iF_ H
  obtain rfl := Option.some.inj H
  go_enter Try.func121, Try.ntmps121
  go_wp2_with (first | ((with_reducible refine gate_dst (N := 2) rfl ?_); refine bx_ HB rfl (N := 2) rfl (cs := #[.int .i64 a0_0, .int .i64 a0_1, .int .i64 a0_2]) (t := 95) hr_ ?_; clear HB; intro gb350 w8 hg hb BK350 GW350 HB; clear hb hg; obtain ⟨hcz9_0, hcz9_1, hcz9_2, hfz9_0, hfz9_1, hfz9_2⟩ := cz3_ BK350) | ((with_reducible refine gate_callee (f := 152) rfl ?_); refine goesL_ (some 10) rfl rfl Try.func152 (by kernel_rfl) rfl #[.int .i64 a0_0] rfl al_ ?_; (with_reducible refine (impl_isWordNum.calls a0_0 false _ A4.out).mono ?_); rintro e w' ⟨rfl, ⟨nd, rfl⟩⟩; refine ⟨_, rfl, ?_⟩))
  go_ret
  exact ⟨rs_, hb_ HB⟩
 rw [if_neg c3] at H
 have c3b0 : (a0_1 == 0) = false := beq_eq_false_iff_ne.mpr c3
 have c3b1 : (a0_1 != 0) = true := bne_iff_ne.mpr c3
 by_cases c10 : a0_0 = 0
 ·
  rw [if_pos c10] at H
  have c10b0 : (a0_0 == 0) = true := beq_iff_eq.mpr c10
  have c10b1 : (a0_0 != 0) = false := bne_eq_false_iff_eq.mpr c10
  clear c10
  replace H := bs_ H
  obtain ⟨t352, A11, H⟩ := H
  by_cases c12 : t352 = true
  ·
   subst c12
   replace H := it_ H
   replace H := bs_ H
   obtain ⟨t353, A13, H⟩ := H
   obtain rfl := Option.some.inj H
   go_enter Try.func121, Try.ntmps121
   go_wp2_with (first | ((with_reducible refine gate_dst (N := 2) rfl ?_); refine bx_ HB rfl (N := 2) rfl (cs := #[.int .i64 a0_0, .int .i64 a0_1, .int .i64 a0_2]) (t := 95) hr_ ?_; clear HB; intro gb350 w14 hg hb BK350 GW350 HB; clear hb hg; obtain ⟨hcz15_0, hcz15_1, hcz15_2, hfz15_0, hfz15_1, hfz15_2⟩ := cz3_ BK350) | (go_at_call 93; (with_reducible refine (impl_from.calls a0_1 1 a1 true _ A11.out).mono ?_); rintro e w' ⟨rfl, ⟨nd, rfl⟩⟩) | (go_at_call 93; (with_reducible refine (impl_from.calls a0_2 1 1000000 t353 _ A13.out).mono ?_); rintro e w' ⟨rfl, ⟨nd, rfl⟩⟩))
   go_ret
   exact ⟨rs_, hb_ HB⟩
  obtain rfl := Bool.eq_false_iff.mpr c12
  replace H := iF_ H
  obtain rfl := Option.some.inj H
  go_enter Try.func121, Try.ntmps121
  go_wp2_with (first | ((with_reducible refine gate_dst (N := 2) rfl ?_); refine bx_ HB rfl (N := 2) rfl (cs := #[.int .i64 a0_0, .int .i64 a0_1, .int .i64 a0_2]) (t := 95) hr_ ?_; clear HB; intro gb350 w16 hg hb BK350 GW350 HB; clear hb hg; obtain ⟨hcz17_0, hcz17_1, hcz17_2, hfz17_0, hfz17_1, hfz17_2⟩ := cz3_ BK350) | (go_at_call 93; (with_reducible refine (impl_from.calls a0_1 1 a1 false _ A11.out).mono ?_); rintro e w' ⟨rfl, ⟨nd, rfl⟩⟩))
  go_ret
  exact ⟨rs_, hb_ HB⟩
 rw [if_neg c10] at H
 have c10b0 : (a0_0 == 0) = false := beq_eq_false_iff_ne.mpr c10
 have c10b1 : (a0_0 != 0) = true := bne_iff_ne.mpr c10
 obtain rfl := Option.some.inj H
 go_enter Try.func121, Try.ntmps121
 go_wp2_with (first | ((with_reducible refine gate_dst (N := 2) rfl ?_); refine bx_ HB rfl (N := 2) rfl (cs := #[.int .i64 a0_0, .int .i64 a0_1, .int .i64 a0_2]) (t := 95) hr_ ?_; clear HB; intro gb350 w18 hg hb BK350 GW350 HB; clear hb hg; obtain ⟨hcz19_0, hcz19_1, hcz19_2, hfz19_0, hfz19_1, hfz19_2⟩ := cz3_ BK350))
 go_ret
 exact ⟨rs_, hb_ HB⟩

/-! ### impl_Entries: function 122 -/
def impl_Entries.l0 : Nat → Int → List (S122) → Int → Int → Option (Int × Int × Int × Bool)
 | 0, _, _, _, _ => none
 | k + 1, x1, x9, x10, x11 => if x11 < x10 then (if 0 ≤ x11 then (if x11 < (x9.length : Int) then (if ((rd_T122 x9 x11).f0) = x1 then (some ((rd_T122 x9 x11).f0, (rd_T122 x9 x11).f1, (rd_T122 x9 x11).f2, true)) else (impl_Entries.l0 k x1 x9 x10 (wrap64 (x11 + 1)))) else (none)) else (none)) else (some (0, 0, 0, false))
def impl_Entries.f (k : Nat) (a0_0 : Int) (a0_1 : Int) (l0_2 : List (S122)) (a0_3 : Int) (l0_4 : List Int) (a1 : Int) : Option (Int × Int × Int × Bool) := impl_Entries.l0 k a1 l0_2 (l0_2.length : Int) 0
set_option maxHeartbeats 8000000 in
set_option maxRecDepth 100000 in
theorem impl_Entries.calls (k : Nat) (a0_0 : Int) (a0_1 : Int) (A0_2 : Option Addr) (c0_2 : Nat) (l0_2 : List (S122)) (a0_3 : Int) (A0_4 : Option Addr) (c0_4 : Nat) (l0_4 : List Int) (a1 : Int) (r1 : Int) (r2 : Int) (r3 : Int) (r4 : Bool) (w : World) (hr0_2 : Kd.C k122 w A0_2 l0_2.length l0_2) (hc0_2 : l0_2.length ≤ c0_2) (hr0_4 : Kd.C (Kd.int .i64) w A0_4 l0_4.length l0_4) (hc0_4 : l0_4.length ≤ c0_4) (h : impl_Entries.f k a0_0 a0_1 l0_2 a0_3 l0_4 a1 = some (r1, r2, r3, r4)) :
    Calls Try.prog 122 #[.agg #[.int .i64 a0_0, .int .i64 a0_1, .slice A0_2 l0_2.length c0_2, .int .i64 a0_3, .slice A0_4 l0_4.length c0_4], .int .i64 a1] w fun e w' => e = .returned (.tuple #[.agg #[.int .i64 r1, .int .i64 r2, .int .i64 r3], .bool r4]) ∧ Below w.heap.size w w' := by
 have hu119 := Try.underlying119
 have hu122 := Try.underlying122
 have HR0_2 := A_ hr0_2
 have HC0_2 := A_ hc0_2
 clear hr0_2 hc0_2
 have HR0_4 := A_ hr0_4
 have HC0_4 := A_ hc0_4
 clear hr0_4 hc0_4
 have HB := A_ (Below.refl w.heap.size w)
 have H : (impl_Entries.l0 k a1 l0_2 (l0_2.length : Int) 0) = some (r1, r2, r3, r4) := h
 clear h
 replace H' := A_ H; clear H
 go_enter Try.func122, Try.ntmps122
 go_wp2_with (first | ((with_reducible refine gate_dst (N := 2) rfl ?_); refine bx_ HB rfl (N := 2) rfl (cs := #[.int .i64 a0_0, .int .i64 a0_1, .slice A0_2 l0_2.length c0_2, .int .i64 a0_3, .slice A0_4 l0_4.length c0_4]) (t := 119) hr_ ?_; clear HB; intro gb354 w3 hg hb BK354 GW354 HB; clear hb hg) | ((with_reducible refine gate_dst (N := 4) rfl ?_); refine bx_ HB rfl (N := 4) rfl (cs := #[.int .i64 0, .int .i64 0, .int .i64 0]) (t := 122) hr_ ?_; clear HB; intro gb355 w4 hg hb BK355 GW355 HB; have NB354_355 := ng_ BK354 hg; have NB355_354 := ns_ (ng_ BK354 hg); replace BK354 := bb_ BK354 hb; clear hb hg; have hnb5 := NB354_355.out; have hnc5 := NB355_354.out; obtain ⟨hcz6_0, hcz6_1, hcz6_2, hcz6_3, hcz6_4, hfz6_0, hfz6_1, hfz6_2, hfz6_3, hfz6_4⟩ := cz5_ BK354))
 go_loopg [11] k (fun kq v11 w' => ∃ (x11_1 : Int) (x356000_1 : Int) (x356001_1 : Int) (x356002_1 : Int), v11 = .int .i64 x11_1 ∧ Aside0 (impl_Entries.l0 kq a1 l0_2 (l0_2.length : Int) x11_1 = some (r1, r2, r3, r4)) ∧ Aside0 (kq ≤ k) ∧ Aside0 (w'.heap[gb354]? = some (.cells #[.int .i64 a0_0, .int .i64 a0_1, (.slice A0_2 l0_2.length c0_2), .int .i64 a0_3, (.slice A0_4 l0_4.length c0_4)] 119 (0, 0))) ∧ Aside0 (w'.heap[gb355]? = some (.cells #[.int .i64 x356000_1, .int .i64 x356001_1, .int .i64 x356002_1] 122 (0, 0))) ∧ Aside0 (Below w.heap.size w w'))
 case atStart => exact ⟨(0), (0), (0), (0), rt_, H', ⟨Nat.le_refl _⟩, ⟨bk_ BK354⟩, ⟨bk_ BK355⟩, ⟨hb_ HB⟩⟩
 case round =>
  clear H'
  try clear c5
  obtain ⟨x11_1, x356000_1, x356001_1, x356002_1, rfl, HA, HK1, BK354, BK355, HB⟩ := hrel
  cases gk with
  | zero => exact absurd HA.out (by simp [impl_Entries.l0])
  | succ k1 =>
   have H := HA.out
   clear HA
   simp only [impl_Entries.l0] at H
   replace H := ic_ H
   rcases H with ⟨c7b0, H⟩ | ⟨c7b0, H⟩
   ·
    replace H := ix_ H
    obtain ⟨c8b0, H⟩ := H
    replace H := ix_ H
    obtain ⟨c9b0, H⟩ := H
    by_cases c10 : ((rd_T122 l0_2 x11_1).f0) = a1
    ·
     rw [if_pos c10] at H
     have c10b0 : (((rd_T122 l0_2 x11_1).f0) == a1) = true := beq_iff_eq.mpr c10
     have c10b1 : (((rd_T122 l0_2 x11_1).f0) != a1) = false := bne_eq_false_iff_eq.mpr c10
     clear c10
     simp only [Option.some.injEq, Prod.mk.injEq] at H
     obtain ⟨rfl, rfl, rfl, rfl⟩ := H
     obtain ⟨ad356, p356, q356, rfl, hx356_0, hx356_1, hx356_2⟩ := ab_T122 HB HR0_2 x11_1
     go_wp2_with (first | ((with_reducible refine gate_dst (N := 7) rfl ?_); refine bx_ HB rfl (N := 7) rfl (cs := #[.int .i64 0, .int .i64 0, .int .i64 0]) (t := 122) hr_ ?_; clear HB; intro gb357 w11 hg hb BK357 GW357 HB; have NB354_357 := ng_ BK354 hg; have NB357_354 := ns_ (ng_ BK354 hg); have NB355_357 := ng_ BK355 hg; have NB357_355 := ns_ (ng_ BK355 hg); replace BK354 := bb_ BK354 hb; replace BK355 := bb_ BK355 hb; clear hb hg; have hnb12 := NB357_354.out; have hnc12 := NB354_357.out; have hnb13 := NB357_355.out; have hnc13 := NB355_357.out; obtain ⟨hcz14_0, hcz14_1, hcz14_2, hfz14_0, hfz14_1, hfz14_2⟩ := cz3_ BK357; have hnb15 := NB355_354.out; have hnc15 := NB354_355.out; obtain ⟨hcz16_0, hcz16_1, hcz16_2, hfz16_0, hfz16_1, hfz16_2⟩ := cz3_ BK355))
     refine bodyPost_ret (results_ct rfl _ _ gb355 122 #[.int .i64 ((rd_T122 l0_2 x11_1).f0), .int .i64 ((rd_T122 l0_2 x11_1).f1), .int .i64 ((rd_T122 l0_2 x11_1).f2)] (0, 0) _ rfl (bp_ BK355) Try.underlying122 rfl (by kernel_rfl)) rfl ?_
     exact ⟨rs_, hb_ HB⟩
    rw [if_neg c10] at H
    have c10b0 : (((rd_T122 l0_2 x11_1).f0) == a1) = false := beq_eq_false_iff_ne.mpr c10
    have c10b1 : (((rd_T122 l0_2 x11_1).f0) != a1) = true := bne_iff_ne.mpr c10
    replace H' := A_ H; clear H
    obtain ⟨ad356, p356, q356, rfl, hx356_0, hx356_1, hx356_2⟩ := ab_T122 HB HR0_2 x11_1
    go_wp2_with (first | ((with_reducible refine gate_dst (N := 7) rfl ?_); refine bx_ HB rfl (N := 7) rfl (cs := #[.int .i64 0, .int .i64 0, .int .i64 0]) (t := 122) hr_ ?_; clear HB; intro gb357 w17 hg hb BK357 GW357 HB; have NB354_357 := ng_ BK354 hg; have NB357_354 := ns_ (ng_ BK354 hg); have NB355_357 := ng_ BK355 hg; have NB357_355 := ns_ (ng_ BK355 hg); replace BK354 := bb_ BK354 hb; replace BK355 := bb_ BK355 hb; clear hb hg; have hnb18 := NB357_354.out; have hnc18 := NB354_357.out; have hnb19 := NB357_355.out; have hnc19 := NB355_357.out; obtain ⟨hcz20_0, hcz20_1, hcz20_2, hfz20_0, hfz20_1, hfz20_2⟩ := cz3_ BK357))
    go_roundg k1
    case measure => have := HK1.out; omega
    case rel => exact ⟨(wrap64 (x11_1 + 1)), (x356000_1), (x356001_1), (x356002_1), rt_, H', ⟨by have := HK1.out; omega⟩, ⟨bk_ BK354⟩, ⟨bk_ BK355⟩, ⟨hb_ HB⟩⟩
   simp only [Option.some.injEq, Prod.mk.injEq] at H
   obtain ⟨rfl, rfl, rfl, rfl⟩ := H
   have hnb21 := NB355_354.out
   have hnc21 := NB354_355.out
   obtain ⟨hcz22_0, hcz22_1, hcz22_2, hfz22_0, hfz22_1, hfz22_2⟩ := cz3_ BK355
   go_wp2
   refine bodyPost_ret (results_ct rfl _ _ gb355 122 #[.int .i64 0, .int .i64 0, .int .i64 0] (0, 0) _ rfl (bp_ BK355) Try.underlying122 rfl (by kernel_rfl)) rfl ?_
   exact ⟨rs_, hb_ HB⟩

/-! ### impl_isPlace: function 151 -/
def impl_isPlace.f (a0 : Int) : Option (Bool) := (impl_from.f a0 0 19).bind fun t358 => (some t358)
set_option maxHeartbeats 8000000 in
set_option maxRecDepth 100000 in
theorem impl_isPlace.calls (a0 : Int) (r : Bool) (w : World) (h : impl_isPlace.f a0 = some r) :
    Calls Try.prog 151 #[.int .i64 a0] w fun e w' => e = .returned (.bool r) ∧ Drawn0 w w' := by
 have H : ((impl_from.f a0 0 19).bind fun t358 => (some t358)) = some r := h
 clear h
 replace H := bs_ H
 obtain ⟨t358, A2, H⟩ := H
 obtain rfl := Option.some.inj H
 go_enter Try.func151, Try.ntmps151
 go_wp2_with (first | ((with_reducible refine gate_callee (f := 93) rfl ?_); refine goesL_ (some 4) rfl rfl Try.func93 (by kernel_rfl) rfl #[.int .i64 a0, .int .i64 0, .int .i64 19] rfl al_ ?_; (with_reducible refine (impl_from.calls a0 0 19 t358 _ A2.out).mono ?_); rintro e w' ⟨rfl, ⟨nd, rfl⟩⟩; refine ⟨_, rfl, ?_⟩))
 go_ret
 exact ⟨rt_, by repeat (first | exact Drawn0.refl _ | apply Drawn0.step)⟩

/-! ### impl_DescOk: function 120 -/
def impl_DescOk.l0 : Nat → List (S122) → Int → Int → Int → Int → List (S122) → Int → List Int → Option (Bool)
 | 0, _, _, _, _, _, _, _, _ => none
 | k + 1, x31, x32, x33, x360000, x360001, x360002, x360003, x360004 => if x33 < x32 then (if 0 ≤ x33 then (if x33 < (x31.length : Int) then ((impl_isPlace.f ((rd_T122 x31 x33).f0)).bind fun t364 => (if t364 = true then ((impl_isWordNum.f ((rd_T122 x31 x33).f1)).bind fun t365 => (if t365 = true then ((impl_isWordNum.f ((rd_T122 x31 x33).f2)).bind fun t366 => (if t366 = true then (if x33 > 0 then (if 0 ≤ (wrap64 (x33 - 1)) then (if (wrap64 (x33 - 1)) < (x360002.length : Int) then (if ((rd_T122 x360002 (wrap64 (x33 - 1))).f0) ≥ ((rd_T122 x31 x33).f0) then (some false) else (impl_DescOk.l0 k x31 x32 (wrap64 (x33 + 1)) x360000 x360001 x360002 x360003 x360004)) else (none)) else (none)) else (impl_DescOk.l0 k x31 x32 (wrap64 (x33 + 1)) x360000 x360001 x360002 x360003 x360004)) else (some false))) else (some false))) else (some false))) else (none)) else (none)) else ((impl_from.f x360000 1 1000000).bind fun t360 => (if t360 = true then ((impl_from.f x360001 1 3).bind fun t361 => (if t361 = true then (some (decide ((x360002.length : Int) ≤ 20))) else (some false))) else (some false)))
def impl_DescOk.f (k : Nat) (a0_0 : Int) (a0_1 : Int) (l0_2 : List (S122)) (a0_3 : Int) (l0_4 : List Int) : Option (Bool) := if a0_0 = 0 then (if a0_1 = 0 then (if (l0_2.length : Int) = 0 then (if a0_3 = 0 then (some ((l0_4.length : Int) == 0)) else (some false)) else (some false)) else (some false)) else (impl_DescOk.l0 k l0_2 (l0_2.length : Int) 0 a0_0 a0_1 l0_2 a0_3 l0_4)
set_option maxHeartbeats 8000000 in
set_option maxRecDepth 100000 in
theorem impl_DescOk.calls (k : Nat) (a0_0 : Int) (a0_1 : Int) (A0_2 : Option Addr) (c0_2 : Nat) (l0_2 : List (S122)) (a0_3 : Int) (A0_4 : Option Addr) (c0_4 : Nat) (l0_4 : List Int) (r : Bool) (w : World) (hr0_2 : Kd.C k122 w A0_2 l0_2.length l0_2) (hc0_2 : l0_2.length ≤ c0_2) (hr0_4 : Kd.C (Kd.int .i64) w A0_4 l0_4.length l0_4) (hc0_4 : l0_4.length ≤ c0_4) (h : impl_DescOk.f k a0_0 a0_1 l0_2 a0_3 l0_4 = some r) :
    Calls Try.prog 120 #[.agg #[.int .i64 a0_0, .int .i64 a0_1, .slice A0_2 l0_2.length c0_2, .int .i64 a0_3, .slice A0_4 l0_4.length c0_4]] w fun e w' => e = .returned (.bool r) ∧ Below w.heap.size w w' := by
 have hu119 := Try.underlying119
 have hu122 := Try.underlying122
 have HR0_2 := A_ hr0_2
 have HC0_2 := A_ hc0_2
 clear hr0_2 hc0_2
 have HR0_4 := A_ hr0_4
 have HC0_4 := A_ hc0_4
 clear hr0_4 hc0_4
 have HB := A_ (Below.refl w.heap.size w)
 have H : (if a0_0 = 0 then (if a0_1 = 0 then (if (l0_2.length : Int) = 0 then (if a0_3 = 0 then (some ((l0_4.length : Int) == 0)) else (some false)) else (some false)) else (some false)) else (impl_DescOk.l0 k l0_2 (l0_2.length : Int) 0 a0_0 a0_1 l0_2 a0_3 l0_4)) = some r := h
 clear h
 by_cases c2 : a0_0 = 0
 ·
  rw [if_pos c2] at H
  have c2b0 : (a0_0 == 0) = true := beq_iff_eq.mpr c2
  have c2b1 : (a0_0 != 0) = false := bne_eq_false_iff_eq.mpr c2
  clear c2
  by_cases c3 : a0_1 = 0
  ·
   rw [if_pos c3] at H
   have c3b0 : (a0_1 == 0) = true := beq_iff_eq.mpr c3
   have c3b1 : (a0_1 != 0) = false := bne_eq_false_iff_eq.mpr c3
   clear c3
   by_cases c4 : (l0_2.length : Int) = 0
   ·
    rw [if_pos c4] at H
    have c4b0 : ((l0_2.length : Int) == 0) = true := beq_iff_eq.mpr c4
    have c4b1 : ((l0_2.length : Int) != 0) = false := bne_eq_false_iff_eq.mpr c4
    clear c4
    by_cases c5 : a0_3 = 0
    ·
     rw [if_pos c5] at H
     have c5b0 : (a0_3 == 0) = true := beq_iff_eq.mpr c5
     have c5b1 : (a0_3 != 0) = false := bne_eq_false_iff_eq.mpr c5
     clear c5
     obtain rfl := Option.some.inj H
     go_enter Try.func120, Try.ntmps120
     go_wp2_with (first | ((with_reducible refine gate_dst (N := 1) rfl ?_); (try (refine gate_guard (by rfl) ?_; dsimp only)); refine bx_ HB rfl (N := 1) rfl (cs := #[.int .i64 a0_0, .int .i64 a0_1, .slice A0_2 l0_2.length c0_2, .int .i64 a0_3, .slice A0_4 l0_4.length c0_4]) (t := 119) hr_ ?_; clear HB; intro gb359 w6 hg hb BK359 GW359 HB; clear hb hg; obtain ⟨hcz7_0, hcz7_1, hcz7_2, hcz7_3, hcz7_4, hfz7_0, hfz7_1, hfz7_2, hfz7_3, hfz7_4⟩ := cz5_ BK359))
     repeat (go_quiet (first | ((with_reducible refine gate_dst (N := 1) rfl ?_); (try (refine gate_guard (by rfl) ?_; dsimp only)); refine bx_ HB rfl (N := 1) rfl (cs := #[.int .i64 a0_0, .int .i64 a0_1, .slice A0_2 l0_2.length c0_2, .int .i64 a0_3, .slice A0_4 l0_4.length c0_4]) (t := 119) hr_ ?_; clear HB; intro gb359 w6 hg hb BK359 GW359 HB; clear hb hg; obtain ⟨hcz7_0, hcz7_1, hcz7_2, hcz7_3, hcz7_4, hfz7_0, hfz7_1, hfz7_2, hfz7_3, hfz7_4⟩ := cz5_ BK359)); try go_wp2_with (first | ((with_reducible refine gate_dst (N := 1) rfl ?_); (try (refine gate_guard (by rfl) ?_; dsimp only)); refine bx_ HB rfl (N := 1) rfl (cs := #[.int .i64 a0_0, .int .i64 a0_1, .slice A0_2 l0_2.length c0_2, .int .i64 a0_3, .slice A0_4 l0_4.length c0_4]) (t := 119) hr_ ?_; clear HB; intro gb359 w6 hg hb BK359 GW359 HB; clear hb hg; obtain ⟨hcz7_0, hcz7_1, hcz7_2, hcz7_3, hcz7_4, hfz7_0, hfz7_1, hfz7_2, hfz7_3, hfz7_4⟩ := cz5_ BK359)))
     go_ret
     exact ⟨rs_, hb_ HB⟩
    rw [if_neg c5] at H
    have c5b0 : (a0_3 == 0) = false := beq_eq_false_iff_ne.mpr c5
    have c5b1 : (a0_3 != 0) = true := bne_iff_ne.mpr c5
    obtain rfl := Option.some.inj H
    go_enter Try.func120, Try.ntmps120
    go_wp2_with (first | ((with_reducible refine gate_dst (N := 1) rfl ?_); (try (refine gate_guard (by rfl) ?_; dsimp only)); refine bx_ HB rfl (N := 1) rfl (cs := #[.int .i64 a0_0, .int .i64 a0_1, .slice A0_2 l0_2.length c0_2, .int .i64 a0_3, .slice A0_4 l0_4.length c0_4]) (t := 119) hr_ ?_; clear HB; intro gb359 w8 hg hb BK359 GW359 HB; clear hb hg; obtain ⟨hcz9_0, hcz9_1, hcz9_2, hcz9_3, hcz9_4, hfz9_0, hfz9_1, hfz9_2, hfz9_3, hfz9_4⟩ := cz5_ BK359))
    repeat (go_quiet (first | ((with_reducible refine gate_dst (N := 1) rfl ?_); (try (refine gate_guard (by rfl) ?_; dsimp only)); refine bx_ HB rfl (N := 1) rfl (cs := #[.int .i64 a0_0, .int .i64 a0_1, .slice A0_2 l0_2.length c0_2, .int .i64 a0_3, .slice A0_4 l0_4.length c0_4]) (t := 119) hr_ ?_; clear HB; intro gb359 w8 hg hb BK359 GW359 HB; clear hb hg; obtain ⟨hcz9_0, hcz9_1, hcz9_2, hcz9_3, hcz9_4, hfz9_0, hfz9_1, hfz9_2, hfz9_3, hfz9_4⟩ := cz5_ BK359)); try go_wp2_with (first | ((with_reducible refine gate_dst (N := 1) rfl ?_); (try (refine gate_guard (by rfl) ?_; dsimp only)); refine bx_ HB rfl (N := 1) rfl (cs := #[.int .i64 a0_0, .int .i64 a0_1, .slice A0_2 l0_2.length c0_2, .int .i64 a0_3, .slice A0_4 l0_4.length c0_4]) (t := 119) hr_ ?_; clear HB; intro gb359 w8 hg hb BK359 GW359 HB; clear hb hg; obtain ⟨hcz9_0, hcz9_1, hcz9_2, hcz9_3, hcz9_4, hfz9_0, hfz9_1, hfz9_2, hfz9_3, hfz9_4⟩ := cz5_ BK359)))
    go_ret
    exact ⟨rs_, hb_ HB⟩
   rw [if_neg c4] at H
   have c4b0 : ((l0_2.length : Int) == 0) = false := beq_eq_false_iff_ne.mpr c4
   have c4b1 : ((l0_2.length : Int) != 0) = true := bne_iff_ne.mpr c4
   have c4b2 : ¬ (l0_2 = []) := fun h_ => c4 (by rw [h_]; rfl)
   obtain rfl := Option.some.inj H
   go_enter Try.func120, Try.ntmps120
   go_wp2_with (first | ((with_reducible refine gate_dst (N := 1) rfl ?_); (try (refine gate_guard (by rfl) ?_; dsimp only)); refine bx_ HB rfl (N := 1) rfl (cs := #[.int .i64 a0_0, .int .i64 a0_1, .slice A0_2 l0_2.length c0_2, .int .i64 a0_3, .slice A0_4 l0_4.length c0_4]) (t := 119) hr_ ?_; clear HB; intro gb359 w10 hg hb BK359 GW359 HB; clear hb hg; obtain ⟨hcz11_0, hcz11_1, hcz11_2, hcz11_3, hcz11_4, hfz11_0, hfz11_1, hfz11_2, hfz11_3, hfz11_4⟩ := cz5_ BK359))
   repeat (go_quiet (first | ((with_reducible refine gate_dst (N := 1) rfl ?_); (try (refine gate_guard (by rfl) ?_; dsimp only)); refine bx_ HB rfl (N := 1) rfl (cs := #[.int .i64 a0_0, .int .i64 a0_1, .slice A0_2 l0_2.length c0_2, .int .i64 a0_3, .slice A0_4 l0_4.length c0_4]) (t := 119) hr_ ?_; clear HB; intro gb359 w10 hg hb BK359 GW359 HB; clear hb hg; obtain ⟨hcz11_0, hcz11_1, hcz11_2, hcz11_3, hcz11_4, hfz11_0, hfz11_1, hfz11_2, hfz11_3, hfz11_4⟩ := cz5_ BK359)); try go_wp2_with (first | ((with_reducible refine gate_dst (N := 1) rfl ?_); (try (refine gate_guard (by rfl) ?_; dsimp only)); refine bx_ HB rfl (N := 1) rfl (cs := #[.int .i64 a0_0, .int .i64 a0_1, .slice A0_2 l0_2.length c0_2, .int .i64 a0_3, .slice A0_4 l0_4.length c0_4]) (t := 119) hr_ ?_; clear HB; intro gb359 w10 hg hb BK359 GW359 HB; clear hb hg; obtain ⟨hcz11_0, hcz11_1, hcz11_2, hcz11_3, hcz11_4, hfz11_0, hfz11_1, hfz11_2, hfz11_3, hfz11_4⟩ := cz5_ BK359)))
   go_ret
   exact ⟨rs_, hb_ HB⟩
  rw [if_neg c3] at H
  have c3b0 : (a0_1 == 0) = false := beq_eq_false_iff_ne.mpr c3
  have c3b1 : (a0_1 != 0) = true := bne_iff_ne.mpr c3
  obtain rfl := Option.some.inj H
  go_enter Try.func120, Try.ntmps120
  go_wp2_with (first | ((with_reducible refine gate_dst (N := 1) rfl ?_); (try (refine gate_guard (by rfl) ?_; dsimp only)); refine bx_ HB rfl (N := 1) rfl (cs := #[.int .i64 a0_0, .int .i64 a0_1, .slice A0_2 l0_2.length c0_2, .int .i64 a0_3, .slice A0_4 l0_4.length c0_4]) (t := 119) hr_ ?_; clear HB; intro gb359 w12 hg hb BK359 GW359 HB; clear hb hg; obtain ⟨hcz13_0, hcz13_1, hcz13_2, hcz13_3, hcz13_4, hfz13_0, hfz13_1, hfz13_2, hfz13_3, hfz13_4⟩ := cz5_ BK359))
  repeat (go_quiet (first | ((with_reducible refine gate_dst (N := 1) rfl ?_); (try (refine gate_guard (by rfl) ?_; dsimp only)); refine bx_ HB rfl (N := 1) rfl (cs := #[.int .i64 a0_0, .int .i64 a0_1, .slice A0_2 l0_2.length c0_2, .int .i64 a0_3, .slice A0_4 l0_4.length c0_4]) (t := 119) hr_ ?_; clear HB; intro gb359 w12 hg hb BK359 GW359 HB; clear hb hg; obtain ⟨hcz13_0, hcz13_1, hcz13_2, hcz13_3, hcz13_4, hfz13_0, hfz13_1, hfz13_2, hfz13_3, hfz13_4⟩ := cz5_ BK359)); try go_wp2_with (first | ((with_reducible refine gate_dst (N := 1) rfl ?_); (try (refine gate_guard (by rfl) ?_; dsimp only)); refine bx_ HB rfl (N := 1) rfl (cs := #[.int .i64 a0_0, .int .i64 a0_1, .slice A0_2 l0_2.length c0_2, .int .i64 a0_3, .slice A0_4 l0_4.length c0_4]) (t := 119) hr_ ?_; clear HB; intro gb359 w12 hg hb BK359 GW359 HB; clear hb hg; obtain ⟨hcz13_0, hcz13_1, hcz13_2, hcz13_3, hcz13_4, hfz13_0, hfz13_1, hfz13_2, hfz13_3, hfz13_4⟩ := cz5_ BK359)))
  go_ret
  exact ⟨rs_, hb_ HB⟩
 rw [if_neg c2] at H
 have c2b0 : (a0_0 == 0) = false := beq_eq_false_iff_ne.mpr c2
 have c2b1 : (a0_0 != 0) = true := bne_iff_ne.mpr c2
 replace H' := A_ H; clear H
 go_enter Try.func120, Try.ntmps120
 go_wp2_with (first | ((with_reducible refine gate_dst (N := 1) rfl ?_); (try (refine gate_guard (by rfl) ?_; dsimp only)); refine bx_ HB rfl (N := 1) rfl (cs := #[.int .i64 a0_0, .int .i64 a0_1, .slice A0_2 l0_2.length c0_2, .int .i64 a0_3, .slice A0_4 l0_4.length c0_4]) (t := 119) hr_ ?_; clear HB; intro gb359 w14 hg hb BK359 GW359 HB; clear hb hg; obtain ⟨hcz15_0, hcz15_1, hcz15_2, hcz15_3, hcz15_4, hfz15_0, hfz15_1, hfz15_2, hfz15_3, hfz15_4⟩ := cz5_ BK359))
 repeat (go_quiet (first | ((with_reducible refine gate_dst (N := 1) rfl ?_); (try (refine gate_guard (by rfl) ?_; dsimp only)); refine bx_ HB rfl (N := 1) rfl (cs := #[.int .i64 a0_0, .int .i64 a0_1, .slice A0_2 l0_2.length c0_2, .int .i64 a0_3, .slice A0_4 l0_4.length c0_4]) (t := 119) hr_ ?_; clear HB; intro gb359 w14 hg hb BK359 GW359 HB; clear hb hg; obtain ⟨hcz15_0, hcz15_1, hcz15_2, hcz15_3, hcz15_4, hfz15_0, hfz15_1, hfz15_2, hfz15_3, hfz15_4⟩ := cz5_ BK359)); try go_wp2_with (first | ((with_reducible refine gate_dst (N := 1) rfl ?_); (try (refine gate_guard (by rfl) ?_; dsimp only)); refine bx_ HB rfl (N := 1) rfl (cs := #[.int .i64 a0_0, .int .i64 a0_1, .slice A0_2 l0_2.length c0_2, .int .i64 a0_3, .slice A0_4 l0_4.length c0_4]) (t := 119) hr_ ?_; clear HB; intro gb359 w14 hg hb BK359 GW359 HB; clear hb hg; obtain ⟨hcz15_0, hcz15_1, hcz15_2, hcz15_3, hcz15_4, hfz15_0, hfz15_1, hfz15_2, hfz15_3, hfz15_4⟩ := cz5_ BK359)))
 go_loopg [33] k (fun kq v33 w' => ∃ (x33_1 : Int), v33 = .int .i64 x33_1 ∧ Aside0 (impl_DescOk.l0 kq l0_2 (l0_2.length : Int) x33_1 a0_0 a0_1 l0_2 a0_3 l0_4 = some r) ∧ Aside0 (kq ≤ k) ∧ Aside0 (w'.heap[gb359]? = some (.cells #[.int .i64 a0_0, .int .i64 a0_1, (.slice A0_2 l0_2.length c0_2), .int .i64 a0_3, (.slice A0_4 l0_4.length c0_4)] 119 (0, 0))) ∧ Aside0 (Below w.heap.size w w'))
 case atStart => exact ⟨(0), rt_, H', ⟨Nat.le_refl _⟩, ⟨bk_ BK359⟩, ⟨hb_ HB⟩⟩
 case round =>
  clear H'
  try clear c2
  try clear c2b0
  try clear c2b1
  try clear c3
  try clear c3b0
  try clear c3b1
  try clear c4
  try clear c4b0
  try clear c4b1
  try clear c4b2
  try clear c5
  try clear c5b0
  try clear c5b1
  try clear c12
  obtain ⟨x33_1, rfl, HA, HK1, BK359, HB⟩ := hrel
  cases gk with
  | zero => exact absurd HA.out (by simp [impl_DescOk.l0])
  | succ k1 =>
   have H := HA.out
   clear HA
   simp only [impl_DescOk.l0] at H
   replace H := ic_ H
   rcases H with ⟨c16b0, H⟩ | ⟨c16b0, H⟩
   ·
    replace H := ix_ H
    obtain ⟨c17b0, H⟩ := H
    replace H := ix_ H
    obtain ⟨c18b0, H⟩ := H
    replace H := bs_ H
    obtain ⟨t364, A19, H⟩ := H
    by_cases c20 : t364 = true
    ·
     subst c20
     replace H := it_ H
     replace H := bs_ H
     obtain ⟨t365, A21, H⟩ := H
     by_cases c22 : t365 = true
     ·
      subst c22
      replace H := it_ H
      replace H := bs_ H
      obtain ⟨t366, A23, H⟩ := H
      by_cases c24 : t366 = true
      ·
       subst c24
       replace H := it_ H
       replace H := ic_ H
       rcases H with ⟨c25b0, H⟩ | ⟨c25b0, H⟩
       ·
        obtain ⟨ji26, hji26⟩ : ∃ j_ : Int, (wrap64 (x33_1 - 1)) = j_ := ⟨_, rfl⟩
        replace H : (if 0 ≤ (ji26) then (if (ji26) < (l0_2.length : Int) then (if ((rd_T122 l0_2 (ji26)).f0) ≥ ((rd_T122 l0_2 x33_1).f0) then (some false) else (impl_DescOk.l0 k1 l0_2 (l0_2.length : Int) (wrap64 (x33_1 + 1)) a0_0 a0_1 l0_2 a0_3 l0_4)) else (none)) else (none)) = some r := by first | (rw [hji26] at H; exact H) | (simp only [hji26] at H ⊢; exact H)
        (try rw [hji26] at A19)
        (try rw [hji26] at A21)
        (try rw [hji26] at A23)
        have hji26w : (IntKind.i64.wrap (x33_1 - 1)) = ji26 := (i64_w _).trans hji26
        replace H := ix_ H
        obtain ⟨c27b0, H⟩ := H
        replace H := ix_ H
        obtain ⟨c28b0, H⟩ := H
        replace H := ic_ H
        rcases H with ⟨c29b0, H⟩ | ⟨c29b0, H⟩
        ·
         obtain rfl := Option.some.inj H
         obtain ⟨ad362, p362, q362, rfl, hx362_0, hx362_1, hx362_2⟩ := ab_T122 HB HR0_2 x33_1
         go_wp2_with (first | ((with_reducible refine gate_dst (N := 4) rfl ?_); (try (refine gate_guard (by rfl) ?_; dsimp only)); refine bx_ HB rfl (N := 4) rfl (cs := #[.int .i64 0, .int .i64 0, .int .i64 0]) (t := 122) hr_ ?_; clear HB; intro gb363 w30 hg hb BK363 GW363 HB; have NB359_363 := ng_ BK359 hg; have NB363_359 := ns_ (ng_ BK359 hg); replace BK359 := bb_ BK359 hb; clear hb hg; have hnb31 := NB363_359.out; have hnc31 := NB359_363.out; obtain ⟨hcz32_0, hcz32_1, hcz32_2, hfz32_0, hfz32_1, hfz32_2⟩ := cz3_ BK363) | (go_at_call 151; (with_reducible refine (impl_isPlace.calls ((rd_T122 l0_2 x33_1).f0) true _ A19.out).mono ?_); rintro e w' ⟨rfl, ⟨nd, rfl⟩⟩; (try exact dd_)) | (go_at_call 152; (with_reducible refine (impl_isWordNum.calls ((rd_T122 l0_2 x33_1).f1) true _ A21.out).mono ?_); rintro e w' ⟨rfl, ⟨nd, rfl⟩⟩; (try exact dd_)) | (go_at_call 152; (with_reducible refine (impl_isWordNum.calls ((rd_T122 l0_2 x33_1).f2) true _ A23.out).mono ?_); rintro e w' ⟨rfl, ⟨nd, rfl⟩⟩; (try exact dd_); obtain ⟨hcz33_0, hcz33_1, hcz33_2, hcz33_3, hcz33_4, hfz33_0, hfz33_1, hfz33_2, hfz33_3, hfz33_4⟩ := cz5_ BK359; have p367 : 0 ≤ ((ji26) : Int) := od_; have q367 : (ji26) < (l0_2.length : Int) := od_; obtain ⟨ad367, e367, hx367_0, hx367_1, hx367_2⟩ := at_T122 HR0_2.out (ji26) p367 q367; obtain rfl : ad362 = ad367 := (by injection e367); have hn367_0 : ad362.block ≠ gb363 := Nat.ne_of_lt (Nat.lt_of_lt_of_le (by have := World.block_lt_of_cell? _ _ hx367_0; first | rwa [add_block] at this | exact this) GW363.out); have hn367_1 : ad362.block ≠ gb363 := Nat.ne_of_lt (Nat.lt_of_lt_of_le (by have := World.block_lt_of_cell? _ _ hx367_0; first | rwa [add_block] at this | exact this) GW363.out); have hn367_2 : ad362.block ≠ gb363 := Nat.ne_of_lt (Nat.lt_of_lt_of_le (by have := World.block_lt_of_cell? _ _ hx367_0; first | rwa [add_block] at this | exact this) GW363.out); replace hx367_0 := hx_ HB hx367_0; replace hx367_1 := hx_ HB hx367_1; replace hx367_2 := hx_ HB hx367_2; replace hx367_0 := cf_ 0 hn367_0 (.int .i64 ((rd_T122 l0_2 x33_1).f0)) hx367_0; replace hx367_1 := cf_ 0 hn367_0 (.int .i64 ((rd_T122 l0_2 x33_1).f0)) hx367_1; replace hx367_2 := cf_ 0 hn367_0 (.int .i64 ((rd_T122 l0_2 x33_1).f0)) hx367_2; replace hx367_0 := cf_ 1 hn367_1 (.int .i64 ((rd_T122 l0_2 x33_1).f1)) hx367_0; replace hx367_1 := cf_ 1 hn367_1 (.int .i64 ((rd_T122 l0_2 x33_1).f1)) hx367_1; replace hx367_2 := cf_ 1 hn367_1 (.int .i64 ((rd_T122 l0_2 x33_1).f1)) hx367_2; replace hx367_0 := cf_ 2 hn367_2 (.int .i64 ((rd_T122 l0_2 x33_1).f2)) hx367_0; replace hx367_1 := cf_ 2 hn367_2 (.int .i64 ((rd_T122 l0_2 x33_1).f2)) hx367_1; replace hx367_2 := cf_ 2 hn367_2 (.int .i64 ((rd_T122 l0_2 x33_1).f2)) hx367_2; (try have hy367_0 := fun (n_ : Nat) => (show (((((w30.drewN n_).setCell ⟨gb363, 0, none⟩ (.int .i64 ((rd_T122 l0_2 x33_1).f0))).setCell ⟨gb363, 1, none⟩ (.int .i64 ((rd_T122 l0_2 x33_1).f1))).setCell ⟨gb363, 2, none⟩ (.int .i64 ((rd_T122 l0_2 x33_1).f2)))).cell? _ = some _ from hx367_0)); (try have hy367_1 := fun (n_ : Nat) => (show (((((w30.drewN n_).setCell ⟨gb363, 0, none⟩ (.int .i64 ((rd_T122 l0_2 x33_1).f0))).setCell ⟨gb363, 1, none⟩ (.int .i64 ((rd_T122 l0_2 x33_1).f1))).setCell ⟨gb363, 2, none⟩ (.int .i64 ((rd_T122 l0_2 x33_1).f2)))).cell? _ = some _ from hx367_1)); (try have hy367_2 := fun (n_ : Nat) => (show (((((w30.drewN n_).setCell ⟨gb363, 0, none⟩ (.int .i64 ((rd_T122 l0_2 x33_1).f0))).setCell ⟨gb363, 1, none⟩ (.int .i64 ((rd_T122 l0_2 x33_1).f1))).setCell ⟨gb363, 2, none⟩ (.int .i64 ((rd_T122 l0_2 x33_1).f2)))).cell? _ = some _ from hx367_2)); clear hn367_0; clear hn367_1; clear hn367_2; replace p367 := eq_true p367; replace q367 := eq_true q367))
         repeat (go_quiet (first | ((with_reducible refine gate_dst (N := 4) rfl ?_); (try (refine gate_guard (by rfl) ?_; dsimp only)); refine bx_ HB rfl (N := 4) rfl (cs := #[.int .i64 0, .int .i64 0, .int .i64 0]) (t := 122) hr_ ?_; clear HB; intro gb363 w30 hg hb BK363 GW363 HB; have NB359_363 := ng_ BK359 hg; have NB363_359 := ns_ (ng_ BK359 hg); replace BK359 := bb_ BK359 hb; clear hb hg; have hnb31 := NB363_359.out; have hnc31 := NB359_363.out; obtain ⟨hcz32_0, hcz32_1, hcz32_2, hfz32_0, hfz32_1, hfz32_2⟩ := cz3_ BK363) | (go_at_call 151; (with_reducible refine (impl_isPlace.calls ((rd_T122 l0_2 x33_1).f0) true _ A19.out).mono ?_); rintro e w' ⟨rfl, ⟨nd, rfl⟩⟩; (try exact dd_)) | (go_at_call 152; (with_reducible refine (impl_isWordNum.calls ((rd_T122 l0_2 x33_1).f1) true _ A21.out).mono ?_); rintro e w' ⟨rfl, ⟨nd, rfl⟩⟩; (try exact dd_)) | (go_at_call 152; (with_reducible refine (impl_isWordNum.calls ((rd_T122 l0_2 x33_1).f2) true _ A23.out).mono ?_); rintro e w' ⟨rfl, ⟨nd, rfl⟩⟩; (try exact dd_); obtain ⟨hcz33_0, hcz33_1, hcz33_2, hcz33_3, hcz33_4, hfz33_0, hfz33_1, hfz33_2, hfz33_3, hfz33_4⟩ := cz5_ BK359; have p367 : 0 ≤ ((ji26) : Int) := od_; have q367 : (ji26) < (l0_2.length : Int) := od_; obtain ⟨ad367, e367, hx367_0, hx367_1, hx367_2⟩ := at_T122 HR0_2.out (ji26) p367 q367; obtain rfl : ad362 = ad367 := (by injection e367); have hn367_0 : ad362.block ≠ gb363 := Nat.ne_of_lt (Nat.lt_of_lt_of_le (by have := World.block_lt_of_cell? _ _ hx367_0; first | rwa [add_block] at this | exact this) GW363.out); have hn367_1 : ad362.block ≠ gb363 := Nat.ne_of_lt (Nat.lt_of_lt_of_le (by have := World.block_lt_of_cell? _ _ hx367_0; first | rwa [add_block] at this | exact this) GW363.out); have hn367_2 : ad362.block ≠ gb363 := Nat.ne_of_lt (Nat.lt_of_lt_of_le (by have := World.block_lt_of_cell? _ _ hx367_0; first | rwa [add_block] at this | exact this) GW363.out); replace hx367_0 := hx_ HB hx367_0; replace hx367_1 := hx_ HB hx367_1; replace hx367_2 := hx_ HB hx367_2; replace hx367_0 := cf_ 0 hn367_0 (.int .i64 ((rd_T122 l0_2 x33_1).f0)) hx367_0; replace hx367_1 := cf_ 0 hn367_0 (.int .i64 ((rd_T122 l0_2 x33_1).f0)) hx367_1; replace hx367_2 := cf_ 0 hn367_0 (.int .i64 ((rd_T122 l0_2 x33_1).f0)) hx367_2; replace hx367_0 := cf_ 1 hn367_1 (.int .i64 ((rd_T122 l0_2 x33_1).f1)) hx367_0; replace hx367_1 := cf_ 1 hn367_1 (.int .i64 ((rd_T122 l0_2 x33_1).f1)) hx367_1; replace hx367_2 := cf_ 1 hn367_1 (.int .i64 ((rd_T122 l0_2 x33_1).f1)) hx367_2; replace hx367_0 := cf_ 2 hn367_2 (.int .i64 ((rd_T122 l0_2 x33_1).f2)) hx367_0; replace hx367_1 := cf_ 2 hn367_2 (.int .i64 ((rd_T122 l0_2 x33_1).f2)) hx367_1; replace hx367_2 := cf_ 2 hn367_2 (.int .i64 ((rd_T122 l0_2 x33_1).f2)) hx367_2; (try have hy367_0 := fun (n_ : Nat) => (show (((((w30.drewN n_).setCell ⟨gb363, 0, none⟩ (.int .i64 ((rd_T122 l0_2 x33_1).f0))).setCell ⟨gb363, 1, none⟩ (.int .i64 ((rd_T122 l0_2 x33_1).f1))).setCell ⟨gb363, 2, none⟩ (.int .i64 ((rd_T122 l0_2 x33_1).f2)))).cell? _ = some _ from hx367_0)); (try have hy367_1 := fun (n_ : Nat) => (show (((((w30.drewN n_).setCell ⟨gb363, 0, none⟩ (.int .i64 ((rd_T122 l0_2 x33_1).f0))).setCell ⟨gb363, 1, none⟩ (.int .i64 ((rd_T122 l0_2 x33_1).f1))).setCell ⟨gb363, 2, none⟩ (.int .i64 ((rd_T122 l0_2 x33_1).f2)))).cell? _ = some _ from hx367_1)); (try have hy367_2 := fun (n_ : Nat) => (show (((((w30.drewN n_).setCell ⟨gb363, 0, none⟩ (.int .i64 ((rd_T122 l0_2 x33_1).f0))).setCell ⟨gb363, 1, none⟩ (.int .i64 ((rd_T122 l0_2 x33_1).f1))).setCell ⟨gb363, 2, none⟩ (.int .i64 ((rd_T122 l0_2 x33_1).f2)))).cell? _ = some _ from hx367_2)); clear hn367_0; clear hn367_1; clear hn367_2; replace p367 := eq_true p367; replace q367 := eq_true q367)); try go_wp2_with (first | ((with_reducible refine gate_dst (N := 4) rfl ?_); (try (refine gate_guard (by rfl) ?_; dsimp only)); refine bx_ HB rfl (N := 4) rfl (cs := #[.int .i64 0, .int .i64 0, .int .i64 0]) (t := 122) hr_ ?_; clear HB; intro gb363 w30 hg hb BK363 GW363 HB; have NB359_363 := ng_ BK359 hg; have NB363_359 := ns_ (ng_ BK359 hg); replace BK359 := bb_ BK359 hb; clear hb hg; have hnb31 := NB363_359.out; have hnc31 := NB359_363.out; obtain ⟨hcz32_0, hcz32_1, hcz32_2, hfz32_0, hfz32_1, hfz32_2⟩ := cz3_ BK363) | (go_at_call 151; (with_reducible refine (impl_isPlace.calls ((rd_T122 l0_2 x33_1).f0) true _ A19.out).mono ?_); rintro e w' ⟨rfl, ⟨nd, rfl⟩⟩; (try exact dd_)) | (go_at_call 152; (with_reducible refine (impl_isWordNum.calls ((rd_T122 l0_2 x33_1).f1) true _ A21.out).mono ?_); rintro e w' ⟨rfl, ⟨nd, rfl⟩⟩; (try exact dd_)) | (go_at_call 152; (with_reducible refine (impl_isWordNum.calls ((rd_T122 l0_2 x33_1).f2) true _ A23.out).mono ?_); rintro e w' ⟨rfl, ⟨nd, rfl⟩⟩; (try exact dd_); obtain ⟨hcz33_0, hcz33_1, hcz33_2, hcz33_3, hcz33_4, hfz33_0, hfz33_1, hfz33_2, hfz33_3, hfz33_4⟩ := cz5_ BK359; have p367 : 0 ≤ ((ji26) : Int) := od_; have q367 : (ji26) < (l0_2.length : Int) := od_; obtain ⟨ad367, e367, hx367_0, hx367_1, hx367_2⟩ := at_T122 HR0_2.out (ji26) p367 q367; obtain rfl : ad362 = ad367 := (by injection e367); have hn367_0 : ad362.block ≠ gb363 := Nat.ne_of_lt (Nat.lt_of_lt_of_le (by have := World.block_lt_of_cell? _ _ hx367_0; first | rwa [add_block] at this | exact this) GW363.out); have hn367_1 : ad362.block ≠ gb363 := Nat.ne_of_lt (Nat.lt_of_lt_of_le (by have := World.block_lt_of_cell? _ _ hx367_0; first | rwa [add_block] at this | exact this) GW363.out); have hn367_2 : ad362.block ≠ gb363 := Nat.ne_of_lt (Nat.lt_of_lt_of_le (by have := World.block_lt_of_cell? _ _ hx367_0; first | rwa [add_block] at this | exact this) GW363.out); replace hx367_0 := hx_ HB hx367_0; replace hx367_1 := hx_ HB hx367_1; replace hx367_2 := hx_ HB hx367_2; replace hx367_0 := cf_ 0 hn367_0 (.int .i64 ((rd_T122 l0_2 x33_1).f0)) hx367_0; replace hx367_1 := cf_ 0 hn367_0 (.int .i64 ((rd_T122 l0_2 x33_1).f0)) hx367_1; replace hx367_2 := cf_ 0 hn367_0 (.int .i64 ((rd_T122 l0_2 x33_1).f0)) hx367_2; replace hx367_0 := cf_ 1 hn367_1 (.int .i64 ((rd_T122 l0_2 x33_1).f1)) hx367_0; replace hx367_1 := cf_ 1 hn367_1 (.int .i64 ((rd_T122 l0_2 x33_1).f1)) hx367_1; replace hx367_2 := cf_ 1 hn367_1 (.int .i64 ((rd_T122 l0_2 x33_1).f1)) hx367_2; replace hx367_0 := cf_ 2 hn367_2 (.int .i64 ((rd_T122 l0_2 x33_1).f2)) hx367_0; replace hx367_1 := cf_ 2 hn367_2 (.int .i64 ((rd_T122 l0_2 x33_1).f2)) hx367_1; replace hx367_2 := cf_ 2 hn367_2 (.int .i64 ((rd_T122 l0_2 x33_1).f2)) hx367_2; (try have hy367_0 := fun (n_ : Nat) => (show (((((w30.drewN n_).setCell ⟨gb363, 0, none⟩ (.int .i64 ((rd_T122 l0_2 x33_1).f0))).setCell ⟨gb363, 1, none⟩ (.int .i64 ((rd_T122 l0_2 x33_1).f1))).setCell ⟨gb363, 2, none⟩ (.int .i64 ((rd_T122 l0_2 x33_1).f2)))).cell? _ = some _ from hx367_0)); (try have hy367_1 := fun (n_ : Nat) => (show (((((w30.drewN n_).setCell ⟨gb363, 0, none⟩ (.int .i64 ((rd_T122 l0_2 x33_1).f0))).setCell ⟨gb363, 1, none⟩ (.int .i64 ((rd_T122 l0_2 x33_1).f1))).setCell ⟨gb363, 2, none⟩ (.int .i64 ((rd_T122 l0_2 x33_1).f2)))).cell? _ = some _ from hx367_1)); (try have hy367_2 := fun (n_ : Nat) => (show (((((w30.drewN n_).setCell ⟨gb363, 0, none⟩ (.int .i64 ((rd_T122 l0_2 x33_1).f0))).setCell ⟨gb363, 1, none⟩ (.int .i64 ((rd_T122 l0_2 x33_1).f1))).setCell ⟨gb363, 2, none⟩ (.int .i64 ((rd_T122 l0_2 x33_1).f2)))).cell? _ = some _ from hx367_2)); clear hn367_0; clear hn367_1; clear hn367_2; replace p367 := eq_true p367; replace q367 := eq_true q367)))
         go_ret
         exact ⟨by first | rfl | (simp [errW_none, errW_some] <;> rfl) | (simp only [← hji26]; first | rfl | (simp [errW_none, errW_some] <;> rfl)) | (simp [*, errW_none, errW_some] <;> rfl), hb_ HB⟩
        replace H' := A_ H; clear H
        obtain ⟨ad362, p362, q362, rfl, hx362_0, hx362_1, hx362_2⟩ := ab_T122 HB HR0_2 x33_1
        go_wp2_with (first | ((with_reducible refine gate_dst (N := 4) rfl ?_); (try (refine gate_guard (by rfl) ?_; dsimp only)); refine bx_ HB rfl (N := 4) rfl (cs := #[.int .i64 0, .int .i64 0, .int .i64 0]) (t := 122) hr_ ?_; clear HB; intro gb363 w34 hg hb BK363 GW363 HB; have NB359_363 := ng_ BK359 hg; have NB363_359 := ns_ (ng_ BK359 hg); replace BK359 := bb_ BK359 hb; clear hb hg; have hnb35 := NB363_359.out; have hnc35 := NB359_363.out; obtain ⟨hcz36_0, hcz36_1, hcz36_2, hfz36_0, hfz36_1, hfz36_2⟩ := cz3_ BK363) | (go_at_call 151; (with_reducible refine (impl_isPlace.calls ((rd_T122 l0_2 x33_1).f0) true _ A19.out).mono ?_); rintro e w' ⟨rfl, ⟨nd, rfl⟩⟩; (try exact dd_)) | (go_at_call 152; (with_reducible refine (impl_isWordNum.calls ((rd_T122 l0_2 x33_1).f1) true _ A21.out).mono ?_); rintro e w' ⟨rfl, ⟨nd, rfl⟩⟩; (try exact dd_)) | (go_at_call 152; (with_reducible refine (impl_isWordNum.calls ((rd_T122 l0_2 x33_1).f2) true _ A23.out).mono ?_); rintro e w' ⟨rfl, ⟨nd, rfl⟩⟩; (try exact dd_); obtain ⟨hcz37_0, hcz37_1, hcz37_2, hcz37_3, hcz37_4, hfz37_0, hfz37_1, hfz37_2, hfz37_3, hfz37_4⟩ := cz5_ BK359; have p367 : 0 ≤ ((ji26) : Int) := od_; have q367 : (ji26) < (l0_2.length : Int) := od_; obtain ⟨ad367, e367, hx367_0, hx367_1, hx367_2⟩ := at_T122 HR0_2.out (ji26) p367 q367; obtain rfl : ad362 = ad367 := (by injection e367); have hn367_0 : ad362.block ≠ gb363 := Nat.ne_of_lt (Nat.lt_of_lt_of_le (by have := World.block_lt_of_cell? _ _ hx367_0; first | rwa [add_block] at this | exact this) GW363.out); have hn367_1 : ad362.block ≠ gb363 := Nat.ne_of_lt (Nat.lt_of_lt_of_le (by have := World.block_lt_of_cell? _ _ hx367_0; first | rwa [add_block] at this | exact this) GW363.out); have hn367_2 : ad362.block ≠ gb363 := Nat.ne_of_lt (Nat.lt_of_lt_of_le (by have := World.block_lt_of_cell? _ _ hx367_0; first | rwa [add_block] at this | exact this) GW363.out); replace hx367_0 := hx_ HB hx367_0; replace hx367_1 := hx_ HB hx367_1; replace hx367_2 := hx_ HB hx367_2; replace hx367_0 := cf_ 0 hn367_0 (.int .i64 ((rd_T122 l0_2 x33_1).f0)) hx367_0; replace hx367_1 := cf_ 0 hn367_0 (.int .i64 ((rd_T122 l0_2 x33_1).f0)) hx367_1; replace hx367_2 := cf_ 0 hn367_0 (.int .i64 ((rd_T122 l0_2 x33_1).f0)) hx367_2; replace hx367_0 := cf_ 1 hn367_1 (.int .i64 ((rd_T122 l0_2 x33_1).f1)) hx367_0; replace hx367_1 := cf_ 1 hn367_1 (.int .i64 ((rd_T122 l0_2 x33_1).f1)) hx367_1; replace hx367_2 := cf_ 1 hn367_1 (.int .i64 ((rd_T122 l0_2 x33_1).f1)) hx367_2; replace hx367_0 := cf_ 2 hn367_2 (.int .i64 ((rd_T122 l0_2 x33_1).f2)) hx367_0; replace hx367_1 := cf_ 2 hn367_2 (.int .i64 ((rd_T122 l0_2 x33_1).f2)) hx367_1; replace hx367_2 := cf_ 2 hn367_2 (.int .i64 ((rd_T122 l0_2 x33_1).f2)) hx367_2; (try have hy367_0 := fun (n_ : Nat) => (show (((((w34.drewN n_).setCell ⟨gb363, 0, none⟩ (.int .i64 ((rd_T122 l0_2 x33_1).f0))).setCell ⟨gb363, 1, none⟩ (.int .i64 ((rd_T122 l0_2 x33_1).f1))).setCell ⟨gb363, 2, none⟩ (.int .i64 ((rd_T122 l0_2 x33_1).f2)))).cell? _ = some _ from hx367_0)); (try have hy367_1 := fun (n_ : Nat) => (show (((((w34.drewN n_).setCell ⟨gb363, 0, none⟩ (.int .i64 ((rd_T122 l0_2 x33_1).f0))).setCell ⟨gb363, 1, none⟩ (.int .i64 ((rd_T122 l0_2 x33_1).f1))).setCell ⟨gb363, 2, none⟩ (.int .i64 ((rd_T122 l0_2 x33_1).f2)))).cell? _ = some _ from hx367_1)); (try have hy367_2 := fun (n_ : Nat) => (show (((((w34.drewN n_).setCell ⟨gb363, 0, none⟩ (.int .i64 ((rd_T122 l0_2 x33_1).f0))).setCell ⟨gb363, 1, none⟩ (.int .i64 ((rd_T122 l0_2 x33_1).f1))).setCell ⟨gb363, 2, none⟩ (.int .i64 ((rd_T122 l0_2 x33_1).f2)))).cell? _ = some _ from hx367_2)); clear hn367_0; clear hn367_1; clear hn367_2; replace p367 := eq_true p367; replace q367 := eq_true q367))
        repeat (go_quiet (first | ((with_reducible refine gate_dst (N := 4) rfl ?_); (try (refine gate_guard (by rfl) ?_; dsimp only)); refine bx_ HB rfl (N := 4) rfl (cs := #[.int .i64 0, .int .i64 0, .int .i64 0]) (t := 122) hr_ ?_; clear HB; intro gb363 w34 hg hb BK363 GW363 HB; have NB359_363 := ng_ BK359 hg; have NB363_359 := ns_ (ng_ BK359 hg); replace BK359 := bb_ BK359 hb; clear hb hg; have hnb35 := NB363_359.out; have hnc35 := NB359_363.out; obtain ⟨hcz36_0, hcz36_1, hcz36_2, hfz36_0, hfz36_1, hfz36_2⟩ := cz3_ BK363) | (go_at_call 151; (with_reducible refine (impl_isPlace.calls ((rd_T122 l0_2 x33_1).f0) true _ A19.out).mono ?_); rintro e w' ⟨rfl, ⟨nd, rfl⟩⟩; (try exact dd_)) | (go_at_call 152; (with_reducible refine (impl_isWordNum.calls ((rd_T122 l0_2 x33_1).f1) true _ A21.out).mono ?_); rintro e w' ⟨rfl, ⟨nd, rfl⟩⟩; (try exact dd_)) | (go_at_call 152; (with_reducible refine (impl_isWordNum.calls ((rd_T122 l0_2 x33_1).f2) true _ A23.out).mono ?_); rintro e w' ⟨rfl, ⟨nd, rfl⟩⟩; (try exact dd_); obtain ⟨hcz37_0, hcz37_1, hcz37_2, hcz37_3, hcz37_4, hfz37_0, hfz37_1, hfz37_2, hfz37_3, hfz37_4⟩ := cz5_ BK359; have p367 : 0 ≤ ((ji26) : Int) := od_; have q367 : (ji26) < (l0_2.length : Int) := od_; obtain ⟨ad367, e367, hx367_0, hx367_1, hx367_2⟩ := at_T122 HR0_2.out (ji26) p367 q367; obtain rfl : ad362 = ad367 := (by injection e367); have hn367_0 : ad362.block ≠ gb363 := Nat.ne_of_lt (Nat.lt_of_lt_of_le (by have := World.block_lt_of_cell? _ _ hx367_0; first | rwa [add_block] at this | exact this) GW363.out); have hn367_1 : ad362.block ≠ gb363 := Nat.ne_of_lt (Nat.lt_of_lt_of_le (by have := World.block_lt_of_cell? _ _ hx367_0; first | rwa [add_block] at this | exact this) GW363.out); have hn367_2 : ad362.block ≠ gb363 := Nat.ne_of_lt (Nat.lt_of_lt_of_le (by have := World.block_lt_of_cell? _ _ hx367_0; first | rwa [add_block] at this | exact this) GW363.out); replace hx367_0 := hx_ HB hx367_0; replace hx367_1 := hx_ HB hx367_1; replace hx367_2 := hx_ HB hx367_2; replace hx367_0 := cf_ 0 hn367_0 (.int .i64 ((rd_T122 l0_2 x33_1).f0)) hx367_0; replace hx367_1 := cf_ 0 hn367_0 (.int .i64 ((rd_T122 l0_2 x33_1).f0)) hx367_1; replace hx367_2 := cf_ 0 hn367_0 (.int .i64 ((rd_T122 l0_2 x33_1).f0)) hx367_2; replace hx367_0 := cf_ 1 hn367_1 (.int .i64 ((rd_T122 l0_2 x33_1).f1)) hx367_0; replace hx367_1 := cf_ 1 hn367_1 (.int .i64 ((rd_T122 l0_2 x33_1).f1)) hx367_1; replace hx367_2 := cf_ 1 hn367_1 (.int .i64 ((rd_T122 l0_2 x33_1).f1)) hx367_2; replace hx367_0 := cf_ 2 hn367_2 (.int .i64 ((rd_T122 l0_2 x33_1).f2)) hx367_0; replace hx367_1 := cf_ 2 hn367_2 (.int .i64 ((rd_T122 l0_2 x33_1).f2)) hx367_1; replace hx367_2 := cf_ 2 hn367_2 (.int .i64 ((rd_T122 l0_2 x33_1).f2)) hx367_2; (try have hy367_0 := fun (n_ : Nat) => (show (((((w34.drewN n_).setCell ⟨gb363, 0, none⟩ (.int .i64 ((rd_T122 l0_2 x33_1).f0))).setCell ⟨gb363, 1, none⟩ (.int .i64 ((rd_T122 l0_2 x33_1).f1))).setCell ⟨gb363, 2, none⟩ (.int .i64 ((rd_T122 l0_2 x33_1).f2)))).cell? _ = some _ from hx367_0)); (try have hy367_1 := fun (n_ : Nat) => (show (((((w34.drewN n_).setCell ⟨gb363, 0, none⟩ (.int .i64 ((rd_T122 l0_2 x33_1).f0))).setCell ⟨gb363, 1, none⟩ (.int .i64 ((rd_T122 l0_2 x33_1).f1))).setCell ⟨gb363, 2, none⟩ (.int .i64 ((rd_T122 l0_2 x33_1).f2)))).cell? _ = some _ from hx367_1)); (try have hy367_2 := fun (n_ : Nat) => (show (((((w34.drewN n_).setCell ⟨gb363, 0, none⟩ (.int .i64 ((rd_T122 l0_2 x33_1).f0))).setCell ⟨gb363, 1, none⟩ (.int .i64 ((rd_T122 l0_2 x33_1).f1))).setCell ⟨gb363, 2, none⟩ (.int .i64 ((rd_T122 l0_2 x33_1).f2)))).cell? _ = some _ from hx367_2)); clear hn367_0; clear hn367_1; clear hn367_2; replace p367 := eq_true p367; replace q367 := eq_true q367)); try go_wp2_with (first | ((with_reducible refine gate_dst (N := 4) rfl ?_); (try (refine gate_guard (by rfl) ?_; dsimp only)); refine bx_ HB rfl (N := 4) rfl (cs := #[.int .i64 0, .int .i64 0, .int .i64 0]) (t := 122) hr_ ?_; clear HB; intro gb363 w34 hg hb BK363 GW363 HB; have NB359_363 := ng_ BK359 hg; have NB363_359 := ns_ (ng_ BK359 hg); replace BK359 := bb_ BK359 hb; clear hb hg; have hnb35 := NB363_359.out; have hnc35 := NB359_363.out; obtain ⟨hcz36_0, hcz36_1, hcz36_2, hfz36_0, hfz36_1, hfz36_2⟩ := cz3_ BK363) | (go_at_call 151; (with_reducible refine (impl_isPlace.calls ((rd_T122 l0_2 x33_1).f0) true _ A19.out).mono ?_); rintro e w' ⟨rfl, ⟨nd, rfl⟩⟩; (try exact dd_)) | (go_at_call 152; (with_reducible refine (impl_isWordNum.calls ((rd_T122 l0_2 x33_1).f1) true _ A21.out).mono ?_); rintro e w' ⟨rfl, ⟨nd, rfl⟩⟩; (try exact dd_)) | (go_at_call 152; (with_reducible refine (impl_isWordNum.calls ((rd_T122 l0_2 x33_1).f2) true _ A23.out).mono ?_); rintro e w' ⟨rfl, ⟨nd, rfl⟩⟩; (try exact dd_); obtain ⟨hcz37_0, hcz37_1, hcz37_2, hcz37_3, hcz37_4, hfz37_0, hfz37_1, hfz37_2, hfz37_3, hfz37_4⟩ := cz5_ BK359; have p367 : 0 ≤ ((ji26) : Int) := od_; have q367 : (ji26) < (l0_2.length : Int) := od_; obtain ⟨ad367, e367, hx367_0, hx367_1, hx367_2⟩ := at_T122 HR0_2.out (ji26) p367 q367; obtain rfl : ad362 = ad367 := (by injection e367); have hn367_0 : ad362.block ≠ gb363 := Nat.ne_of_lt (Nat.lt_of_lt_of_le (by have := World.block_lt_of_cell? _ _ hx367_0; first | rwa [add_block] at this | exact this) GW363.out); have hn367_1 : ad362.block ≠ gb363 := Nat.ne_of_lt (Nat.lt_of_lt_of_le (by have := World.block_lt_of_cell? _ _ hx367_0; first | rwa [add_block] at this | exact this) GW363.out); have hn367_2 : ad362.block ≠ gb363 := Nat.ne_of_lt (Nat.lt_of_lt_of_le (by have := World.block_lt_of_cell? _ _ hx367_0; first | rwa [add_block] at this | exact this) GW363.out); replace hx367_0 := hx_ HB hx367_0; replace hx367_1 := hx_ HB hx367_1; replace hx367_2 := hx_ HB hx367_2; replace hx367_0 := cf_ 0 hn367_0 (.int .i64 ((rd_T122 l0_2 x33_1).f0)) hx367_0; replace hx367_1 := cf_ 0 hn367_0 (.int .i64 ((rd_T122 l0_2 x33_1).f0)) hx367_1; replace hx367_2 := cf_ 0 hn367_0 (.int .i64 ((rd_T122 l0_2 x33_1).f0)) hx367_2; replace hx367_0 := cf_ 1 hn367_1 (.int .i64 ((rd_T122 l0_2 x33_1).f1)) hx367_0; replace hx367_1 := cf_ 1 hn367_1 (.int .i64 ((rd_T122 l0_2 x33_1).f1)) hx367_1; replace hx367_2 := cf_ 1 hn367_1 (.int .i64 ((rd_T122 l0_2 x33_1).f1)) hx367_2; replace hx367_0 := cf_ 2 hn367_2 (.int .i64 ((rd_T122 l0_2 x33_1).f2)) hx367_0; replace hx367_1 := cf_ 2 hn367_2 (.int .i64 ((rd_T122 l0_2 x33_1).f2)) hx367_1; replace hx367_2 := cf_ 2 hn367_2 (.int .i64 ((rd_T122 l0_2 x33_1).f2)) hx367_2; (try have hy367_0 := fun (n_ : Nat) => (show (((((w34.drewN n_).setCell ⟨gb363, 0, none⟩ (.int .i64 ((rd_T122 l0_2 x33_1).f0))).setCell ⟨gb363, 1, none⟩ (.int .i64 ((rd_T122 l0_2 x33_1).f1))).setCell ⟨gb363, 2, none⟩ (.int .i64 ((rd_T122 l0_2 x33_1).f2)))).cell? _ = some _ from hx367_0)); (try have hy367_1 := fun (n_ : Nat) => (show (((((w34.drewN n_).setCell ⟨gb363, 0, none⟩ (.int .i64 ((rd_T122 l0_2 x33_1).f0))).setCell ⟨gb363, 1, none⟩ (.int .i64 ((rd_T122 l0_2 x33_1).f1))).setCell ⟨gb363, 2, none⟩ (.int .i64 ((rd_T122 l0_2 x33_1).f2)))).cell? _ = some _ from hx367_1)); (try have hy367_2 := fun (n_ : Nat) => (show (((((w34.drewN n_).setCell ⟨gb363, 0, none⟩ (.int .i64 ((rd_T122 l0_2 x33_1).f0))).setCell ⟨gb363, 1, none⟩ (.int .i64 ((rd_T122 l0_2 x33_1).f1))).setCell ⟨gb363, 2, none⟩ (.int .i64 ((rd_T122 l0_2 x33_1).f2)))).cell? _ = some _ from hx367_2)); clear hn367_0; clear hn367_1; clear hn367_2; replace p367 := eq_true p367; replace q367 := eq_true q367)))
        go_roundg k1
        case measure => have := HK1.out; omega
        case rel => exact ⟨(wrap64 (x33_1 + 1)), rt_, H', ⟨by have := HK1.out; omega⟩, ⟨bk_ BK359⟩, ⟨hb_ HB⟩⟩
       replace H' := A_ H; clear H
       obtain ⟨ad362, p362, q362, rfl, hx362_0, hx362_1, hx362_2⟩ := ab_T122 HB HR0_2 x33_1
       go_wp2_with (first | ((with_reducible refine gate_dst (N := 4) rfl ?_); (try (refine gate_guard (by rfl) ?_; dsimp only)); refine bx_ HB rfl (N := 4) rfl (cs := #[.int .i64 0, .int .i64 0, .int .i64 0]) (t := 122) hr_ ?_; clear HB; intro gb363 w38 hg hb BK363 GW363 HB; have NB359_363 := ng_ BK359 hg; have NB363_359 := ns_ (ng_ BK359 hg); replace BK359 := bb_ BK359 hb; clear hb hg; have hnb39 := NB363_359.out; have hnc39 := NB359_363.out; obtain ⟨hcz40_0, hcz40_1, hcz40_2, hfz40_0, hfz40_1, hfz40_2⟩ := cz3_ BK363) | (go_at_call 151; (with_reducible refine (impl_isPlace.calls ((rd_T122 l0_2 x33_1).f0) true _ A19.out).mono ?_); rintro e w' ⟨rfl, ⟨nd, rfl⟩⟩; (try exact dd_)) | (go_at_call 152; (with_reducible refine (impl_isWordNum.calls ((rd_T122 l0_2 x33_1).f1) true _ A21.out).mono ?_); rintro e w' ⟨rfl, ⟨nd, rfl⟩⟩; (try exact dd_)) | (go_at_call 152; (with_reducible refine (impl_isWordNum.calls ((rd_T122 l0_2 x33_1).f2) true _ A23.out).mono ?_); rintro e w' ⟨rfl, ⟨nd, rfl⟩⟩; (try exact dd_)))
       repeat (go_quiet (first | ((with_reducible refine gate_dst (N := 4) rfl ?_); (try (refine gate_guard (by rfl) ?_; dsimp only)); refine bx_ HB rfl (N := 4) rfl (cs := #[.int .i64 0, .int .i64 0, .int .i64 0]) (t := 122) hr_ ?_; clear HB; intro gb363 w38 hg hb BK363 GW363 HB; have NB359_363 := ng_ BK359 hg; have NB363_359 := ns_ (ng_ BK359 hg); replace BK359 := bb_ BK359 hb; clear hb hg; have hnb39 := NB363_359.out; have hnc39 := NB359_363.out; obtain ⟨hcz40_0, hcz40_1, hcz40_2, hfz40_0, hfz40_1, hfz40_2⟩ := cz3_ BK363) | (go_at_call 151; (with_reducible refine (impl_isPlace.calls ((rd_T122 l0_2 x33_1).f0) true _ A19.out).mono ?_); rintro e w' ⟨rfl, ⟨nd, rfl⟩⟩; (try exact dd_)) | (go_at_call 152; (with_reducible refine (impl_isWordNum.calls ((rd_T122 l0_2 x33_1).f1) true _ A21.out).mono ?_); rintro e w' ⟨rfl, ⟨nd, rfl⟩⟩; (try exact dd_)) | (go_at_call 152; (with_reducible refine (impl_isWordNum.calls ((rd_T122 l0_2 x33_1).f2) true _ A23.out).mono ?_); rintro e w' ⟨rfl, ⟨nd, rfl⟩⟩; (try exact dd_))); try go_wp2_with (first | ((with_reducible refine gate_dst (N := 4) rfl ?_); (try (refine gate_guard (by rfl) ?_; dsimp only)); refine bx_ HB rfl (N := 4) rfl (cs := #[.int .i64 0, .int .i64 0, .int .i64 0]) (t := 122) hr_ ?_; clear HB; intro gb363 w38 hg hb BK363 GW363 HB; have NB359_363 := ng_ BK359 hg; have NB363_359 := ns_ (ng_ BK359 hg); replace BK359 := bb_ BK359 hb; clear hb hg; have hnb39 := NB363_359.out; have hnc39 := NB359_363.out; obtain ⟨hcz40_0, hcz40_1, hcz40_2, hfz40_0, hfz40_1, hfz40_2⟩ := cz3_ BK363) | (go_at_call 151; (with_reducible refine (impl_isPlace.calls ((rd_T122 l0_2 x33_1).f0) true _ A19.out).mono ?_); rintro e w' ⟨rfl, ⟨nd, rfl⟩⟩; (try exact dd_)) | (go_at_call 152; (with_reducible refine (impl_isWordNum.calls ((rd_T122 l0_2 x33_1).f1) true _ A21.out).mono ?_); rintro e w' ⟨rfl, ⟨nd, rfl⟩⟩; (try exact dd_)) | (go_at_call 152; (with_reducible refine (impl_isWordNum.calls ((rd_T122 l0_2 x33_1).f2) true _ A23.out).mono ?_); rintro e w' ⟨rfl, ⟨nd, rfl⟩⟩; (try exact dd_))))
       go_roundg k1
       case measure => have := HK1.out; omega
       case rel => exact ⟨(wrap64 (x33_1 + 1)), rt_, H', ⟨by have := HK1.out; omega⟩, ⟨bk_ BK359⟩, ⟨hb_ HB⟩⟩
      obtain rfl := Bool.eq_false_iff.mpr c24
      replace H := iF_ H
      obtain rfl := Option.some.inj H
      obtain ⟨ad362, p362, q362, rfl, hx362_0, hx362_1, hx362_2⟩ := ab_T122 HB HR0_2 x33_1
      go_wp2_with (first | ((with_reducible refine gate_dst (N := 4) rfl ?_); (try (refine gate_guard (by rfl) ?_; dsimp only)); refine bx_ HB rfl (N := 4) rfl (cs := #[.int .i64 0, .int .i64 0, .int .i64 0]) (t := 122) hr_ ?_; clear HB; intro gb363 w41 hg hb BK363 GW363 HB; have NB359_363 := ng_ BK359 hg; have NB363_359 := ns_ (ng_ BK359 hg); replace BK359 := bb_ BK359 hb; clear hb hg; have hnb42 := NB363_359.out; have hnc42 := NB359_363.out; obtain ⟨hcz43_0, hcz43_1, hcz43_2, hfz43_0, hfz43_1, hfz43_2⟩ := cz3_ BK363) | (go_at_call 151; (with_reducible refine (impl_isPlace.calls ((rd_T122 l0_2 x33_1).f0) true _ A19.out).mono ?_); rintro e w' ⟨rfl, ⟨nd, rfl⟩⟩; (try exact dd_)) | (go_at_call 152; (with_reducible refine (impl_isWordNum.calls ((rd_T122 l0_2 x33_1).f1) true _ A21.out).mono ?_); rintro e w' ⟨rfl, ⟨nd, rfl⟩⟩; (try exact dd_)) | (go_at_call 152; (with_reducible refine (impl_isWordNum.calls ((rd_T122 l0_2 x33_1).f2) false _ A23.out).mono ?_); rintro e w' ⟨rfl, ⟨nd, rfl⟩⟩; (try exact dd_)))
      repeat (go_quiet (first | ((with_reducible refine gate_dst (N := 4) rfl ?_); (try (refine gate_guard (by rfl) ?_; dsimp only)); refine bx_ HB rfl (N := 4) rfl (cs := #[.int .i64 0, .int .i64 0, .int .i64 0]) (t := 122) hr_ ?_; clear HB; intro gb363 w41 hg hb BK363 GW363 HB; have NB359_363 := ng_ BK359 hg; have NB363_359 := ns_ (ng_ BK359 hg); replace BK359 := bb_ BK359 hb; clear hb hg; have hnb42 := NB363_359.out; have hnc42 := NB359_363.out; obtain ⟨hcz43_0, hcz43_1, hcz43_2, hfz43_0, hfz43_1, hfz43_2⟩ := cz3_ BK363) | (go_at_call 151; (with_reducible refine (impl_isPlace.calls ((rd_T122 l0_2 x33_1).f0) true _ A19.out).mono ?_); rintro e w' ⟨rfl, ⟨nd, rfl⟩⟩; (try exact dd_)) | (go_at_call 152; (with_reducible refine (impl_isWordNum.calls ((rd_T122 l0_2 x33_1).f1) true _ A21.out).mono ?_); rintro e w' ⟨rfl, ⟨nd, rfl⟩⟩; (try exact dd_)) | (go_at_call 152; (with_reducible refine (impl_isWordNum.calls ((rd_T122 l0_2 x33_1).f2) false _ A23.out).mono ?_); rintro e w' ⟨rfl, ⟨nd, rfl⟩⟩; (try exact dd_))); try go_wp2_with (first | ((with_reducible refine gate_dst (N := 4) rfl ?_); (try (refine gate_guard (by rfl) ?_; dsimp only)); refine bx_ HB rfl (N := 4) rfl (cs := #[.int .i64 0, .int .i64 0, .int .i64 0]) (t := 122) hr_ ?_; clear HB; intro gb363 w41 hg hb BK363 GW363 HB; have NB359_363 := ng_ BK359 hg; have NB363_359 := ns_ (ng_ BK359 hg); replace BK359 := bb_ BK359 hb; clear hb hg; have hnb42 := NB363_359.out; have hnc42 := NB359_363.out; obtain ⟨hcz43_0, hcz43_1, hcz43_2, hfz43_0, hfz43_1, hfz43_2⟩ := cz3_ BK363) | (go_at_call 151; (with_reducible refine (impl_isPlace.calls ((rd_T122 l0_2 x33_1).f0) true _ A19.out).mono ?_); rintro e w' ⟨rfl, ⟨nd, rfl⟩⟩; (try exact dd_)) | (go_at_call 152; (with_reducible refine (impl_isWordNum.calls ((rd_T122 l0_2 x33_1).f1) true _ A21.out).mono ?_); rintro e w' ⟨rfl, ⟨nd, rfl⟩⟩; (try exact dd_)) | (go_at_call 152; (with_reducible refine (impl_isWordNum.calls ((rd_T122 l0_2 x33_1).f2) false _ A23.out).mono ?_); rintro e w' ⟨rfl, ⟨nd, rfl⟩⟩; (try exact dd_))))
      go_ret
      exact ⟨rs_, hb_ HB⟩
     obtain rfl := Bool.eq_false_iff.mpr c22
     replace H := iF_ H
     obtain rfl := Option.some.inj H
     obtain ⟨ad362, p362, q362, rfl, hx362_0, hx362_1, hx362_2⟩ := ab_T122 HB HR0_2 x33_1
     go_wp2_with (first | ((with_reducible refine gate_dst (N := 4) rfl ?_); (try (refine gate_guard (by rfl) ?_; dsimp only)); refine bx_ HB rfl (N := 4) rfl (cs := #[.int .i64 0, .int .i64 0, .int .i64 0]) (t := 122) hr_ ?_; clear HB; intro gb363 w44 hg hb BK363 GW363 HB; have NB359_363 := ng_ BK359 hg; have NB363_359 := ns_ (ng_ BK359 hg); replace BK359 := bb_ BK359 hb; clear hb hg; have hnb45 := NB363_359.out; have hnc45 := NB359_363.out; obtain ⟨hcz46_0, hcz46_1, hcz46_2, hfz46_0, hfz46_1, hfz46_2⟩ := cz3_ BK363) | (go_at_call 151; (with_reducible refine (impl_isPlace.calls ((rd_T122 l0_2 x33_1).f0) true _ A19.out).mono ?_); rintro e w' ⟨rfl, ⟨nd, rfl⟩⟩; (try exact dd_)) | (go_at_call 152; (with_reducible refine (impl_isWordNum.calls ((rd_T122 l0_2 x33_1).f1) false _ A21.out).mono ?_); rintro e w' ⟨rfl, ⟨nd, rfl⟩⟩; (try exact dd_)))
     repeat (go_quiet (first | ((with_reducible refine gate_dst (N := 4) rfl ?_); (try (refine gate_guard (by rfl) ?_; dsimp only)); refine bx_ HB rfl (N := 4) rfl (cs := #[.int .i64 0, .int .i64 0, .int .i64 0]) (t := 122) hr_ ?_; clear HB; intro gb363 w44 hg hb BK363 GW363 HB; have NB359_363 := ng_ BK359 hg; have NB363_359 := ns_ (ng_ BK359 hg); replace BK359 := bb_ BK359 hb; clear hb hg; have hnb45 := NB363_359.out; have hnc45 := NB359_363.out; obtain ⟨hcz46_0, hcz46_1, hcz46_2, hfz46_0, hfz46_1, hfz46_2⟩ := cz3_ BK363) | (go_at_call 151; (with_reducible refine (impl_isPlace.calls ((rd_T122 l0_2 x33_1).f0) true _ A19.out).mono ?_); rintro e w' ⟨rfl, ⟨nd, rfl⟩⟩; (try exact dd_)) | (go_at_call 152; (with_reducible refine (impl_isWordNum.calls ((rd_T122 l0_2 x33_1).f1) false _ A21.out).mono ?_); rintro e w' ⟨rfl, ⟨nd, rfl⟩⟩; (try exact dd_))); try go_wp2_with (first | ((with_reducible refine gate_dst (N := 4) rfl ?_); (try (refine gate_guard (by rfl) ?_; dsimp only)); refine bx_ HB rfl (N := 4) rfl (cs := #[.int .i64 0, .int .i64 0, .int .i64 0]) (t := 122) hr_ ?_; clear HB; intro gb363 w44 hg hb BK363 GW363 HB; have NB359_363 := ng_ BK359 hg; have NB363_359 := ns_ (ng_ BK359 hg); replace BK359 := bb_ BK359 hb; clear hb hg; have hnb45 := NB363_359.out; have hnc45 := NB359_363.out; obtain ⟨hcz46_0, hcz46_1, hcz46_2, hfz46_0, hfz46_1, hfz46_2⟩ := cz3_ BK363) | (go_at_call 151; (with_reducible refine (impl_isPlace.calls ((rd_T122 l0_2 x33_1).f0) true _ A19.out).mono ?_); rintro e w' ⟨rfl, ⟨nd, rfl⟩⟩; (try exact dd_)) | (go_at_call 152; (with_reducible refine (impl_isWordNum.calls ((rd_T122 l0_2 x33_1).f1) false _ A21.out).mono ?_); rintro e w' ⟨rfl, ⟨nd, rfl⟩⟩; (try exact dd_))))
     go_ret
     exact ⟨rs_, hb_ HB⟩
    obtain rfl := Bool.eq_false_iff.mpr c20
    replace H := iF_ H
    obtain rfl := Option.some.inj H
    obtain ⟨ad362, p362, q362, rfl, hx362_0, hx362_1, hx362_2⟩ := ab_T122 HB HR0_2 x33_1
    go_wp2_with (first | ((with_reducible refine gate_dst (N := 4) rfl ?_); (try (refine gate_guard (by rfl) ?_; dsimp only)); refine bx_ HB rfl (N := 4) rfl (cs := #[.int .i64 0, .int .i64 0, .int .i64 0]) (t := 122) hr_ ?_; clear HB; intro gb363 w47 hg hb BK363 GW363 HB; have NB359_363 := ng_ BK359 hg; have NB363_359 := ns_ (ng_ BK359 hg); replace BK359 := bb_ BK359 hb; clear hb hg; have hnb48 := NB363_359.out; have hnc48 := NB359_363.out; obtain ⟨hcz49_0, hcz49_1, hcz49_2, hfz49_0, hfz49_1, hfz49_2⟩ := cz3_ BK363) | (go_at_call 151; (with_reducible refine (impl_isPlace.calls ((rd_T122 l0_2 x33_1).f0) false _ A19.out).mono ?_); rintro e w' ⟨rfl, ⟨nd, rfl⟩⟩; (try exact dd_)))
    repeat (go_quiet (first | ((with_reducible refine gate_dst (N := 4) rfl ?_); (try (refine gate_guard (by rfl) ?_; dsimp only)); refine bx_ HB rfl (N := 4) rfl (cs := #[.int .i64 0, .int .i64 0, .int .i64 0]) (t := 122) hr_ ?_; clear HB; intro gb363 w47 hg hb BK363 GW363 HB; have NB359_363 := ng_ BK359 hg; have NB363_359 := ns_ (ng_ BK359 hg); replace BK359 := bb_ BK359 hb; clear hb hg; have hnb48 := NB363_359.out; have hnc48 := NB359_363.out; obtain ⟨hcz49_0, hcz49_1, hcz49_2, hfz49_0, hfz49_1, hfz49_2⟩ := cz3_ BK363) | (go_at_call 151; (with_reducible refine (impl_isPlace.calls ((rd_T122 l0_2 x33_1).f0) false _ A19.out).mono ?_); rintro e w' ⟨rfl, ⟨nd, rfl⟩⟩; (try exact dd_))); try go_wp2_with (first | ((with_reducible refine gate_dst (N := 4) rfl ?_); (try (refine gate_guard (by rfl) ?_; dsimp only)); refine bx_ HB rfl (N := 4) rfl (cs := #[.int .i64 0, .int .i64 0, .int .i64 0]) (t := 122) hr_ ?_; clear HB; intro gb363 w47 hg hb BK363 GW363 HB; have NB359_363 := ng_ BK359 hg; have NB363_359 := ns_ (ng_ BK359 hg); replace BK359 := bb_ BK359 hb; clear hb hg; have hnb48 := NB363_359.out; have hnc48 := NB359_363.out; obtain ⟨hcz49_0, hcz49_1, hcz49_2, hfz49_0, hfz49_1, hfz49_2⟩ := cz3_ BK363) | (go_at_call 151; (with_reducible refine (impl_isPlace.calls ((rd_T122 l0_2 x33_1).f0) false _ A19.out).mono ?_); rintro e w' ⟨rfl, ⟨nd, rfl⟩⟩; (try exact dd_))))
    go_ret
    exact ⟨rs_, hb_ HB⟩
   replace H := bs_ H
   obtain ⟨t360, A50, H⟩ := H
   by_cases c51 : t360 = true
   ·
    subst c51
    replace H := it_ H
    replace H := bs_ H
    obtain ⟨t361, A52, H⟩ := H
    by_cases c53 : t361 = true
    ·
     subst c53
     replace H := it_ H
     obtain rfl := Option.some.inj H
     obtain ⟨hcz54_0, hcz54_1, hcz54_2, hcz54_3, hcz54_4, hfz54_0, hfz54_1, hfz54_2, hfz54_3, hfz54_4⟩ := cz5_ BK359
     go_wp2_with (first | (go_at_call 93; (with_reducible refine (impl_from.calls a0_0 1 1000000 true _ A50.out).mono ?_); rintro e w' ⟨rfl, ⟨nd, rfl⟩⟩; (try exact dd_)) | (go_at_call 93; (with_reducible refine (impl_from.calls a0_1 1 3 true _ A52.out).mono ?_); rintro e w' ⟨rfl, ⟨nd, rfl⟩⟩; (try exact dd_)))
     repeat (go_quiet (first | (go_at_call 93; (with_reducible refine (impl_from.calls a0_0 1 1000000 true _ A50.out).mono ?_); rintro e w' ⟨rfl, ⟨nd, rfl⟩⟩; (try exact dd_)) | (go_at_call 93; (with_reducible refine (impl_from.calls a0_1 1 3 true _ A52.out).mono ?_); rintro e w' ⟨rfl, ⟨nd, rfl⟩⟩; (try exact dd_))); try go_wp2_with (first | (go_at_call 93; (with_reducible refine (impl_from.calls a0_0 1 1000000 true _ A50.out).mono ?_); rintro e w' ⟨rfl, ⟨nd, rfl⟩⟩; (try exact dd_)) | (go_at_call 93; (with_reducible refine (impl_from.calls a0_1 1 3 true _ A52.out).mono ?_); rintro e w' ⟨rfl, ⟨nd, rfl⟩⟩; (try exact dd_))))
     go_ret
     exact ⟨rs_, hb_ HB⟩
    obtain rfl := Bool.eq_false_iff.mpr c53
    replace H := iF_ H
    obtain rfl := Option.some.inj H
    obtain ⟨hcz55_0, hcz55_1, hcz55_2, hcz55_3, hcz55_4, hfz55_0, hfz55_1, hfz55_2, hfz55_3, hfz55_4⟩ := cz5_ BK359
    go_wp2_with (first | (go_at_call 93; (with_reducible refine (impl_from.calls a0_0 1 1000000 true _ A50.out).mono ?_); rintro e w' ⟨rfl, ⟨nd, rfl⟩⟩; (try exact dd_)) | (go_at_call 93; (with_reducible refine (impl_from.calls a0_1 1 3 false _ A52.out).mono ?_); rintro e w' ⟨rfl, ⟨nd, rfl⟩⟩; (try exact dd_)))
    repeat (go_quiet (first | (go_at_call 93; (with_reducible refine (impl_from.calls a0_0 1 1000000 true _ A50.out).mono ?_); rintro e w' ⟨rfl, ⟨nd, rfl⟩⟩; (try exact dd_)) | (go_at_call 93; (with_reducible refine (impl_from.calls a0_1 1 3 false _ A52.out).mono ?_); rintro e w' ⟨rfl, ⟨nd, rfl⟩⟩; (try exact dd_))); try go_wp2_with (first | (go_at_call 93; (with_reducible refine (impl_from.calls a0_0 1 1000000 true _ A50.out).mono ?_); rintro e w' ⟨rfl, ⟨nd, rfl⟩⟩; (try exact dd_)) | (go_at_call 93; (with_reducible refine (impl_from.calls a0_1 1 3 false _ A52.out).mono ?_); rintro e w' ⟨rfl, ⟨nd, rfl⟩⟩; (try exact dd_))))
    go_ret
    exact ⟨rs_, hb_ HB⟩
   obtain rfl := Bool.eq_false_iff.mpr c51
   replace H := iF_ H
   obtain rfl := Option.some.inj H
   obtain ⟨hcz56_0, hcz56_1, hcz56_2, hcz56_3, hcz56_4, hfz56_0, hfz56_1, hfz56_2, hfz56_3, hfz56_4⟩ := cz5_ BK359
   go_wp2_with (first | (go_at_call 93; (with_reducible refine (impl_from.calls a0_0 1 1000000 false _ A50.out).mono ?_); rintro e w' ⟨rfl, ⟨nd, rfl⟩⟩; (try exact dd_)))
   repeat (go_quiet (first | (go_at_call 93; (with_reducible refine (impl_from.calls a0_0 1 1000000 false _ A50.out).mono ?_); rintro e w' ⟨rfl, ⟨nd, rfl⟩⟩; (try exact dd_))); try go_wp2_with (first | (go_at_call 93; (with_reducible refine (impl_from.calls a0_0 1 1000000 false _ A50.out).mono ?_); rintro e w' ⟨rfl, ⟨nd, rfl⟩⟩; (try exact dd_))))
   go_ret
   exact ⟨rs_, hb_ HB⟩

/-! ### impl_MemOk_c1: function 119 -/
def impl_MemOk_c1.f (k : Nat) (a0_0 : Int) (a0_1 : Int) (l0_2 : List (S122)) (a0_3 : Int) (l0_4 : List Int) : Option (Bool) := (impl_DescOk.f k a0_0 a0_1 l0_2 a0_3 l0_4).bind fun t369 => (some (!t369))
set_option maxHeartbeats 8000000 in
set_option maxRecDepth 100000 in
theorem impl_MemOk_c1.calls (k : Nat) (a0_0 : Int) (a0_1 : Int) (A0_2 : Option Addr) (c0_2 : Nat) (l0_2 : List (S122)) (a0_3 : Int) (A0_4 : Option Addr) (c0_4 : Nat) (l0_4 : List Int) (r : Bool) (w : World) (hr0_2 : Kd.C k122 w A0_2 l0_2.length l0_2) (hc0_2 : l0_2.length ≤ c0_2) (hr0_4 : Kd.C (Kd.int .i64) w A0_4 l0_4.length l0_4) (hc0_4 : l0_4.length ≤ c0_4) (h : impl_MemOk_c1.f k a0_0 a0_1 l0_2 a0_3 l0_4 = some r) :
    Calls Try.prog 119 #[.agg #[.int .i64 a0_0, .int .i64 a0_1, .slice A0_2 l0_2.length c0_2, .int .i64 a0_3, .slice A0_4 l0_4.length c0_4]] w fun e w' => e = .returned (.bool r) ∧ Below w.heap.size w w' := by
 have hu119 := Try.underlying119
 have HR0_2 := A_ hr0_2
 have HC0_2 := A_ hc0_2
 clear hr0_2 hc0_2
 have HR0_4 := A_ hr0_4
 have HC0_4 := A_ hc0_4
 clear hr0_4 hc0_4
 have HB := A_ (Below.refl w.heap.size w)
 have H : ((impl_DescOk.f k a0_0 a0_1 l0_2 a0_3 l0_4).bind fun t369 => (some (!t369))) = some r := h
 clear h
 replace H := bs_ H
 obtain ⟨t369, A2, H⟩ := H
 obtain rfl := Option.some.inj H
 go_enter Try.func119, Try.ntmps119
 go_wp2_with (first | ((with_reducible refine gate_dst (N := 1) rfl ?_); refine bx_ HB rfl (N := 1) rfl (cs := #[.int .i64 a0_0, .int .i64 a0_1, .slice A0_2 l0_2.length c0_2, .int .i64 a0_3, .slice A0_4 l0_4.length c0_4]) (t := 119) hr_ ?_; clear HB; intro gb368 w3 hg hb BK368 GW368 HB; clear hb hg; obtain ⟨hcz4_0, hcz4_1, hcz4_2, hcz4_3, hcz4_4, hfz4_0, hfz4_1, hfz4_2, hfz4_3, hfz4_4⟩ := cz5_ BK368) | ((with_reducible refine gate_callee (f := 120) rfl ?_); refine goesL_ (some 4) rfl rfl Try.func120 (by kernel_rfl) rfl #[.agg #[.int .i64 a0_0, .int .i64 a0_1, .slice A0_2 l0_2.length c0_2, .int .i64 a0_3, .slice A0_4 l0_4.length c0_4]] rfl al_ ?_; (with_reducible refine (impl_DescOk.calls k a0_0 a0_1 _ _ l0_2 a0_3 _ _ l0_4 t369 _ ?side1 ?side2 ?side3 ?side4 A2.out).mono ?_); (case side1 => exact cb_ (Kd.C_below HR0_2.out HB.out)); (case side2 => exact HC0_2.out); (case side3 => exact cb_ (Kd.C_below HR0_4.out HB.out)); (case side4 => exact HC0_4.out); rintro e w5 ⟨rfl, hb⟩; refine ⟨_, rfl, ?_⟩; replace BK368 := bb_ BK368 hb; replace HB := hs_ HB hb; (try clear hb); (try clear hb2); (try clear hk); (try clear hi)))
 go_ret
 exact ⟨rs_, hb_ HB⟩

end Go.Proofs.Ytmkhghbalnadlaa.PFnExactBegin
