/- Contracts of functions of the program. No condition beyond the hypotheses that each theorem names. -/
import Derived.Test.YtdcinhpdpoodfaaGreatPFnExactFinishedx0
import Derived.Test.YtdcinhpdpoodfaaGreatPFnExactFinishedx3
namespace Go.Proofs.YtdcinhpdpoodfaaGreat.PFnExactFinished
open Go.RowKit Go.Proofs.YtdcinhpdpoodfaaGreatW.PrintWords Go.Proofs.YtdcinhpdpoodfaaGreatW.PrintLast Go.Proofs.YtdcinhpdpoodfaaGreatW.PrintMore
attribute [local go_sem] max2_int min2_int max_two min_two max_three min_three max_four min_four
set_option linter.unusedVariables false
set_option linter.unusedSimpArgs false
mutual
def spec_ThreadOk.j0 : Nat → Int → Bool → List (S122) → Int → Bool → List (S125) → List (S42) → Option (Bool)
 | 0, _, _, _, _, _, _, _ => none
 | k + 1, x1, x60, x140000, x140001, x140002, x140003, x140004 => if x60 = true then (some false) else (spec_ThreadOk.l0 k x1 0 x140000 x140001 x140002 x140003 x140004)
def spec_ThreadOk.l0 : Nat → Int → Int → List (S122) → Int → Bool → List (S125) → List (S42) → Option (Bool)
 | 0, _, _, _, _, _, _, _ => none
 | k + 1, x1, x5, x140000, x140001, x140002, x140003, x140004 => if x5 < (x140000.length : Int) then (if 0 ≤ x5 then ((spec_OpOk.f k ((rd_T122 x140000 x5).f0) ((rd_T122 x140000 x5).f1) ((rd_T122 x140000 x5).f2)).bind fun t142 => (if t142 = true then (spec_ThreadOk.l0 k x1 (wrap64 (x5 + 1)) x140000 x140001 x140002 x140003 x140004) else (some false))) else (none)) else (spec_ThreadOk.l1 k x1 0 x140000 x140001 x140002 x140003 x140004)
def spec_ThreadOk.l1 : Nat → Int → Int → List (S122) → Int → Bool → List (S125) → List (S42) → Option (Bool)
 | 0, _, _, _, _, _, _, _ => none
 | k + 1, x1, x6, x140000, x140001, x140002, x140003, x140004 => if x6 < (x140003.length : Int) then (if 0 ≤ x6 then ((spec_l1In.f ((rd_T125 x140003 x6).f0) 0 19).bind fun t144 => (if t144 = true then ((spec_l1In.f ((rd_T125 x140003 x6).f1) 0 1000).bind fun t146 => (if t146 = true then (spec_ThreadOk.l1 k x1 (wrap64 (x6 + 1)) x140000 x140001 x140002 x140003 x140004) else (some false))) else (some false))) else (none)) else (spec_ThreadOk.l2 k x1 0 x140000 x140001 x140002 x140003 x140004)
def spec_ThreadOk.l2 : Nat → Int → Int → List (S122) → Int → Bool → List (S125) → List (S42) → Option (Bool)
 | 0, _, _, _, _, _, _, _ => none
 | k + 1, x1, x7, x140000, x140001, x140002, x140003, x140004 => if x7 < (x140004.length : Int) then (if 0 ≤ x7 then (if ((rd_T42 x140004 x7).f0) < 0 then (some false) else (if ((rd_T42 x140004 x7).f0) ≥ x1 then (some false) else ((spec_l1In.f ((rd_T42 x140004 x7).f1) 1 1000000).bind fun t149 => (if t149 = true then ((spec_l1In.f ((rd_T42 x140004 x7).f2) 0 20).bind fun t150 => (if t150 = true then ((spec_l1In.f ((rd_T42 x140004 x7).f3) 0 20).bind fun t151 => (if t151 = true then (spec_ThreadOk.l2 k x1 (wrap64 (x7 + 1)) x140000 x140001 x140002 x140003 x140004) else (some false))) else (some false))) else (some false))))) else (none)) else (some true)
end
def spec_ThreadOk.f (k : Nat) (l0_0 : List (S122)) (a0_1 : Int) (a0_2 : Bool) (l0_3 : List (S125)) (l0_4 : List (S42)) (a1 : Int) : Option (Bool) := if (l0_0.length : Int) > 8 then (spec_ThreadOk.j0 k a1 true l0_0 a0_1 a0_2 l0_3 l0_4) else ((spec_l1In.f a0_1 0 (l0_0.length : Int)).bind fun t140 => (if t140 = true then (if a0_2 = true then (if a0_1 ≥ (l0_0.length : Int) then (spec_ThreadOk.j0 k a1 true l0_0 a0_1 a0_2 l0_3 l0_4) else (if (l0_3.length : Int) > 12 then (spec_ThreadOk.j0 k a1 true l0_0 a0_1 a0_2 l0_3 l0_4) else (spec_ThreadOk.j0 k a1 (decide ((l0_4.length : Int) > 2)) l0_0 a0_1 a0_2 l0_3 l0_4))) else (if (wrap64 ((l0_3.length : Int) + (l0_4.length : Int))) > 0 then (spec_ThreadOk.j0 k a1 true l0_0 a0_1 a0_2 l0_3 l0_4) else (if (l0_3.length : Int) > 12 then (spec_ThreadOk.j0 k a1 true l0_0 a0_1 a0_2 l0_3 l0_4) else (spec_ThreadOk.j0 k a1 (decide ((l0_4.length : Int) > 2)) l0_0 a0_1 a0_2 l0_3 l0_4)))) else (spec_ThreadOk.j0 k a1 true l0_0 a0_1 a0_2 l0_3 l0_4)))
set_option maxHeartbeats 8000000 in
set_option maxRecDepth 100000 in
theorem spec_ThreadOk.calls (k : Nat) (A0_0 : Option Addr) (c0_0 : Nat) (l0_0 : List (S122)) (a0_1 : Int) (a0_2 : Bool) (A0_3 : Option Addr) (c0_3 : Nat) (l0_3 : List (S125)) (A0_4 : Option Addr) (c0_4 : Nat) (l0_4 : List (S42)) (a1 : Int) (r : Bool) (w : World) (hr0_0 : Kd.C k122 w A0_0 l0_0.length l0_0) (hc0_0 : l0_0.length ≤ c0_0) (hr0_3 : Kd.C k125 w A0_3 l0_3.length l0_3) (hc0_3 : l0_3.length ≤ c0_3) (hr0_4 : Kd.C k42 w A0_4 l0_4.length l0_4) (hc0_4 : l0_4.length ≤ c0_4) (h : spec_ThreadOk.f k l0_0 a0_1 a0_2 l0_3 l0_4 a1 = some r) :
    Calls Tryz.prog 42 #[.agg #[.slice A0_0 l0_0.length c0_0, .int .i64 a0_1, .bool a0_2, .slice A0_3 l0_3.length c0_3, .slice A0_4 l0_4.length c0_4], .int .i64 a1] w fun e w' => e = .returned (.bool r) ∧ Below w.heap.size w w' := by
 have hu62 := Tryz.underlying62
 have hu122 := Tryz.underlying122
 have hu42 := Tryz.underlying42
 have HR0_0 := A_ hr0_0
 have HC0_0 := A_ hc0_0
 clear hr0_0 hc0_0
 have HR0_3 := A_ hr0_3
 have HC0_3 := A_ hc0_3
 clear hr0_3 hc0_3
 have HR0_4 := A_ hr0_4
 have HC0_4 := A_ hc0_4
 clear hr0_4 hc0_4
 have HB := A_ (Below.refl w.heap.size w)
 have H : (if (l0_0.length : Int) > 8 then (spec_ThreadOk.j0 k a1 true l0_0 a0_1 a0_2 l0_3 l0_4) else ((spec_l1In.f a0_1 0 (l0_0.length : Int)).bind fun t140 => (if t140 = true then (if a0_2 = true then (if a0_1 ≥ (l0_0.length : Int) then (spec_ThreadOk.j0 k a1 true l0_0 a0_1 a0_2 l0_3 l0_4) else (if (l0_3.length : Int) > 12 then (spec_ThreadOk.j0 k a1 true l0_0 a0_1 a0_2 l0_3 l0_4) else (spec_ThreadOk.j0 k a1 (decide ((l0_4.length : Int) > 2)) l0_0 a0_1 a0_2 l0_3 l0_4))) else (if (wrap64 ((l0_3.length : Int) + (l0_4.length : Int))) > 0 then (spec_ThreadOk.j0 k a1 true l0_0 a0_1 a0_2 l0_3 l0_4) else (if (l0_3.length : Int) > 12 then (spec_ThreadOk.j0 k a1 true l0_0 a0_1 a0_2 l0_3 l0_4) else (spec_ThreadOk.j0 k a1 (decide ((l0_4.length : Int) > 2)) l0_0 a0_1 a0_2 l0_3 l0_4)))) else (spec_ThreadOk.j0 k a1 true l0_0 a0_1 a0_2 l0_3 l0_4)))) = some r := h
 clear h
 have HC3 := A_ H
 clear H
 go_enter Tryz.func42, Tryz.ntmps42
 go_upto_region 1 with (first | ((with_reducible refine gate_dst (N := 2) rfl ?_); (try (refine gate_guard (by rfl) ?_; dsimp only)); refine bx_ HB rfl (N := 2) rfl (cs := #[.slice A0_0 l0_0.length c0_0, .int .i64 a0_1, .bool a0_2, .slice A0_3 l0_3.length c0_3, .slice A0_4 l0_4.length c0_4]) (t := 62) hr_ ?_; clear HB; intro gb139 w4 hg hb BK139 GW139 HB; clear hb hg))
 (try simp only [Act.put, List.setIfInBounds_toArray, List.set_cons_zero, List.set_cons_succ])
 go_cut [60] (fun v60 wc => ∃ (kq : Nat) (x60_2 : Bool), v60 = .bool x60_2 ∧ Aside0 (spec_ThreadOk.j0 kq a1 x60_2 l0_0 a0_1 a0_2 l0_3 l0_4 = some r) ∧ Aside0 (kq ≤ k) ∧ Aside0 (wc.heap[gb139]? = some (.cells #[(.slice A0_0 l0_0.length c0_0), .int .i64 a0_1, .bool a0_2, (.slice A0_3 l0_3.length c0_3), (.slice A0_4 l0_4.length c0_4)] 62 (0, 0))) ∧ Aside0 (Below w.heap.size w wc))
 case first =>
  have H := HC3.out
  clear HC3
  by_cases c5 : (l0_0.length : Int) > 8
  ·
   rw [if_pos c5] at H
   have c5b0 : decide (8 < (l0_0.length : Int)) = true := decide_eq_true c5
   have c5b1 : decide (8 < l0_0.length) = true := decide_eq_true (by omega)
   clear c5
   (first | rw [c5b0] | (simp only [i64_w, i32_w]; rw [c5b0]) | skip)
   replace H' := A_ H; clear H
   obtain ⟨z6_0, z6_1, z6_2, z6_3, z6_4, y6_0, y6_1, y6_2, y6_3, y6_4⟩ := cz5_ BK139
   go_wp2
   go_meet
   case rel => exact ⟨_, (true), rt_, H', ⟨by first | omega | exact Nat.le_refl _⟩, ⟨bk_ BK139⟩, ⟨hb_ HB⟩⟩
  rw [if_neg c5] at H
  have c5b0 : decide (8 < (l0_0.length : Int)) = false := decide_eq_false c5
  have c5b1 : decide (8 < l0_0.length) = false := decide_eq_false (by omega)
  clear c5
  (first | rw [c5b0] | (simp only [i64_w, i32_w]; rw [c5b0]) | skip)
  replace H := bs_ H
  obtain ⟨t140, A7, H⟩ := H
  by_cases c8 : t140 = true
  ·
   subst c8
   replace H := it_ H
   by_cases c9 : a0_2 = true
   ·
    subst c9
    replace H := it_ H
    replace H := ic_ H
    rcases H with ⟨c10b0, H⟩ | ⟨c10b0, H⟩
    ·
     replace H' := A_ H; clear H
     obtain ⟨z11_0, z11_1, z11_2, z11_3, z11_4, y11_0, y11_1, y11_2, y11_3, y11_4⟩ := cz5_ BK139
     go_wp2_with (first | (go_at_call 70; (with_reducible refine (spec_l1In.calls a0_1 0 (l0_0.length : Int) true _ A7.out).mono ?_); rintro e w' ⟨rfl, ⟨nd, rfl⟩⟩))
     go_meet
     case rel => exact ⟨_, (true), rt_, H', ⟨by first | omega | exact Nat.le_refl _⟩, ⟨bk_ BK139⟩, ⟨hb_ HB⟩⟩
    by_cases c12 : (l0_3.length : Int) > 12
    ·
     rw [if_pos c12] at H
     have c12b0 : decide (12 < (l0_3.length : Int)) = true := decide_eq_true c12
     have c12b1 : decide (12 < l0_3.length) = true := decide_eq_true (by omega)
     clear c12
     replace H' := A_ H; clear H
     obtain ⟨z13_0, z13_1, z13_2, z13_3, z13_4, y13_0, y13_1, y13_2, y13_3, y13_4⟩ := cz5_ BK139
     go_wp2_with (first | (go_at_call 70; (with_reducible refine (spec_l1In.calls a0_1 0 (l0_0.length : Int) true _ A7.out).mono ?_); rintro e w' ⟨rfl, ⟨nd, rfl⟩⟩))
     go_meet
     case rel => exact ⟨_, (true), rt_, H', ⟨by first | omega | exact Nat.le_refl _⟩, ⟨bk_ BK139⟩, ⟨hb_ HB⟩⟩
    rw [if_neg c12] at H
    have c12b0 : decide (12 < (l0_3.length : Int)) = false := decide_eq_false c12
    have c12b1 : decide (12 < l0_3.length) = false := decide_eq_false (by omega)
    clear c12
    replace H' := A_ H; clear H
    obtain ⟨z14_0, z14_1, z14_2, z14_3, z14_4, y14_0, y14_1, y14_2, y14_3, y14_4⟩ := cz5_ BK139
    go_wp2_with (first | (go_at_call 70; (with_reducible refine (spec_l1In.calls a0_1 0 (l0_0.length : Int) true _ A7.out).mono ?_); rintro e w' ⟨rfl, ⟨nd, rfl⟩⟩))
    go_meet
    case rel => exact ⟨_, (decide ((l0_4.length : Int) > 2)), rt_, H', ⟨by first | omega | exact Nat.le_refl _⟩, ⟨bk_ BK139⟩, ⟨hb_ HB⟩⟩
   obtain rfl := Bool.eq_false_iff.mpr c9
   replace H := iF_ H
   replace H := ic_ H
   rcases H with ⟨c15b0, H⟩ | ⟨c15b0, H⟩
   ·
    replace H' := A_ H; clear H
    obtain ⟨z16_0, z16_1, z16_2, z16_3, z16_4, y16_0, y16_1, y16_2, y16_3, y16_4⟩ := cz5_ BK139
    go_wp2_with (first | (go_at_call 70; (with_reducible refine (spec_l1In.calls a0_1 0 (l0_0.length : Int) true _ A7.out).mono ?_); rintro e w' ⟨rfl, ⟨nd, rfl⟩⟩))
    go_meet
    case rel => exact ⟨_, (true), rt_, H', ⟨by first | omega | exact Nat.le_refl _⟩, ⟨bk_ BK139⟩, ⟨hb_ HB⟩⟩
   by_cases c17 : (l0_3.length : Int) > 12
   ·
    rw [if_pos c17] at H
    have c17b0 : decide (12 < (l0_3.length : Int)) = true := decide_eq_true c17
    have c17b1 : decide (12 < l0_3.length) = true := decide_eq_true (by omega)
    clear c17
    replace H' := A_ H; clear H
    obtain ⟨z18_0, z18_1, z18_2, z18_3, z18_4, y18_0, y18_1, y18_2, y18_3, y18_4⟩ := cz5_ BK139
    go_wp2_with (first | (go_at_call 70; (with_reducible refine (spec_l1In.calls a0_1 0 (l0_0.length : Int) true _ A7.out).mono ?_); rintro e w' ⟨rfl, ⟨nd, rfl⟩⟩))
    go_meet
    case rel => exact ⟨_, (true), rt_, H', ⟨by first | omega | exact Nat.le_refl _⟩, ⟨bk_ BK139⟩, ⟨hb_ HB⟩⟩
   rw [if_neg c17] at H
   have c17b0 : decide (12 < (l0_3.length : Int)) = false := decide_eq_false c17
   have c17b1 : decide (12 < l0_3.length) = false := decide_eq_false (by omega)
   clear c17
   replace H' := A_ H; clear H
   obtain ⟨z19_0, z19_1, z19_2, z19_3, z19_4, y19_0, y19_1, y19_2, y19_3, y19_4⟩ := cz5_ BK139
   go_wp2_with (first | (go_at_call 70; (with_reducible refine (spec_l1In.calls a0_1 0 (l0_0.length : Int) true _ A7.out).mono ?_); rintro e w' ⟨rfl, ⟨nd, rfl⟩⟩))
   go_meet
   case rel => exact ⟨_, (decide ((l0_4.length : Int) > 2)), rt_, H', ⟨by first | omega | exact Nat.le_refl _⟩, ⟨bk_ BK139⟩, ⟨hb_ HB⟩⟩
  obtain rfl := Bool.eq_false_iff.mpr c8
  replace H := iF_ H
  replace H' := A_ H; clear H
  obtain ⟨z20_0, z20_1, z20_2, z20_3, z20_4, y20_0, y20_1, y20_2, y20_3, y20_4⟩ := cz5_ BK139
  go_wp2_with (first | (go_at_call 70; (with_reducible refine (spec_l1In.calls a0_1 0 (l0_0.length : Int) false _ A7.out).mono ?_); rintro e w' ⟨rfl, ⟨nd, rfl⟩⟩))
  go_meet
  case rel => exact ⟨_, (true), rt_, H', ⟨by first | omega | exact Nat.le_refl _⟩, ⟨bk_ BK139⟩, ⟨hb_ HB⟩⟩
 case rest =>
  clear HC3
  try clear c5
  try clear c5b0
  try clear c5b1
  try clear c8
  try clear c9
  try clear c10b0
  try clear c12
  try clear c12b0
  try clear c12b1
  try clear c15b0
  try clear c17
  try clear c17b0
  try clear c17b1
  obtain ⟨kq, x60_2, rfl, HA, HJ2, BK139, HB⟩ := hcut
  cases kq with
  | zero => exact absurd HA.out (by simp [spec_ThreadOk.j0])
  | succ kj2 =>
   have H := HA.out
   clear HA
   simp only [spec_ThreadOk.j0] at H
   by_cases c21 : x60_2 = true
   ·
    subst c21
    replace H := it_ H
    obtain rfl := Option.some.inj H
    go_wp2
    go_ret
    exact ⟨rs_, hb_ HB⟩
   obtain rfl := Bool.eq_false_iff.mpr c21
   replace H := iF_ H
   replace H' := A_ H; clear H
   go_wp2
   go_loopg [5] kj2 (fun kq v5 w' => ∃ (x5_2 : Int), v5 = .int .i64 x5_2 ∧ Aside0 (spec_ThreadOk.l0 kq a1 x5_2 l0_0 a0_1 a0_2 l0_3 l0_4 = some r) ∧ Aside0 (kq ≤ kj2) ∧ Aside0 (w'.heap[gb139]? = some (.cells #[(.slice A0_0 l0_0.length c0_0), .int .i64 a0_1, .bool a0_2, (.slice A0_3 l0_3.length c0_3), (.slice A0_4 l0_4.length c0_4)] 62 (0, 0))) ∧ Aside0 (Below w.heap.size w w'))
   case atStart => exact ⟨(0), rt_, H', ⟨Nat.le_refl _⟩, ⟨bk_ BK139⟩, ⟨hb_ HB⟩⟩
   case round =>
    clear H'
    try clear c5
    try clear c5b0
    try clear c5b1
    try clear c8
    try clear c9
    try clear c10b0
    try clear c12
    try clear c12b0
    try clear c12b1
    try clear c15b0
    try clear c17
    try clear c17b0
    try clear c17b1
    try clear c21
    obtain ⟨x5_2, rfl, HA, HK2, BK139, HB⟩ := hrel
    cases gk with
    | zero => exact absurd HA.out (by simp [spec_ThreadOk.l0])
    | succ k2 =>
     have H := HA.out
     clear HA
     simp only [spec_ThreadOk.l0] at H
     replace H := ic_ H
     rcases H with ⟨c22b0, H⟩ | ⟨c22b0, H⟩
     ·
      replace H := ix_ H
      obtain ⟨c23b0, H⟩ := H
      replace H := bs_ H
      obtain ⟨t142, A24, H⟩ := H
      by_cases c25 : t142 = true
      ·
       subst c25
       replace H := it_ H
       replace H' := A_ H; clear H
       obtain ⟨z26_0, z26_1, z26_2, z26_3, z26_4, y26_0, y26_1, y26_2, y26_3, y26_4⟩ := cz5_ BK139
       obtain ⟨ad141, p141, q141, rfl, u141_0, u141_1, u141_2⟩ := ab_T122 HB HR0_0 x5_2
       go_wp2_with (first | ((with_reducible refine gate_callee (f := 95) rfl ?_); refine goesL_ (some 73) rfl rfl Tryz.func95 (by kernel_rfl) rfl #[.agg #[.int .i64 ((rd_T122 l0_0 x5_2).f0), .int .i64 ((rd_T122 l0_0 x5_2).f1), .int .i64 ((rd_T122 l0_0 x5_2).f2)]] rfl al_ ?_; (with_reducible refine (spec_OpOk.calls k2 ((rd_T122 l0_0 x5_2).f0) ((rd_T122 l0_0 x5_2).f1) ((rd_T122 l0_0 x5_2).f2) true _ A24.out).mono ?_); rintro e w27 ⟨rfl, hb⟩; refine ⟨_, rfl, ?_⟩; replace BK139 := bb_ BK139 hb; replace HB := hs_ HB hb; clear hb))
       go_roundg k2
       case measure => have := HJ2.out; have := HK2.out; omega
       case rel => exact ⟨(wrap64 (x5_2 + 1)), rt_, H', ⟨by have := HJ2.out; have := HK2.out; omega⟩, ⟨bk_ BK139⟩, ⟨hb_ HB⟩⟩
      obtain rfl := Bool.eq_false_iff.mpr c25
      replace H := iF_ H
      obtain rfl := Option.some.inj H
      obtain ⟨z28_0, z28_1, z28_2, z28_3, z28_4, y28_0, y28_1, y28_2, y28_3, y28_4⟩ := cz5_ BK139
      obtain ⟨ad141, p141, q141, rfl, u141_0, u141_1, u141_2⟩ := ab_T122 HB HR0_0 x5_2
      go_wp2_with (first | ((with_reducible refine gate_callee (f := 95) rfl ?_); refine goesL_ (some 73) rfl rfl Tryz.func95 (by kernel_rfl) rfl #[.agg #[.int .i64 ((rd_T122 l0_0 x5_2).f0), .int .i64 ((rd_T122 l0_0 x5_2).f1), .int .i64 ((rd_T122 l0_0 x5_2).f2)]] rfl al_ ?_; (with_reducible refine (spec_OpOk.calls k2 ((rd_T122 l0_0 x5_2).f0) ((rd_T122 l0_0 x5_2).f1) ((rd_T122 l0_0 x5_2).f2) false _ A24.out).mono ?_); rintro e w29 ⟨rfl, hb⟩; refine ⟨_, rfl, ?_⟩; replace BK139 := bb_ BK139 hb; replace HB := hs_ HB hb; clear hb))
      go_ret
      exact ⟨rs_, hb_ HB⟩
     replace H' := A_ H; clear H
     obtain ⟨z30_0, z30_1, z30_2, z30_3, z30_4, y30_0, y30_1, y30_2, y30_3, y30_4⟩ := cz5_ BK139
     go_wp2
     go_loopg [6] k2 (fun kq v6 w' => ∃ (x6_3 : Int), v6 = .int .i64 x6_3 ∧ Aside0 (spec_ThreadOk.l1 kq a1 x6_3 l0_0 a0_1 a0_2 l0_3 l0_4 = some r) ∧ Aside0 (kq ≤ k2) ∧ Aside0 (w'.heap[gb139]? = some (.cells #[(.slice A0_0 l0_0.length c0_0), .int .i64 a0_1, .bool a0_2, (.slice A0_3 l0_3.length c0_3), (.slice A0_4 l0_4.length c0_4)] 62 (0, 0))) ∧ Aside0 (Below w.heap.size w w'))
     case atStart => exact ⟨(0), rt_, H', ⟨Nat.le_refl _⟩, ⟨bk_ BK139⟩, ⟨hb_ HB⟩⟩
     case round =>
      clear H'
      try clear c5
      try clear c5b0
      try clear c5b1
      try clear c8
      try clear c9
      try clear c10b0
      try clear c12
      try clear c12b0
      try clear c12b1
      try clear c15b0
      try clear c17
      try clear c17b0
      try clear c17b1
      try clear c21
      try clear c22b0
      try clear c23b0
      try clear c25
      try clear u141_0
      try clear u141_1
      try clear u141_2
      try clear p141
      try clear q141
      obtain ⟨x6_3, rfl, HA, HK3, BK139, HB⟩ := hrel
      cases gk with
      | zero => exact absurd HA.out (by simp [spec_ThreadOk.l1])
      | succ k3 =>
       have H := HA.out
       clear HA
       simp only [spec_ThreadOk.l1] at H
       replace H := ic_ H
       rcases H with ⟨c31b0, H⟩ | ⟨c31b0, H⟩
       ·
        replace H := ix_ H
        obtain ⟨c32b0, H⟩ := H
        replace H := bs_ H
        obtain ⟨t144, A33, H⟩ := H
        by_cases c34 : t144 = true
        ·
         subst c34
         replace H := it_ H
         replace H := bs_ H
         obtain ⟨t146, A35, H⟩ := H
         by_cases c36 : t146 = true
         ·
          subst c36
          replace H := it_ H
          replace H' := A_ H; clear H
          obtain ⟨z37_0, z37_1, z37_2, z37_3, z37_4, y37_0, y37_1, y37_2, y37_3, y37_4⟩ := cz5_ BK139
          obtain ⟨ad143, p143, q143, rfl, u143_0, u143_1⟩ := ab_T125 HB HR0_3 x6_3
          go_wp2_with (first | ((with_reducible refine gate_callee (f := 70) rfl ?_); refine goesL_ (some 88) rfl rfl Tryz.func70 (by kernel_rfl) rfl #[.int .i64 ((rd_T125 l0_3 x6_3).f0), .int .i64 0, .int .i64 19] rfl al_ ?_; (with_reducible refine (spec_l1In.calls ((rd_T125 l0_3 x6_3).f0) 0 19 true _ A33.out).mono ?_); rintro e w' ⟨rfl, ⟨nd, rfl⟩⟩; refine ⟨_, rfl, ?_⟩; have p145 : 0 ≤ (x6_3 : Int) := od_; have q145 : x6_3 < (l0_3.length : Int) := od_; obtain ⟨ad145, e145, u145_0, u145_1⟩ := at_T125 HR0_3.out x6_3 p145 q145; obtain rfl : ad143 = ad145 := (by injection e145); replace u145_0 := hx_ HB u145_0; replace u145_1 := hx_ HB u145_1; replace p145 := eq_true p145; replace q145 := eq_true q145) | (go_at_call 70; (with_reducible refine (spec_l1In.calls ((rd_T125 l0_3 x6_3).f1) 0 1000 true _ A35.out).mono ?_); rintro e w' ⟨rfl, ⟨nd, rfl⟩⟩))
          go_roundg k3
          case measure => have := HJ2.out; have := HK2.out; have := HK3.out; omega
          case rel => exact ⟨(wrap64 (x6_3 + 1)), rt_, H', ⟨by have := HJ2.out; have := HK2.out; have := HK3.out; omega⟩, ⟨bk_ BK139⟩, ⟨hb_ HB⟩⟩
         obtain rfl := Bool.eq_false_iff.mpr c36
         replace H := iF_ H
         obtain rfl := Option.some.inj H
         obtain ⟨z38_0, z38_1, z38_2, z38_3, z38_4, y38_0, y38_1, y38_2, y38_3, y38_4⟩ := cz5_ BK139
         obtain ⟨ad143, p143, q143, rfl, u143_0, u143_1⟩ := ab_T125 HB HR0_3 x6_3
         go_wp2_with (first | ((with_reducible refine gate_callee (f := 70) rfl ?_); refine goesL_ (some 88) rfl rfl Tryz.func70 (by kernel_rfl) rfl #[.int .i64 ((rd_T125 l0_3 x6_3).f0), .int .i64 0, .int .i64 19] rfl al_ ?_; (with_reducible refine (spec_l1In.calls ((rd_T125 l0_3 x6_3).f0) 0 19 true _ A33.out).mono ?_); rintro e w' ⟨rfl, ⟨nd, rfl⟩⟩; refine ⟨_, rfl, ?_⟩; have p145 : 0 ≤ (x6_3 : Int) := od_; have q145 : x6_3 < (l0_3.length : Int) := od_; obtain ⟨ad145, e145, u145_0, u145_1⟩ := at_T125 HR0_3.out x6_3 p145 q145; obtain rfl : ad143 = ad145 := (by injection e145); replace u145_0 := hx_ HB u145_0; replace u145_1 := hx_ HB u145_1; replace p145 := eq_true p145; replace q145 := eq_true q145) | (go_at_call 70; (with_reducible refine (spec_l1In.calls ((rd_T125 l0_3 x6_3).f1) 0 1000 false _ A35.out).mono ?_); rintro e w' ⟨rfl, ⟨nd, rfl⟩⟩))
         go_ret
         exact ⟨rs_, hb_ HB⟩
        obtain rfl := Bool.eq_false_iff.mpr c34
        replace H := iF_ H
        obtain rfl := Option.some.inj H
        obtain ⟨z39_0, z39_1, z39_2, z39_3, z39_4, y39_0, y39_1, y39_2, y39_3, y39_4⟩ := cz5_ BK139
        obtain ⟨ad143, p143, q143, rfl, u143_0, u143_1⟩ := ab_T125 HB HR0_3 x6_3
        go_wp2_with (first | ((with_reducible refine gate_callee (f := 70) rfl ?_); refine goesL_ (some 88) rfl rfl Tryz.func70 (by kernel_rfl) rfl #[.int .i64 ((rd_T125 l0_3 x6_3).f0), .int .i64 0, .int .i64 19] rfl al_ ?_; (with_reducible refine (spec_l1In.calls ((rd_T125 l0_3 x6_3).f0) 0 19 false _ A33.out).mono ?_); rintro e w' ⟨rfl, ⟨nd, rfl⟩⟩; refine ⟨_, rfl, ?_⟩))
        go_ret
        exact ⟨rs_, hb_ HB⟩
       replace H' := A_ H; clear H
       obtain ⟨z40_0, z40_1, z40_2, z40_3, z40_4, y40_0, y40_1, y40_2, y40_3, y40_4⟩ := cz5_ BK139
       go_wp2
       go_loopg [7] k3 (fun kq v7 w' => ∃ (x7_4 : Int), v7 = .int .i64 x7_4 ∧ Aside0 (spec_ThreadOk.l2 kq a1 x7_4 l0_0 a0_1 a0_2 l0_3 l0_4 = some r) ∧ Aside0 (kq ≤ k3) ∧ Aside0 (w'.heap[gb139]? = some (.cells #[(.slice A0_0 l0_0.length c0_0), .int .i64 a0_1, .bool a0_2, (.slice A0_3 l0_3.length c0_3), (.slice A0_4 l0_4.length c0_4)] 62 (0, 0))) ∧ Aside0 (Below w.heap.size w w'))
       case atStart => exact ⟨(0), rt_, H', ⟨Nat.le_refl _⟩, ⟨bk_ BK139⟩, ⟨hb_ HB⟩⟩
       case round =>
        clear H'
        try clear c5
        try clear c5b0
        try clear c5b1
        try clear c8
        try clear c9
        try clear c10b0
        try clear c12
        try clear c12b0
        try clear c12b1
        try clear c15b0
        try clear c17
        try clear c17b0
        try clear c17b1
        try clear c21
        try clear c22b0
        try clear c23b0
        try clear c25
        try clear c31b0
        try clear c32b0
        try clear c34
        try clear c36
        try clear u141_0
        try clear u141_1
        try clear u141_2
        try clear u143_0
        try clear u143_1
        try clear u145_0
        try clear u145_1
        try clear p141
        try clear p143
        try clear p145
        try clear q141
        try clear q143
        try clear q145
        obtain ⟨x7_4, rfl, HA, HK4, BK139, HB⟩ := hrel
        cases gk with
        | zero => exact absurd HA.out (by simp [spec_ThreadOk.l2])
        | succ k4 =>
         have H := HA.out
         clear HA
         simp only [spec_ThreadOk.l2] at H
         replace H := ic_ H
         rcases H with ⟨c41b0, H⟩ | ⟨c41b0, H⟩
         ·
          replace H := ix_ H
          obtain ⟨c42b0, H⟩ := H
          replace H := ic_ H
          rcases H with ⟨c43b0, H⟩ | ⟨c43b0, H⟩
          ·
           obtain rfl := Option.some.inj H
           obtain ⟨z44_0, z44_1, z44_2, z44_3, z44_4, y44_0, y44_1, y44_2, y44_3, y44_4⟩ := cz5_ BK139
           obtain ⟨ad147, p147, q147, rfl, u147_0, u147_1, u147_2, u147_3⟩ := ab_T42 HB HR0_4 x7_4
           go_wp2_with (first | ((with_reducible refine gate_dst (N := 8) rfl ?_); (try (refine gate_guard (by rfl) ?_; dsimp only)); refine bx_ HB rfl (N := 8) rfl (cs := #[.int .i64 0, .int .i64 0, .int .i64 0, .int .i64 0]) (t := 42) hr_ ?_; clear HB; intro gb148 w45 hg hb BK148 GW148 HB; have NB139_148 := ng_ BK139 hg; have NB148_139 := ns_ (ng_ BK139 hg); replace BK139 := bb_ BK139 hb; clear hb hg; have hnb46 := NB148_139.out; have hnc46 := NB139_148.out; obtain ⟨z47_0, z47_1, z47_2, z47_3, y47_0, y47_1, y47_2, y47_3⟩ := cz4_ BK148))
           go_ret
           exact ⟨rs_, hb_ HB⟩
          replace H := ic_ H
          rcases H with ⟨c48b0, H⟩ | ⟨c48b0, H⟩
          ·
           obtain rfl := Option.some.inj H
           obtain ⟨z49_0, z49_1, z49_2, z49_3, z49_4, y49_0, y49_1, y49_2, y49_3, y49_4⟩ := cz5_ BK139
           obtain ⟨ad147, p147, q147, rfl, u147_0, u147_1, u147_2, u147_3⟩ := ab_T42 HB HR0_4 x7_4
           go_wp2_with (first | ((with_reducible refine gate_dst (N := 8) rfl ?_); (try (refine gate_guard (by rfl) ?_; dsimp only)); refine bx_ HB rfl (N := 8) rfl (cs := #[.int .i64 0, .int .i64 0, .int .i64 0, .int .i64 0]) (t := 42) hr_ ?_; clear HB; intro gb148 w50 hg hb BK148 GW148 HB; have NB139_148 := ng_ BK139 hg; have NB148_139 := ns_ (ng_ BK139 hg); replace BK139 := bb_ BK139 hb; clear hb hg; have hnb51 := NB148_139.out; have hnc51 := NB139_148.out; obtain ⟨z52_0, z52_1, z52_2, z52_3, y52_0, y52_1, y52_2, y52_3⟩ := cz4_ BK148))
           go_ret
           exact ⟨rs_, hb_ HB⟩
          replace H := bs_ H
          obtain ⟨t149, A53, H⟩ := H
          by_cases c54 : t149 = true
          ·
           subst c54
           replace H := it_ H
           replace H := bs_ H
           obtain ⟨t150, A55, H⟩ := H
           by_cases c56 : t150 = true
           ·
            subst c56
            replace H := it_ H
            replace H := bs_ H
            obtain ⟨t151, A57, H⟩ := H
            by_cases c58 : t151 = true
            ·
             subst c58
             replace H := it_ H
             replace H' := A_ H; clear H
             obtain ⟨z59_0, z59_1, z59_2, z59_3, z59_4, y59_0, y59_1, y59_2, y59_3, y59_4⟩ := cz5_ BK139
             obtain ⟨ad147, p147, q147, rfl, u147_0, u147_1, u147_2, u147_3⟩ := ab_T42 HB HR0_4 x7_4
             go_wp2_with (first | ((with_reducible refine gate_dst (N := 8) rfl ?_); (try (refine gate_guard (by rfl) ?_; dsimp only)); refine bx_ HB rfl (N := 8) rfl (cs := #[.int .i64 0, .int .i64 0, .int .i64 0, .int .i64 0]) (t := 42) hr_ ?_; clear HB; intro gb148 w60 hg hb BK148 GW148 HB; have NB139_148 := ng_ BK139 hg; have NB148_139 := ns_ (ng_ BK139 hg); replace BK139 := bb_ BK139 hb; clear hb hg; have hnb61 := NB148_139.out; have hnc61 := NB139_148.out; obtain ⟨z62_0, z62_1, z62_2, z62_3, y62_0, y62_1, y62_2, y62_3⟩ := cz4_ BK148) | (go_at_call 70; (with_reducible refine (spec_l1In.calls ((rd_T42 l0_4 x7_4).f1) 1 1000000 true _ A53.out).mono ?_); rintro e w' ⟨rfl, ⟨nd, rfl⟩⟩) | (go_at_call 70; (with_reducible refine (spec_l1In.calls ((rd_T42 l0_4 x7_4).f2) 0 20 true _ A55.out).mono ?_); rintro e w' ⟨rfl, ⟨nd, rfl⟩⟩) | (go_at_call 70; (with_reducible refine (spec_l1In.calls ((rd_T42 l0_4 x7_4).f3) 0 20 true _ A57.out).mono ?_); rintro e w' ⟨rfl, ⟨nd, rfl⟩⟩))
             go_roundg k4
             case measure => have := HJ2.out; have := HK2.out; have := HK3.out; have := HK4.out; omega
             case rel => exact ⟨(wrap64 (x7_4 + 1)), rt_, H', ⟨by have := HJ2.out; have := HK2.out; have := HK3.out; have := HK4.out; omega⟩, ⟨bk_ BK139⟩, ⟨hb_ HB⟩⟩
            obtain rfl := Bool.eq_false_iff.mpr c58
            replace H := iF_ H
            obtain rfl := Option.some.inj H
            obtain ⟨z63_0, z63_1, z63_2, z63_3, z63_4, y63_0, y63_1, y63_2, y63_3, y63_4⟩ := cz5_ BK139
            obtain ⟨ad147, p147, q147, rfl, u147_0, u147_1, u147_2, u147_3⟩ := ab_T42 HB HR0_4 x7_4
            go_wp2_with (first | ((with_reducible refine gate_dst (N := 8) rfl ?_); (try (refine gate_guard (by rfl) ?_; dsimp only)); refine bx_ HB rfl (N := 8) rfl (cs := #[.int .i64 0, .int .i64 0, .int .i64 0, .int .i64 0]) (t := 42) hr_ ?_; clear HB; intro gb148 w64 hg hb BK148 GW148 HB; have NB139_148 := ng_ BK139 hg; have NB148_139 := ns_ (ng_ BK139 hg); replace BK139 := bb_ BK139 hb; clear hb hg; have hnb65 := NB148_139.out; have hnc65 := NB139_148.out; obtain ⟨z66_0, z66_1, z66_2, z66_3, y66_0, y66_1, y66_2, y66_3⟩ := cz4_ BK148) | (go_at_call 70; (with_reducible refine (spec_l1In.calls ((rd_T42 l0_4 x7_4).f1) 1 1000000 true _ A53.out).mono ?_); rintro e w' ⟨rfl, ⟨nd, rfl⟩⟩) | (go_at_call 70; (with_reducible refine (spec_l1In.calls ((rd_T42 l0_4 x7_4).f2) 0 20 true _ A55.out).mono ?_); rintro e w' ⟨rfl, ⟨nd, rfl⟩⟩) | (go_at_call 70; (with_reducible refine (spec_l1In.calls ((rd_T42 l0_4 x7_4).f3) 0 20 false _ A57.out).mono ?_); rintro e w' ⟨rfl, ⟨nd, rfl⟩⟩))
            go_ret
            exact ⟨rs_, hb_ HB⟩
           obtain rfl := Bool.eq_false_iff.mpr c56
           replace H := iF_ H
           obtain rfl := Option.some.inj H
           obtain ⟨z67_0, z67_1, z67_2, z67_3, z67_4, y67_0, y67_1, y67_2, y67_3, y67_4⟩ := cz5_ BK139
           obtain ⟨ad147, p147, q147, rfl, u147_0, u147_1, u147_2, u147_3⟩ := ab_T42 HB HR0_4 x7_4
           go_wp2_with (first | ((with_reducible refine gate_dst (N := 8) rfl ?_); (try (refine gate_guard (by rfl) ?_; dsimp only)); refine bx_ HB rfl (N := 8) rfl (cs := #[.int .i64 0, .int .i64 0, .int .i64 0, .int .i64 0]) (t := 42) hr_ ?_; clear HB; intro gb148 w68 hg hb BK148 GW148 HB; have NB139_148 := ng_ BK139 hg; have NB148_139 := ns_ (ng_ BK139 hg); replace BK139 := bb_ BK139 hb; clear hb hg; have hnb69 := NB148_139.out; have hnc69 := NB139_148.out; obtain ⟨z70_0, z70_1, z70_2, z70_3, y70_0, y70_1, y70_2, y70_3⟩ := cz4_ BK148) | (go_at_call 70; (with_reducible refine (spec_l1In.calls ((rd_T42 l0_4 x7_4).f1) 1 1000000 true _ A53.out).mono ?_); rintro e w' ⟨rfl, ⟨nd, rfl⟩⟩) | (go_at_call 70; (with_reducible refine (spec_l1In.calls ((rd_T42 l0_4 x7_4).f2) 0 20 false _ A55.out).mono ?_); rintro e w' ⟨rfl, ⟨nd, rfl⟩⟩))
           go_ret
           exact ⟨rs_, hb_ HB⟩
          obtain rfl := Bool.eq_false_iff.mpr c54
          replace H := iF_ H
          obtain rfl := Option.some.inj H
          obtain ⟨z71_0, z71_1, z71_2, z71_3, z71_4, y71_0, y71_1, y71_2, y71_3, y71_4⟩ := cz5_ BK139
          obtain ⟨ad147, p147, q147, rfl, u147_0, u147_1, u147_2, u147_3⟩ := ab_T42 HB HR0_4 x7_4
          go_wp2_with (first | ((with_reducible refine gate_dst (N := 8) rfl ?_); (try (refine gate_guard (by rfl) ?_; dsimp only)); refine bx_ HB rfl (N := 8) rfl (cs := #[.int .i64 0, .int .i64 0, .int .i64 0, .int .i64 0]) (t := 42) hr_ ?_; clear HB; intro gb148 w72 hg hb BK148 GW148 HB; have NB139_148 := ng_ BK139 hg; have NB148_139 := ns_ (ng_ BK139 hg); replace BK139 := bb_ BK139 hb; clear hb hg; have hnb73 := NB148_139.out; have hnc73 := NB139_148.out; obtain ⟨z74_0, z74_1, z74_2, z74_3, y74_0, y74_1, y74_2, y74_3⟩ := cz4_ BK148) | (go_at_call 70; (with_reducible refine (spec_l1In.calls ((rd_T42 l0_4 x7_4).f1) 1 1000000 false _ A53.out).mono ?_); rintro e w' ⟨rfl, ⟨nd, rfl⟩⟩))
          go_ret
          exact ⟨rs_, hb_ HB⟩
         obtain rfl := Option.some.inj H
         obtain ⟨z75_0, z75_1, z75_2, z75_3, z75_4, y75_0, y75_1, y75_2, y75_3, y75_4⟩ := cz5_ BK139
         go_wp2
         go_ret
         exact ⟨rs_, hb_ HB⟩
end Go.Proofs.YtdcinhpdpoodfaaGreat.PFnExactFinished
