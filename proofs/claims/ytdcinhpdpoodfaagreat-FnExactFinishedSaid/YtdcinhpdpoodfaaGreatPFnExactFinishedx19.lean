/- Contracts of functions of the program. No condition beyond the hypotheses that each theorem names. -/
import Derived.Test.YtdcinhpdpoodfaaGreatPFnExactFinishedx0
import Derived.Test.YtdcinhpdpoodfaaGreatPFnExactFinishedx15
import Derived.Test.YtdcinhpdpoodfaaGreatPFnExactFinishedx17
import Derived.Test.YtdcinhpdpoodfaaGreatPFnExactFinishedx18
namespace Go.Proofs.YtdcinhpdpoodfaaGreat.PFnExactFinished
open Go.RowKit Go.Proofs.YtdcinhpdpoodfaaGreatW.PrintWords Go.Proofs.YtdcinhpdpoodfaaGreatW.PrintLast Go.Proofs.YtdcinhpdpoodfaaGreatW.PrintMore
attribute [local go_sem] max2_int min2_int max_two min_two max_three min_three max_four min_four
set_option linter.unusedVariables false
set_option linter.unusedSimpArgs false
mutual
def impl_ThreadOk.j0 : Nat → Int → Bool → List (S122) → Int → Bool → List (S125) → List (S42) → Option (Bool)
 | 0, _, _, _, _, _, _, _ => none
 | k + 1, x3, x46, x478000, x478001, x478002, x478003, x478004 => if x46 = true then (some false) else (if x478002 = true then (impl_ThreadOk.j1 k x3 false x478000 x478001 x478002 x478003 x478004) else (impl_ThreadOk.j1 k x3 (decide ((wrap64 ((x478003.length : Int) + (x478004.length : Int))) > 0)) x478000 x478001 x478002 x478003 x478004))
def impl_ThreadOk.j1 : Nat → Int → Bool → List (S122) → Int → Bool → List (S125) → List (S42) → Option (Bool)
 | 0, _, _, _, _, _, _, _ => none
 | k + 1, x3, x59, x478000, x478001, x478002, x478003, x478004 => if x59 = true then (some false) else ((slices_ContainsFuncThreadOk_c2.f k x478003).bind fun t480 => (if t480 = true then (some false) else ((slices_ContainsFuncThreadOk_c3.f k x478004 x3).bind fun t481 => (some (!t481)))))
end
def impl_ThreadOk.f (k : Nat) (l0_0 : List (S122)) (a0_1 : Int) (a0_2 : Bool) (l0_3 : List (S125)) (l0_4 : List (S42)) (a1 : Int) : Option (Bool) := if (l0_0.length : Int) > 8 then (impl_ThreadOk.j0 k a1 true l0_0 a0_1 a0_2 l0_3 l0_4) else ((slices_ContainsFuncThreadOk_c1.f k l0_0).bind fun t478 => (if t478 = true then (impl_ThreadOk.j0 k a1 true l0_0 a0_1 a0_2 l0_3 l0_4) else ((impl_from.f a0_1 0 (l0_0.length : Int)).bind fun t479 => (if t479 = true then (if a0_2 = true then (if a0_1 = (l0_0.length : Int) then (impl_ThreadOk.j0 k a1 true l0_0 a0_1 a0_2 l0_3 l0_4) else (if (l0_3.length : Int) > 12 then (impl_ThreadOk.j0 k a1 true l0_0 a0_1 a0_2 l0_3 l0_4) else (impl_ThreadOk.j0 k a1 (decide ((l0_4.length : Int) > 2)) l0_0 a0_1 a0_2 l0_3 l0_4))) else (if (l0_3.length : Int) > 12 then (impl_ThreadOk.j0 k a1 true l0_0 a0_1 a0_2 l0_3 l0_4) else (impl_ThreadOk.j0 k a1 (decide ((l0_4.length : Int) > 2)) l0_0 a0_1 a0_2 l0_3 l0_4))) else (impl_ThreadOk.j0 k a1 true l0_0 a0_1 a0_2 l0_3 l0_4)))))
set_option maxHeartbeats 8000000 in
set_option maxRecDepth 100000 in
theorem impl_ThreadOk.calls (k : Nat) (A0_0 : Option Addr) (c0_0 : Nat) (l0_0 : List (S122)) (a0_1 : Int) (a0_2 : Bool) (A0_3 : Option Addr) (c0_3 : Nat) (l0_3 : List (S125)) (A0_4 : Option Addr) (c0_4 : Nat) (l0_4 : List (S42)) (a1 : Int) (r : Bool) (w : World) (hr0_0 : Kd.C k122 w A0_0 l0_0.length l0_0) (hc0_0 : l0_0.length ≤ c0_0) (hr0_3 : Kd.C k125 w A0_3 l0_3.length l0_3) (hc0_3 : l0_3.length ≤ c0_3) (hr0_4 : Kd.C k42 w A0_4 l0_4.length l0_4) (hc0_4 : l0_4.length ≤ c0_4) (h : impl_ThreadOk.f k l0_0 a0_1 a0_2 l0_3 l0_4 a1 = some r) :
    Calls Tryz.prog 41 #[.agg #[.slice A0_0 l0_0.length c0_0, .int .i64 a0_1, .bool a0_2, .slice A0_3 l0_3.length c0_3, .slice A0_4 l0_4.length c0_4], .int .i64 a1] w fun e w' => e = .returned (.bool r) ∧ Below w.heap.size w w' := by
 have hu62 := Tryz.underlying62
 have HR0_0 := A_ hr0_0
 have HC0_0 := A_ hc0_0
 clear hr0_0 hc0_0
 have HR0_3 := A_ hr0_3
 have HC0_3 := A_ hc0_3
 clear hr0_3 hc0_3
 have HR0_4 := A_ hr0_4
 have HC0_4 := A_ hc0_4
 clear hr0_4 hc0_4
 have HB := A_ (Below.refl w.heap.size w)
 have H : (if (l0_0.length : Int) > 8 then (impl_ThreadOk.j0 k a1 true l0_0 a0_1 a0_2 l0_3 l0_4) else ((slices_ContainsFuncThreadOk_c1.f k l0_0).bind fun t478 => (if t478 = true then (impl_ThreadOk.j0 k a1 true l0_0 a0_1 a0_2 l0_3 l0_4) else ((impl_from.f a0_1 0 (l0_0.length : Int)).bind fun t479 => (if t479 = true then (if a0_2 = true then (if a0_1 = (l0_0.length : Int) then (impl_ThreadOk.j0 k a1 true l0_0 a0_1 a0_2 l0_3 l0_4) else (if (l0_3.length : Int) > 12 then (impl_ThreadOk.j0 k a1 true l0_0 a0_1 a0_2 l0_3 l0_4) else (impl_ThreadOk.j0 k a1 (decide ((l0_4.length : Int) > 2)) l0_0 a0_1 a0_2 l0_3 l0_4))) else (if (l0_3.length : Int) > 12 then (impl_ThreadOk.j0 k a1 true l0_0 a0_1 a0_2 l0_3 l0_4) else (impl_ThreadOk.j0 k a1 (decide ((l0_4.length : Int) > 2)) l0_0 a0_1 a0_2 l0_3 l0_4))) else (impl_ThreadOk.j0 k a1 true l0_0 a0_1 a0_2 l0_3 l0_4)))))) = some r := h
 clear h
 have HC3 := A_ H
 clear H
 go_enter Tryz.func41, Tryz.ntmps41
 go_upto_region 1 with (first | ((with_reducible refine gate_dst (N := 2) rfl ?_); refine Y25_ ?_; clear HB; intro gb477 w4a BK477 GW477 HB) | ((with_reducible refine gate_dst (N := 3) rfl ?_); (try (refine gate_guard (by rfl) ?_; dsimp only)); refine box_event rfl (N := 3) rfl (cs := #[.int .i64 a1]) (t := 3) hr_ ?_; intro gbT_ hgT_ w4 hboxT_ hb; have nT_ := A_ hboxT_; have n0_ := A_ (blk_below (g := gb477) (o := .cells #[.slice A0_0 l0_0.length c0_0, .int .i64 a0_1, .bool a0_2, .slice A0_3 l0_3.length c0_3, .slice A0_4 l0_4.length c0_4] 62 (0, 0)) BK477.out hb); have n1_ := hs_ HB hb; clear BK477; clear HB; have BK477 := n0_; have HB := n1_; have BKT_ := nT_; clear n0_ n1_ nT_; clear hb hboxT_ hgT_))
 (try simp only [Act.put, List.setIfInBounds_toArray, List.set_cons_zero, List.set_cons_succ])
 go_cut [46] (fun v46 wc => ∃ (kq : Nat) (x46_2 : Bool), v46 = .bool x46_2 ∧ Aside0 (impl_ThreadOk.j0 kq a1 x46_2 l0_0 a0_1 a0_2 l0_3 l0_4 = some r) ∧ Aside0 (kq ≤ k) ∧ Aside0 (wc.heap[gb477]? = some (.cells #[(.slice A0_0 l0_0.length c0_0), .int .i64 a0_1, .bool a0_2, (.slice A0_3 l0_3.length c0_3), (.slice A0_4 l0_4.length c0_4)] 62 (0, 0))) ∧ Aside0 (wc.heap[gbT_]? = some (.cells #[.int .i64 a1] 3 (0, 0))) ∧ Aside0 (Below w.heap.size w wc))
 case first =>
  have H := HC3.out
  clear HC3
  by_cases c5 : (l0_0.length : Int) > 8
  ·
   rw [if_pos c5] at H
   have c5b0 : decide (8 < (l0_0.length : Int)) = true := decide_eq_true c5
   have c5b1 : decide (8 < l0_0.length) = true := decide_eq_true (by omega)
   clear c5
   (first | rw [c5b0] | (simp only [i64_w, i32_w]; rw [c5b0]) | skip)
   replace H' := A_ H; clear H
   obtain ⟨z6_0, z6_1, z6_2, z6_3, z6_4, y6_0, y6_1, y6_2, y6_3, y6_4⟩ := cz5_ BK477
   go_wp2
   go_meet
   case rel => exact ⟨_, (true), rt_, H', ⟨by first | omega | exact Nat.le_refl _⟩, ⟨bk_ BK477⟩, ⟨bk_ BKT_⟩, ⟨hb_ HB⟩⟩
  rw [if_neg c5] at H
  have c5b0 : decide (8 < (l0_0.length : Int)) = false := decide_eq_false c5
  have c5b1 : decide (8 < l0_0.length) = false := decide_eq_false (by omega)
  clear c5
  (first | rw [c5b0] | (simp only [i64_w, i32_w]; rw [c5b0]) | skip)
  replace H := bs_ H
  obtain ⟨t478, A7, H⟩ := H
  by_cases c8 : t478 = true
  ·
   subst c8
   replace H := it_ H
   replace H' := A_ H; clear H
   obtain ⟨z9_0, z9_1, z9_2, z9_3, z9_4, y9_0, y9_1, y9_2, y9_3, y9_4⟩ := cz5_ BK477
   go_wp2_with (first | (go_at_call 86; (with_reducible refine (slices_ContainsFuncThreadOk_c1.calls k _ _ l0_0 true _ ?s1 ?s2 A7.out).mono ?_); (case s1 => exact cb_ (Kd.C_below HR0_0.out HB.out)); (case s2 => exact HC0_0.out); rintro e w10 ⟨rfl, hb⟩; have n0_ := bb_ BK477 hb; have nT_ := bb_ BKT_ hb; have n1_ := hs_ HB hb; clear BK477; clear BKT_; clear HB; have BK477 := n0_; have BKT_ := nT_; have HB := n1_; clear n0_ n1_ nT_; clear hb))
   go_meet
   case rel => exact ⟨_, (true), rt_, H', ⟨by first | omega | exact Nat.le_refl _⟩, ⟨bk_ BK477⟩, ⟨bk_ BKT_⟩, ⟨hb_ HB⟩⟩
  obtain rfl := Bool.eq_false_iff.mpr c8
  replace H := iF_ H
  replace H := bs_ H
  obtain ⟨t479, A11, H⟩ := H
  by_cases c12 : t479 = true
  ·
   subst c12
   replace H := it_ H
   by_cases c13 : a0_2 = true
   ·
    subst c13
    replace H := it_ H
    by_cases c14 : a0_1 = (l0_0.length : Int)
    ·
     rw [if_pos c14] at H
     have c14b0 : (a0_1 == (l0_0.length : Int)) = true := beq_iff_eq.mpr c14
     have c14b1 : (a0_1 != (l0_0.length : Int)) = false := bne_eq_false_iff_eq.mpr c14
     clear c14
     replace H' := A_ H; clear H
     obtain ⟨z15_0, z15_1, z15_2, z15_3, z15_4, y15_0, y15_1, y15_2, y15_3, y15_4⟩ := cz5_ BK477
     go_wp2_with (first | (go_at_call 86; refine Y73_ ?_; clear BK477 BKT_ HB; intro w16 BK477 BKT_ HB z17_0 z17_1 z17_2 z17_3 z17_4 y17_0 y17_1 y17_2 y17_3 y17_4) | (go_at_call 62; refine Y74_ ?_; intro nd))
     go_meet
     case rel => exact ⟨_, (true), rt_, H', ⟨by first | omega | exact Nat.le_refl _⟩, ⟨bk_ BK477⟩, ⟨bk_ BKT_⟩, ⟨hb_ HB⟩⟩
    rw [if_neg c14] at H
    have c14b0 : (a0_1 == (l0_0.length : Int)) = false := beq_eq_false_iff_ne.mpr c14
    have c14b1 : (a0_1 != (l0_0.length : Int)) = true := bne_iff_ne.mpr c14
    by_cases c18 : (l0_3.length : Int) > 12
    ·
     rw [if_pos c18] at H
     have c18b0 : decide (12 < (l0_3.length : Int)) = true := decide_eq_true c18
     have c18b1 : decide (12 < l0_3.length) = true := decide_eq_true (by omega)
     clear c18
     replace H' := A_ H; clear H
     obtain ⟨z19_0, z19_1, z19_2, z19_3, z19_4, y19_0, y19_1, y19_2, y19_3, y19_4⟩ := cz5_ BK477
     go_wp2_with (first | (go_at_call 86; refine Y73_ ?_; clear BK477 BKT_ HB; intro w20 BK477 BKT_ HB z21_0 z21_1 z21_2 z21_3 z21_4 y21_0 y21_1 y21_2 y21_3 y21_4) | (go_at_call 62; refine Y74_ ?_; intro nd))
     go_meet
     case rel => exact ⟨_, (true), rt_, H', ⟨by first | omega | exact Nat.le_refl _⟩, ⟨bk_ BK477⟩, ⟨bk_ BKT_⟩, ⟨hb_ HB⟩⟩
    rw [if_neg c18] at H
    have c18b0 : decide (12 < (l0_3.length : Int)) = false := decide_eq_false c18
    have c18b1 : decide (12 < l0_3.length) = false := decide_eq_false (by omega)
    clear c18
    replace H' := A_ H; clear H
    obtain ⟨z22_0, z22_1, z22_2, z22_3, z22_4, y22_0, y22_1, y22_2, y22_3, y22_4⟩ := cz5_ BK477
    go_wp2_with (first | (go_at_call 86; refine Y73_ ?_; clear BK477 BKT_ HB; intro w23 BK477 BKT_ HB z24_0 z24_1 z24_2 z24_3 z24_4 y24_0 y24_1 y24_2 y24_3 y24_4) | (go_at_call 62; refine Y74_ ?_; intro nd))
    go_meet
    case rel => exact ⟨_, (decide ((l0_4.length : Int) > 2)), rt_, H', ⟨by first | omega | exact Nat.le_refl _⟩, ⟨bk_ BK477⟩, ⟨bk_ BKT_⟩, ⟨hb_ HB⟩⟩
   obtain rfl := Bool.eq_false_iff.mpr c13
   replace H := iF_ H
   by_cases c25 : (l0_3.length : Int) > 12
   ·
    rw [if_pos c25] at H
    have c25b0 : decide (12 < (l0_3.length : Int)) = true := decide_eq_true c25
    have c25b1 : decide (12 < l0_3.length) = true := decide_eq_true (by omega)
    clear c25
    replace H' := A_ H; clear H
    obtain ⟨z26_0, z26_1, z26_2, z26_3, z26_4, y26_0, y26_1, y26_2, y26_3, y26_4⟩ := cz5_ BK477
    go_wp2_with (first | (go_at_call 86; refine Y73_ ?_; clear BK477 BKT_ HB; intro w27 BK477 BKT_ HB z28_0 z28_1 z28_2 z28_3 z28_4 y28_0 y28_1 y28_2 y28_3 y28_4) | (go_at_call 62; refine Y74_ ?_; intro nd))
    go_meet
    case rel => exact ⟨_, (true), rt_, H', ⟨by first | omega | exact Nat.le_refl _⟩, ⟨bk_ BK477⟩, ⟨bk_ BKT_⟩, ⟨hb_ HB⟩⟩
   rw [if_neg c25] at H
   have c25b0 : decide (12 < (l0_3.length : Int)) = false := decide_eq_false c25
   have c25b1 : decide (12 < l0_3.length) = false := decide_eq_false (by omega)
   clear c25
   replace H' := A_ H; clear H
   obtain ⟨z29_0, z29_1, z29_2, z29_3, z29_4, y29_0, y29_1, y29_2, y29_3, y29_4⟩ := cz5_ BK477
   go_wp2_with (first | (go_at_call 86; refine Y73_ ?_; clear BK477 BKT_ HB; intro w30 BK477 BKT_ HB z31_0 z31_1 z31_2 z31_3 z31_4 y31_0 y31_1 y31_2 y31_3 y31_4) | (go_at_call 62; refine Y74_ ?_; intro nd))
   go_meet
   case rel => exact ⟨_, (decide ((l0_4.length : Int) > 2)), rt_, H', ⟨by first | omega | exact Nat.le_refl _⟩, ⟨bk_ BK477⟩, ⟨bk_ BKT_⟩, ⟨hb_ HB⟩⟩
  obtain rfl := Bool.eq_false_iff.mpr c12
  replace H := iF_ H
  replace H' := A_ H; clear H
  obtain ⟨z32_0, z32_1, z32_2, z32_3, z32_4, y32_0, y32_1, y32_2, y32_3, y32_4⟩ := cz5_ BK477
  go_wp2_with (first | (go_at_call 86; refine Y73_ ?_; clear BK477 BKT_ HB; intro w33 BK477 BKT_ HB z34_0 z34_1 z34_2 z34_3 z34_4 y34_0 y34_1 y34_2 y34_3 y34_4) | (go_at_call 62; (with_reducible refine (impl_from.calls a0_1 0 (l0_0.length : Int) false _ A11.out).mono ?_); rintro e w' ⟨rfl, ⟨nd, rfl⟩⟩))
  go_meet
  case rel => exact ⟨_, (true), rt_, H', ⟨by first | omega | exact Nat.le_refl _⟩, ⟨bk_ BK477⟩, ⟨bk_ BKT_⟩, ⟨hb_ HB⟩⟩
 case rest =>
  clear HC3
  try clear c5
  try clear c5b0
  try clear c5b1
  try clear c8
  try clear c12
  try clear c13
  try clear c14
  try clear c14b0
  try clear c14b1
  try clear c18
  try clear c18b0
  try clear c18b1
  try clear c25
  try clear c25b0
  try clear c25b1
  obtain ⟨kq, x46_2, rfl, HA, HJ2, BK477, BKT_, HB⟩ := hcut
  cases kq with
  | zero => exact absurd HA.out (by simp [impl_ThreadOk.j0])
  | succ kj2 =>
   have H := HA.out
   clear HA
   simp only [impl_ThreadOk.j0] at H
   by_cases c35 : x46_2 = true
   ·
    subst c35
    replace H := it_ H
    obtain rfl := Option.some.inj H
    go_wp2
    go_ret
    exact ⟨rs_, hb_ HB⟩
   obtain rfl := Bool.eq_false_iff.mpr c35
   replace H := iF_ H
   have HC36 := A_ H
   clear H
   go_upto_region 3 with (fail)
   go_cut [59] (fun v59 wc => ∃ (kq : Nat) (x59_35 : Bool), v59 = .bool x59_35 ∧ Aside0 (impl_ThreadOk.j1 kq a1 x59_35 l0_0 a0_1 a0_2 l0_3 l0_4 = some r) ∧ Aside0 (kq ≤ kj2) ∧ Aside0 (wc.heap[gb477]? = some (.cells #[(.slice A0_0 l0_0.length c0_0), .int .i64 a0_1, .bool a0_2, (.slice A0_3 l0_3.length c0_3), (.slice A0_4 l0_4.length c0_4)] 62 (0, 0))) ∧ Aside0 (wc.heap[gbT_]? = some (.cells #[.int .i64 a1] 3 (0, 0))) ∧ Aside0 (Below w.heap.size w wc))
   case first =>
    have H := HC36.out
    clear HC36
    by_cases c37 : a0_2 = true
    ·
     subst c37
     replace H := it_ H
     replace H' := A_ H; clear H
     obtain ⟨z38_0, z38_1, z38_2, z38_3, z38_4, y38_0, y38_1, y38_2, y38_3, y38_4⟩ := cz5_ BK477
     go_wp2
     go_meet
     case rel => exact ⟨_, (false), rt_, H', ⟨by have := HJ2.out; first | omega | exact Nat.le_refl _⟩, ⟨bk_ BK477⟩, ⟨bk_ BKT_⟩, ⟨hb_ HB⟩⟩
    obtain rfl := Bool.eq_false_iff.mpr c37
    replace H := iF_ H
    replace H' := A_ H; clear H
    obtain ⟨z39_0, z39_1, z39_2, z39_3, z39_4, y39_0, y39_1, y39_2, y39_3, y39_4⟩ := cz5_ BK477
    go_wp2
    go_meet
    case rel => exact ⟨_, (decide ((wrap64 ((l0_3.length : Int) + (l0_4.length : Int))) > 0)), rt_, H', ⟨by have := HJ2.out; first | omega | exact Nat.le_refl _⟩, ⟨bk_ BK477⟩, ⟨bk_ BKT_⟩, ⟨hb_ HB⟩⟩
   case rest =>
    clear HC36
    try clear c5
    try clear c5b0
    try clear c5b1
    try clear c8
    try clear c12
    try clear c13
    try clear c14
    try clear c14b0
    try clear c14b1
    try clear c18
    try clear c18b0
    try clear c18b1
    try clear c25
    try clear c25b0
    try clear c25b1
    try clear c35
    try clear c37
    obtain ⟨kq, x59_35, rfl, HA, HJ35, BK477, BKT_, HB⟩ := hcut
    cases kq with
    | zero => exact absurd HA.out (by simp [impl_ThreadOk.j1])
    | succ kj35 =>
     have H := HA.out
     clear HA
     simp only [impl_ThreadOk.j1] at H
     by_cases c40 : x59_35 = true
     ·
      subst c40
      replace H := it_ H
      obtain rfl := Option.some.inj H
      go_wp2
      go_ret
      exact ⟨rs_, hb_ HB⟩
     obtain rfl := Bool.eq_false_iff.mpr c40
     replace H := iF_ H
     replace H := bs_ H
     obtain ⟨t480, A41, H⟩ := H
     by_cases c42 : t480 = true
     ·
      subst c42
      replace H := it_ H
      obtain rfl := Option.some.inj H
      obtain ⟨z43_0, z43_1, z43_2, z43_3, z43_4, y43_0, y43_1, y43_2, y43_3, y43_4⟩ := cz5_ BK477
      go_wp2_with (first | ((with_reducible refine gate_callee (f := 89) rfl ?_); refine goesL_ (some 62) rfl rfl Tryz.func89 (by kernel_rfl) rfl #[.slice A0_3 l0_3.length c0_3, .func (.func 90) #[] #[]] rfl al_ ?_; (with_reducible refine (slices_ContainsFuncThreadOk_c2.calls kj35 _ _ l0_3 true _ ?s1 ?s2 A41.out).mono ?_); (case s1 => exact cb_ (Kd.C_below HR0_3.out HB.out)); (case s2 => exact HC0_3.out); rintro e w44 ⟨rfl, hb⟩; refine ⟨_, rfl, ?_⟩; have n0_ := bb_ BK477 hb; have nT_ := bb_ BKT_ hb; have n1_ := hs_ HB hb; clear BK477; clear BKT_; clear HB; have BK477 := n0_; have BKT_ := nT_; have HB := n1_; clear n0_ n1_ nT_; clear hb))
      go_ret
      exact ⟨rs_, hb_ HB⟩
     obtain rfl := Bool.eq_false_iff.mpr c42
     replace H := iF_ H
     replace H := bs_ H
     obtain ⟨t481, A45, H⟩ := H
     obtain rfl := Option.some.inj H
     obtain ⟨z46_0, z46_1, z46_2, z46_3, z46_4, y46_0, y46_1, y46_2, y46_3, y46_4⟩ := cz5_ BK477
     go_wp2_with (first | ((with_reducible refine gate_callee (f := 89) rfl ?_); refine goesL_ (some 62) rfl rfl Tryz.func89 (by kernel_rfl) rfl #[.slice A0_3 l0_3.length c0_3, .func (.func 90) #[] #[]] rfl al_ ?_; (with_reducible refine (slices_ContainsFuncThreadOk_c2.calls kj35 _ _ l0_3 false _ ?s1 ?s2 A41.out).mono ?_); (case s1 => exact cb_ (Kd.C_below HR0_3.out HB.out)); (case s2 => exact HC0_3.out); rintro e w47 ⟨rfl, hb⟩; refine ⟨_, rfl, ?_⟩; have n0_ := bb_ BK477 hb; have nT_ := bb_ BKT_ hb; have n1_ := hs_ HB hb; clear BK477; clear BKT_; clear HB; have BK477 := n0_; have BKT_ := nT_; have HB := n1_; clear n0_ n1_ nT_; clear hb; obtain ⟨z48_0, z48_1, z48_2, z48_3, z48_4, y48_0, y48_1, y48_2, y48_3, y48_4⟩ := cz5_ BK477) | ((with_reducible refine gate_callee (f := 93) rfl ?_); refine goesL_ (some 66) rfl rfl Tryz.func93 (by kernel_rfl) rfl #[.slice A0_4 l0_4.length c0_4, .func (.func 94) #[] #[.pointer (some ⟨gbT_, 0, none⟩)]] rfl al_ ?_; (with_reducible refine (slices_ContainsFuncThreadOk_c3.calls kj35 _ _ l0_4 a1 ⟨gbT_, 0, none⟩ t481 _ ?cap_ ?s1 ?s2 A45.out).mono ?_); (case cap_ => exact (blk_cell BKT_.out 0).trans rfl); (case s1 => exact cb_ (Kd.C_below HR0_4.out HB.out)); (case s2 => exact HC0_4.out); rintro e w49 ⟨rfl, hb⟩; refine ⟨_, rfl, ?_⟩; have n0_ := bb_ BK477 hb; have nT_ := bb_ BKT_ hb; have n1_ := hs_ HB hb; clear BK477; clear BKT_; clear HB; have BK477 := n0_; have BKT_ := nT_; have HB := n1_; clear n0_ n1_ nT_; clear hb))
     go_ret
     exact ⟨rs_, hb_ HB⟩
end Go.Proofs.YtdcinhpdpoodfaaGreat.PFnExactFinished
