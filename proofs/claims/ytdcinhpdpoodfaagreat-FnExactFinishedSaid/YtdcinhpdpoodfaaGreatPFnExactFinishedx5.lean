/- Contracts of functions of the program. No condition beyond the hypotheses that each theorem names. -/
import Derived.Test.YtdcinhpdpoodfaaGreatPFnExactFinishedx0
import Derived.Test.YtdcinhpdpoodfaaGreatPFnExactFinishedx3
namespace Go.Proofs.YtdcinhpdpoodfaaGreat.PFnExactFinished
open Go.RowKit Go.Proofs.YtdcinhpdpoodfaaGreatW.PrintWords Go.Proofs.YtdcinhpdpoodfaaGreatW.PrintLast Go.Proofs.YtdcinhpdpoodfaaGreatW.PrintMore
attribute [local go_sem] max2_int min2_int max_two min_two max_three min_three max_four min_four
set_option linter.unusedVariables false
set_option linter.unusedSimpArgs false
mutual
def spec_DescOk.j0 : Nat → Bool → Int → Int → List (S37) → Int → List Int → Option (Bool)
 | 0, _, _, _, _, _, _ => none
 | k + 1, x45, x153000, x153001, x153002, x153003, x153004 => if x45 = true then (some false) else (spec_DescOk.l0 k 0 x153000 x153001 x153002 x153003 x153004)
def spec_DescOk.l0 : Nat → Int → Int → Int → List (S37) → Int → List Int → Option (Bool)
 | 0, _, _, _, _, _, _ => none
 | k + 1, x3, x153000, x153001, x153002, x153003, x153004 => if x3 < (x153002.length : Int) then (if 0 ≤ x3 then ((spec_l1In.f ((rd_T37 x153002 x3).f0) 0 19).bind fun t157 => (if t157 = true then ((spec_l1In.f ((rd_T37 x153002 x3).f1) 0 1000).bind fun t158 => (if t158 = true then ((spec_l1In.f ((rd_T37 x153002 x3).f2) 0 1000).bind fun t159 => (if t159 = true then (if x3 > 0 then (if 0 ≤ (wrap64 (x3 - 1)) then (if (wrap64 (x3 - 1)) < (x153002.length : Int) then (if ((rd_T37 x153002 (wrap64 (x3 - 1))).f0) ≥ ((rd_T37 x153002 x3).f0) then (some false) else (spec_DescOk.l0 k (wrap64 (x3 + 1)) x153000 x153001 x153002 x153003 x153004)) else (none)) else (none)) else (spec_DescOk.l0 k (wrap64 (x3 + 1)) x153000 x153001 x153002 x153003 x153004)) else (some false))) else (some false))) else (some false))) else (none)) else (some true)
end
def spec_DescOk.f (k : Nat) (a0_0 : Int) (a0_1 : Int) (l0_2 : List (S37)) (a0_3 : Int) (l0_4 : List Int) : Option (Bool) := if a0_0 = 0 then (if a0_1 = 0 then (if (l0_2.length : Int) = 0 then (if a0_3 = 0 then (some ((l0_4.length : Int) == 0)) else (some false)) else (some false)) else (some false)) else ((spec_l1In.f a0_0 1 1000000).bind fun t153 => (if t153 = true then ((spec_l1In.f a0_1 1 3).bind fun t154 => (if t154 = true then (spec_DescOk.j0 k (decide ((l0_2.length : Int) > 20)) a0_0 a0_1 l0_2 a0_3 l0_4) else (spec_DescOk.j0 k true a0_0 a0_1 l0_2 a0_3 l0_4))) else (spec_DescOk.j0 k true a0_0 a0_1 l0_2 a0_3 l0_4)))
set_option maxHeartbeats 8000000 in
set_option maxRecDepth 100000 in
theorem spec_DescOk.calls (k : Nat) (a0_0 : Int) (a0_1 : Int) (A0_2 : Option Addr) (c0_2 : Nat) (l0_2 : List (S37)) (a0_3 : Int) (A0_4 : Option Addr) (c0_4 : Nat) (l0_4 : List Int) (r : Bool) (w : World) (hr0_2 : Kd.C k37 w A0_2 l0_2.length l0_2) (hc0_2 : l0_2.length ≤ c0_2) (hr0_4 : Kd.C (Kd.int .i64) w A0_4 l0_4.length l0_4) (hc0_4 : l0_4.length ≤ c0_4) (h : spec_DescOk.f k a0_0 a0_1 l0_2 a0_3 l0_4 = some r) :
    Calls Tryz.prog 125 #[.agg #[.int .i64 a0_0, .int .i64 a0_1, .slice A0_2 l0_2.length c0_2, .int .i64 a0_3, .slice A0_4 l0_4.length c0_4]] w fun e w' => e = .returned (.bool r) ∧ Below w.heap.size w w' := by
 have hu52 := Tryz.underlying52
 have hu37 := Tryz.underlying37
 have HR0_2 := A_ hr0_2
 have HC0_2 := A_ hc0_2
 clear hr0_2 hc0_2
 have HR0_4 := A_ hr0_4
 have HC0_4 := A_ hc0_4
 clear hr0_4 hc0_4
 have HB := A_ (Below.refl w.heap.size w)
 have H : (if a0_0 = 0 then (if a0_1 = 0 then (if (l0_2.length : Int) = 0 then (if a0_3 = 0 then (some ((l0_4.length : Int) == 0)) else (some false)) else (some false)) else (some false)) else ((spec_l1In.f a0_0 1 1000000).bind fun t153 => (if t153 = true then ((spec_l1In.f a0_1 1 3).bind fun t154 => (if t154 = true then (spec_DescOk.j0 k (decide ((l0_2.length : Int) > 20)) a0_0 a0_1 l0_2 a0_3 l0_4) else (spec_DescOk.j0 k true a0_0 a0_1 l0_2 a0_3 l0_4))) else (spec_DescOk.j0 k true a0_0 a0_1 l0_2 a0_3 l0_4)))) = some r := h
 clear h
 by_cases c2 : a0_0 = 0
 ·
  rw [if_pos c2] at H
  have c2b0 : (a0_0 == 0) = true := beq_iff_eq.mpr c2
  have c2b1 : (a0_0 != 0) = false := bne_eq_false_iff_eq.mpr c2
  clear c2
  by_cases c3 : a0_1 = 0
  ·
   rw [if_pos c3] at H
   have c3b0 : (a0_1 == 0) = true := beq_iff_eq.mpr c3
   have c3b1 : (a0_1 != 0) = false := bne_eq_false_iff_eq.mpr c3
   clear c3
   by_cases c4 : (l0_2.length : Int) = 0
   ·
    rw [if_pos c4] at H
    have c4b0 : ((l0_2.length : Int) == 0) = true := beq_iff_eq.mpr c4
    have c4b1 : ((l0_2.length : Int) != 0) = false := bne_eq_false_iff_eq.mpr c4
    clear c4
    by_cases c5 : a0_3 = 0
    ·
     rw [if_pos c5] at H
     have c5b0 : (a0_3 == 0) = true := beq_iff_eq.mpr c5
     have c5b1 : (a0_3 != 0) = false := bne_eq_false_iff_eq.mpr c5
     clear c5
     obtain rfl := Option.some.inj H
     go_enter Tryz.func125, Tryz.ntmps125
     iterate 5 (try go_wp2_with (first | ((with_reducible refine gate_dst (N := 1) rfl ?_); refine Y30_ ?_; clear HB; intro gb152 w6 BK152 GW152 HB z7_0 z7_1 z7_2 z7_3 z7_4 y7_0 y7_1 y7_2 y7_3 y7_4)); try go_quiet (first | ((with_reducible refine gate_dst (N := 1) rfl ?_); refine Y30_ ?_; clear HB; intro gb152 w6 BK152 GW152 HB z7_0 z7_1 z7_2 z7_3 z7_4 y7_0 y7_1 y7_2 y7_3 y7_4)))
     go_ret
     exact ⟨rs_, hb_ HB⟩
    rw [if_neg c5] at H
    have c5b0 : (a0_3 == 0) = false := beq_eq_false_iff_ne.mpr c5
    have c5b1 : (a0_3 != 0) = true := bne_iff_ne.mpr c5
    obtain rfl := Option.some.inj H
    go_enter Tryz.func125, Tryz.ntmps125
    iterate 5 (try go_wp2_with (first | ((with_reducible refine gate_dst (N := 1) rfl ?_); refine Y30_ ?_; clear HB; intro gb152 w8 BK152 GW152 HB z9_0 z9_1 z9_2 z9_3 z9_4 y9_0 y9_1 y9_2 y9_3 y9_4)); try go_quiet (first | ((with_reducible refine gate_dst (N := 1) rfl ?_); refine Y30_ ?_; clear HB; intro gb152 w8 BK152 GW152 HB z9_0 z9_1 z9_2 z9_3 z9_4 y9_0 y9_1 y9_2 y9_3 y9_4)))
    go_ret
    exact ⟨rs_, hb_ HB⟩
   rw [if_neg c4] at H
   have c4b0 : ((l0_2.length : Int) == 0) = false := beq_eq_false_iff_ne.mpr c4
   have c4b1 : ((l0_2.length : Int) != 0) = true := bne_iff_ne.mpr c4
   have c4b2 : ¬ (l0_2 = []) := fun h_ => c4 (by rw [h_]; rfl)
   obtain rfl := Option.some.inj H
   go_enter Tryz.func125, Tryz.ntmps125
   iterate 5 (try go_wp2_with (first | ((with_reducible refine gate_dst (N := 1) rfl ?_); refine Y30_ ?_; clear HB; intro gb152 w10 BK152 GW152 HB z11_0 z11_1 z11_2 z11_3 z11_4 y11_0 y11_1 y11_2 y11_3 y11_4)); try go_quiet (first | ((with_reducible refine gate_dst (N := 1) rfl ?_); refine Y30_ ?_; clear HB; intro gb152 w10 BK152 GW152 HB z11_0 z11_1 z11_2 z11_3 z11_4 y11_0 y11_1 y11_2 y11_3 y11_4)))
   go_ret
   exact ⟨rs_, hb_ HB⟩
  rw [if_neg c3] at H
  have c3b0 : (a0_1 == 0) = false := beq_eq_false_iff_ne.mpr c3
  have c3b1 : (a0_1 != 0) = true := bne_iff_ne.mpr c3
  obtain rfl := Option.some.inj H
  go_enter Tryz.func125, Tryz.ntmps125
  iterate 5 (try go_wp2_with (first | ((with_reducible refine gate_dst (N := 1) rfl ?_); refine Y30_ ?_; clear HB; intro gb152 w12 BK152 GW152 HB z13_0 z13_1 z13_2 z13_3 z13_4 y13_0 y13_1 y13_2 y13_3 y13_4)); try go_quiet (first | ((with_reducible refine gate_dst (N := 1) rfl ?_); refine Y30_ ?_; clear HB; intro gb152 w12 BK152 GW152 HB z13_0 z13_1 z13_2 z13_3 z13_4 y13_0 y13_1 y13_2 y13_3 y13_4)))
  go_ret
  exact ⟨rs_, hb_ HB⟩
 rw [if_neg c2] at H
 have c2b0 : (a0_0 == 0) = false := beq_eq_false_iff_ne.mpr c2
 have c2b1 : (a0_0 != 0) = true := bne_iff_ne.mpr c2
 have HC14 := A_ H
 clear H
 go_enter Tryz.func125, Tryz.ntmps125
 go_upto_region 3 with (first | ((with_reducible refine gate_dst (N := 1) rfl ?_); refine Y30_ ?_; clear HB; intro gb152 w15 BK152 GW152 HB z16_0 z16_1 z16_2 z16_3 z16_4 y16_0 y16_1 y16_2 y16_3 y16_4))
 repeat (go_quiet (first | ((with_reducible refine gate_dst (N := 1) rfl ?_); refine Y30_ ?_; clear HB; intro gb152 w15 BK152 GW152 HB z16_0 z16_1 z16_2 z16_3 z16_4 y16_0 y16_1 y16_2 y16_3 y16_4)); go_upto_region 3 with (first | ((with_reducible refine gate_dst (N := 1) rfl ?_); refine Y30_ ?_; clear HB; intro gb152 w15 BK152 GW152 HB z16_0 z16_1 z16_2 z16_3 z16_4 y16_0 y16_1 y16_2 y16_3 y16_4)))
 (try simp only [Act.put, List.setIfInBounds_toArray, List.set_cons_zero, List.set_cons_succ])
 go_cut [45] (fun v45 wc => ∃ (kq : Nat) (x45_13 : Bool), v45 = .bool x45_13 ∧ Aside0 (spec_DescOk.j0 kq x45_13 a0_0 a0_1 l0_2 a0_3 l0_4 = some r) ∧ Aside0 (kq ≤ k) ∧ Aside0 (wc.heap[gb152]? = some (.cells #[.int .i64 a0_0, .int .i64 a0_1, (.slice A0_2 l0_2.length c0_2), .int .i64 a0_3, (.slice A0_4 l0_4.length c0_4)] 52 (0, 0))) ∧ Aside0 (Below w.heap.size w wc))
 case first =>
  have H := HC14.out
  clear HC14
  replace H := bs_ H
  obtain ⟨t153, A17, H⟩ := H
  by_cases c18 : t153 = true
  ·
   subst c18
   replace H := it_ H
   replace H := bs_ H
   obtain ⟨t154, A19, H⟩ := H
   by_cases c20 : t154 = true
   ·
    subst c20
    replace H := it_ H
    replace H' := A_ H; clear H
    obtain ⟨z21_0, z21_1, z21_2, z21_3, z21_4, y21_0, y21_1, y21_2, y21_3, y21_4⟩ := cz5_ BK152
    iterate 5 (try go_wp2_with (first | (go_at_call 70; refine Y31_ ?_; intro nd; (try exact dd_)) | (go_at_call 70; (with_reducible refine (spec_l1In.calls a0_1 1 3 true _ A19.out).mono ?_); rintro e w' ⟨rfl, ⟨nd, rfl⟩⟩; (try exact dd_))); try go_quiet (first | (go_at_call 70; refine Y31_ ?_; intro nd; (try exact dd_)) | (go_at_call 70; (with_reducible refine (spec_l1In.calls a0_1 1 3 true _ A19.out).mono ?_); rintro e w' ⟨rfl, ⟨nd, rfl⟩⟩; (try exact dd_))))
    go_meet
    case rel => exact ⟨_, (decide ((l0_2.length : Int) > 20)), rt_, H', ⟨by first | omega | exact Nat.le_refl _⟩, ⟨bk_ BK152⟩, ⟨hb_ HB⟩⟩
   obtain rfl := Bool.eq_false_iff.mpr c20
   replace H := iF_ H
   replace H' := A_ H; clear H
   obtain ⟨z22_0, z22_1, z22_2, z22_3, z22_4, y22_0, y22_1, y22_2, y22_3, y22_4⟩ := cz5_ BK152
   iterate 5 (try go_wp2_with (first | (go_at_call 70; refine Y31_ ?_; intro nd; (try exact dd_)) | (go_at_call 70; (with_reducible refine (spec_l1In.calls a0_1 1 3 false _ A19.out).mono ?_); rintro e w' ⟨rfl, ⟨nd, rfl⟩⟩; (try exact dd_))); try go_quiet (first | (go_at_call 70; refine Y31_ ?_; intro nd; (try exact dd_)) | (go_at_call 70; (with_reducible refine (spec_l1In.calls a0_1 1 3 false _ A19.out).mono ?_); rintro e w' ⟨rfl, ⟨nd, rfl⟩⟩; (try exact dd_))))
   go_meet
   case rel => exact ⟨_, (true), rt_, H', ⟨by first | omega | exact Nat.le_refl _⟩, ⟨bk_ BK152⟩, ⟨hb_ HB⟩⟩
  obtain rfl := Bool.eq_false_iff.mpr c18
  replace H := iF_ H
  replace H' := A_ H; clear H
  obtain ⟨z23_0, z23_1, z23_2, z23_3, z23_4, y23_0, y23_1, y23_2, y23_3, y23_4⟩ := cz5_ BK152
  iterate 5 (try go_wp2_with (first | (go_at_call 70; (with_reducible refine (spec_l1In.calls a0_0 1 1000000 false _ A17.out).mono ?_); rintro e w' ⟨rfl, ⟨nd, rfl⟩⟩; (try exact dd_))); try go_quiet (first | (go_at_call 70; (with_reducible refine (spec_l1In.calls a0_0 1 1000000 false _ A17.out).mono ?_); rintro e w' ⟨rfl, ⟨nd, rfl⟩⟩; (try exact dd_))))
  go_meet
  case rel => exact ⟨_, (true), rt_, H', ⟨by first | omega | exact Nat.le_refl _⟩, ⟨bk_ BK152⟩, ⟨hb_ HB⟩⟩
 case rest =>
  clear HC14
  try clear c2
  try clear c2b0
  try clear c2b1
  try clear c3
  try clear c3b0
  try clear c3b1
  try clear c4
  try clear c4b0
  try clear c4b1
  try clear c4b2
  try clear c5
  try clear c5b0
  try clear c5b1
  try clear c12
  try clear c18
  try clear c20
  obtain ⟨kq, x45_13, rfl, HA, HJ13, BK152, HB⟩ := hcut
  cases kq with
  | zero => exact absurd HA.out (by simp [spec_DescOk.j0])
  | succ kj13 =>
   have H := HA.out
   clear HA
   simp only [spec_DescOk.j0] at H
   by_cases c24 : x45_13 = true
   ·
    subst c24
    replace H := it_ H
    obtain rfl := Option.some.inj H
    go_wp2
    repeat (go_quiet (fail); try go_wp2)
    go_ret
    exact ⟨rs_, hb_ HB⟩
   obtain rfl := Bool.eq_false_iff.mpr c24
   replace H := iF_ H
   replace H' := A_ H; clear H
   go_wp2
   repeat (go_quiet (fail); try go_wp2)
   go_loopg [3] kj13 (fun kq v3 w' => ∃ (x3_2 : Int), v3 = .int .i64 x3_2 ∧ Aside0 (spec_DescOk.l0 kq x3_2 a0_0 a0_1 l0_2 a0_3 l0_4 = some r) ∧ Aside0 (kq ≤ kj13) ∧ Aside0 (w'.heap[gb152]? = some (.cells #[.int .i64 a0_0, .int .i64 a0_1, (.slice A0_2 l0_2.length c0_2), .int .i64 a0_3, (.slice A0_4 l0_4.length c0_4)] 52 (0, 0))) ∧ Aside0 (Below w.heap.size w w'))
   case atStart => exact ⟨(0), rt_, H', ⟨Nat.le_refl _⟩, ⟨bk_ BK152⟩, ⟨hb_ HB⟩⟩
   case round =>
    clear H'
    try clear c2
    try clear c2b0
    try clear c2b1
    try clear c3
    try clear c3b0
    try clear c3b1
    try clear c4
    try clear c4b0
    try clear c4b1
    try clear c4b2
    try clear c5
    try clear c5b0
    try clear c5b1
    try clear c12
    try clear c18
    try clear c20
    try clear c24
    obtain ⟨x3_2, rfl, HA, HK2, BK152, HB⟩ := hrel
    cases gk with
    | zero => exact absurd HA.out (by simp [spec_DescOk.l0])
    | succ k2 =>
     have H := HA.out
     clear HA
     simp only [spec_DescOk.l0] at H
     replace H := ic_ H
     rcases H with ⟨c25b0, H⟩ | ⟨c25b0, H⟩
     ·
      replace H := ix_ H
      obtain ⟨c26b0, H⟩ := H
      replace H := bs_ H
      obtain ⟨t157, A27, H⟩ := H
      by_cases c28 : t157 = true
      ·
       subst c28
       replace H := it_ H
       replace H := bs_ H
       obtain ⟨t158, A29, H⟩ := H
       by_cases c30 : t158 = true
       ·
        subst c30
        replace H := it_ H
        replace H := bs_ H
        obtain ⟨t159, A31, H⟩ := H
        by_cases c32 : t159 = true
        ·
         subst c32
         replace H := it_ H
         replace H := ic_ H
         rcases H with ⟨c33b0, H⟩ | ⟨c33b0, H⟩
         ·
          obtain ⟨ji34, hji34⟩ : ∃ j_ : Int, (wrap64 (x3_2 - 1)) = j_ := ⟨_, rfl⟩
          replace H : (if 0 ≤ (ji34) then (if (ji34) < (l0_2.length : Int) then (if ((rd_T37 l0_2 (ji34)).f0) ≥ ((rd_T37 l0_2 x3_2).f0) then (some false) else (spec_DescOk.l0 k2 (wrap64 (x3_2 + 1)) a0_0 a0_1 l0_2 a0_3 l0_4)) else (none)) else (none)) = some r := by first | (rw [hji34] at H; exact H) | (simp only [hji34] at H ⊢; exact H)
          (try rw [hji34] at A27)
          (try rw [hji34] at A29)
          (try rw [hji34] at A31)
          have hji34w : (IntKind.i64.wrap (x3_2 - 1)) = ji34 := (i64_w _).trans hji34
          replace H := ix_ H
          obtain ⟨c35b0, H⟩ := H
          replace H := ix_ H
          obtain ⟨c36b0, H⟩ := H
          replace H := ic_ H
          rcases H with ⟨c37b0, H⟩ | ⟨c37b0, H⟩
          ·
           obtain rfl := Option.some.inj H
           obtain ⟨z38_0, z38_1, z38_2, z38_3, z38_4, y38_0, y38_1, y38_2, y38_3, y38_4⟩ := cz5_ BK152
           obtain ⟨ad155, p155, q155, rfl, u155_0, u155_1, u155_2⟩ := ab_T37 HB HR0_2 x3_2
           iterate 5 (try go_wp2_with (first | ((with_reducible refine gate_dst (N := 4) rfl ?_); refine Y32_ ?_; clear HB BK152; intro gb156 w39 BK156 GW156 HB NB152_156 NB156_152 BK152 hnb40 hnc40 z41_0 z41_1 z41_2 y41_0 y41_1 y41_2) | (go_at_call 70; refine Y33_ ?_; intro nd; (try exact dd_)) | (go_at_call 70; refine Y34_ ?_; intro nd; (try exact dd_)) | (go_at_call 70; refine Y35_ ?_; intro nd; (try exact dd_); obtain ⟨z42_0, z42_1, z42_2, z42_3, z42_4, y42_0, y42_1, y42_2, y42_3, y42_4⟩ := cz5_ BK152; have p160 : 0 ≤ ((ji34) : Int) := od_; have q160 : (ji34) < (l0_2.length : Int) := od_; obtain ⟨ad160, e160, u160_0, u160_1, u160_2⟩ := at_T37 HR0_2.out (ji34) p160 q160; obtain rfl : ad155 = ad160 := (by injection e160); have hn160_0 : ad155.block ≠ gb156 := Nat.ne_of_lt (Nat.lt_of_lt_of_le (by have := World.block_lt_of_cell? _ _ u160_0; first | rwa [add_block] at this | exact this) GW156.out); have hn160_1 : ad155.block ≠ gb156 := Nat.ne_of_lt (Nat.lt_of_lt_of_le (by have := World.block_lt_of_cell? _ _ u160_0; first | rwa [add_block] at this | exact this) GW156.out); have hn160_2 : ad155.block ≠ gb156 := Nat.ne_of_lt (Nat.lt_of_lt_of_le (by have := World.block_lt_of_cell? _ _ u160_0; first | rwa [add_block] at this | exact this) GW156.out); replace u160_0 := hx_ HB u160_0; replace u160_1 := hx_ HB u160_1; replace u160_2 := hx_ HB u160_2; replace u160_0 := cf_ 0 hn160_0 (.int .i64 ((rd_T37 l0_2 x3_2).f0)) u160_0; replace u160_1 := cf_ 0 hn160_0 (.int .i64 ((rd_T37 l0_2 x3_2).f0)) u160_1; replace u160_2 := cf_ 0 hn160_0 (.int .i64 ((rd_T37 l0_2 x3_2).f0)) u160_2; replace u160_0 := cf_ 1 hn160_1 (.int .i64 ((rd_T37 l0_2 x3_2).f1)) u160_0; replace u160_1 := cf_ 1 hn160_1 (.int .i64 ((rd_T37 l0_2 x3_2).f1)) u160_1; replace u160_2 := cf_ 1 hn160_1 (.int .i64 ((rd_T37 l0_2 x3_2).f1)) u160_2; replace u160_0 := cf_ 2 hn160_2 (.int .i64 ((rd_T37 l0_2 x3_2).f2)) u160_0; replace u160_1 := cf_ 2 hn160_2 (.int .i64 ((rd_T37 l0_2 x3_2).f2)) u160_1; replace u160_2 := cf_ 2 hn160_2 (.int .i64 ((rd_T37 l0_2 x3_2).f2)) u160_2; (try have hy160_0 := fun (n_ : Nat) => (show (((((w39.drewN n_).setCell ⟨gb156, 0, none⟩ (.int .i64 ((rd_T37 l0_2 x3_2).f0))).setCell ⟨gb156, 1, none⟩ (.int .i64 ((rd_T37 l0_2 x3_2).f1))).setCell ⟨gb156, 2, none⟩ (.int .i64 ((rd_T37 l0_2 x3_2).f2)))).cell? _ = some _ from u160_0)); (try have hy160_1 := fun (n_ : Nat) => (show (((((w39.drewN n_).setCell ⟨gb156, 0, none⟩ (.int .i64 ((rd_T37 l0_2 x3_2).f0))).setCell ⟨gb156, 1, none⟩ (.int .i64 ((rd_T37 l0_2 x3_2).f1))).setCell ⟨gb156, 2, none⟩ (.int .i64 ((rd_T37 l0_2 x3_2).f2)))).cell? _ = some _ from u160_1)); (try have hy160_2 := fun (n_ : Nat) => (show (((((w39.drewN n_).setCell ⟨gb156, 0, none⟩ (.int .i64 ((rd_T37 l0_2 x3_2).f0))).setCell ⟨gb156, 1, none⟩ (.int .i64 ((rd_T37 l0_2 x3_2).f1))).setCell ⟨gb156, 2, none⟩ (.int .i64 ((rd_T37 l0_2 x3_2).f2)))).cell? _ = some _ from u160_2)); clear hn160_0; clear hn160_1; clear hn160_2; replace p160 := eq_true p160; replace q160 := eq_true q160)); try go_quiet (first | ((with_reducible refine gate_dst (N := 4) rfl ?_); refine Y32_ ?_; clear HB BK152; intro gb156 w39 BK156 GW156 HB NB152_156 NB156_152 BK152 hnb40 hnc40 z41_0 z41_1 z41_2 y41_0 y41_1 y41_2) | (go_at_call 70; refine Y33_ ?_; intro nd; (try exact dd_)) | (go_at_call 70; refine Y34_ ?_; intro nd; (try exact dd_)) | (go_at_call 70; refine Y35_ ?_; intro nd; (try exact dd_); obtain ⟨z42_0, z42_1, z42_2, z42_3, z42_4, y42_0, y42_1, y42_2, y42_3, y42_4⟩ := cz5_ BK152; have p160 : 0 ≤ ((ji34) : Int) := od_; have q160 : (ji34) < (l0_2.length : Int) := od_; obtain ⟨ad160, e160, u160_0, u160_1, u160_2⟩ := at_T37 HR0_2.out (ji34) p160 q160; obtain rfl : ad155 = ad160 := (by injection e160); have hn160_0 : ad155.block ≠ gb156 := Nat.ne_of_lt (Nat.lt_of_lt_of_le (by have := World.block_lt_of_cell? _ _ u160_0; first | rwa [add_block] at this | exact this) GW156.out); have hn160_1 : ad155.block ≠ gb156 := Nat.ne_of_lt (Nat.lt_of_lt_of_le (by have := World.block_lt_of_cell? _ _ u160_0; first | rwa [add_block] at this | exact this) GW156.out); have hn160_2 : ad155.block ≠ gb156 := Nat.ne_of_lt (Nat.lt_of_lt_of_le (by have := World.block_lt_of_cell? _ _ u160_0; first | rwa [add_block] at this | exact this) GW156.out); replace u160_0 := hx_ HB u160_0; replace u160_1 := hx_ HB u160_1; replace u160_2 := hx_ HB u160_2; replace u160_0 := cf_ 0 hn160_0 (.int .i64 ((rd_T37 l0_2 x3_2).f0)) u160_0; replace u160_1 := cf_ 0 hn160_0 (.int .i64 ((rd_T37 l0_2 x3_2).f0)) u160_1; replace u160_2 := cf_ 0 hn160_0 (.int .i64 ((rd_T37 l0_2 x3_2).f0)) u160_2; replace u160_0 := cf_ 1 hn160_1 (.int .i64 ((rd_T37 l0_2 x3_2).f1)) u160_0; replace u160_1 := cf_ 1 hn160_1 (.int .i64 ((rd_T37 l0_2 x3_2).f1)) u160_1; replace u160_2 := cf_ 1 hn160_1 (.int .i64 ((rd_T37 l0_2 x3_2).f1)) u160_2; replace u160_0 := cf_ 2 hn160_2 (.int .i64 ((rd_T37 l0_2 x3_2).f2)) u160_0; replace u160_1 := cf_ 2 hn160_2 (.int .i64 ((rd_T37 l0_2 x3_2).f2)) u160_1; replace u160_2 := cf_ 2 hn160_2 (.int .i64 ((rd_T37 l0_2 x3_2).f2)) u160_2; (try have hy160_0 := fun (n_ : Nat) => (show (((((w39.drewN n_).setCell ⟨gb156, 0, none⟩ (.int .i64 ((rd_T37 l0_2 x3_2).f0))).setCell ⟨gb156, 1, none⟩ (.int .i64 ((rd_T37 l0_2 x3_2).f1))).setCell ⟨gb156, 2, none⟩ (.int .i64 ((rd_T37 l0_2 x3_2).f2)))).cell? _ = some _ from u160_0)); (try have hy160_1 := fun (n_ : Nat) => (show (((((w39.drewN n_).setCell ⟨gb156, 0, none⟩ (.int .i64 ((rd_T37 l0_2 x3_2).f0))).setCell ⟨gb156, 1, none⟩ (.int .i64 ((rd_T37 l0_2 x3_2).f1))).setCell ⟨gb156, 2, none⟩ (.int .i64 ((rd_T37 l0_2 x3_2).f2)))).cell? _ = some _ from u160_1)); (try have hy160_2 := fun (n_ : Nat) => (show (((((w39.drewN n_).setCell ⟨gb156, 0, none⟩ (.int .i64 ((rd_T37 l0_2 x3_2).f0))).setCell ⟨gb156, 1, none⟩ (.int .i64 ((rd_T37 l0_2 x3_2).f1))).setCell ⟨gb156, 2, none⟩ (.int .i64 ((rd_T37 l0_2 x3_2).f2)))).cell? _ = some _ from u160_2)); clear hn160_0; clear hn160_1; clear hn160_2; replace p160 := eq_true p160; replace q160 := eq_true q160)))
           go_ret
           exact ⟨by first | rfl | (simp [errW_none, errW_some] <;> rfl) | (simp only [← hji34]; first | rfl | (simp [errW_none, errW_some] <;> rfl)) | (simp [*, errW_none, errW_some] <;> rfl), hb_ HB⟩
          replace H' := A_ H; clear H
          obtain ⟨z43_0, z43_1, z43_2, z43_3, z43_4, y43_0, y43_1, y43_2, y43_3, y43_4⟩ := cz5_ BK152
          obtain ⟨ad155, p155, q155, rfl, u155_0, u155_1, u155_2⟩ := ab_T37 HB HR0_2 x3_2
          iterate 5 (try go_wp2_with (first | ((with_reducible refine gate_dst (N := 4) rfl ?_); refine Y32_ ?_; clear HB BK152; intro gb156 w44 BK156 GW156 HB NB152_156 NB156_152 BK152 hnb45 hnc45 z46_0 z46_1 z46_2 y46_0 y46_1 y46_2) | (go_at_call 70; refine Y33_ ?_; intro nd; (try exact dd_)) | (go_at_call 70; refine Y34_ ?_; intro nd; (try exact dd_)) | (go_at_call 70; refine Y35_ ?_; intro nd; (try exact dd_); obtain ⟨z47_0, z47_1, z47_2, z47_3, z47_4, y47_0, y47_1, y47_2, y47_3, y47_4⟩ := cz5_ BK152; have p160 : 0 ≤ ((ji34) : Int) := od_; have q160 : (ji34) < (l0_2.length : Int) := od_; obtain ⟨ad160, e160, u160_0, u160_1, u160_2⟩ := at_T37 HR0_2.out (ji34) p160 q160; obtain rfl : ad155 = ad160 := (by injection e160); have hn160_0 : ad155.block ≠ gb156 := Nat.ne_of_lt (Nat.lt_of_lt_of_le (by have := World.block_lt_of_cell? _ _ u160_0; first | rwa [add_block] at this | exact this) GW156.out); have hn160_1 : ad155.block ≠ gb156 := Nat.ne_of_lt (Nat.lt_of_lt_of_le (by have := World.block_lt_of_cell? _ _ u160_0; first | rwa [add_block] at this | exact this) GW156.out); have hn160_2 : ad155.block ≠ gb156 := Nat.ne_of_lt (Nat.lt_of_lt_of_le (by have := World.block_lt_of_cell? _ _ u160_0; first | rwa [add_block] at this | exact this) GW156.out); replace u160_0 := hx_ HB u160_0; replace u160_1 := hx_ HB u160_1; replace u160_2 := hx_ HB u160_2; replace u160_0 := cf_ 0 hn160_0 (.int .i64 ((rd_T37 l0_2 x3_2).f0)) u160_0; replace u160_1 := cf_ 0 hn160_0 (.int .i64 ((rd_T37 l0_2 x3_2).f0)) u160_1; replace u160_2 := cf_ 0 hn160_0 (.int .i64 ((rd_T37 l0_2 x3_2).f0)) u160_2; replace u160_0 := cf_ 1 hn160_1 (.int .i64 ((rd_T37 l0_2 x3_2).f1)) u160_0; replace u160_1 := cf_ 1 hn160_1 (.int .i64 ((rd_T37 l0_2 x3_2).f1)) u160_1; replace u160_2 := cf_ 1 hn160_1 (.int .i64 ((rd_T37 l0_2 x3_2).f1)) u160_2; replace u160_0 := cf_ 2 hn160_2 (.int .i64 ((rd_T37 l0_2 x3_2).f2)) u160_0; replace u160_1 := cf_ 2 hn160_2 (.int .i64 ((rd_T37 l0_2 x3_2).f2)) u160_1; replace u160_2 := cf_ 2 hn160_2 (.int .i64 ((rd_T37 l0_2 x3_2).f2)) u160_2; (try have hy160_0 := fun (n_ : Nat) => (show (((((w44.drewN n_).setCell ⟨gb156, 0, none⟩ (.int .i64 ((rd_T37 l0_2 x3_2).f0))).setCell ⟨gb156, 1, none⟩ (.int .i64 ((rd_T37 l0_2 x3_2).f1))).setCell ⟨gb156, 2, none⟩ (.int .i64 ((rd_T37 l0_2 x3_2).f2)))).cell? _ = some _ from u160_0)); (try have hy160_1 := fun (n_ : Nat) => (show (((((w44.drewN n_).setCell ⟨gb156, 0, none⟩ (.int .i64 ((rd_T37 l0_2 x3_2).f0))).setCell ⟨gb156, 1, none⟩ (.int .i64 ((rd_T37 l0_2 x3_2).f1))).setCell ⟨gb156, 2, none⟩ (.int .i64 ((rd_T37 l0_2 x3_2).f2)))).cell? _ = some _ from u160_1)); (try have hy160_2 := fun (n_ : Nat) => (show (((((w44.drewN n_).setCell ⟨gb156, 0, none⟩ (.int .i64 ((rd_T37 l0_2 x3_2).f0))).setCell ⟨gb156, 1, none⟩ (.int .i64 ((rd_T37 l0_2 x3_2).f1))).setCell ⟨gb156, 2, none⟩ (.int .i64 ((rd_T37 l0_2 x3_2).f2)))).cell? _ = some _ from u160_2)); clear hn160_0; clear hn160_1; clear hn160_2; replace p160 := eq_true p160; replace q160 := eq_true q160)); try go_quiet (first | ((with_reducible refine gate_dst (N := 4) rfl ?_); refine Y32_ ?_; clear HB BK152; intro gb156 w44 BK156 GW156 HB NB152_156 NB156_152 BK152 hnb45 hnc45 z46_0 z46_1 z46_2 y46_0 y46_1 y46_2) | (go_at_call 70; refine Y33_ ?_; intro nd; (try exact dd_)) | (go_at_call 70; refine Y34_ ?_; intro nd; (try exact dd_)) | (go_at_call 70; refine Y35_ ?_; intro nd; (try exact dd_); obtain ⟨z47_0, z47_1, z47_2, z47_3, z47_4, y47_0, y47_1, y47_2, y47_3, y47_4⟩ := cz5_ BK152; have p160 : 0 ≤ ((ji34) : Int) := od_; have q160 : (ji34) < (l0_2.length : Int) := od_; obtain ⟨ad160, e160, u160_0, u160_1, u160_2⟩ := at_T37 HR0_2.out (ji34) p160 q160; obtain rfl : ad155 = ad160 := (by injection e160); have hn160_0 : ad155.block ≠ gb156 := Nat.ne_of_lt (Nat.lt_of_lt_of_le (by have := World.block_lt_of_cell? _ _ u160_0; first | rwa [add_block] at this | exact this) GW156.out); have hn160_1 : ad155.block ≠ gb156 := Nat.ne_of_lt (Nat.lt_of_lt_of_le (by have := World.block_lt_of_cell? _ _ u160_0; first | rwa [add_block] at this | exact this) GW156.out); have hn160_2 : ad155.block ≠ gb156 := Nat.ne_of_lt (Nat.lt_of_lt_of_le (by have := World.block_lt_of_cell? _ _ u160_0; first | rwa [add_block] at this | exact this) GW156.out); replace u160_0 := hx_ HB u160_0; replace u160_1 := hx_ HB u160_1; replace u160_2 := hx_ HB u160_2; replace u160_0 := cf_ 0 hn160_0 (.int .i64 ((rd_T37 l0_2 x3_2).f0)) u160_0; replace u160_1 := cf_ 0 hn160_0 (.int .i64 ((rd_T37 l0_2 x3_2).f0)) u160_1; replace u160_2 := cf_ 0 hn160_0 (.int .i64 ((rd_T37 l0_2 x3_2).f0)) u160_2; replace u160_0 := cf_ 1 hn160_1 (.int .i64 ((rd_T37 l0_2 x3_2).f1)) u160_0; replace u160_1 := cf_ 1 hn160_1 (.int .i64 ((rd_T37 l0_2 x3_2).f1)) u160_1; replace u160_2 := cf_ 1 hn160_1 (.int .i64 ((rd_T37 l0_2 x3_2).f1)) u160_2; replace u160_0 := cf_ 2 hn160_2 (.int .i64 ((rd_T37 l0_2 x3_2).f2)) u160_0; replace u160_1 := cf_ 2 hn160_2 (.int .i64 ((rd_T37 l0_2 x3_2).f2)) u160_1; replace u160_2 := cf_ 2 hn160_2 (.int .i64 ((rd_T37 l0_2 x3_2).f2)) u160_2; (try have hy160_0 := fun (n_ : Nat) => (show (((((w44.drewN n_).setCell ⟨gb156, 0, none⟩ (.int .i64 ((rd_T37 l0_2 x3_2).f0))).setCell ⟨gb156, 1, none⟩ (.int .i64 ((rd_T37 l0_2 x3_2).f1))).setCell ⟨gb156, 2, none⟩ (.int .i64 ((rd_T37 l0_2 x3_2).f2)))).cell? _ = some _ from u160_0)); (try have hy160_1 := fun (n_ : Nat) => (show (((((w44.drewN n_).setCell ⟨gb156, 0, none⟩ (.int .i64 ((rd_T37 l0_2 x3_2).f0))).setCell ⟨gb156, 1, none⟩ (.int .i64 ((rd_T37 l0_2 x3_2).f1))).setCell ⟨gb156, 2, none⟩ (.int .i64 ((rd_T37 l0_2 x3_2).f2)))).cell? _ = some _ from u160_1)); (try have hy160_2 := fun (n_ : Nat) => (show (((((w44.drewN n_).setCell ⟨gb156, 0, none⟩ (.int .i64 ((rd_T37 l0_2 x3_2).f0))).setCell ⟨gb156, 1, none⟩ (.int .i64 ((rd_T37 l0_2 x3_2).f1))).setCell ⟨gb156, 2, none⟩ (.int .i64 ((rd_T37 l0_2 x3_2).f2)))).cell? _ = some _ from u160_2)); clear hn160_0; clear hn160_1; clear hn160_2; replace p160 := eq_true p160; replace q160 := eq_true q160)))
          go_roundg k2
          case measure => have := HJ13.out; have := HK2.out; omega
          case rel => exact ⟨(wrap64 (x3_2 + 1)), rt_, H', ⟨by have := HJ13.out; have := HK2.out; omega⟩, ⟨bk_ BK152⟩, ⟨hb_ HB⟩⟩
         replace H' := A_ H; clear H
         obtain ⟨z48_0, z48_1, z48_2, z48_3, z48_4, y48_0, y48_1, y48_2, y48_3, y48_4⟩ := cz5_ BK152
         obtain ⟨ad155, p155, q155, rfl, u155_0, u155_1, u155_2⟩ := ab_T37 HB HR0_2 x3_2
         iterate 5 (try go_wp2_with (first | ((with_reducible refine gate_dst (N := 4) rfl ?_); refine Y32_ ?_; clear HB BK152; intro gb156 w49 BK156 GW156 HB NB152_156 NB156_152 BK152 hnb50 hnc50 z51_0 z51_1 z51_2 y51_0 y51_1 y51_2) | (go_at_call 70; refine Y33_ ?_; intro nd; (try exact dd_)) | (go_at_call 70; refine Y34_ ?_; intro nd; (try exact dd_)) | (go_at_call 70; refine Y35_ ?_; intro nd; (try exact dd_))); try go_quiet (first | ((with_reducible refine gate_dst (N := 4) rfl ?_); refine Y32_ ?_; clear HB BK152; intro gb156 w49 BK156 GW156 HB NB152_156 NB156_152 BK152 hnb50 hnc50 z51_0 z51_1 z51_2 y51_0 y51_1 y51_2) | (go_at_call 70; refine Y33_ ?_; intro nd; (try exact dd_)) | (go_at_call 70; refine Y34_ ?_; intro nd; (try exact dd_)) | (go_at_call 70; refine Y35_ ?_; intro nd; (try exact dd_))))
         go_roundg k2
         case measure => have := HJ13.out; have := HK2.out; omega
         case rel => exact ⟨(wrap64 (x3_2 + 1)), rt_, H', ⟨by have := HJ13.out; have := HK2.out; omega⟩, ⟨bk_ BK152⟩, ⟨hb_ HB⟩⟩
        obtain rfl := Bool.eq_false_iff.mpr c32
        replace H := iF_ H
        obtain rfl := Option.some.inj H
        obtain ⟨z52_0, z52_1, z52_2, z52_3, z52_4, y52_0, y52_1, y52_2, y52_3, y52_4⟩ := cz5_ BK152
        obtain ⟨ad155, p155, q155, rfl, u155_0, u155_1, u155_2⟩ := ab_T37 HB HR0_2 x3_2
        iterate 5 (try go_wp2_with (first | ((with_reducible refine gate_dst (N := 4) rfl ?_); refine Y32_ ?_; clear HB BK152; intro gb156 w53 BK156 GW156 HB NB152_156 NB156_152 BK152 hnb54 hnc54 z55_0 z55_1 z55_2 y55_0 y55_1 y55_2) | (go_at_call 70; refine Y33_ ?_; intro nd; (try exact dd_)) | (go_at_call 70; refine Y34_ ?_; intro nd; (try exact dd_)) | (go_at_call 70; refine Y36_ ?_; intro nd; (try exact dd_))); try go_quiet (first | ((with_reducible refine gate_dst (N := 4) rfl ?_); refine Y32_ ?_; clear HB BK152; intro gb156 w53 BK156 GW156 HB NB152_156 NB156_152 BK152 hnb54 hnc54 z55_0 z55_1 z55_2 y55_0 y55_1 y55_2) | (go_at_call 70; refine Y33_ ?_; intro nd; (try exact dd_)) | (go_at_call 70; refine Y34_ ?_; intro nd; (try exact dd_)) | (go_at_call 70; refine Y36_ ?_; intro nd; (try exact dd_))))
        go_ret
        exact ⟨rs_, hb_ HB⟩
       obtain rfl := Bool.eq_false_iff.mpr c30
       replace H := iF_ H
       obtain rfl := Option.some.inj H
       obtain ⟨z56_0, z56_1, z56_2, z56_3, z56_4, y56_0, y56_1, y56_2, y56_3, y56_4⟩ := cz5_ BK152
       obtain ⟨ad155, p155, q155, rfl, u155_0, u155_1, u155_2⟩ := ab_T37 HB HR0_2 x3_2
       iterate 5 (try go_wp2_with (first | ((with_reducible refine gate_dst (N := 4) rfl ?_); refine Y32_ ?_; clear HB BK152; intro gb156 w57 BK156 GW156 HB NB152_156 NB156_152 BK152 hnb58 hnc58 z59_0 z59_1 z59_2 y59_0 y59_1 y59_2) | (go_at_call 70; refine Y33_ ?_; intro nd; (try exact dd_)) | (go_at_call 70; refine Y37_ ?_; intro nd; (try exact dd_))); try go_quiet (first | ((with_reducible refine gate_dst (N := 4) rfl ?_); refine Y32_ ?_; clear HB BK152; intro gb156 w57 BK156 GW156 HB NB152_156 NB156_152 BK152 hnb58 hnc58 z59_0 z59_1 z59_2 y59_0 y59_1 y59_2) | (go_at_call 70; refine Y33_ ?_; intro nd; (try exact dd_)) | (go_at_call 70; refine Y37_ ?_; intro nd; (try exact dd_))))
       go_ret
       exact ⟨rs_, hb_ HB⟩
      obtain rfl := Bool.eq_false_iff.mpr c28
      replace H := iF_ H
      obtain rfl := Option.some.inj H
      obtain ⟨z60_0, z60_1, z60_2, z60_3, z60_4, y60_0, y60_1, y60_2, y60_3, y60_4⟩ := cz5_ BK152
      obtain ⟨ad155, p155, q155, rfl, u155_0, u155_1, u155_2⟩ := ab_T37 HB HR0_2 x3_2
      iterate 5 (try go_wp2_with (first | ((with_reducible refine gate_dst (N := 4) rfl ?_); refine Y32_ ?_; clear HB BK152; intro gb156 w61 BK156 GW156 HB NB152_156 NB156_152 BK152 hnb62 hnc62 z63_0 z63_1 z63_2 y63_0 y63_1 y63_2) | (go_at_call 70; refine Y38_ ?_; intro nd; (try exact dd_))); try go_quiet (first | ((with_reducible refine gate_dst (N := 4) rfl ?_); refine Y32_ ?_; clear HB BK152; intro gb156 w61 BK156 GW156 HB NB152_156 NB156_152 BK152 hnb62 hnc62 z63_0 z63_1 z63_2 y63_0 y63_1 y63_2) | (go_at_call 70; refine Y38_ ?_; intro nd; (try exact dd_))))
      go_ret
      exact ⟨rs_, hb_ HB⟩
     obtain rfl := Option.some.inj H
     obtain ⟨z64_0, z64_1, z64_2, z64_3, z64_4, y64_0, y64_1, y64_2, y64_3, y64_4⟩ := cz5_ BK152
     go_wp2
     repeat (go_quiet (fail); try go_wp2)
     go_ret
     exact ⟨rs_, hb_ HB⟩
def spec_WordOk.f (a0_0 : Int) (a0_1 : Int) (a0_2 : Int) (a1 : Int) : Option (Bool) := if a0_1 = 0 then (if a0_2 = 0 then ((spec_l1In.f a0_0 0 1000).bind fun t162 => (some t162)) else (some false)) else (if a0_0 = 0 then ((spec_l1In.f a0_1 1 a1).bind fun t163 => (if t163 = true then ((spec_l1In.f a0_2 1 1000000).bind fun t164 => (some t164)) else (some false))) else (some false))
set_option maxHeartbeats 8000000 in
set_option maxRecDepth 100000 in
theorem spec_WordOk.calls (a0_0 : Int) (a0_1 : Int) (a0_2 : Int) (a1 : Int) (r : Bool) (w : World) (h : spec_WordOk.f a0_0 a0_1 a0_2 a1 = some r) :
    Calls Tryz.prog 126 #[.agg #[.int .i64 a0_0, .int .i64 a0_1, .int .i64 a0_2], .int .i64 a1] w fun e w' => e = .returned (.bool r) ∧ Below w.heap.size w w' := by
 have hu39 := Tryz.underlying39
 have HB := A_ (Below.refl w.heap.size w)
 have H : (if a0_1 = 0 then (if a0_2 = 0 then ((spec_l1In.f a0_0 0 1000).bind fun t162 => (some t162)) else (some false)) else (if a0_0 = 0 then ((spec_l1In.f a0_1 1 a1).bind fun t163 => (if t163 = true then ((spec_l1In.f a0_2 1 1000000).bind fun t164 => (some t164)) else (some false))) else (some false))) = some r := h
 clear h
 by_cases c3 : a0_1 = 0
 ·
  rw [if_pos c3] at H
  have c3b0 : (a0_1 == 0) = true := beq_iff_eq.mpr c3
  have c3b1 : (a0_1 != 0) = false := bne_eq_false_iff_eq.mpr c3
  clear c3
  by_cases c4 : a0_2 = 0
  ·
   rw [if_pos c4] at H
   have c4b0 : (a0_2 == 0) = true := beq_iff_eq.mpr c4
   have c4b1 : (a0_2 != 0) = false := bne_eq_false_iff_eq.mpr c4
   clear c4
   replace H := bs_ H
   obtain ⟨t162, A5, H⟩ := H
   obtain rfl := Option.some.inj H
   go_enter Tryz.func126, Tryz.ntmps126
   go_wp2_with (first | ((with_reducible refine gate_dst (N := 2) rfl ?_); refine Y39_ ?_; clear HB; intro gb161 w6 BK161 GW161 HB z7_0 z7_1 z7_2 y7_0 y7_1 y7_2) | (go_at_call 70; (with_reducible refine (spec_l1In.calls a0_0 0 1000 t162 _ A5.out).mono ?_); rintro e w' ⟨rfl, ⟨nd, rfl⟩⟩))
   go_ret
   exact ⟨rs_, hb_ HB⟩
  rw [if_neg c4] at H
  have c4b0 : (a0_2 == 0) = false := beq_eq_false_iff_ne.mpr c4
  have c4b1 : (a0_2 != 0) = true := bne_iff_ne.mpr c4
  obtain rfl := Option.some.inj H
  go_enter Tryz.func126, Tryz.ntmps126
  go_wp2_with (first | ((with_reducible refine gate_dst (N := 2) rfl ?_); refine Y39_ ?_; clear HB; intro gb161 w8 BK161 GW161 HB z9_0 z9_1 z9_2 y9_0 y9_1 y9_2))
  go_ret
  exact ⟨rs_, hb_ HB⟩
 rw [if_neg c3] at H
 have c3b0 : (a0_1 == 0) = false := beq_eq_false_iff_ne.mpr c3
 have c3b1 : (a0_1 != 0) = true := bne_iff_ne.mpr c3
 by_cases c10 : a0_0 = 0
 ·
  rw [if_pos c10] at H
  have c10b0 : (a0_0 == 0) = true := beq_iff_eq.mpr c10
  have c10b1 : (a0_0 != 0) = false := bne_eq_false_iff_eq.mpr c10
  clear c10
  replace H := bs_ H
  obtain ⟨t163, A11, H⟩ := H
  by_cases c12 : t163 = true
  ·
   subst c12
   replace H := it_ H
   replace H := bs_ H
   obtain ⟨t164, A13, H⟩ := H
   obtain rfl := Option.some.inj H
   go_enter Tryz.func126, Tryz.ntmps126
   go_wp2_with (first | ((with_reducible refine gate_dst (N := 2) rfl ?_); refine Y39_ ?_; clear HB; intro gb161 w14 BK161 GW161 HB z15_0 z15_1 z15_2 y15_0 y15_1 y15_2) | (go_at_call 70; (with_reducible refine (spec_l1In.calls a0_1 1 a1 true _ A11.out).mono ?_); rintro e w' ⟨rfl, ⟨nd, rfl⟩⟩) | (go_at_call 70; (with_reducible refine (spec_l1In.calls a0_2 1 1000000 t164 _ A13.out).mono ?_); rintro e w' ⟨rfl, ⟨nd, rfl⟩⟩))
   go_ret
   exact ⟨rs_, hb_ HB⟩
  obtain rfl := Bool.eq_false_iff.mpr c12
  replace H := iF_ H
  obtain rfl := Option.some.inj H
  go_enter Tryz.func126, Tryz.ntmps126
  go_wp2_with (first | ((with_reducible refine gate_dst (N := 2) rfl ?_); refine Y39_ ?_; clear HB; intro gb161 w16 BK161 GW161 HB z17_0 z17_1 z17_2 y17_0 y17_1 y17_2) | (go_at_call 70; (with_reducible refine (spec_l1In.calls a0_1 1 a1 false _ A11.out).mono ?_); rintro e w' ⟨rfl, ⟨nd, rfl⟩⟩))
  go_ret
  exact ⟨rs_, hb_ HB⟩
 rw [if_neg c10] at H
 have c10b0 : (a0_0 == 0) = false := beq_eq_false_iff_ne.mpr c10
 have c10b1 : (a0_0 != 0) = true := bne_iff_ne.mpr c10
 obtain rfl := Option.some.inj H
 go_enter Tryz.func126, Tryz.ntmps126
 go_wp2_with (first | ((with_reducible refine gate_dst (N := 2) rfl ?_); refine Y39_ ?_; clear HB; intro gb161 w18 BK161 GW161 HB z19_0 z19_1 z19_2 y19_0 y19_1 y19_2))
 go_ret
 exact ⟨rs_, hb_ HB⟩
end Go.Proofs.YtdcinhpdpoodfaaGreat.PFnExactFinished
