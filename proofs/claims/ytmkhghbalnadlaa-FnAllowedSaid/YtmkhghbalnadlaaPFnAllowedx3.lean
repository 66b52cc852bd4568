/- Contracts of functions of the program: each says that the call does what a plain Lean function tells. Made by programs of this session and of the kit. No condition beyond the hypotheses that each theorem names. -/
import Derived.Test.YtmkhghbalnadlaaPFnAllowedx0
import Derived.Test.YtmkhghbalnadlaaPFnAllowedx1
namespace Go.Proofs.Ytmkhghbalnadlaa.PFnAllowed
open Go.RowKit Go.Proofs.YtmkhghbalnadlaaW.PrintWords Go.Proofs.YtmkhghbalnadlaaW.PrintLast Go.Proofs.YtmkhghbalnadlaaW.PrintMore
attribute [local go_sem] max2_int min2_int max_two min_two max_three min_three max_four min_four   -- for this text's walks alone
set_option linter.unusedVariables false
set_option linter.unusedSimpArgs false

/-! ### spec_l4Fails: function 81 -/
def spec_l4Fails.j0 : Nat → Bool → Bool → Int → Bool → List Int → Int → Int → Int → Int → Option (Bool)
 | 0, _, _, _, _, _, _, _, _, _ => none
 | k + 1, x7, x8, x48, x49, x121000, x121001, x122000, x122001, x122002 => if x49 = true then (if 0 ≤ x122001 then (if x122001 < (x121000.length : Int) then (some ((rd x121000 x122001) == 0)) else (none)) else (none)) else (if x48 = 5 then (some (!x7)) else (if x48 = 10 then (if x8 = true then (some (!x7)) else (some false)) else (some false)))
def spec_l4Fails.f (k : Nat) (l0_0 : List Int) (a0_1 : Int) (a1_0 : Int) (a1_1 : Int) (a1_2 : Int) (a2 : Int) : Option (Bool) := (spec_KeyOf.f k l0_0 a0_1 a1_2).bind fun t122 => (if a2 = 1 then (if a1_0 = 1 then (if 0 ≤ a1_1 then (if a1_1 < (l0_0.length : Int) then (some ((rd l0_0 a1_1) != 0)) else (none)) else (none)) else (some false)) else (if a2 = 2 then (if a1_0 = 1 then (some (decide (t122 ≥ 0))) else (if a1_0 = 2 then (some (decide (t122 ≥ 0))) else (some false))) else (if a2 = 3 then (if a1_0 = 2 then (spec_l4Fails.j0 k (decide (t122 ≥ 0)) (a0_1 == 5) a1_0 (a1_0 == 2) l0_0 a0_1 a1_0 a1_1 a1_2) else (if a1_0 = 3 then (spec_l4Fails.j0 k (decide (t122 ≥ 0)) (a0_1 == 5) a1_0 (a1_0 == 3) l0_0 a0_1 a1_0 a1_1 a1_2) else (spec_l4Fails.j0 k (decide (t122 ≥ 0)) (a0_1 == 5) a1_0 (a1_0 == 4) l0_0 a0_1 a1_0 a1_1 a1_2))) else (if a2 = 4 then (if a1_0 = 8 then (some (a0_1 != 0)) else (if a1_0 = 9 then (if a0_1 = 0 then (some true) else (some (a0_1 == 5))) else (if a1_0 = 10 then (some (!(a0_1 == 5))) else (some false)))) else (some false)))))
theorem spec_l4Fails.mono_l : ∀ k, (∀ y0 y1 y2 y3 y4 y5 y6 y7 y8, LeO (spec_l4Fails.j0 k y0 y1 y2 y3 y4 y5 y6 y7 y8) (spec_l4Fails.j0 (k + 1) y0 y1 y2 y3 y4 y5 y6 y7 y8))
 | 0 => fun _ _ _ _ _ _ _ _ _ r h => by simp [spec_l4Fails.j0] at h
 | k + 1 => by
  have ih0 := spec_l4Fails.mono_l k
  ·
   intro y0 y1 y2 y3 y4 y5 y6 y7 y8
   unfold spec_l4Fails.j0
   repeat' first | (with_reducible first | apply ih0 | apply spec_KeyOf.mono | apply LeO.refl | apply LeO.none | apply LeO.ite | refine LeO.bind ?_ (fun _ => ?_)) | apply ih0 | apply spec_KeyOf.mono | apply LeO.none | apply LeO.ite | refine LeO.bind ?_ (fun _ => ?_)
theorem spec_l4Fails.mono : ∀ a0 a1 a2 a3 a4 a5 k, LeO (spec_l4Fails.f k a0 a1 a2 a3 a4 a5) (spec_l4Fails.f (k + 1) a0 a1 a2 a3 a4 a5) := by
 intro a0 a1 a2 a3 a4 a5 k
 have ih0 := spec_l4Fails.mono_l k
 unfold spec_l4Fails.f
 repeat' first | (with_reducible first | apply ih0 | apply spec_KeyOf.mono | apply LeO.refl | apply LeO.none | apply LeO.ite | refine LeO.bind ?_ (fun _ => ?_)) | apply ih0 | apply spec_KeyOf.mono | apply LeO.none | apply LeO.ite | refine LeO.bind ?_ (fun _ => ?_)
set_option maxHeartbeats 8000000 in
set_option maxRecDepth 100000 in
theorem spec_l4Fails.calls (k : Nat) (A0_0 : Option Addr) (c0_0 : Nat) (l0_0 : List Int) (a0_1 : Int) (a1_0 : Int) (a1_1 : Int) (a1_2 : Int) (a2 : Int) (r : Bool) (w : World) (hr0_0 : Kd.C (Kd.int .i64) w A0_0 l0_0.length l0_0) (hc0_0 : l0_0.length ≤ c0_0) (h : spec_l4Fails.f k l0_0 a0_1 a1_0 a1_1 a1_2 a2 = some r) :
    Calls Try.prog 81 #[.agg #[.slice A0_0 l0_0.length c0_0, .int .i64 a0_1], .agg #[.int .i64 a1_0, .int .i64 a1_1, .int .i64 a1_2], .int .i64 a2] w fun e w' => e = .returned (.bool r) ∧ Below w.heap.size w w' := by
 have hu44 := Try.underlying44
 have hu47 := Try.underlying47
 have HR0_0 := A_ hr0_0
 have HC0_0 := A_ hc0_0
 clear hr0_0 hc0_0
 have HB := A_ (Below.refl w.heap.size w)
 have H : ((spec_KeyOf.f k l0_0 a0_1 a1_2).bind fun t122 => (if a2 = 1 then (if a1_0 = 1 then (if 0 ≤ a1_1 then (if a1_1 < (l0_0.length : Int) then (some ((rd l0_0 a1_1) != 0)) else (none)) else (none)) else (some false)) else (if a2 = 2 then (if a1_0 = 1 then (some (decide (t122 ≥ 0))) else (if a1_0 = 2 then (some (decide (t122 ≥ 0))) else (some false))) else (if a2 = 3 then (if a1_0 = 2 then (spec_l4Fails.j0 k (decide (t122 ≥ 0)) (a0_1 == 5) a1_0 (a1_0 == 2) l0_0 a0_1 a1_0 a1_1 a1_2) else (if a1_0 = 3 then (spec_l4Fails.j0 k (decide (t122 ≥ 0)) (a0_1 == 5) a1_0 (a1_0 == 3) l0_0 a0_1 a1_0 a1_1 a1_2) else (spec_l4Fails.j0 k (decide (t122 ≥ 0)) (a0_1 == 5) a1_0 (a1_0 == 4) l0_0 a0_1 a1_0 a1_1 a1_2))) else (if a2 = 4 then (if a1_0 = 8 then (some (a0_1 != 0)) else (if a1_0 = 9 then (if a0_1 = 0 then (some true) else (some (a0_1 == 5))) else (if a1_0 = 10 then (some (!(a0_1 == 5))) else (some false)))) else (some false)))))) = some r := h
 clear h
 replace H := bs_ H
 obtain ⟨t122, A4, H⟩ := H
 by_cases c5 : a2 = 1
 ·
  rw [if_pos c5] at H
  have c5b0 : (a2 == 1) = true := beq_iff_eq.mpr c5
  have c5b1 : (a2 != 1) = false := bne_eq_false_iff_eq.mpr c5
  clear c5
  by_cases c6 : a1_0 = 1
  ·
   rw [if_pos c6] at H
   have c6b0 : (a1_0 == 1) = true := beq_iff_eq.mpr c6
   have c6b1 : (a1_0 != 1) = false := bne_eq_false_iff_eq.mpr c6
   clear c6
   replace H := ix_ H
   obtain ⟨c7b0, H⟩ := H
   replace H := ix_ H
   obtain ⟨c8b0, H⟩ := H
   obtain rfl := Option.some.inj H
   go_enter Try.func81, Try.ntmps81
   go_wp2_with (first | ((with_reducible refine gate_dst (N := 3) rfl ?_); refine Y5_ ?_; clear HB; intro gb120 w9 BK120 GW120 HB) | ((with_reducible refine gate_dst (N := 4) rfl ?_); refine Y6_ ?_; clear HB BK120; intro gb121 w10 BK121 GW121 HB NB120_121 NB121_120 BK120 hnb11 hnc11 hcz12_0 hcz12_1 hfz12_0 hfz12_1 hcz13_0 hcz13_1 hcz13_2 hfz13_0 hfz13_1 hfz13_2) | ((with_reducible refine gate_callee (f := 133) rfl ?_); refine goesL_ (some 12) rfl rfl Try.func133 (by kernel_rfl) rfl #[.agg #[.slice A0_0 l0_0.length c0_0, .int .i64 a0_1], .int .i64 a1_2] rfl al_ ?_; (with_reducible refine (spec_KeyOf.calls k _ _ l0_0 a0_1 a1_2 t122 _ ?side1 ?side2 A4.out).mono ?_); (case side1 => exact cb_ (Kd.C_below HR0_0.out HB.out)); (case side2 => exact HC0_0.out); rintro e w14 ⟨rfl, hb⟩; refine ⟨_, rfl, ?_⟩; replace BK120 := bb_ BK120 hb; replace BK121 := bb_ BK121 hb; replace HB := hs_ HB hb; (try clear hb); (try clear hb2); (try clear hk); (try clear hi); obtain ⟨hcz15_0, hcz15_1, hfz15_0, hfz15_1⟩ := cz2_ BK120; obtain ⟨hcz16_0, hcz16_1, hcz16_2, hfz16_0, hfz16_1, hfz16_2⟩ := cz3_ BK121; have p123 : 0 ≤ (a1_1 : Int) := od_; have q123 : a1_1 < (l0_0.length : Int) := od_; obtain ⟨ad123, e123, hx123_0⟩ := Kd.at_int HR0_0.out a1_1 p123 q123; cases e123; replace hx123_0 := hx_ HB hx123_0; replace p123 := eq_true p123; replace q123 := eq_true q123))
   go_ret
   exact ⟨rs_, hb_ HB⟩
  rw [if_neg c6] at H
  have c6b0 : (a1_0 == 1) = false := beq_eq_false_iff_ne.mpr c6
  have c6b1 : (a1_0 != 1) = true := bne_iff_ne.mpr c6
  obtain rfl := Option.some.inj H
  go_enter Try.func81, Try.ntmps81
  go_wp2_with (first | ((with_reducible refine gate_dst (N := 3) rfl ?_); refine Y5_ ?_; clear HB; intro gb120 w17 BK120 GW120 HB) | ((with_reducible refine gate_dst (N := 4) rfl ?_); refine Y6_ ?_; clear HB BK120; intro gb121 w18 BK121 GW121 HB NB120_121 NB121_120 BK120 hnb19 hnc19 hcz20_0 hcz20_1 hfz20_0 hfz20_1 hcz21_0 hcz21_1 hcz21_2 hfz21_0 hfz21_1 hfz21_2) | ((with_reducible refine gate_callee (f := 133) rfl ?_); refine Y7_ ?_; clear BK120 BK121 HB; intro w22 BK120 BK121 HB hcz23_0 hcz23_1 hfz23_0 hfz23_1 hcz24_0 hcz24_1 hcz24_2 hfz24_0 hfz24_1 hfz24_2))
  go_ret
  exact ⟨rs_, hb_ HB⟩
 rw [if_neg c5] at H
 have c5b0 : (a2 == 1) = false := beq_eq_false_iff_ne.mpr c5
 have c5b1 : (a2 != 1) = true := bne_iff_ne.mpr c5
 by_cases c25 : a2 = 2
 ·
  rw [if_pos c25] at H
  have c25b0 : (a2 == 2) = true := beq_iff_eq.mpr c25
  have c25b1 : (a2 != 2) = false := bne_eq_false_iff_eq.mpr c25
  clear c25
  by_cases c26 : a1_0 = 1
  ·
   rw [if_pos c26] at H
   have c26b0 : (a1_0 == 1) = true := beq_iff_eq.mpr c26
   have c26b1 : (a1_0 != 1) = false := bne_eq_false_iff_eq.mpr c26
   clear c26
   obtain rfl := Option.some.inj H
   go_enter Try.func81, Try.ntmps81
   go_wp2_with (first | ((with_reducible refine gate_dst (N := 3) rfl ?_); refine Y5_ ?_; clear HB; intro gb120 w27 BK120 GW120 HB) | ((with_reducible refine gate_dst (N := 4) rfl ?_); refine Y6_ ?_; clear HB BK120; intro gb121 w28 BK121 GW121 HB NB120_121 NB121_120 BK120 hnb29 hnc29 hcz30_0 hcz30_1 hfz30_0 hfz30_1 hcz31_0 hcz31_1 hcz31_2 hfz31_0 hfz31_1 hfz31_2) | ((with_reducible refine gate_callee (f := 133) rfl ?_); refine Y7_ ?_; clear BK120 BK121 HB; intro w32 BK120 BK121 HB hcz33_0 hcz33_1 hfz33_0 hfz33_1 hcz34_0 hcz34_1 hcz34_2 hfz34_0 hfz34_1 hfz34_2))
   go_ret
   exact ⟨rs_, hb_ HB⟩
  rw [if_neg c26] at H
  have c26b0 : (a1_0 == 1) = false := beq_eq_false_iff_ne.mpr c26
  have c26b1 : (a1_0 != 1) = true := bne_iff_ne.mpr c26
  by_cases c35 : a1_0 = 2
  ·
   rw [if_pos c35] at H
   have c35b0 : (a1_0 == 2) = true := beq_iff_eq.mpr c35
   have c35b1 : (a1_0 != 2) = false := bne_eq_false_iff_eq.mpr c35
   clear c35
   obtain rfl := Option.some.inj H
   go_enter Try.func81, Try.ntmps81
   go_wp2_with (first | ((with_reducible refine gate_dst (N := 3) rfl ?_); refine Y5_ ?_; clear HB; intro gb120 w36 BK120 GW120 HB) | ((with_reducible refine gate_dst (N := 4) rfl ?_); refine Y6_ ?_; clear HB BK120; intro gb121 w37 BK121 GW121 HB NB120_121 NB121_120 BK120 hnb38 hnc38 hcz39_0 hcz39_1 hfz39_0 hfz39_1 hcz40_0 hcz40_1 hcz40_2 hfz40_0 hfz40_1 hfz40_2) | ((with_reducible refine gate_callee (f := 133) rfl ?_); refine Y7_ ?_; clear BK120 BK121 HB; intro w41 BK120 BK121 HB hcz42_0 hcz42_1 hfz42_0 hfz42_1 hcz43_0 hcz43_1 hcz43_2 hfz43_0 hfz43_1 hfz43_2))
   go_ret
   exact ⟨rs_, hb_ HB⟩
  rw [if_neg c35] at H
  have c35b0 : (a1_0 == 2) = false := beq_eq_false_iff_ne.mpr c35
  have c35b1 : (a1_0 != 2) = true := bne_iff_ne.mpr c35
  obtain rfl := Option.some.inj H
  go_enter Try.func81, Try.ntmps81
  go_wp2_with (first | ((with_reducible refine gate_dst (N := 3) rfl ?_); refine Y5_ ?_; clear HB; intro gb120 w44 BK120 GW120 HB) | ((with_reducible refine gate_dst (N := 4) rfl ?_); refine Y6_ ?_; clear HB BK120; intro gb121 w45 BK121 GW121 HB NB120_121 NB121_120 BK120 hnb46 hnc46 hcz47_0 hcz47_1 hfz47_0 hfz47_1 hcz48_0 hcz48_1 hcz48_2 hfz48_0 hfz48_1 hfz48_2) | ((with_reducible refine gate_callee (f := 133) rfl ?_); refine Y7_ ?_; clear BK120 BK121 HB; intro w49 BK120 BK121 HB hcz50_0 hcz50_1 hfz50_0 hfz50_1 hcz51_0 hcz51_1 hcz51_2 hfz51_0 hfz51_1 hfz51_2))
  go_ret
  exact ⟨rs_, hb_ HB⟩
 rw [if_neg c25] at H
 have c25b0 : (a2 == 2) = false := beq_eq_false_iff_ne.mpr c25
 have c25b1 : (a2 != 2) = true := bne_iff_ne.mpr c25
 by_cases c52 : a2 = 3
 ·
  rw [if_pos c52] at H
  have c52b0 : (a2 == 3) = true := beq_iff_eq.mpr c52
  have c52b1 : (a2 != 3) = false := bne_eq_false_iff_eq.mpr c52
  clear c52
  have HC53 := A_ H
  clear H
  go_enter Try.func81, Try.ntmps81
  go_upto_if 49 with (first | ((with_reducible refine gate_dst (N := 3) rfl ?_); refine Y5_ ?_; clear HB; intro gb120 w54 BK120 GW120 HB) | ((with_reducible refine gate_dst (N := 4) rfl ?_); refine Y6_ ?_; clear HB BK120; intro gb121 w55 BK121 GW121 HB NB120_121 NB121_120 BK120 hnb56 hnc56 hcz57_0 hcz57_1 hfz57_0 hfz57_1 hcz58_0 hcz58_1 hcz58_2 hfz58_0 hfz58_1 hfz58_2) | ((with_reducible refine gate_callee (f := 133) rfl ?_); refine Y7_ ?_; clear BK120 BK121 HB; intro w59 BK120 BK121 HB hcz60_0 hcz60_1 hfz60_0 hfz60_1 hcz61_0 hcz61_1 hcz61_2 hfz61_0 hfz61_1 hfz61_2))
  (try simp only [Act.put, List.setIfInBounds_toArray, List.set_cons_zero, List.set_cons_succ])
  go_cut [49] (fun v49 wc => ∃ (kq : Nat) (x49_52 : Bool), v49 = .bool x49_52 ∧ Aside0 (spec_l4Fails.j0 kq (decide (t122 ≥ 0)) (a0_1 == 5) a1_0 x49_52 l0_0 a0_1 a1_0 a1_1 a1_2 = some r) ∧ Aside0 (kq ≤ k) ∧ Aside0 (wc.heap[gb120]? = some (.cells #[(.slice A0_0 l0_0.length c0_0), .int .i64 a0_1] 44 (0, 0))) ∧ Aside0 (wc.heap[gb121]? = some (.cells #[.int .i64 a1_0, .int .i64 a1_1, .int .i64 a1_2] 47 (0, 0))) ∧ Aside0 (Below w.heap.size w wc))
  case first =>
   have H := HC53.out
   clear HC53
   by_cases c62 : a1_0 = 2
   ·
    rw [if_pos c62] at H
    have c62b0 : (a1_0 == 2) = true := beq_iff_eq.mpr c62
    have c62b1 : (a1_0 != 2) = false := bne_eq_false_iff_eq.mpr c62
    clear c62
    (first | rw [c62b0] | (simp only [i64_w, i32_w]; rw [c62b0]) | skip)
    replace H' := A_ H; clear H
    go_wp2
    go_meet
    case rel => exact ⟨_, ((a1_0 == 2)), rt_, H', ⟨by first | omega | exact Nat.le_refl _⟩, ⟨bk_ BK120⟩, ⟨bk_ BK121⟩, ⟨hb_ HB⟩⟩
   rw [if_neg c62] at H
   have c62b0 : (a1_0 == 2) = false := beq_eq_false_iff_ne.mpr c62
   have c62b1 : (a1_0 != 2) = true := bne_iff_ne.mpr c62
   (first | rw [c62b0] | (simp only [i64_w, i32_w]; rw [c62b0]) | skip)
   by_cases c63 : a1_0 = 3
   ·
    rw [if_pos c63] at H
    have c63b0 : (a1_0 == 3) = true := beq_iff_eq.mpr c63
    have c63b1 : (a1_0 != 3) = false := bne_eq_false_iff_eq.mpr c63
    clear c63
    replace H' := A_ H; clear H
    go_wp2
    go_meet
    case rel => exact ⟨_, ((a1_0 == 3)), rt_, H', ⟨by first | omega | exact Nat.le_refl _⟩, ⟨bk_ BK120⟩, ⟨bk_ BK121⟩, ⟨hb_ HB⟩⟩
   rw [if_neg c63] at H
   have c63b0 : (a1_0 == 3) = false := beq_eq_false_iff_ne.mpr c63
   have c63b1 : (a1_0 != 3) = true := bne_iff_ne.mpr c63
   replace H' := A_ H; clear H
   go_wp2
   go_meet
   case rel => exact ⟨_, ((a1_0 == 4)), rt_, H', ⟨by first | omega | exact Nat.le_refl _⟩, ⟨bk_ BK120⟩, ⟨bk_ BK121⟩, ⟨hb_ HB⟩⟩
  case rest =>
   clear HC53
   try clear c2
   try clear c3
   try clear c5
   try clear c5b0
   try clear c5b1
   try clear c6
   try clear c6b0
   try clear c6b1
   try clear c7
   try clear c7b0
   try clear c8b0
   try clear c25
   try clear c25b0
   try clear c25b1
   try clear c26
   try clear c26b0
   try clear c26b1
   try clear c35
   try clear c35b0
   try clear c35b1
   try clear c52
   try clear c52b0
   try clear c52b1
   try clear c62
   try clear c62b0
   try clear c62b1
   try clear c63
   try clear c63b0
   try clear c63b1
   try clear hx123_0
   try clear p123
   try clear q123
   obtain ⟨kq, x49_52, rfl, HA, HJ52, BK120, BK121, HB⟩ := hcut
   cases kq with
   | zero => exact absurd HA.out (by simp [spec_l4Fails.j0])
   | succ kj52 =>
    have H := HA.out
    clear HA
    simp only [spec_l4Fails.j0] at H
    by_cases c64 : x49_52 = true
    ·
     subst c64
     replace H := it_ H
     replace H := ix_ H
     obtain ⟨c65b0, H⟩ := H
     replace H := ix_ H
     obtain ⟨c66b0, H⟩ := H
     obtain rfl := Option.some.inj H
     have hnb67 := NB120_121.out
     have hnc67 := NB121_120.out
     obtain ⟨hcz68_0, hcz68_1, hfz68_0, hfz68_1⟩ := cz2_ BK120
     obtain ⟨hcz69_0, hcz69_1, hcz69_2, hfz69_0, hfz69_1, hfz69_2⟩ := cz3_ BK121
     obtain ⟨ad124, p124, q124, rfl, hx124_0⟩ := ab_int HB HR0_0 a1_1
     go_wp2
     go_ret
     exact ⟨rs_, hb_ HB⟩
    obtain rfl := Bool.eq_false_iff.mpr c64
    replace H := iF_ H
    by_cases c70 : a1_0 = 5
    ·
     rw [if_pos c70] at H
     have c70b0 : (a1_0 == 5) = true := beq_iff_eq.mpr c70
     have c70b1 : (a1_0 != 5) = false := bne_eq_false_iff_eq.mpr c70
     clear c70
     obtain rfl := Option.some.inj H
     go_wp2
     go_ret
     exact ⟨rs_, hb_ HB⟩
    rw [if_neg c70] at H
    have c70b0 : (a1_0 == 5) = false := beq_eq_false_iff_ne.mpr c70
    have c70b1 : (a1_0 != 5) = true := bne_iff_ne.mpr c70
    by_cases c71 : a1_0 = 10
    ·
     rw [if_pos c71] at H
     have c71b0 : (a1_0 == 10) = true := beq_iff_eq.mpr c71
     have c71b1 : (a1_0 != 10) = false := bne_eq_false_iff_eq.mpr c71
     clear c71
     by_cases c72 : (a0_1 == 5) = true
     ·
      rw [if_pos c72] at H
      have c72b0 : (a0_1 == 5) = true := c72
      (try (have c72b1 : decide (a0_1 = 5) = true := by simpa using c72))
      (try (have c72b2 : (a0_1 == 5) = true := by simpa using c72))
      clear c72
      obtain rfl := Option.some.inj H
      go_wp2
      go_ret
      exact ⟨rs_, hb_ HB⟩
     rw [if_neg c72] at H
     have c72b0 : (a0_1 == 5) = false := by simpa using c72
     (try (have c72b1 : decide (a0_1 = 5) = false := by simpa using c72))
     (try (have c72b2 : (a0_1 == 5) = false := by simpa using c72))
     (try (have c72b3 : ¬ (a0_1 = 5) := by simpa using c72))
     clear c72
     obtain rfl := Option.some.inj H
     go_wp2
     go_ret
     exact ⟨rs_, hb_ HB⟩
    rw [if_neg c71] at H
    have c71b0 : (a1_0 == 10) = false := beq_eq_false_iff_ne.mpr c71
    have c71b1 : (a1_0 != 10) = true := bne_iff_ne.mpr c71
    obtain rfl := Option.some.inj H
    go_wp2
    go_ret
    exact ⟨rs_, hb_ HB⟩
 rw [if_neg c52] at H
 have c52b0 : (a2 == 3) = false := beq_eq_false_iff_ne.mpr c52
 have c52b1 : (a2 != 3) = true := bne_iff_ne.mpr c52
 by_cases c73 : a2 = 4
 ·
  rw [if_pos c73] at H
  have c73b0 : (a2 == 4) = true := beq_iff_eq.mpr c73
  have c73b1 : (a2 != 4) = false := bne_eq_false_iff_eq.mpr c73
  clear c73
  by_cases c74 : a1_0 = 8
  ·
   rw [if_pos c74] at H
   have c74b0 : (a1_0 == 8) = true := beq_iff_eq.mpr c74
   have c74b1 : (a1_0 != 8) = false := bne_eq_false_iff_eq.mpr c74
   clear c74
   obtain rfl := Option.some.inj H
   go_enter Try.func81, Try.ntmps81
   go_wp2_with (first | ((with_reducible refine gate_dst (N := 3) rfl ?_); refine Y5_ ?_; clear HB; intro gb120 w75 BK120 GW120 HB) | ((with_reducible refine gate_dst (N := 4) rfl ?_); refine Y6_ ?_; clear HB BK120; intro gb121 w76 BK121 GW121 HB NB120_121 NB121_120 BK120 hnb77 hnc77 hcz78_0 hcz78_1 hfz78_0 hfz78_1 hcz79_0 hcz79_1 hcz79_2 hfz79_0 hfz79_1 hfz79_2) | ((with_reducible refine gate_callee (f := 133) rfl ?_); refine Y7_ ?_; clear BK120 BK121 HB; intro w80 BK120 BK121 HB hcz81_0 hcz81_1 hfz81_0 hfz81_1 hcz82_0 hcz82_1 hcz82_2 hfz82_0 hfz82_1 hfz82_2))
   go_ret
   exact ⟨rs_, hb_ HB⟩
  rw [if_neg c74] at H
  have c74b0 : (a1_0 == 8) = false := beq_eq_false_iff_ne.mpr c74
  have c74b1 : (a1_0 != 8) = true := bne_iff_ne.mpr c74
  by_cases c83 : a1_0 = 9
  ·
   rw [if_pos c83] at H
   have c83b0 : (a1_0 == 9) = true := beq_iff_eq.mpr c83
   have c83b1 : (a1_0 != 9) = false := bne_eq_false_iff_eq.mpr c83
   clear c83
   by_cases c84 : a0_1 = 0
   ·
    rw [if_pos c84] at H
    have c84b0 : (a0_1 == 0) = true := beq_iff_eq.mpr c84
    have c84b1 : (a0_1 != 0) = false := bne_eq_false_iff_eq.mpr c84
    clear c84
    obtain rfl := Option.some.inj H
    go_enter Try.func81, Try.ntmps81
    go_wp2_with (first | ((with_reducible refine gate_dst (N := 3) rfl ?_); refine Y5_ ?_; clear HB; intro gb120 w85 BK120 GW120 HB) | ((with_reducible refine gate_dst (N := 4) rfl ?_); refine Y6_ ?_; clear HB BK120; intro gb121 w86 BK121 GW121 HB NB120_121 NB121_120 BK120 hnb87 hnc87 hcz88_0 hcz88_1 hfz88_0 hfz88_1 hcz89_0 hcz89_1 hcz89_2 hfz89_0 hfz89_1 hfz89_2) | ((with_reducible refine gate_callee (f := 133) rfl ?_); refine Y7_ ?_; clear BK120 BK121 HB; intro w90 BK120 BK121 HB hcz91_0 hcz91_1 hfz91_0 hfz91_1 hcz92_0 hcz92_1 hcz92_2 hfz92_0 hfz92_1 hfz92_2))
    go_ret
    exact ⟨rs_, hb_ HB⟩
   rw [if_neg c84] at H
   have c84b0 : (a0_1 == 0) = false := beq_eq_false_iff_ne.mpr c84
   have c84b1 : (a0_1 != 0) = true := bne_iff_ne.mpr c84
   obtain rfl := Option.some.inj H
   go_enter Try.func81, Try.ntmps81
   go_wp2_with (first | ((with_reducible refine gate_dst (N := 3) rfl ?_); refine Y5_ ?_; clear HB; intro gb120 w93 BK120 GW120 HB) | ((with_reducible refine gate_dst (N := 4) rfl ?_); refine Y6_ ?_; clear HB BK120; intro gb121 w94 BK121 GW121 HB NB120_121 NB121_120 BK120 hnb95 hnc95 hcz96_0 hcz96_1 hfz96_0 hfz96_1 hcz97_0 hcz97_1 hcz97_2 hfz97_0 hfz97_1 hfz97_2) | ((with_reducible refine gate_callee (f := 133) rfl ?_); refine Y7_ ?_; clear BK120 BK121 HB; intro w98 BK120 BK121 HB hcz99_0 hcz99_1 hfz99_0 hfz99_1 hcz100_0 hcz100_1 hcz100_2 hfz100_0 hfz100_1 hfz100_2))
   go_ret
   exact ⟨rs_, hb_ HB⟩
  rw [if_neg c83] at H
  have c83b0 : (a1_0 == 9) = false := beq_eq_false_iff_ne.mpr c83
  have c83b1 : (a1_0 != 9) = true := bne_iff_ne.mpr c83
  by_cases c101 : a1_0 = 10
  ·
   rw [if_pos c101] at H
   have c101b0 : (a1_0 == 10) = true := beq_iff_eq.mpr c101
   have c101b1 : (a1_0 != 10) = false := bne_eq_false_iff_eq.mpr c101
   clear c101
   obtain rfl := Option.some.inj H
   go_enter Try.func81, Try.ntmps81
   go_wp2_with (first | ((with_reducible refine gate_dst (N := 3) rfl ?_); refine Y5_ ?_; clear HB; intro gb120 w102 BK120 GW120 HB) | ((with_reducible refine gate_dst (N := 4) rfl ?_); refine Y6_ ?_; clear HB BK120; intro gb121 w103 BK121 GW121 HB NB120_121 NB121_120 BK120 hnb104 hnc104 hcz105_0 hcz105_1 hfz105_0 hfz105_1 hcz106_0 hcz106_1 hcz106_2 hfz106_0 hfz106_1 hfz106_2) | ((with_reducible refine gate_callee (f := 133) rfl ?_); refine Y7_ ?_; clear BK120 BK121 HB; intro w107 BK120 BK121 HB hcz108_0 hcz108_1 hfz108_0 hfz108_1 hcz109_0 hcz109_1 hcz109_2 hfz109_0 hfz109_1 hfz109_2))
   go_ret
   exact ⟨rs_, hb_ HB⟩
  rw [if_neg c101] at H
  have c101b0 : (a1_0 == 10) = false := beq_eq_false_iff_ne.mpr c101
  have c101b1 : (a1_0 != 10) = true := bne_iff_ne.mpr c101
  obtain rfl := Option.some.inj H
  go_enter Try.func81, Try.ntmps81
  go_wp2_with (first | ((with_reducible refine gate_dst (N := 3) rfl ?_); refine Y5_ ?_; clear HB; intro gb120 w110 BK120 GW120 HB) | ((with_reducible refine gate_dst (N := 4) rfl ?_); refine Y6_ ?_; clear HB BK120; intro gb121 w111 BK121 GW121 HB NB120_121 NB121_120 BK120 hnb112 hnc112 hcz113_0 hcz113_1 hfz113_0 hfz113_1 hcz114_0 hcz114_1 hcz114_2 hfz114_0 hfz114_1 hfz114_2) | ((with_reducible refine gate_callee (f := 133) rfl ?_); refine Y7_ ?_; clear BK120 BK121 HB; intro w115 BK120 BK121 HB hcz116_0 hcz116_1 hfz116_0 hfz116_1 hcz117_0 hcz117_1 hcz117_2 hfz117_0 hfz117_1 hfz117_2))
  go_ret
  exact ⟨rs_, hb_ HB⟩
 rw [if_neg c73] at H
 have c73b0 : (a2 == 4) = false := beq_eq_false_iff_ne.mpr c73
 have c73b1 : (a2 != 4) = true := bne_iff_ne.mpr c73
 obtain rfl := Option.some.inj H
 go_enter Try.func81, Try.ntmps81
 go_wp2_with (first | ((with_reducible refine gate_dst (N := 3) rfl ?_); refine Y5_ ?_; clear HB; intro gb120 w118 BK120 GW120 HB) | ((with_reducible refine gate_dst (N := 4) rfl ?_); refine Y6_ ?_; clear HB BK120; intro gb121 w119 BK121 GW121 HB NB120_121 NB121_120 BK120 hnb120 hnc120 hcz121_0 hcz121_1 hfz121_0 hfz121_1 hcz122_0 hcz122_1 hcz122_2 hfz122_0 hfz122_1 hfz122_2) | ((with_reducible refine gate_callee (f := 133) rfl ?_); refine goesL_ (some 12) rfl rfl Try.func133 (by kernel_rfl) rfl #[.agg #[.slice A0_0 l0_0.length c0_0, .int .i64 a0_1], .int .i64 a1_2] rfl al_ ?_; (with_reducible refine (spec_KeyOf.calls k _ _ l0_0 a0_1 a1_2 t122 _ ?side1 ?side2 A4.out).mono ?_); (case side1 => exact cb_ (Kd.C_below HR0_0.out HB.out)); (case side2 => exact HC0_0.out); rintro e w123 ⟨rfl, hb⟩; refine ⟨_, rfl, ?_⟩; replace BK120 := bb_ BK120 hb; replace BK121 := bb_ BK121 hb; replace HB := hs_ HB hb; (try clear hb); (try clear hb2); (try clear hk); (try clear hi); obtain ⟨hcz124_0, hcz124_1, hfz124_0, hfz124_1⟩ := cz2_ BK120))
 go_ret
 exact ⟨rs_, hb_ HB⟩

/-! ### spec_l1Bit: function 154 -/
def spec_l1Bit.f (a0 : Bool) : Option (Int) := if a0 = true then (some 1) else (some 0)
set_option maxHeartbeats 8000000 in
set_option maxRecDepth 100000 in
theorem spec_l1Bit.calls (a0 : Bool) (r : Int) (w : World) (h : spec_l1Bit.f a0 = some r) :
    Calls Try.prog 154 #[.bool a0] w fun e w' => e = .returned (.int .i64 r) ∧ Drawn0 w w' := by
 have H : (if a0 = true then (some 1) else (some 0)) = some r := h
 clear h
 by_cases c2 : a0 = true
 ·
  subst c2
  replace H := it_ H
  obtain rfl := Option.some.inj H
  go_enter Try.func154, Try.ntmps154
  go_wp2
  go_ret
  exact ⟨rt_, by repeat (first | exact Drawn0.refl _ | apply Drawn0.step)⟩
 obtain rfl := Bool.eq_false_iff.mpr c2
 replace H := iF_ H
 obtain rfl := Option.some.inj H
 go_enter Try.func154, Try.ntmps154
 go_wp2
 go_ret
 exact ⟨rt_, by repeat (first | exact Drawn0.refl _ | apply Drawn0.step)⟩

/-! ### spec_ClassOf: function 155 -/
def spec_ClassOf.f (a0 : Int) : Option (Int) := (spec_ValOk.f a0).bind fun t125 => (if t125 = true then (some (Int.tmod a0 3)) else (some (-1)))
set_option maxHeartbeats 8000000 in
set_option maxRecDepth 100000 in
theorem spec_ClassOf.calls (a0 : Int) (r : Int) (w : World) (h : spec_ClassOf.f a0 = some r) :
    Calls Try.prog 155 #[.int .i64 a0] w fun e w' => e = .returned (.int .i64 r) ∧ Drawn0 w w' := by
 have H : ((spec_ValOk.f a0).bind fun t125 => (if t125 = true then (some (Int.tmod a0 3)) else (some (-1)))) = some r := h
 clear h
 replace H := bs_ H
 obtain ⟨t125, A2, H⟩ := H
 by_cases c3 : t125 = true
 ·
  subst c3
  replace H := it_ H
  obtain rfl := Option.some.inj H
  go_enter Try.func155, Try.ntmps155
  go_wp2_with (first | ((with_reducible refine gate_callee (f := 91) rfl ?_); refine goesL_ (some 4) rfl rfl Try.func91 (by kernel_rfl) rfl #[.int .i64 a0] rfl al_ ?_; (with_reducible refine (spec_ValOk.calls a0 true _ A2.out).mono ?_); rintro e w' ⟨rfl, ⟨nd, rfl⟩⟩; refine ⟨_, rfl, ?_⟩))
  go_ret
  exact ⟨rt_, by repeat (first | exact Drawn0.refl _ | apply Drawn0.step)⟩
 obtain rfl := Bool.eq_false_iff.mpr c3
 replace H := iF_ H
 obtain rfl := Option.some.inj H
 go_enter Try.func155, Try.ntmps155
 go_wp2_with (first | ((with_reducible refine gate_callee (f := 91) rfl ?_); refine goesL_ (some 4) rfl rfl Try.func91 (by kernel_rfl) rfl #[.int .i64 a0] rfl al_ ?_; (with_reducible refine (spec_ValOk.calls a0 false _ A2.out).mono ?_); rintro e w' ⟨rfl, ⟨nd, rfl⟩⟩; refine ⟨_, rfl, ?_⟩))
 go_ret
 exact ⟨rt_, by repeat (first | exact Drawn0.refl _ | apply Drawn0.step)⟩

/-! ### spec_HowMany: function 134 -/
def spec_HowMany.l0 : Nat → Int → Int → Int → List Int → Int → Option (Int)
 | 0, _, _, _, _, _ => none
 | k + 1, x1, x5, x6, x127000, x127001 => if x6 < (x127000.length : Int) then (if 0 ≤ x6 then ((spec_ValOk.f (rd x127000 x6)).bind fun t128 => (if t128 = true then ((spec_ClassOf.f (rd x127000 x6)).bind fun t130 => ((spec_l1Bit.f (t130 == x1)).bind fun t131 => (spec_HowMany.l0 k x1 (wrap64 (x5 + t131)) (wrap64 (x6 + 1)) x127000 x127001))) else ((spec_l1Bit.f false).bind fun t132 => (spec_HowMany.l0 k x1 (wrap64 (x5 + t132)) (wrap64 (x6 + 1)) x127000 x127001)))) else (none)) else (some x5)
def spec_HowMany.f (k : Nat) (l0_0 : List Int) (a0_1 : Int) (a1 : Int) : Option (Int) := spec_HowMany.l0 k a1 0 0 l0_0 a0_1
theorem spec_HowMany.mono_l : ∀ k, (∀ y0 y1 y2 y3 y4, LeO (spec_HowMany.l0 k y0 y1 y2 y3 y4) (spec_HowMany.l0 (k + 1) y0 y1 y2 y3 y4))
 | 0 => fun _ _ _ _ _ r h => by simp [spec_HowMany.l0] at h
 | k + 1 => by
  have ih0 := spec_HowMany.mono_l k
  ·
   intro y0 y1 y2 y3 y4
   unfold spec_HowMany.l0
   repeat' first | (with_reducible first | apply ih0 | apply LeO.refl | apply LeO.none | apply LeO.ite | refine LeO.bind ?_ (fun _ => ?_)) | apply ih0 | apply LeO.none | apply LeO.ite | refine LeO.bind ?_ (fun _ => ?_)
theorem spec_HowMany.mono : ∀ a0 a1 a2 k, LeO (spec_HowMany.f k a0 a1 a2) (spec_HowMany.f (k + 1) a0 a1 a2) := by
 intro a0 a1 a2 k
 have ih0 := spec_HowMany.mono_l k
 unfold spec_HowMany.f
 repeat' first | (with_reducible first | apply ih0 | apply LeO.refl | apply LeO.none | apply LeO.ite | refine LeO.bind ?_ (fun _ => ?_)) | apply ih0 | apply LeO.none | apply LeO.ite | refine LeO.bind ?_ (fun _ => ?_)
set_option maxHeartbeats 8000000 in
set_option maxRecDepth 100000 in
theorem spec_HowMany.calls (k : Nat) (A0_0 : Option Addr) (c0_0 : Nat) (l0_0 : List Int) (a0_1 : Int) (a1 : Int) (r : Int) (w : World) (hr0_0 : Kd.C (Kd.int .i64) w A0_0 l0_0.length l0_0) (hc0_0 : l0_0.length ≤ c0_0) (h : spec_HowMany.f k l0_0 a0_1 a1 = some r) :
    Calls Try.prog 134 #[.agg #[.slice A0_0 l0_0.length c0_0, .int .i64 a0_1], .int .i64 a1] w fun e w' => e = .returned (.int .i64 r) ∧ Below w.heap.size w w' := by
 have hu44 := Try.underlying44
 have HR0_0 := A_ hr0_0
 have HC0_0 := A_ hc0_0
 clear hr0_0 hc0_0
 have HB := A_ (Below.refl w.heap.size w)
 have H : (spec_HowMany.l0 k a1 0 0 l0_0 a0_1) = some r := h
 clear h
 replace H' := A_ H; clear H
 go_enter Try.func134, Try.ntmps134
 go_wp2_with (first | ((with_reducible refine gate_dst (N := 2) rfl ?_); refine Y3_ ?_; clear HB; intro gb126 w3 BK126 GW126 HB))
 go_loopg [5, 6] k (fun kq v5 v6 w' => ∃ (x5_1 : Int) (x6_1 : Int), v5 = .int .i64 x5_1 ∧ v6 = .int .i64 x6_1 ∧ Aside0 (spec_HowMany.l0 kq a1 x5_1 x6_1 l0_0 a0_1 = some r) ∧ Aside0 (kq ≤ k) ∧ Aside0 (w'.heap[gb126]? = some (.cells #[(.slice A0_0 l0_0.length c0_0), .int .i64 a0_1] 44 (0, 0))) ∧ Aside0 (Below w.heap.size w w'))
 case atStart => exact ⟨(0), (0), rt_, rt_, H', ⟨Nat.le_refl _⟩, ⟨bk_ BK126⟩, ⟨hb_ HB⟩⟩
 case round =>
  clear H'
  obtain ⟨x5_1, x6_1, rfl, rfl, HA, HK1, BK126, HB⟩ := hrel
  cases gk with
  | zero => exact absurd HA.out (by simp [spec_HowMany.l0])
  | succ k1 =>
   have H := HA.out
   clear HA
   simp only [spec_HowMany.l0] at H
   replace H := ic_ H
   rcases H with ⟨c4b0, H⟩ | ⟨c4b0, H⟩
   ·
    replace H := ix_ H
    obtain ⟨c5b0, H⟩ := H
    replace H := bs_ H
    obtain ⟨t128, A6, H⟩ := H
    by_cases c7 : t128 = true
    ·
     subst c7
     replace H := it_ H
     replace H := bs_ H
     obtain ⟨t130, A8, H⟩ := H
     replace H := bs_ H
     obtain ⟨t131, A9, H⟩ := H
     replace H' := A_ H; clear H
     obtain ⟨hcz10_0, hcz10_1, hfz10_0, hfz10_1⟩ := cz2_ BK126
     obtain ⟨ad127, p127, q127, rfl, hx127_0⟩ := ab_int HB HR0_0 x6_1
     go_wp2_with (first | ((with_reducible refine gate_callee (f := 91) rfl ?_); refine goesL_ (some 20) rfl rfl Try.func91 (by kernel_rfl) rfl #[.int .i64 (rd l0_0 x6_1)] rfl al_ ?_; (with_reducible refine (spec_ValOk.calls (rd l0_0 x6_1) true _ A6.out).mono ?_); rintro e w' ⟨rfl, ⟨nd, rfl⟩⟩; refine ⟨_, rfl, ?_⟩; have p129 : 0 ≤ (x6_1 : Int) := od_; have q129 : x6_1 < (l0_0.length : Int) := od_; obtain ⟨ad129, e129, hx129_0⟩ := Kd.at_int HR0_0.out x6_1 p129 q129; obtain rfl : ad127 = ad129 := (by injection e129); replace hx129_0 := hx_ HB hx129_0; replace p129 := eq_true p129; replace q129 := eq_true q129) | (go_at_call 155; (with_reducible refine (spec_ClassOf.calls (rd l0_0 x6_1) t130 _ A8.out).mono ?_); rintro e w' ⟨rfl, ⟨nd, rfl⟩⟩) | ((with_reducible refine gate_callee (f := 154) rfl ?_); refine goesL_ (some 31) rfl rfl Try.func154 (by kernel_rfl) rfl #[.bool (t130 == a1)] rfl al_ ?_; (with_reducible refine (spec_l1Bit.calls (t130 == a1) t131 _ A9.out).mono ?_); rintro e w' ⟨rfl, ⟨nd, rfl⟩⟩; refine ⟨_, rfl, ?_⟩))
     go_roundg k1
     case measure => have := HK1.out; omega
     case rel => exact ⟨(wrap64 (x5_1 + t131)), (wrap64 (x6_1 + 1)), rt_, rt_, H', ⟨by have := HK1.out; omega⟩, ⟨bk_ BK126⟩, ⟨hb_ HB⟩⟩
    obtain rfl := Bool.eq_false_iff.mpr c7
    replace H := iF_ H
    replace H := bs_ H
    obtain ⟨t132, A11, H⟩ := H
    replace H' := A_ H; clear H
    obtain ⟨hcz12_0, hcz12_1, hfz12_0, hfz12_1⟩ := cz2_ BK126
    obtain ⟨ad127, p127, q127, rfl, hx127_0⟩ := ab_int HB HR0_0 x6_1
    go_wp2_with (first | ((with_reducible refine gate_callee (f := 91) rfl ?_); refine goesL_ (some 20) rfl rfl Try.func91 (by kernel_rfl) rfl #[.int .i64 (rd l0_0 x6_1)] rfl al_ ?_; (with_reducible refine (spec_ValOk.calls (rd l0_0 x6_1) false _ A6.out).mono ?_); rintro e w' ⟨rfl, ⟨nd, rfl⟩⟩; refine ⟨_, rfl, ?_⟩) | ((with_reducible refine gate_callee (f := 154) rfl ?_); refine goesL_ (some 31) rfl rfl Try.func154 (by kernel_rfl) rfl #[.bool false] rfl al_ ?_; (with_reducible refine (spec_l1Bit.calls false t132 _ A11.out).mono ?_); rintro e w' ⟨rfl, ⟨nd, rfl⟩⟩; refine ⟨_, rfl, ?_⟩))
    go_roundg k1
    case measure => have := HK1.out; omega
    case rel => exact ⟨(wrap64 (x5_1 + t132)), (wrap64 (x6_1 + 1)), rt_, rt_, H', ⟨by have := HK1.out; omega⟩, ⟨bk_ BK126⟩, ⟨hb_ HB⟩⟩
   obtain rfl := Option.some.inj H
   obtain ⟨hcz13_0, hcz13_1, hfz13_0, hfz13_1⟩ := cz2_ BK126
   go_wp2
   go_ret
   exact ⟨rs_, hb_ HB⟩

end Go.Proofs.Ytmkhghbalnadlaa.PFnAllowed
