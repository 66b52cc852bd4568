/- Contracts of functions of the program: each says that the call does what a plain Lean function tells. Made by programs of this session and of the kit. No condition beyond the hypotheses that each theorem names. -/
import Derived.Test.YtmkhghbalnadlaaPFnExactAfterx0
import Derived.Test.YtmkhghbalnadlaaPFnExactAfterx1
import Derived.Test.YtmkhghbalnadlaaPFnExactAfterx6
import Derived.Test.YtmkhghbalnadlaaPFnExactAfterx7
import Derived.Test.YtmkhghbalnadlaaPFnExactAfterx13
import Derived.Test.YtmkhghbalnadlaaPFnExactAfterx14
namespace Go.Proofs.Ytmkhghbalnadlaa.PFnExactAfter
open Go.RowKit Go.Proofs.YtmkhghbalnadlaaW.PrintWords Go.Proofs.YtmkhghbalnadlaaW.PrintLast Go.Proofs.YtmkhghbalnadlaaW.PrintMore
attribute [local go_sem] max2_int min2_int max_two min_two max_three min_three max_four min_four   -- for this text's walks alone
set_option linter.unusedVariables false
set_option linter.unusedSimpArgs false

/-! ### laws_FnExactAfter: function 4 -/
def laws_FnExactAfter.j0 : Nat → Bool → List Int → Int → Int → Int → Int → Int → List Int → List Int → Int → List Int → Int → Option (Bool)
 | 0, _, _, _, _, _, _, _, _, _, _, _, _ => none
 | k + 1, x69, x332000, x332001, x333000, x333001, x333002, x334000, x334001, x352000, x352001, x370000, x370001 => if x69 = true then (none) else ((laws_markRows.f k x370000 x370001 1).bind fun bt386 => ((laws_heldRows.f k bt386.2 x370001 1).bind fun t388 => (if t388 < 0 then (none) else (if t388 = bt386.1 then ((laws_toRows.f k x332000 x332001).bind fun bt389 => ((laws_toOp.f x333000 x333001 x333002).bind fun bt393 => ((laws_toRes.f k x334000 x334001).bind fun bt396 => ((impl_After.f k bt389.1 bt389.2 bt393.1 bt393.2.1 bt393.2.2 bt396.1 bt396.2).bind fun bt400 => ((laws_eqRows.f k bt400.1 bt400.2 x352000 x352001).bind fun t405 => (if t405 = true then ((laws_heldRows.f k bt386.2 x370001 1).bind fun t406 => (if t406 < 0 then (none) else (if t406 = bt386.1 then (some true) else (none)))) else (none))))))) else (none)))))
def laws_FnExactAfter.f (k : Nat) (l0_0 : List Int) (a0_1 : Int) (a1_0 : Int) (a1_1 : Int) (a1_2 : Int) (a2_0 : Int) (l2_1 : List Int) : Option (Bool) := (laws_szRows.f l0_0 a0_1 1048576).bind fun t334 => (if t334 < 0 then (some true) else ((laws_szRes.f a2_0 l2_1 t334).bind fun t335 => (if t335 < 0 then (some true) else ((laws_toRows.f k l0_0 a0_1).bind fun bt336 => ((laws_toOp.f a1_0 a1_1 a1_2).bind fun bt340 => ((laws_toRes.f k a2_0 l2_1).bind fun bt343 => ((spec_After.f k bt336.1 bt336.2 bt340.1 bt340.2.1 bt340.2.2 bt343.1 bt343.2).bind fun bt347 => ((laws_toRows.f k l0_0 a0_1).bind fun bt352 => ((laws_toRes.f k a2_0 l2_1).bind fun bt357 => ((laws_toOp.f a1_0 a1_1 a1_2).bind fun bt362 => ((impl_After.f k bt352.1 bt352.2 bt362.1 bt362.2.1 bt362.2.2 bt357.1 bt357.2).bind fun bt365 => ((laws_eqRows.f k bt365.1 bt365.2 bt347.1 bt347.2).bind fun t370 => (if t370 = true then ((laws_toRows.f k l0_0 a0_1).bind fun bt371 => ((laws_eqRows.f k bt352.1 bt352.2 bt371.1 bt371.2).bind fun t375 => (if t375 = true then ((laws_toRes.f k a2_0 l2_1).bind fun bt376 => ((laws_eqRes.f k bt357.1 bt357.2 bt376.1 bt376.2).bind fun t380 => (if t380 = true then ((laws_markRows.f k bt352.1 bt352.2 1).bind fun bt381 => ((laws_markRes.f k bt357.1 bt357.2 bt381.1).bind fun bt383 => (if bt383.1 < 0 then (laws_FnExactAfter.j0 k true l0_0 a0_1 a1_0 a1_1 a1_2 a2_0 l2_1 bt347.1 bt347.2 bt365.1 bt365.2) else ((laws_eqRows.f k bt365.1 bt365.2 bt347.1 bt347.2).bind fun t385 => (laws_FnExactAfter.j0 k (!t385) l0_0 a0_1 a1_0 a1_1 a1_2 a2_0 l2_1 bt347.1 bt347.2 bt365.1 bt365.2))))) else (none)))) else (none)))) else (none))))))))))))))
theorem laws_FnExactAfter.mono_l : ∀ k, (∀ y0 y1 y2 y3 y4 y5 y6 y7 y8 y9 y10 y11, LeO (laws_FnExactAfter.j0 k y0 y1 y2 y3 y4 y5 y6 y7 y8 y9 y10 y11) (laws_FnExactAfter.j0 (k + 1) y0 y1 y2 y3 y4 y5 y6 y7 y8 y9 y10 y11))
 | 0 => fun _ _ _ _ _ _ _ _ _ _ _ _ r h => by simp [laws_FnExactAfter.j0] at h
 | k + 1 => by
  have ih0 := laws_FnExactAfter.mono_l k
  ·
   intro y0 y1 y2 y3 y4 y5 y6 y7 y8 y9 y10 y11
   unfold laws_FnExactAfter.j0
   repeat' first
   | (with_reducible exact ih0 _ _ _ _ _ _ _ _ _ _ _ _)
   | (with_reducible exact impl_After.mono _ _ _ _ _ _ _ _)
   | (with_reducible exact laws_eqRes.mono _ _ _ _ _)
   | (with_reducible exact laws_eqRows.mono _ _ _ _ _)
   | (with_reducible exact laws_heldRows.mono _ _ _ _)
   | (with_reducible exact laws_markRes.mono _ _ _ _)
   | (with_reducible exact laws_markRows.mono _ _ _ _)
   | (with_reducible exact laws_toRes.mono _ _ _)
   | (with_reducible exact laws_toRows.mono _ _ _)
   | (with_reducible exact spec_After.mono _ _ _ _ _ _ _ _)
   | (with_reducible exact LeO.refl _)
   | (with_reducible exact LeO.none _)
   | (with_reducible refine LeO.ite ?_ ?_)
   | (with_reducible refine LeO.bind ?_ (fun _ => ?_))
   | exact ih0 _ _ _ _ _ _ _ _ _ _ _ _
   | exact impl_After.mono _ _ _ _ _ _ _ _
   | exact laws_eqRes.mono _ _ _ _ _
   | exact laws_eqRows.mono _ _ _ _ _
   | exact laws_heldRows.mono _ _ _ _
   | exact laws_markRes.mono _ _ _ _
   | exact laws_markRows.mono _ _ _ _
   | exact laws_toRes.mono _ _ _
   | exact laws_toRows.mono _ _ _
   | exact spec_After.mono _ _ _ _ _ _ _ _
   | exact LeO.none _
   | refine LeO.ite ?_ ?_
   | refine LeO.bind ?_ (fun _ => ?_)
theorem laws_FnExactAfter.mono : ∀ a0 a1 a2 a3 a4 a5 a6 k, LeO (laws_FnExactAfter.f k a0 a1 a2 a3 a4 a5 a6) (laws_FnExactAfter.f (k + 1) a0 a1 a2 a3 a4 a5 a6) := by
 intro a0 a1 a2 a3 a4 a5 a6 k
 have ih0 := laws_FnExactAfter.mono_l k
 unfold laws_FnExactAfter.f
 repeat' first
   | (with_reducible exact ih0 _ _ _ _ _ _ _ _ _ _ _ _)
   | (with_reducible exact impl_After.mono _ _ _ _ _ _ _ _)
   | (with_reducible exact laws_eqRes.mono _ _ _ _ _)
   | (with_reducible exact laws_eqRows.mono _ _ _ _ _)
   | (with_reducible exact laws_heldRows.mono _ _ _ _)
   | (with_reducible exact laws_markRes.mono _ _ _ _)
   | (with_reducible exact laws_markRows.mono _ _ _ _)
   | (with_reducible exact laws_toRes.mono _ _ _)
   | (with_reducible exact laws_toRows.mono _ _ _)
   | (with_reducible exact spec_After.mono _ _ _ _ _ _ _ _)
   | (with_reducible exact LeO.refl _)
   | (with_reducible exact LeO.none _)
   | (with_reducible refine LeO.ite ?_ ?_)
   | (with_reducible refine LeO.bind ?_ (fun _ => ?_))
   | exact ih0 _ _ _ _ _ _ _ _ _ _ _ _
   | exact impl_After.mono _ _ _ _ _ _ _ _
   | exact laws_eqRes.mono _ _ _ _ _
   | exact laws_eqRows.mono _ _ _ _ _
   | exact laws_heldRows.mono _ _ _ _
   | exact laws_markRes.mono _ _ _ _
   | exact laws_markRows.mono _ _ _ _
   | exact laws_toRes.mono _ _ _
   | exact laws_toRows.mono _ _ _
   | exact spec_After.mono _ _ _ _ _ _ _ _
   | exact LeO.none _
   | refine LeO.ite ?_ ?_
   | refine LeO.bind ?_ (fun _ => ?_)
def laws_FnExactAfter.T8 : Bool × List (List Nat × List Nat) := (true, [([], []), ([0], [0]), ([], []), ([2, 1], [2]), ([], []), ([4, 3], [4]), ([1, 3, 5, 5], [1, 3, 5]), ([], []), ([7, 6, 6, 0, 1, 2, 3, 4, 5, 6, 7], [6, 7])])
def laws_FnExactAfter.B8 : List Nat := [0, 1, 0, 7, 0, 31, 63, 0, 255]
theorem laws_FnExactAfter.tab8 : rtab .any (opsOf Try.f4 8) = laws_FnExactAfter.T8 := by kernel_rfl
theorem laws_FnExactAfter.bits8 : waitsOk laws_FnExactAfter.T8.2 laws_FnExactAfter.B8 = true := by kernel_rfl
def laws_FnExactAfter.T31 : Bool × List (List Nat × List Nat) := (true, [([], []), ([0], [0]), ([], []), ([2, 1], [2]), ([], []), ([4, 3], [4]), ([1, 3, 5, 5], [1, 3, 5]), ([], []), ([7, 6, 6, 0, 1, 2, 3, 4, 5, 6, 7], [6, 7])])
def laws_FnExactAfter.B31 : List Nat := [0, 1, 0, 7, 0, 31, 63, 0, 255]
theorem laws_FnExactAfter.tab31 : rtab .any (opsOf Try.f4 31) = laws_FnExactAfter.T31 := by kernel_rfl
theorem laws_FnExactAfter.bits31 : waitsOk laws_FnExactAfter.T31.2 laws_FnExactAfter.B31 = true := by kernel_rfl
set_option maxHeartbeats 8000000 in
set_option maxRecDepth 100000 in
theorem laws_FnExactAfter.calls (k : Nat) (A0_0 : Option Addr) (c0_0 : Nat) (l0_0 : List Int) (a0_1 : Int) (a1_0 : Int) (a1_1 : Int) (a1_2 : Int) (a2_0 : Int) (A2_1 : Option Addr) (c2_1 : Nat) (l2_1 : List Int) (r : Bool) (w : World) (hr0_0 : Kd.C (Kd.int .i64) w A0_0 l0_0.length l0_0) (hc0_0 : l0_0.length ≤ c0_0) (hr2_1 : Kd.C (Kd.int .i64) w A2_1 l2_1.length l2_1) (hc2_1 : l2_1.length ≤ c2_1) (h : laws_FnExactAfter.f k l0_0 a0_1 a1_0 a1_1 a1_2 a2_0 l2_1 = some r) :
    Calls Try.prog 4 #[.agg #[.slice A0_0 l0_0.length c0_0, .int .i64 a0_1], .agg #[.int .i64 a1_0, .int .i64 a1_1, .int .i64 a1_2], .agg #[.int .i64 a2_0, .slice A2_1 l2_1.length c2_1]] w fun e w' => e = .returned (.bool r) ∧ Below w.heap.size w w' := by
 have hu37 := Try.underlying37
 have hu39 := Try.underlying39
 have hu41 := Try.underlying41
 have hu44 := Try.underlying44
 have hu49 := Try.underlying49
 have HR0_0 := A_ hr0_0
 have HC0_0 := A_ hc0_0
 clear hr0_0 hc0_0
 have HR2_1 := A_ hr2_1
 have HC2_1 := A_ hc2_1
 clear hr2_1 hc2_1
 have HB := A_ (Below.refl w.heap.size w)
 have H : ((laws_szRows.f l0_0 a0_1 1048576).bind fun t334 => (if t334 < 0 then (some true) else ((laws_szRes.f a2_0 l2_1 t334).bind fun t335 => (if t335 < 0 then (some true) else ((laws_toRows.f k l0_0 a0_1).bind fun bt336 => ((laws_toOp.f a1_0 a1_1 a1_2).bind fun bt340 => ((laws_toRes.f k a2_0 l2_1).bind fun bt343 => ((spec_After.f k bt336.1 bt336.2 bt340.1 bt340.2.1 bt340.2.2 bt343.1 bt343.2).bind fun bt347 => ((laws_toRows.f k l0_0 a0_1).bind fun bt352 => ((laws_toRes.f k a2_0 l2_1).bind fun bt357 => ((laws_toOp.f a1_0 a1_1 a1_2).bind fun bt362 => ((impl_After.f k bt352.1 bt352.2 bt362.1 bt362.2.1 bt362.2.2 bt357.1 bt357.2).bind fun bt365 => ((laws_eqRows.f k bt365.1 bt365.2 bt347.1 bt347.2).bind fun t370 => (if t370 = true then ((laws_toRows.f k l0_0 a0_1).bind fun bt371 => ((laws_eqRows.f k bt352.1 bt352.2 bt371.1 bt371.2).bind fun t375 => (if t375 = true then ((laws_toRes.f k a2_0 l2_1).bind fun bt376 => ((laws_eqRes.f k bt357.1 bt357.2 bt376.1 bt376.2).bind fun t380 => (if t380 = true then ((laws_markRows.f k bt352.1 bt352.2 1).bind fun bt381 => ((laws_markRes.f k bt357.1 bt357.2 bt381.1).bind fun bt383 => (if bt383.1 < 0 then (laws_FnExactAfter.j0 k true l0_0 a0_1 a1_0 a1_1 a1_2 a2_0 l2_1 bt347.1 bt347.2 bt365.1 bt365.2) else ((laws_eqRows.f k bt365.1 bt365.2 bt347.1 bt347.2).bind fun t385 => (laws_FnExactAfter.j0 k (!t385) l0_0 a0_1 a1_0 a1_1 a1_2 a2_0 l2_1 bt347.1 bt347.2 bt365.1 bt365.2))))) else (none)))) else (none)))) else (none))))))))))))))) = some r := h
 clear h
 replace H := bs_ H
 obtain ⟨t334, A4, H⟩ := H
 replace H := ic_ H
 rcases H with ⟨c5b0, H⟩ | ⟨c5b0, H⟩
 ·
  obtain rfl := Option.some.inj H
  go_enter Try.func4, Try.ntmps4
  go_wp2_with (first | (refine Y20_ ?_; clear HB; intro gb331 w6 BK331 GW331 HB) | (refine Y21_ ?_; clear HB BK331; intro gb332 w7 BK332 GW332 HB NB331_332 NB332_331 BK331) | (refine Y22_ ?_; clear HB BK331 BK332; intro gb333 w8 BK333 GW333 HB NB331_333 NB333_331 NB332_333 NB333_332 BK331 BK332 hnb9 hnc9 hnb10 hnc10 hcz11_0 hcz11_1 hfz11_0 hfz11_1) | ((with_reducible refine gate_callee (f := 14) rfl ?_); refine goesL_ (some 18) rfl rfl Try.func14 (by kernel_rfl) rfl #[.agg #[.slice A0_0 l0_0.length c0_0, .int .i64 a0_1], .int .i64 1048576] rfl al_ ?_; (with_reducible refine (laws_szRows.calls _ _ l0_0 a0_1 1048576 t334 _ ?side1 ?side2 A4.out).mono ?_); (case side1 => exact cb_ (Kd.C_below HR0_0.out HB.out)); (case side2 => exact HC0_0.out); rintro e w12 ⟨rfl, hb⟩; refine ⟨_, rfl, ?_⟩; replace BK331 := bb_ BK331 hb; replace BK332 := bb_ BK332 hb; replace BK333 := bb_ BK333 hb; replace HB := hs_ HB hb; (try clear hb); (try clear hb2); (try clear hk); (try clear hi)))
  go_ret
  exact ⟨rs_, hb_ HB⟩
 replace H := bs_ H
 obtain ⟨t335, A13, H⟩ := H
 replace H := ic_ H
 rcases H with ⟨c14b0, H⟩ | ⟨c14b0, H⟩
 ·
  obtain rfl := Option.some.inj H
  go_enter Try.func4, Try.ntmps4
  go_wp2_with (first | (refine Y20_ ?_; clear HB; intro gb331 w15 BK331 GW331 HB) | (refine Y21_ ?_; clear HB BK331; intro gb332 w16 BK332 GW332 HB NB331_332 NB332_331 BK331) | (refine Y22_ ?_; clear HB BK331 BK332; intro gb333 w17 BK333 GW333 HB NB331_333 NB333_331 NB332_333 NB333_332 BK331 BK332 hnb18 hnc18 hnb19 hnc19 hcz20_0 hcz20_1 hfz20_0 hfz20_1) | (refine Y23_ ?_; clear BK331 BK332 BK333 HB; intro w21 BK331 BK332 BK333 HB hnb22 hnc22 hcz23_0 hcz23_1 hfz23_0 hfz23_1) | (refine Y24_ ?_; clear BK331 BK332 BK333 HB; intro w24 BK331 BK332 BK333 HB))
  go_ret
  exact ⟨rs_, hb_ HB⟩
 replace H := bs_ H
 obtain ⟨⟨t336, t339⟩, A25, H⟩ := H
 dsimp only at H
 replace H := bs_ H
 obtain ⟨⟨t340, t341, t342⟩, A26, H⟩ := H
 dsimp only at H
 replace H := bs_ H
 obtain ⟨⟨t343, t344⟩, A27, H⟩ := H
 dsimp only at H
 replace H := bs_ H
 obtain ⟨⟨t347, t350⟩, A28, H⟩ := H
 dsimp only at H
 replace H := bs_ H
 obtain ⟨⟨t352, t355⟩, A29, H⟩ := H
 dsimp only at H
 replace H := bs_ H
 obtain ⟨⟨t357, t358⟩, A30, H⟩ := H
 dsimp only at H
 replace H := bs_ H
 obtain ⟨⟨t362, t363, t364⟩, A31, H⟩ := H
 dsimp only at H
 replace H := bs_ H
 obtain ⟨⟨t365, t368⟩, A32, H⟩ := H
 dsimp only at H
 replace H := bs_ H
 obtain ⟨t370, A33, H⟩ := H
 by_cases c34 : t370 = true
 ·
  subst c34
  replace H := it_ H
  replace H := bs_ H
  obtain ⟨⟨t371, t374⟩, A35, H⟩ := H
  dsimp only at H
  replace H := bs_ H
  obtain ⟨t375, A36, H⟩ := H
  by_cases c37 : t375 = true
  ·
   subst c37
   replace H := it_ H
   replace H := bs_ H
   obtain ⟨⟨t376, t377⟩, A38, H⟩ := H
   dsimp only at H
   replace H := bs_ H
   obtain ⟨t380, A39, H⟩ := H
   by_cases c40 : t380 = true
   ·
    subst c40
    replace H := it_ H
    replace H := bs_ H
    obtain ⟨⟨t381, t382⟩, A41, H⟩ := H
    dsimp only at H
    replace H := bs_ H
    obtain ⟨⟨t383, t384⟩, A42, H⟩ := H
    dsimp only at H
    have HC43 := A_ H
    clear H
    go_enter Try.func4, Try.ntmps4
    try go_wp2_with (first | (refine Y20_ ?_; clear HB; intro gb331 w44 BK331 GW331 HB) | (refine Y21_ ?_; clear HB BK331; intro gb332 w45 BK332 GW332 HB NB331_332 NB332_331 BK331) | (refine Y22_ ?_; clear HB BK331 BK332; intro gb333 w46 BK333 GW333 HB NB331_333 NB333_331 NB332_333 NB333_332 BK331 BK332 hnb47 hnc47 hnb48 hnc48 hcz49_0 hcz49_1 hfz49_0 hfz49_1) | (refine Y23_ ?_; clear BK331 BK332 BK333 HB; intro w50 BK331 BK332 BK333 HB hnb51 hnc51 hcz52_0 hcz52_1 hfz52_0 hfz52_1) | (refine Y24_ ?_; clear BK331 BK332 BK333 HB; intro w53 BK331 BK332 BK333 HB))
    replace BK331 := A_ (blk_drew BK331.out)
    replace BK332 := A_ (blk_drew BK332.out)
    replace BK333 := A_ (blk_drew BK333.out)
    replace HB := A_ (below_drew1 HB.out)
    refine start_ (n := 9) (S := fun w' => w'.cell? ⟨gb331, 0, none⟩ = some (.slice A0_0 l0_0.length c0_0) ∧ w'.cell? ⟨gb331, 1, none⟩ = some (.int .i64 a0_1) ∧ w'.cell? ⟨gb332, 0, none⟩ = some (.int .i64 a1_0) ∧ w'.cell? ⟨gb332, 1, none⟩ = some (.int .i64 a1_1) ∧ w'.cell? ⟨gb332, 2, none⟩ = some (.int .i64 a1_2) ∧ w'.cell? ⟨gb333, 0, none⟩ = some (.int .i64 a2_0) ∧ w'.cell? ⟨gb333, 1, none⟩ = some (.slice A2_1 l2_1.length c2_1)) (ds := []) (bt_ 0 9) (by kernel_rfl) rfl rfl ⟨(blk_cell BK331.out 0).trans rfl, (blk_cell BK331.out 1).trans rfl, (blk_cell BK332.out 0).trans rfl, (blk_cell BK332.out 1).trans rfl, (blk_cell BK332.out 2).trans rfl, (blk_cell BK333.out 0).trans rfl, (blk_cell BK333.out 1).trans rfl⟩ (fun hHeld => ?_); refine with_tabW laws_FnExactAfter.tab8 laws_FnExactAfter.bits8 (fun HT_ HW_ => ?_)
    generalize w53.drew = w54 at BK331 BK332 BK333 HB hHeld ⊢
    refine tk7_ 0 26 (bt_ 1 9) hHeld ?_
    refine tk7_ 2 28 (bt_ 5 9) hHeld ?_
    refine tk7_ 4 30 (bt_ 21 9) hHeld ?_
    refine join_ (σ := Value × Value × Value × Nat) 1 (bt_ 255 9) (fun s_ => [(27, .agg #[s_.1, .int .i64 t339]), (29, .agg #[.int .i64 t340, .int .i64 t341, .int .i64 t342]), (31, .agg #[.int .i64 t343, s_.2.1]), (32, .agg #[s_.2.2.1, .int .i64 t350]), (8, .pointer (some ⟨s_.2.2.2, 0, none⟩))]) (fun s_ w' => (w'.cell? ⟨gb331, 0, none⟩ = some (.slice A0_0 l0_0.length c0_0) ∧ w'.cell? ⟨gb331, 1, none⟩ = some (.int .i64 a0_1) ∧ w'.cell? ⟨gb332, 0, none⟩ = some (.int .i64 a1_0) ∧ w'.cell? ⟨gb332, 1, none⟩ = some (.int .i64 a1_1) ∧ w'.cell? ⟨gb332, 2, none⟩ = some (.int .i64 a1_2) ∧ w'.cell? ⟨gb333, 0, none⟩ = some (.int .i64 a2_0) ∧ w'.cell? ⟨gb333, 1, none⟩ = some (.slice A2_1 l2_1.length c2_1)) ∧ (Kd.R (Kd.int .i64) 3 w' w.heap.size (fun k_ => some k_ ≠ (s_.2.1 : Value).ownBlock ∧ some k_ ≠ (s_.2.2.1 : Value).ownBlock) s_.1 t336) ∧ (Kd.R (Kd.int .i64) 3 w' w.heap.size (fun k_ => some k_ ≠ (s_.1 : Value).ownBlock ∧ some k_ ≠ (s_.2.2.1 : Value).ownBlock) s_.2.1 t344) ∧ (Kd.R (Kd.int .i64) 3 w' w.heap.size (fun k_ => some k_ ≠ (s_.1 : Value).ownBlock ∧ some k_ ≠ (s_.2.1 : Value).ownBlock) s_.2.2.1 t347) ∧ (w'.heap[gb331]? = some (.cells #[.slice A0_0 l0_0.length c0_0, .int .i64 a0_1] 37 (0, 0))) ∧ (w'.heap[gb332]? = some (.cells #[.int .i64 a1_0, .int .i64 a1_1, .int .i64 a1_2] 39 (0, 0))) ∧ (w'.heap[gb333]? = some (.cells #[.int .i64 a2_0, .slice A2_1 l2_1.length c2_1] 41 (0, 0))) ∧ (w'.heap[s_.2.2.2]? = some (.cells #[.slice none 0 0, .int .i64 0] 44 (0, 0))) ∧ (w.heap.size ≤ s_.2.2.2) ∧ (w.heap.size ≤ s_.2.2.2) ∧ (gb331 ≠ s_.2.2.2) ∧ (s_.2.2.2 ≠ gb331) ∧ (gb332 ≠ s_.2.2.2) ∧ (s_.2.2.2 ≠ gb332) ∧ (gb333 ≠ s_.2.2.2) ∧ (s_.2.2.2 ≠ gb333) ∧ (Below w.heap.size w w')) ?_ ?_
    rotate_left
    ·
     intro hJ1_3_5_6_7
     refine join_ (σ := Value × Value × Value) 2 (bt_ 127 9) (fun s_ => [(27, .agg #[s_.1, .int .i64 t339]), (29, .agg #[.int .i64 t340, .int .i64 t341, .int .i64 t342]), (31, .agg #[.int .i64 t343, s_.2.1]), (32, .agg #[s_.2.2, .int .i64 t350])]) (fun s_ w' => (w'.cell? ⟨gb331, 0, none⟩ = some (.slice A0_0 l0_0.length c0_0) ∧ w'.cell? ⟨gb331, 1, none⟩ = some (.int .i64 a0_1) ∧ w'.cell? ⟨gb332, 0, none⟩ = some (.int .i64 a1_0) ∧ w'.cell? ⟨gb332, 1, none⟩ = some (.int .i64 a1_1) ∧ w'.cell? ⟨gb332, 2, none⟩ = some (.int .i64 a1_2) ∧ w'.cell? ⟨gb333, 0, none⟩ = some (.int .i64 a2_0) ∧ w'.cell? ⟨gb333, 1, none⟩ = some (.slice A2_1 l2_1.length c2_1)) ∧ (Kd.R (Kd.int .i64) 3 w' w.heap.size (fun k_ => some k_ ≠ (s_.2.1 : Value).ownBlock ∧ some k_ ≠ (s_.2.2 : Value).ownBlock) s_.1 t336) ∧ (Kd.R (Kd.int .i64) 3 w' w.heap.size (fun k_ => some k_ ≠ (s_.1 : Value).ownBlock ∧ some k_ ≠ (s_.2.2 : Value).ownBlock) s_.2.1 t344) ∧ (Kd.R (Kd.int .i64) 3 w' w.heap.size (fun k_ => some k_ ≠ (s_.1 : Value).ownBlock ∧ some k_ ≠ (s_.2.1 : Value).ownBlock) s_.2.2 t347) ∧ (w'.heap[gb331]? = some (.cells #[.slice A0_0 l0_0.length c0_0, .int .i64 a0_1] 37 (0, 0))) ∧ (w'.heap[gb332]? = some (.cells #[.int .i64 a1_0, .int .i64 a1_1, .int .i64 a1_2] 39 (0, 0))) ∧ (w'.heap[gb333]? = some (.cells #[.int .i64 a2_0, .slice A2_1 l2_1.length c2_1] 41 (0, 0))) ∧ (Below w.heap.size w w')) ?_ ?_
     rotate_left
     ·
      intro hJ1_3_5_6
      refine join_ (σ := Value × Value × Nat) 2 (bt_ 191 9) (fun s_ => [(27, .agg #[s_.1, .int .i64 t339]), (29, .agg #[.int .i64 t340, .int .i64 t341, .int .i64 t342]), (31, .agg #[.int .i64 t343, s_.2.1]), (8, .pointer (some ⟨s_.2.2, 0, none⟩))]) (fun s_ w' => (w'.cell? ⟨gb331, 0, none⟩ = some (.slice A0_0 l0_0.length c0_0) ∧ w'.cell? ⟨gb331, 1, none⟩ = some (.int .i64 a0_1) ∧ w'.cell? ⟨gb332, 0, none⟩ = some (.int .i64 a1_0) ∧ w'.cell? ⟨gb332, 1, none⟩ = some (.int .i64 a1_1) ∧ w'.cell? ⟨gb332, 2, none⟩ = some (.int .i64 a1_2) ∧ w'.cell? ⟨gb333, 0, none⟩ = some (.int .i64 a2_0) ∧ w'.cell? ⟨gb333, 1, none⟩ = some (.slice A2_1 l2_1.length c2_1)) ∧ (Kd.R (Kd.int .i64) 3 w' w.heap.size (fun k_ => some k_ ≠ (s_.2.1 : Value).ownBlock) s_.1 t336) ∧ (Kd.R (Kd.int .i64) 3 w' w.heap.size (fun k_ => some k_ ≠ (s_.1 : Value).ownBlock) s_.2.1 t344) ∧ (w'.heap[gb331]? = some (.cells #[.slice A0_0 l0_0.length c0_0, .int .i64 a0_1] 37 (0, 0))) ∧ (w'.heap[gb332]? = some (.cells #[.int .i64 a1_0, .int .i64 a1_1, .int .i64 a1_2] 39 (0, 0))) ∧ (w'.heap[gb333]? = some (.cells #[.int .i64 a2_0, .slice A2_1 l2_1.length c2_1] 41 (0, 0))) ∧ (w'.heap[s_.2.2]? = some (.cells #[.slice none 0 0, .int .i64 0] 44 (0, 0))) ∧ (w.heap.size ≤ s_.2.2) ∧ (w.heap.size ≤ s_.2.2) ∧ (gb331 ≠ s_.2.2) ∧ (s_.2.2 ≠ gb331) ∧ (gb332 ≠ s_.2.2) ∧ (s_.2.2 ≠ gb332) ∧ (gb333 ≠ s_.2.2) ∧ (s_.2.2 ≠ gb333) ∧ (Below w.heap.size w w')) ?_ ?_
      rotate_left
      ·
       intro hJ1_3_5_7
       refine join_ (σ := Value × Value) 3 (bt_ 63 9) (fun s_ => [(27, .agg #[s_.1, .int .i64 t339]), (29, .agg #[.int .i64 t340, .int .i64 t341, .int .i64 t342]), (31, .agg #[.int .i64 t343, s_.2])]) (fun s_ w' => (w'.cell? ⟨gb331, 0, none⟩ = some (.slice A0_0 l0_0.length c0_0) ∧ w'.cell? ⟨gb331, 1, none⟩ = some (.int .i64 a0_1) ∧ w'.cell? ⟨gb332, 0, none⟩ = some (.int .i64 a1_0) ∧ w'.cell? ⟨gb332, 1, none⟩ = some (.int .i64 a1_1) ∧ w'.cell? ⟨gb332, 2, none⟩ = some (.int .i64 a1_2) ∧ w'.cell? ⟨gb333, 0, none⟩ = some (.int .i64 a2_0) ∧ w'.cell? ⟨gb333, 1, none⟩ = some (.slice A2_1 l2_1.length c2_1)) ∧ (Kd.R (Kd.int .i64) 3 w' w.heap.size (fun k_ => some k_ ≠ (s_.2 : Value).ownBlock) s_.1 t336) ∧ (Kd.R (Kd.int .i64) 3 w' w.heap.size (fun k_ => some k_ ≠ (s_.1 : Value).ownBlock) s_.2 t344) ∧ (w'.heap[gb331]? = some (.cells #[.slice A0_0 l0_0.length c0_0, .int .i64 a0_1] 37 (0, 0))) ∧ (w'.heap[gb332]? = some (.cells #[.int .i64 a1_0, .int .i64 a1_1, .int .i64 a1_2] 39 (0, 0))) ∧ (w'.heap[gb333]? = some (.cells #[.int .i64 a2_0, .slice A2_1 l2_1.length c2_1] 41 (0, 0))) ∧ (Below w.heap.size w w')) ?_ ?_
       rotate_left
       ·
        intro hJ1_3_5
        refine join_ (σ := Value × Nat) 3 (bt_ 159 9) (fun s_ => [(27, .agg #[s_.1, .int .i64 t339]), (29, .agg #[.int .i64 t340, .int .i64 t341, .int .i64 t342]), (8, .pointer (some ⟨s_.2, 0, none⟩))]) (fun s_ w' => (w'.cell? ⟨gb331, 0, none⟩ = some (.slice A0_0 l0_0.length c0_0) ∧ w'.cell? ⟨gb331, 1, none⟩ = some (.int .i64 a0_1) ∧ w'.cell? ⟨gb332, 0, none⟩ = some (.int .i64 a1_0) ∧ w'.cell? ⟨gb332, 1, none⟩ = some (.int .i64 a1_1) ∧ w'.cell? ⟨gb332, 2, none⟩ = some (.int .i64 a1_2) ∧ w'.cell? ⟨gb333, 0, none⟩ = some (.int .i64 a2_0) ∧ w'.cell? ⟨gb333, 1, none⟩ = some (.slice A2_1 l2_1.length c2_1)) ∧ (Kd.R (Kd.int .i64) 3 w' w.heap.size (fun _ => True) s_.1 t336) ∧ (w'.heap[gb331]? = some (.cells #[.slice A0_0 l0_0.length c0_0, .int .i64 a0_1] 37 (0, 0))) ∧ (w'.heap[gb332]? = some (.cells #[.int .i64 a1_0, .int .i64 a1_1, .int .i64 a1_2] 39 (0, 0))) ∧ (w'.heap[gb333]? = some (.cells #[.int .i64 a2_0, .slice A2_1 l2_1.length c2_1] 41 (0, 0))) ∧ (w'.heap[s_.2]? = some (.cells #[.slice none 0 0, .int .i64 0] 44 (0, 0))) ∧ (w.heap.size ≤ s_.2) ∧ (w.heap.size ≤ s_.2) ∧ (gb331 ≠ s_.2) ∧ (s_.2 ≠ gb331) ∧ (gb332 ≠ s_.2) ∧ (s_.2 ≠ gb332) ∧ (gb333 ≠ s_.2) ∧ (s_.2 ≠ gb333) ∧ (Below w.heap.size w w')) ?_ ?_
        rotate_left
        ·
         intro hJ1_3_7
         refine join_ (σ := Value) 4 (bt_ 31 9) (fun s_ => [(27, .agg #[s_, .int .i64 t339]), (29, .agg #[.int .i64 t340, .int .i64 t341, .int .i64 t342])]) (fun s_ w' => (w'.cell? ⟨gb331, 0, none⟩ = some (.slice A0_0 l0_0.length c0_0) ∧ w'.cell? ⟨gb331, 1, none⟩ = some (.int .i64 a0_1) ∧ w'.cell? ⟨gb332, 0, none⟩ = some (.int .i64 a1_0) ∧ w'.cell? ⟨gb332, 1, none⟩ = some (.int .i64 a1_1) ∧ w'.cell? ⟨gb332, 2, none⟩ = some (.int .i64 a1_2) ∧ w'.cell? ⟨gb333, 0, none⟩ = some (.int .i64 a2_0) ∧ w'.cell? ⟨gb333, 1, none⟩ = some (.slice A2_1 l2_1.length c2_1)) ∧ (Kd.R (Kd.int .i64) 3 w' w.heap.size (fun _ => True) s_ t336) ∧ (w'.heap[gb331]? = some (.cells #[.slice A0_0 l0_0.length c0_0, .int .i64 a0_1] 37 (0, 0))) ∧ (w'.heap[gb332]? = some (.cells #[.int .i64 a1_0, .int .i64 a1_1, .int .i64 a1_2] 39 (0, 0))) ∧ (w'.heap[gb333]? = some (.cells #[.int .i64 a2_0, .slice A2_1 l2_1.length c2_1] 41 (0, 0))) ∧ (Below w.heap.size w w')) ?_ ?_
         rotate_left
         ·
          intro hJ1_3
          refine join_ (σ := Value × Nat) 4 (bt_ 151 9) (fun s_ => [(27, .agg #[s_.1, .int .i64 t339]), (8, .pointer (some ⟨s_.2, 0, none⟩))]) (fun s_ w' => (w'.cell? ⟨gb331, 0, none⟩ = some (.slice A0_0 l0_0.length c0_0) ∧ w'.cell? ⟨gb331, 1, none⟩ = some (.int .i64 a0_1) ∧ w'.cell? ⟨gb332, 0, none⟩ = some (.int .i64 a1_0) ∧ w'.cell? ⟨gb332, 1, none⟩ = some (.int .i64 a1_1) ∧ w'.cell? ⟨gb332, 2, none⟩ = some (.int .i64 a1_2) ∧ w'.cell? ⟨gb333, 0, none⟩ = some (.int .i64 a2_0) ∧ w'.cell? ⟨gb333, 1, none⟩ = some (.slice A2_1 l2_1.length c2_1)) ∧ (Kd.R (Kd.int .i64) 3 w' w.heap.size (fun _ => True) s_.1 t336) ∧ (w'.heap[gb331]? = some (.cells #[.slice A0_0 l0_0.length c0_0, .int .i64 a0_1] 37 (0, 0))) ∧ (w'.heap[gb332]? = some (.cells #[.int .i64 a1_0, .int .i64 a1_1, .int .i64 a1_2] 39 (0, 0))) ∧ (w'.heap[gb333]? = some (.cells #[.int .i64 a2_0, .slice A2_1 l2_1.length c2_1] 41 (0, 0))) ∧ (w'.heap[s_.2]? = some (.cells #[.slice none 0 0, .int .i64 0] 44 (0, 0))) ∧ (w.heap.size ≤ s_.2) ∧ (w.heap.size ≤ s_.2) ∧ (gb331 ≠ s_.2) ∧ (s_.2 ≠ gb331) ∧ (gb332 ≠ s_.2) ∧ (s_.2 ≠ gb332) ∧ (gb333 ≠ s_.2) ∧ (s_.2 ≠ gb333) ∧ (Below w.heap.size w w')) ?_ ?_
          rotate_left
          ·
           intro hJ1_7
           refine join_ (σ := Value) 5 (bt_ 23 9) (fun s_ => [(27, .agg #[s_, .int .i64 t339])]) (fun s_ w' => (w'.cell? ⟨gb331, 0, none⟩ = some (.slice A0_0 l0_0.length c0_0) ∧ w'.cell? ⟨gb331, 1, none⟩ = some (.int .i64 a0_1) ∧ w'.cell? ⟨gb332, 0, none⟩ = some (.int .i64 a1_0) ∧ w'.cell? ⟨gb332, 1, none⟩ = some (.int .i64 a1_1) ∧ w'.cell? ⟨gb332, 2, none⟩ = some (.int .i64 a1_2) ∧ w'.cell? ⟨gb333, 0, none⟩ = some (.int .i64 a2_0) ∧ w'.cell? ⟨gb333, 1, none⟩ = some (.slice A2_1 l2_1.length c2_1)) ∧ (Kd.R (Kd.int .i64) 3 w' w.heap.size (fun _ => True) s_ t336) ∧ (w'.heap[gb331]? = some (.cells #[.slice A0_0 l0_0.length c0_0, .int .i64 a0_1] 37 (0, 0))) ∧ (w'.heap[gb332]? = some (.cells #[.int .i64 a1_0, .int .i64 a1_1, .int .i64 a1_2] 39 (0, 0))) ∧ (w'.heap[gb333]? = some (.cells #[.int .i64 a2_0, .slice A2_1 l2_1.length c2_1] 41 (0, 0))) ∧ (Below w.heap.size w w')) ?_ ?_
           rotate_left
           ·
            intro hJ1
            refine join_ (σ := Nat) 5 (bt_ 149 9) (fun s_ => [(8, .pointer (some ⟨s_, 0, none⟩))]) (fun s_ w' => (w'.cell? ⟨gb331, 0, none⟩ = some (.slice A0_0 l0_0.length c0_0) ∧ w'.cell? ⟨gb331, 1, none⟩ = some (.int .i64 a0_1) ∧ w'.cell? ⟨gb332, 0, none⟩ = some (.int .i64 a1_0) ∧ w'.cell? ⟨gb332, 1, none⟩ = some (.int .i64 a1_1) ∧ w'.cell? ⟨gb332, 2, none⟩ = some (.int .i64 a1_2) ∧ w'.cell? ⟨gb333, 0, none⟩ = some (.int .i64 a2_0) ∧ w'.cell? ⟨gb333, 1, none⟩ = some (.slice A2_1 l2_1.length c2_1)) ∧ (w'.heap[gb331]? = some (.cells #[.slice A0_0 l0_0.length c0_0, .int .i64 a0_1] 37 (0, 0))) ∧ (w'.heap[gb332]? = some (.cells #[.int .i64 a1_0, .int .i64 a1_1, .int .i64 a1_2] 39 (0, 0))) ∧ (w'.heap[gb333]? = some (.cells #[.int .i64 a2_0, .slice A2_1 l2_1.length c2_1] 41 (0, 0))) ∧ (w'.heap[s_]? = some (.cells #[.slice none 0 0, .int .i64 0] 44 (0, 0))) ∧ (w.heap.size ≤ s_) ∧ (w.heap.size ≤ s_) ∧ (gb331 ≠ s_) ∧ (s_ ≠ gb331) ∧ (gb332 ≠ s_) ∧ (s_ ≠ gb332) ∧ (gb333 ≠ s_) ∧ (s_ ≠ gb333) ∧ (Below w.heap.size w w')) ?_ ?_
            rotate_left
            ·
             intro hJ7
             refine two_ (i := 1) (j := 7) (Ni := some 27) (Nj := some 8) (bt_ 23 9) (bt_ 149 9) rfl rfl rfl rfl (two_of HT_.out (by kernel_rfl)) (by decide) (by decide) (fun K hK => ?_) (fun K hK => ?_)
             ·
              skip
              refine goes_ Try.func17 (by kernel_rfl) rfl #[.agg #[.slice A0_0 l0_0.length c0_0, .int .i64 a0_1]] (by rfl) rfl rfl al_ ?_
              with_reducible refine (laws_toRows.calls k _ _ l0_0 a0_1 t336 t339 _ ?side1 ?side2 A25.out).mono ?_
              (case side1 => exact cb_ (Kd.C_below HR0_0.out HB.out))
              (case side2 => exact HC0_0.out)
              rintro e w55 ⟨v337, rfl, ho0, hb⟩
              refine ⟨_, rfl, ?_⟩
              have HO338 := A_ (Kd.R_lower ho0 (below_size (hb_ HB)))
              replace BK331 := bb_ BK331 hb
              replace BK332 := bb_ BK332 hb
              replace BK333 := bb_ BK333 hb
              replace HB := hs_ HB hb
              (try clear hb)
              (try clear hb2)
              (try clear hk)
              (try clear hi)
              (try clear ho0)
              refine hK.out _ _ ⟨(blk_cell BK331.out 0).trans rfl, (blk_cell BK331.out 1).trans rfl, (blk_cell BK332.out 0).trans rfl, (blk_cell BK332.out 1).trans rfl, (blk_cell BK332.out 2).trans rfl, (blk_cell BK333.out 0).trans rfl, (blk_cell BK333.out 1).trans rfl⟩ (fun hHeld => ?_)
              clear hK K
              refine norm_ (a' := ?_) ?_ ?_
              rotate_left
              ·
               show Act.put _ (some 27) _ = _
               simp only [Act.put, List.setIfInBounds_toArray, List.set_cons_zero, List.set_cons_succ, i64_w, i32_w]
               rfl
              exact norm_ nm_ (hJ1 (v337) _ ⟨hHeld, (rb_ HO338.out), (bk_ BK331), (bk_ BK332), (bk_ BK333), (hb_ HB)⟩)
             skip
             refine box_step ?hg (N := 8) ?hd (cs := #[.slice none 0 0, .int .i64 0]) (t := 44) ?hr ?_; (case hd => rfl); (case hg => rfl); (case hr => first | (go_simp; done) | (go_simp; rfl))
             intro gb351 hg w55 hbox hb
             have BK351 := A_ hbox
             have GW351 := gs_ HB hg
             have NB331_351 := ng_ BK331 hg
             have NB351_331 := ns_ (ng_ BK331 hg)
             have NB332_351 := ng_ BK332 hg
             have NB351_332 := ns_ (ng_ BK332 hg)
             have NB333_351 := ng_ BK333 hg
             have NB351_333 := ns_ (ng_ BK333 hg)
             replace BK331 := bb_ BK331 hb
             replace BK332 := bb_ BK332 hb
             replace BK333 := bb_ BK333 hb
             replace HB := hs_ HB hb
             clear hb hbox hg
             refine hK.out _ _ ⟨(blk_cell BK331.out 0).trans rfl, (blk_cell BK331.out 1).trans rfl, (blk_cell BK332.out 0).trans rfl, (blk_cell BK332.out 1).trans rfl, (blk_cell BK332.out 2).trans rfl, (blk_cell BK333.out 0).trans rfl, (blk_cell BK333.out 1).trans rfl⟩ (fun hHeld => ?_)
             clear hK K
             refine norm_ (a' := ?_) ?_ ?_
             rotate_left
             ·
              show Act.put _ (some 8) _ = _
              simp only [Act.put, List.setIfInBounds_toArray, List.set_cons_zero, List.set_cons_succ, i64_w, i32_w]
              rfl
             exact norm_ nm_ (hJ7 (gb351) _ ⟨hHeld, (bk_ BK331), (bk_ BK332), (bk_ BK333), (bk_ BK351), GW351.out, GW351.out, NB331_351.out, NB351_331.out, NB332_351.out, NB351_332.out, NB333_351.out, NB351_333.out, (hb_ HB)⟩)
            skip
            rintro gb351 w56 ⟨hS_, h0_, h1_, h2_, h3_, h4_, h5_, h6_, h7_, h8_, h9_, h10_, h11_, h12_⟩
            (try dsimp only at h0_ h1_ h2_ h3_ h4_ h5_ h6_ h7_ h8_ h9_ h10_ h11_ h12_)
            clear BK331 BK332 BK333 HB
            have BK331 := A_ h0_
            have BK332 := A_ h1_
            have BK333 := A_ h2_
            have BK351 := A_ h3_
            have GW351 := A_ h4_
            have NB331_351 := A_ h6_
            have NB351_331 := A_ h7_
            have NB332_351 := A_ h8_
            have NB351_332 := A_ h9_
            have NB333_351 := A_ h10_
            have NB351_333 := A_ h11_
            have HB := A_ h12_
            clear h0_ h1_ h2_ h3_ h4_ h5_ h6_ h7_ h8_ h9_ h10_ h11_ h12_
            (try dsimp only at hS_)
            have hHeld := hS_
            refine norm_ (a' := ?_) ?_ ?_
            rotate_left
            ·
             simp only [putAll, Act.put, List.setIfInBounds_toArray, List.set_cons_zero, List.set_cons_succ]
             rfl
            refine one_ (i := 1) (N := some 27) (bt_ 151 9) rfl rfl (one_of HT_.out (by kernel_rfl)) (by decide) (fun K hK => ?_)
            refine goes_ Try.func17 (by kernel_rfl) rfl #[.agg #[.slice A0_0 l0_0.length c0_0, .int .i64 a0_1]] (by rfl) rfl rfl al_ ?_
            with_reducible refine (laws_toRows.calls k _ _ l0_0 a0_1 t336 t339 _ ?side1 ?side2 A25.out).mono ?_
            (case side1 => exact cb_ (Kd.C_below HR0_0.out HB.out))
            (case side2 => exact HC0_0.out)
            rintro e w57 ⟨v337, rfl, ho0, hb⟩
            refine ⟨_, rfl, ?_⟩
            have HO338 := A_ (Kd.R_lower ho0 (below_size (hb_ HB)))
            replace BK331 := bb_ BK331 hb
            replace BK332 := bb_ BK332 hb
            replace BK333 := bb_ BK333 hb
            replace BK351 := bb_ BK351 hb
            replace HB := hs_ HB hb
            (try clear hb)
            (try clear hb2)
            (try clear hk)
            (try clear hi)
            (try clear ho0)
            refine hK.out _ _ ⟨(blk_cell BK331.out 0).trans rfl, (blk_cell BK331.out 1).trans rfl, (blk_cell BK332.out 0).trans rfl, (blk_cell BK332.out 1).trans rfl, (blk_cell BK332.out 2).trans rfl, (blk_cell BK333.out 0).trans rfl, (blk_cell BK333.out 1).trans rfl⟩ (fun hHeld => ?_)
            clear hK K
            refine norm_ (a' := ?_) ?_ ?_
            rotate_left
            ·
             show Act.put _ (some 27) _ = _
             simp only [Act.put, List.setIfInBounds_toArray, List.set_cons_zero, List.set_cons_succ, i64_w, i32_w]
             rfl
            exact norm_ nm_ (hJ1_7 (v337, gb351) _ ⟨hHeld, (rb_ HO338.out), (bk_ BK331), (bk_ BK332), (bk_ BK333), (bk_ BK351), GW351.out, GW351.out, NB331_351.out, NB351_331.out, NB332_351.out, NB351_332.out, NB333_351.out, NB351_333.out, (hb_ HB)⟩)
           skip
           rintro v337 w56 ⟨hS_, h0_, h1_, h2_, h3_, h4_⟩
           (try dsimp only at h0_ h1_ h2_ h3_ h4_)
           clear BK331 BK332 BK333 HB
           have HO338 := A_ h0_
           have BK331 := A_ h1_
           have BK332 := A_ h2_
           have BK333 := A_ h3_
           have HB := A_ h4_
           clear h0_ h1_ h2_ h3_ h4_
           (try dsimp only at hS_)
           have hHeld := hS_
           refine norm_ (a' := ?_) ?_ ?_
           rotate_left
           ·
            simp only [putAll, Act.put, List.setIfInBounds_toArray, List.set_cons_zero, List.set_cons_succ]
            rfl
           refine two_ (i := 3) (j := 7) (Ni := some 29) (Nj := some 8) (bt_ 31 9) (bt_ 151 9) rfl rfl rfl rfl (two_of HT_.out (by kernel_rfl)) (by decide) (by decide) (fun K hK => ?_) (fun K hK => ?_)
           ·
            skip
            refine goes_ Try.func18 (by kernel_rfl) rfl #[.agg #[.int .i64 a1_0, .int .i64 a1_1, .int .i64 a1_2]] (by rfl) rfl rfl al_ ?_
            with_reducible refine (laws_toOp.calls a1_0 a1_1 a1_2 t340 t341 t342 _ A26.out).mono ?_
            rintro e w57 ⟨rfl, hb⟩
            refine ⟨_, rfl, ?_⟩
            replace HO338 := A_ (Kd.R_below (rb_ HO338.out) hb)
            replace BK331 := bb_ BK331 hb
            replace BK332 := bb_ BK332 hb
            replace BK333 := bb_ BK333 hb
            replace HB := hs_ HB hb
            (try clear hb)
            (try clear hb2)
            (try clear hk)
            (try clear hi)
            refine hK.out _ _ ⟨(blk_cell BK331.out 0).trans rfl, (blk_cell BK331.out 1).trans rfl, (blk_cell BK332.out 0).trans rfl, (blk_cell BK332.out 1).trans rfl, (blk_cell BK332.out 2).trans rfl, (blk_cell BK333.out 0).trans rfl, (blk_cell BK333.out 1).trans rfl⟩ (fun hHeld => ?_)
            clear hK K
            refine norm_ (a' := ?_) ?_ ?_
            rotate_left
            ·
             show Act.put _ (some 29) _ = _
             simp only [Act.put, List.setIfInBounds_toArray, List.set_cons_zero, List.set_cons_succ, i64_w, i32_w]
             rfl
            exact norm_ nm_ (hJ1_3 (v337) _ ⟨hHeld, (rb_ HO338.out), (bk_ BK331), (bk_ BK332), (bk_ BK333), (hb_ HB)⟩)
           skip
           refine box_step ?hg (N := 8) ?hd (cs := #[.slice none 0 0, .int .i64 0]) (t := 44) ?hr ?_; (case hd => rfl); (case hg => rfl); (case hr => first | (go_simp; done) | (go_simp; rfl))
           intro gb351 hg w57 hbox hb
           have BK351 := A_ hbox
           have GW351 := gs_ HB hg
           have NB331_351 := ng_ BK331 hg
           have NB351_331 := ns_ (ng_ BK331 hg)
           have NB332_351 := ng_ BK332 hg
           have NB351_332 := ns_ (ng_ BK332 hg)
           have NB333_351 := ng_ BK333 hg
           have NB351_333 := ns_ (ng_ BK333 hg)
           replace HO338 := A_ (Kd.R_below (rb_ HO338.out) hb)
           replace BK331 := bb_ BK331 hb
           replace BK332 := bb_ BK332 hb
           replace BK333 := bb_ BK333 hb
           replace HB := hs_ HB hb
           clear hb hbox hg
           refine hK.out _ _ ⟨(blk_cell BK331.out 0).trans rfl, (blk_cell BK331.out 1).trans rfl, (blk_cell BK332.out 0).trans rfl, (blk_cell BK332.out 1).trans rfl, (blk_cell BK332.out 2).trans rfl, (blk_cell BK333.out 0).trans rfl, (blk_cell BK333.out 1).trans rfl⟩ (fun hHeld => ?_)
           clear hK K
           refine norm_ (a' := ?_) ?_ ?_
           rotate_left
           ·
            show Act.put _ (some 8) _ = _
            simp only [Act.put, List.setIfInBounds_toArray, List.set_cons_zero, List.set_cons_succ, i64_w, i32_w]
            rfl
           exact norm_ nm_ (hJ1_7 (v337, gb351) _ ⟨hHeld, (rb_ HO338.out), (bk_ BK331), (bk_ BK332), (bk_ BK333), (bk_ BK351), GW351.out, GW351.out, NB331_351.out, NB351_331.out, NB332_351.out, NB351_332.out, NB333_351.out, NB351_333.out, (hb_ HB)⟩)
          skip
          rintro ⟨v337, gb351⟩ w57 ⟨hS_, h0_, h1_, h2_, h3_, h4_, h5_, h6_, h7_, h8_, h9_, h10_, h11_, h12_, h13_⟩
          (try dsimp only at h0_ h1_ h2_ h3_ h4_ h5_ h6_ h7_ h8_ h9_ h10_ h11_ h12_ h13_)
          clear BK331 BK332 BK333 HB
          have HO338 := A_ h0_
          have BK331 := A_ h1_
          have BK332 := A_ h2_
          have BK333 := A_ h3_
          have BK351 := A_ h4_
          have GW351 := A_ h5_
          have NB331_351 := A_ h7_
          have NB351_331 := A_ h8_
          have NB332_351 := A_ h9_
          have NB351_332 := A_ h10_
          have NB333_351 := A_ h11_
          have NB351_333 := A_ h12_
          have HB := A_ h13_
          clear h0_ h1_ h2_ h3_ h4_ h5_ h6_ h7_ h8_ h9_ h10_ h11_ h12_ h13_
          (try dsimp only at hS_)
          have hHeld := hS_
          refine norm_ (a' := ?_) ?_ ?_
          rotate_left
          ·
           simp only [putAll, Act.put, List.setIfInBounds_toArray, List.set_cons_zero, List.set_cons_succ]
           rfl
          refine one_ (i := 3) (N := some 29) (bt_ 159 9) rfl rfl (one_of HT_.out (by kernel_rfl)) (by decide) (fun K hK => ?_)
          refine goes_ Try.func18 (by kernel_rfl) rfl #[.agg #[.int .i64 a1_0, .int .i64 a1_1, .int .i64 a1_2]] (by rfl) rfl rfl al_ ?_
          with_reducible refine (laws_toOp.calls a1_0 a1_1 a1_2 t340 t341 t342 _ A26.out).mono ?_
          rintro e w58 ⟨rfl, hb⟩
          refine ⟨_, rfl, ?_⟩
          replace HO338 := A_ (Kd.R_below (rb_ HO338.out) hb)
          replace BK331 := bb_ BK331 hb
          replace BK332 := bb_ BK332 hb
          replace BK333 := bb_ BK333 hb
          replace BK351 := bb_ BK351 hb
          replace HB := hs_ HB hb
          (try clear hb)
          (try clear hb2)
          (try clear hk)
          (try clear hi)
          refine hK.out _ _ ⟨(blk_cell BK331.out 0).trans rfl, (blk_cell BK331.out 1).trans rfl, (blk_cell BK332.out 0).trans rfl, (blk_cell BK332.out 1).trans rfl, (blk_cell BK332.out 2).trans rfl, (blk_cell BK333.out 0).trans rfl, (blk_cell BK333.out 1).trans rfl⟩ (fun hHeld => ?_)
          clear hK K
          refine norm_ (a' := ?_) ?_ ?_
          rotate_left
          ·
           show Act.put _ (some 29) _ = _
           simp only [Act.put, List.setIfInBounds_toArray, List.set_cons_zero, List.set_cons_succ, i64_w, i32_w]
           rfl
          exact norm_ nm_ (hJ1_3_7 (v337, gb351) _ ⟨hHeld, (rb_ HO338.out), (bk_ BK331), (bk_ BK332), (bk_ BK333), (bk_ BK351), GW351.out, GW351.out, NB331_351.out, NB351_331.out, NB332_351.out, NB351_332.out, NB333_351.out, NB351_333.out, (hb_ HB)⟩)
         skip
         rintro v337 w57 ⟨hS_, h0_, h1_, h2_, h3_, h4_⟩
         (try dsimp only at h0_ h1_ h2_ h3_ h4_)
         clear BK331 BK332 BK333 HB
         have HO338 := A_ h0_
         have BK331 := A_ h1_
         have BK332 := A_ h2_
         have BK333 := A_ h3_
         have HB := A_ h4_
         clear h0_ h1_ h2_ h3_ h4_
         (try dsimp only at hS_)
         have hHeld := hS_
         refine norm_ (a' := ?_) ?_ ?_
         rotate_left
         ·
          simp only [putAll, Act.put, List.setIfInBounds_toArray, List.set_cons_zero, List.set_cons_succ]
          rfl
         refine two_ (i := 5) (j := 7) (Ni := some 31) (Nj := some 8) (bt_ 63 9) (bt_ 159 9) rfl rfl rfl rfl (two_of HT_.out (by kernel_rfl)) (by decide) (by decide) (fun K hK => ?_) (fun K hK => ?_)
         ·
          skip
          refine goes_ Try.func19 (by kernel_rfl) rfl #[.agg #[.int .i64 a2_0, .slice A2_1 l2_1.length c2_1]] (by rfl) rfl rfl al_ ?_
          with_reducible refine (laws_toRes.calls k a2_0 _ _ l2_1 t343 t344 _ ?side1 ?side2 A27.out).mono ?_
          (case side1 => exact cb_ (Kd.C_below HR2_1.out HB.out))
          (case side2 => exact HC2_1.out)
          rintro e w58 ⟨v345, rfl, ho0, hb⟩
          refine ⟨_, rfl, ?_⟩
          have HO346 := A_ (Kd.R_lower (Kd.R_new' ho0 (Kd.R_lt (rb_ HO338.out))) (below_size (hb_ HB)))
          replace HO338 := A_ (Kd.R_elder' (rb_ HO338.out) (Kd.R_base ho0) hb)
          replace BK331 := bb_ BK331 hb
          replace BK332 := bb_ BK332 hb
          replace BK333 := bb_ BK333 hb
          replace HB := hs_ HB hb
          (try clear hb)
          (try clear hb2)
          (try clear hk)
          (try clear hi)
          (try clear ho0)
          refine hK.out _ _ ⟨(blk_cell BK331.out 0).trans rfl, (blk_cell BK331.out 1).trans rfl, (blk_cell BK332.out 0).trans rfl, (blk_cell BK332.out 1).trans rfl, (blk_cell BK332.out 2).trans rfl, (blk_cell BK333.out 0).trans rfl, (blk_cell BK333.out 1).trans rfl⟩ (fun hHeld => ?_)
          clear hK K
          refine norm_ (a' := ?_) ?_ ?_
          rotate_left
          ·
           show Act.put _ (some 31) _ = _
           simp only [Act.put, List.setIfInBounds_toArray, List.set_cons_zero, List.set_cons_succ, i64_w, i32_w]
           rfl
          exact norm_ nm_ (hJ1_3_5 (v337, v345) _ ⟨hHeld, (by (with_reducible repeat (first | apply Kd.R_alloc | apply Kd.R_drewN | apply Kd.R_drew)); exact Kd.R_mono HO338.out (fun _ hk => hk.2)), (by (with_reducible repeat (first | apply Kd.R_alloc | apply Kd.R_drewN | apply Kd.R_drew)); exact Kd.R_mono HO346.out (fun _ hk => hk.2)), (bk_ BK331), (bk_ BK332), (bk_ BK333), (hb_ HB)⟩)
         skip
         refine box_step ?hg (N := 8) ?hd (cs := #[.slice none 0 0, .int .i64 0]) (t := 44) ?hr ?_; (case hd => rfl); (case hg => rfl); (case hr => first | (go_simp; done) | (go_simp; rfl))
         intro gb351 hg w58 hbox hb
         have BK351 := A_ hbox
         have GW351 := gs_ HB hg
         have NB331_351 := ng_ BK331 hg
         have NB351_331 := ns_ (ng_ BK331 hg)
         have NB332_351 := ng_ BK332 hg
         have NB351_332 := ns_ (ng_ BK332 hg)
         have NB333_351 := ng_ BK333 hg
         have NB351_333 := ns_ (ng_ BK333 hg)
         replace HO338 := A_ (Kd.R_below (rb_ HO338.out) hb)
         replace BK331 := bb_ BK331 hb
         replace BK332 := bb_ BK332 hb
         replace BK333 := bb_ BK333 hb
         replace HB := hs_ HB hb
         clear hb hbox hg
         refine hK.out _ _ ⟨(blk_cell BK331.out 0).trans rfl, (blk_cell BK331.out 1).trans rfl, (blk_cell BK332.out 0).trans rfl, (blk_cell BK332.out 1).trans rfl, (blk_cell BK332.out 2).trans rfl, (blk_cell BK333.out 0).trans rfl, (blk_cell BK333.out 1).trans rfl⟩ (fun hHeld => ?_)
         clear hK K
         refine norm_ (a' := ?_) ?_ ?_
         rotate_left
         ·
          show Act.put _ (some 8) _ = _
          simp only [Act.put, List.setIfInBounds_toArray, List.set_cons_zero, List.set_cons_succ, i64_w, i32_w]
          rfl
         exact norm_ nm_ (hJ1_3_7 (v337, gb351) _ ⟨hHeld, (rb_ HO338.out), (bk_ BK331), (bk_ BK332), (bk_ BK333), (bk_ BK351), GW351.out, GW351.out, NB331_351.out, NB351_331.out, NB332_351.out, NB351_332.out, NB333_351.out, NB351_333.out, (hb_ HB)⟩)
        skip
        rintro ⟨v337, gb351⟩ w58 ⟨hS_, h0_, h1_, h2_, h3_, h4_, h5_, h6_, h7_, h8_, h9_, h10_, h11_, h12_, h13_⟩
        (try dsimp only at h0_ h1_ h2_ h3_ h4_ h5_ h6_ h7_ h8_ h9_ h10_ h11_ h12_ h13_)
        clear BK331 BK332 BK333 HB
        have HO338 := A_ h0_
        have BK331 := A_ h1_
        have BK332 := A_ h2_
        have BK333 := A_ h3_
        have BK351 := A_ h4_
        have GW351 := A_ h5_
        have NB331_351 := A_ h7_
        have NB351_331 := A_ h8_
        have NB332_351 := A_ h9_
        have NB351_332 := A_ h10_
        have NB333_351 := A_ h11_
        have NB351_333 := A_ h12_
        have HB := A_ h13_
        clear h0_ h1_ h2_ h3_ h4_ h5_ h6_ h7_ h8_ h9_ h10_ h11_ h12_ h13_
        (try dsimp only at hS_)
        have hHeld := hS_
        refine norm_ (a' := ?_) ?_ ?_
        rotate_left
        ·
         simp only [putAll, Act.put, List.setIfInBounds_toArray, List.set_cons_zero, List.set_cons_succ]
         rfl
        refine one_ (i := 5) (N := some 31) (bt_ 191 9) rfl rfl (one_of HT_.out (by kernel_rfl)) (by decide) (fun K hK => ?_)
        refine goes_ Try.func19 (by kernel_rfl) rfl #[.agg #[.int .i64 a2_0, .slice A2_1 l2_1.length c2_1]] (by rfl) rfl rfl al_ ?_
        with_reducible refine (laws_toRes.calls k a2_0 _ _ l2_1 t343 t344 _ ?side1 ?side2 A27.out).mono ?_
        (case side1 => exact cb_ (Kd.C_below HR2_1.out HB.out))
        (case side2 => exact HC2_1.out)
        rintro e w59 ⟨v345, rfl, ho0, hb⟩
        refine ⟨_, rfl, ?_⟩
        have HO346 := A_ (Kd.R_lower (Kd.R_new' ho0 (Kd.R_lt (rb_ HO338.out))) (below_size (hb_ HB)))
        replace HO338 := A_ (Kd.R_elder' (rb_ HO338.out) (Kd.R_base ho0) hb)
        replace BK331 := bb_ BK331 hb
        replace BK332 := bb_ BK332 hb
        replace BK333 := bb_ BK333 hb
        replace BK351 := bb_ BK351 hb
        replace HB := hs_ HB hb
        (try clear hb)
        (try clear hb2)
        (try clear hk)
        (try clear hi)
        (try clear ho0)
        refine hK.out _ _ ⟨(blk_cell BK331.out 0).trans rfl, (blk_cell BK331.out 1).trans rfl, (blk_cell BK332.out 0).trans rfl, (blk_cell BK332.out 1).trans rfl, (blk_cell BK332.out 2).trans rfl, (blk_cell BK333.out 0).trans rfl, (blk_cell BK333.out 1).trans rfl⟩ (fun hHeld => ?_)
        clear hK K
        refine norm_ (a' := ?_) ?_ ?_
        rotate_left
        ·
         show Act.put _ (some 31) _ = _
         simp only [Act.put, List.setIfInBounds_toArray, List.set_cons_zero, List.set_cons_succ, i64_w, i32_w]
         rfl
        exact norm_ nm_ (hJ1_3_5_7 (v337, v345, gb351) _ ⟨hHeld, (by (with_reducible repeat (first | apply Kd.R_alloc | apply Kd.R_drewN | apply Kd.R_drew)); exact Kd.R_mono HO338.out (fun _ hk => hk.2)), (by (with_reducible repeat (first | apply Kd.R_alloc | apply Kd.R_drewN | apply Kd.R_drew)); exact Kd.R_mono HO346.out (fun _ hk => hk.2)), (bk_ BK331), (bk_ BK332), (bk_ BK333), (bk_ BK351), GW351.out, GW351.out, NB331_351.out, NB351_331.out, NB332_351.out, NB351_332.out, NB333_351.out, NB351_333.out, (hb_ HB)⟩)
       skip
       rintro ⟨v337, v345⟩ w58 ⟨hS_, h0_, h1_, h2_, h3_, h4_, h5_⟩
       (try dsimp only at h0_ h1_ h2_ h3_ h4_ h5_)
       clear BK331 BK332 BK333 HB
       have HO338 := A_ h0_
       have HO346 := A_ h1_
       have BK331 := A_ h2_
       have BK332 := A_ h3_
       have BK333 := A_ h4_
       have HB := A_ h5_
       clear h0_ h1_ h2_ h3_ h4_ h5_
       (try dsimp only at hS_)
       have hHeld := hS_
       obtain ⟨Ao59, co59, eo59⟩ := Kd.R_slice HO338.out
       (first | subst eo59 | (injection eo59 with f1_ f2_ f3_; have f4_ := f1_.symm; have f5_ := f3_.symm; clear f1_ f2_ f3_; subst f4_; subst f5_))
       obtain ⟨Ao60, co60, eo60⟩ := Kd.R_slice HO346.out
       (first | subst eo60 | (injection eo60 with f1_ f2_ f3_; have f4_ := f1_.symm; have f5_ := f3_.symm; clear f1_ f2_ f3_; subst f4_; subst f5_))
       refine norm_ (a' := ?_) ?_ ?_
       rotate_left
       ·
        simp only [putAll, Act.put, List.setIfInBounds_toArray, List.set_cons_zero, List.set_cons_succ]
        rfl
       refine two_ (i := 6) (j := 7) (Ni := some 32) (Nj := some 8) (bt_ 127 9) (bt_ 191 9) rfl rfl rfl rfl (two_of HT_.out (by kernel_rfl)) (by decide) (by decide) (fun K hK => ?_) (fun K hK => ?_)
       ·
        skip
        refine goes_ Try.func16 (by kernel_rfl) rfl #[.agg #[.slice Ao59 t336.length co59, .int .i64 t339], .agg #[.int .i64 t340, .int .i64 t341, .int .i64 t342], .agg #[.int .i64 t343, .slice Ao60 t344.length co60]] (by rfl) rfl rfl al_ ?_
        with_reducible refine (spec_After.calls k _ _ t336 t339 t340 t341 t342 t343 _ _ t344 t347 t350 _ ?side1 ?side2 ?side3 ?side4 A28.out).mono ?_
        (case side1 => repeat (first | exact (Kd.R_reads' HO338.out).2.2 | (with_reducible refine Kd.C_alloc ?_ _) | (with_reducible refine Kd.C_drewN ?_ _) | (with_reducible refine Kd.C_drew ?_)))
        (case side2 => exact (Kd.R_reads' HO338.out).2.1)
        (case side3 => repeat (first | exact (Kd.R_reads' HO346.out).2.2 | (with_reducible refine Kd.C_alloc ?_ _) | (with_reducible refine Kd.C_drewN ?_ _) | (with_reducible refine Kd.C_drew ?_)))
        (case side4 => exact (Kd.R_reads' HO346.out).2.1)
        rintro e w61 ⟨v348, rfl, ho0, hb⟩
        refine ⟨_, rfl, ?_⟩
        have HO349 := A_ (Kd.R_lower (Kd.R_new' (Kd.R_new' ho0 (Kd.R_lt (rb_ HO338.out))) (Kd.R_lt (rb_ HO346.out))) (below_size (hb_ HB)))
        replace HO338 := A_ (Kd.R_elder' (rb_ HO338.out) (Kd.R_base ho0) hb)
        replace HO346 := A_ (Kd.R_elder' (rb_ HO346.out) (Kd.R_base ho0) hb)
        replace BK331 := bb_ BK331 hb
        replace BK332 := bb_ BK332 hb
        replace BK333 := bb_ BK333 hb
        replace HB := hs_ HB hb
        (try clear hb)
        (try clear hb2)
        (try clear hk)
        (try clear hi)
        (try clear ho0)
        refine hK.out _ _ ⟨(blk_cell BK331.out 0).trans rfl, (blk_cell BK331.out 1).trans rfl, (blk_cell BK332.out 0).trans rfl, (blk_cell BK332.out 1).trans rfl, (blk_cell BK332.out 2).trans rfl, (blk_cell BK333.out 0).trans rfl, (blk_cell BK333.out 1).trans rfl⟩ (fun hHeld => ?_)
        clear hK K
        refine norm_ (a' := ?_) ?_ ?_
        rotate_left
        ·
         show Act.put _ (some 32) _ = _
         simp only [Act.put, List.setIfInBounds_toArray, List.set_cons_zero, List.set_cons_succ, i64_w, i32_w]
         rfl
        exact norm_ nm_ (hJ1_3_5_6 (.slice Ao59 t336.length co59, .slice Ao60 t344.length co60, v348) _ ⟨hHeld, (rb_ HO338.out), (rb_ HO346.out), (by (with_reducible repeat (first | apply Kd.R_alloc | apply Kd.R_drewN | apply Kd.R_drew)); exact Kd.R_mono HO349.out (fun _ hk => ⟨hk.1.2, hk.2⟩)), (bk_ BK331), (bk_ BK332), (bk_ BK333), (hb_ HB)⟩)
       skip
       refine box_step ?hg (N := 8) ?hd (cs := #[.slice none 0 0, .int .i64 0]) (t := 44) ?hr ?_; (case hd => rfl); (case hg => rfl); (case hr => first | (go_simp; done) | (go_simp; rfl))
       intro gb351 hg w59 hbox hb
       have BK351 := A_ hbox
       have GW351 := gs_ HB hg
       have NB331_351 := ng_ BK331 hg
       have NB351_331 := ns_ (ng_ BK331 hg)
       have NB332_351 := ng_ BK332 hg
       have NB351_332 := ns_ (ng_ BK332 hg)
       have NB333_351 := ng_ BK333 hg
       have NB351_333 := ns_ (ng_ BK333 hg)
       replace HO338 := A_ (Kd.R_below (rb_ HO338.out) hb)
       replace HO346 := A_ (Kd.R_below (rb_ HO346.out) hb)
       replace BK331 := bb_ BK331 hb
       replace BK332 := bb_ BK332 hb
       replace BK333 := bb_ BK333 hb
       replace HB := hs_ HB hb
       clear hb hbox hg
       refine hK.out _ _ ⟨(blk_cell BK331.out 0).trans rfl, (blk_cell BK331.out 1).trans rfl, (blk_cell BK332.out 0).trans rfl, (blk_cell BK332.out 1).trans rfl, (blk_cell BK332.out 2).trans rfl, (blk_cell BK333.out 0).trans rfl, (blk_cell BK333.out 1).trans rfl⟩ (fun hHeld => ?_)
       clear hK K
       refine norm_ (a' := ?_) ?_ ?_
       rotate_left
       ·
        show Act.put _ (some 8) _ = _
        simp only [Act.put, List.setIfInBounds_toArray, List.set_cons_zero, List.set_cons_succ, i64_w, i32_w]
        rfl
       exact norm_ nm_ (hJ1_3_5_7 (.slice Ao59 t336.length co59, .slice Ao60 t344.length co60, gb351) _ ⟨hHeld, (rb_ HO338.out), (rb_ HO346.out), (bk_ BK331), (bk_ BK332), (bk_ BK333), (bk_ BK351), GW351.out, GW351.out, NB331_351.out, NB351_331.out, NB332_351.out, NB351_332.out, NB333_351.out, NB351_333.out, (hb_ HB)⟩)
      skip
      rintro ⟨v337, v345, gb351⟩ w59 ⟨hS_, h0_, h1_, h2_, h3_, h4_, h5_, h6_, h7_, h8_, h9_, h10_, h11_, h12_, h13_, h14_⟩
      (try dsimp only at h0_ h1_ h2_ h3_ h4_ h5_ h6_ h7_ h8_ h9_ h10_ h11_ h12_ h13_ h14_)
      clear BK331 BK332 BK333 HB
      have HO338 := A_ h0_
      have HO346 := A_ h1_
      have BK331 := A_ h2_
      have BK332 := A_ h3_
      have BK333 := A_ h4_
      have BK351 := A_ h5_
      have GW351 := A_ h6_
      have NB331_351 := A_ h8_
      have NB351_331 := A_ h9_
      have NB332_351 := A_ h10_
      have NB351_332 := A_ h11_
      have NB333_351 := A_ h12_
      have NB351_333 := A_ h13_
      have HB := A_ h14_
      clear h0_ h1_ h2_ h3_ h4_ h5_ h6_ h7_ h8_ h9_ h10_ h11_ h12_ h13_ h14_
      (try dsimp only at hS_)
      have hHeld := hS_
      obtain ⟨Ao60, co60, eo60⟩ := Kd.R_slice HO338.out
      (first | subst eo60 | (injection eo60 with f1_ f2_ f3_; have f4_ := f1_.symm; have f5_ := f3_.symm; clear f1_ f2_ f3_; subst f4_; subst f5_))
      obtain ⟨Ao61, co61, eo61⟩ := Kd.R_slice HO346.out
      (first | subst eo61 | (injection eo61 with f1_ f2_ f3_; have f4_ := f1_.symm; have f5_ := f3_.symm; clear f1_ f2_ f3_; subst f4_; subst f5_))
      refine norm_ (a' := ?_) ?_ ?_
      rotate_left
      ·
       simp only [putAll, Act.put, List.setIfInBounds_toArray, List.set_cons_zero, List.set_cons_succ]
       rfl
      refine one_ (i := 6) (N := some 32) (bt_ 255 9) rfl rfl (one_of HT_.out (by kernel_rfl)) (by decide) (fun K hK => ?_)
      refine goes_ Try.func16 (by kernel_rfl) rfl #[.agg #[.slice Ao60 t336.length co60, .int .i64 t339], .agg #[.int .i64 t340, .int .i64 t341, .int .i64 t342], .agg #[.int .i64 t343, .slice Ao61 t344.length co61]] (by rfl) rfl rfl al_ ?_
      with_reducible refine (spec_After.calls k _ _ t336 t339 t340 t341 t342 t343 _ _ t344 t347 t350 _ ?side1 ?side2 ?side3 ?side4 A28.out).mono ?_
      (case side1 => repeat (first | exact (Kd.R_reads' HO338.out).2.2 | (with_reducible refine Kd.C_alloc ?_ _) | (with_reducible refine Kd.C_drewN ?_ _) | (with_reducible refine Kd.C_drew ?_)))
      (case side2 => exact (Kd.R_reads' HO338.out).2.1)
      (case side3 => repeat (first | exact (Kd.R_reads' HO346.out).2.2 | (with_reducible refine Kd.C_alloc ?_ _) | (with_reducible refine Kd.C_drewN ?_ _) | (with_reducible refine Kd.C_drew ?_)))
      (case side4 => exact (Kd.R_reads' HO346.out).2.1)
      rintro e w62 ⟨v348, rfl, ho0, hb⟩
      refine ⟨_, rfl, ?_⟩
      have HO349 := A_ (Kd.R_lower (Kd.R_new' (Kd.R_new' ho0 (Kd.R_lt (rb_ HO338.out))) (Kd.R_lt (rb_ HO346.out))) (below_size (hb_ HB)))
      replace HO338 := A_ (Kd.R_elder' (rb_ HO338.out) (Kd.R_base ho0) hb)
      replace HO346 := A_ (Kd.R_elder' (rb_ HO346.out) (Kd.R_base ho0) hb)
      replace BK331 := bb_ BK331 hb
      replace BK332 := bb_ BK332 hb
      replace BK333 := bb_ BK333 hb
      replace BK351 := bb_ BK351 hb
      replace HB := hs_ HB hb
      (try clear hb)
      (try clear hb2)
      (try clear hk)
      (try clear hi)
      (try clear ho0)
      refine hK.out _ _ ⟨(blk_cell BK331.out 0).trans rfl, (blk_cell BK331.out 1).trans rfl, (blk_cell BK332.out 0).trans rfl, (blk_cell BK332.out 1).trans rfl, (blk_cell BK332.out 2).trans rfl, (blk_cell BK333.out 0).trans rfl, (blk_cell BK333.out 1).trans rfl⟩ (fun hHeld => ?_)
      clear hK K
      refine norm_ (a' := ?_) ?_ ?_
      rotate_left
      ·
       show Act.put _ (some 32) _ = _
       simp only [Act.put, List.setIfInBounds_toArray, List.set_cons_zero, List.set_cons_succ, i64_w, i32_w]
       rfl
      exact norm_ nm_ (hJ1_3_5_6_7 (.slice Ao60 t336.length co60, .slice Ao61 t344.length co61, v348, gb351) _ ⟨hHeld, (rb_ HO338.out), (rb_ HO346.out), (by (with_reducible repeat (first | apply Kd.R_alloc | apply Kd.R_drewN | apply Kd.R_drew)); exact Kd.R_mono HO349.out (fun _ hk => ⟨hk.1.2, hk.2⟩)), (bk_ BK331), (bk_ BK332), (bk_ BK333), (bk_ BK351), GW351.out, GW351.out, NB331_351.out, NB351_331.out, NB332_351.out, NB351_332.out, NB333_351.out, NB351_333.out, (hb_ HB)⟩)
     skip
     rintro ⟨v337, v345, v348⟩ w61 ⟨hS_, h0_, h1_, h2_, h3_, h4_, h5_, h6_⟩
     (try dsimp only at h0_ h1_ h2_ h3_ h4_ h5_ h6_)
     clear BK331 BK332 BK333 HB
     have HO338 := A_ h0_
     have HO346 := A_ h1_
     have HO349 := A_ h2_
     have BK331 := A_ h3_
     have BK332 := A_ h4_
     have BK333 := A_ h5_
     have HB := A_ h6_
     clear h0_ h1_ h2_ h3_ h4_ h5_ h6_
     (try dsimp only at hS_)
     have hHeld := hS_
     refine norm_ (a' := ?_) ?_ ?_
     rotate_left
     ·
      simp only [putAll, Act.put, List.setIfInBounds_toArray, List.set_cons_zero, List.set_cons_succ]
      rfl
     refine one_ (i := 7) (N := some 8) (bt_ 255 9) rfl rfl (one_of HT_.out (by kernel_rfl)) (by decide) (fun K hK => ?_)
     refine box_step ?hg (N := 8) ?hd (cs := #[.slice none 0 0, .int .i64 0]) (t := 44) ?hr ?_; (case hd => rfl); (case hg => rfl); (case hr => first | (go_simp; done) | (go_simp; rfl))
     intro gb351 hg w62 hbox hb
     have BK351 := A_ hbox
     have GW351 := gs_ HB hg
     have NB331_351 := ng_ BK331 hg
     have NB351_331 := ns_ (ng_ BK331 hg)
     have NB332_351 := ng_ BK332 hg
     have NB351_332 := ns_ (ng_ BK332 hg)
     have NB333_351 := ng_ BK333 hg
     have NB351_333 := ns_ (ng_ BK333 hg)
     replace HO338 := A_ (Kd.R_below (rb_ HO338.out) hb)
     replace HO346 := A_ (Kd.R_below (rb_ HO346.out) hb)
     replace HO349 := A_ (Kd.R_below (rb_ HO349.out) hb)
     replace BK331 := bb_ BK331 hb
     replace BK332 := bb_ BK332 hb
     replace BK333 := bb_ BK333 hb
     replace HB := hs_ HB hb
     clear hb hbox hg
     refine hK.out _ _ ⟨(blk_cell BK331.out 0).trans rfl, (blk_cell BK331.out 1).trans rfl, (blk_cell BK332.out 0).trans rfl, (blk_cell BK332.out 1).trans rfl, (blk_cell BK332.out 2).trans rfl, (blk_cell BK333.out 0).trans rfl, (blk_cell BK333.out 1).trans rfl⟩ (fun hHeld => ?_)
     clear hK K
     refine norm_ (a' := ?_) ?_ ?_
     rotate_left
     ·
      show Act.put _ (some 8) _ = _
      simp only [Act.put, List.setIfInBounds_toArray, List.set_cons_zero, List.set_cons_succ, i64_w, i32_w]
      rfl
     exact norm_ nm_ (hJ1_3_5_6_7 (v337, v345, v348, gb351) _ ⟨hHeld, (rb_ HO338.out), (rb_ HO346.out), (rb_ HO349.out), (bk_ BK331), (bk_ BK332), (bk_ BK333), (bk_ BK351), GW351.out, GW351.out, NB331_351.out, NB351_331.out, NB332_351.out, NB351_332.out, NB333_351.out, NB351_333.out, (hb_ HB)⟩)
    rintro ⟨v337, v345, v348, gb351⟩ w62 ⟨hS_, h0_, h1_, h2_, h3_, h4_, h5_, h6_, h7_, h8_, h9_, h10_, h11_, h12_, h13_, h14_, h15_⟩
    (try dsimp only at h0_ h1_ h2_ h3_ h4_ h5_ h6_ h7_ h8_ h9_ h10_ h11_ h12_ h13_ h14_ h15_)
    clear BK331 BK332 BK333 HB
    have HO338 := A_ h0_
    have HO346 := A_ h1_
    have HO349 := A_ h2_
    have BK331 := A_ h3_
    have BK332 := A_ h4_
    have BK333 := A_ h5_
    have BK351 := A_ h6_
    have GW351 := A_ h7_
    have NB331_351 := A_ h9_
    have NB351_331 := A_ h10_
    have NB332_351 := A_ h11_
    have NB351_332 := A_ h12_
    have NB333_351 := A_ h13_
    have NB351_333 := A_ h14_
    have HB := A_ h15_
    clear h0_ h1_ h2_ h3_ h4_ h5_ h6_ h7_ h8_ h9_ h10_ h11_ h12_ h13_ h14_ h15_
    (try dsimp only at hS_)
    have hHeld := hS_
    obtain ⟨Ao63, co63, eo63⟩ := Kd.R_slice HO349.out
    (first | subst eo63 | (injection eo63 with f1_ f2_ f3_; have f4_ := f1_.symm; have f5_ := f3_.symm; clear f1_ f2_ f3_; subst f4_; subst f5_))
    refine norm_ (a' := ?_) ?_ ?_
    rotate_left
    ·
     simp only [putAll, Act.put, List.setIfInBounds_toArray, List.set_cons_zero, List.set_cons_succ]
     rfl
    refine one_ (i := 8) (N := none) (bt_ 511 9) rfl rfl (one_of HT_.out (by kernel_rfl)) (by decide) (fun K hK => ?_)
    have hs64 : w62.cell? ⟨gb351, 0, none⟩ = some (.slice none 0 0) := (blk_cell BK351.out 0).trans rfl
    have hfs64 := blk_frozen BK351.out 0
    have hns64_0 := NB331_351.out
    have hns64_1 := NB332_351.out
    have hns64_2 := NB333_351.out
    have hms64_0 := NB351_331.out
    have hms64_1 := NB351_332.out
    have hms64_2 := NB351_333.out
    have hs65 : w62.cell? ⟨gb351, 1, none⟩ = some (.int .i64 0) := (blk_cell BK351.out 1).trans rfl
    have hfs65 := blk_frozen BK351.out 1
    have hns65_0 := NB331_351.out
    have hns65_1 := NB332_351.out
    have hns65_2 := NB333_351.out
    have hms65_0 := NB351_331.out
    have hms65_1 := NB351_332.out
    have hms65_2 := NB351_333.out
    refine skip_ (w1 := ?_) (by rfl) rfl ?_ ?_
    rotate_left
    ·
     go_simp
     rfl
    refine hK.out _ _ ⟨((cell_far (p := ⟨gb351, _, none⟩) NB331_351.out _).trans (((cell_far (p := ⟨gb351, _, none⟩) NB331_351.out _).trans (hHeld.1)))), ((cell_far (p := ⟨gb351, _, none⟩) NB331_351.out _).trans (((cell_far (p := ⟨gb351, _, none⟩) NB331_351.out _).trans (hHeld.2.1)))), ((cell_far (p := ⟨gb351, _, none⟩) NB332_351.out _).trans (((cell_far (p := ⟨gb351, _, none⟩) NB332_351.out _).trans (hHeld.2.2.1)))), ((cell_far (p := ⟨gb351, _, none⟩) NB332_351.out _).trans (((cell_far (p := ⟨gb351, _, none⟩) NB332_351.out _).trans (hHeld.2.2.2.1)))), ((cell_far (p := ⟨gb351, _, none⟩) NB332_351.out _).trans (((cell_far (p := ⟨gb351, _, none⟩) NB332_351.out _).trans (hHeld.2.2.2.2.1)))), ((cell_far (p := ⟨gb351, _, none⟩) NB333_351.out _).trans (((cell_far (p := ⟨gb351, _, none⟩) NB333_351.out _).trans (hHeld.2.2.2.2.2.1)))), ((cell_far (p := ⟨gb351, _, none⟩) NB333_351.out _).trans (((cell_far (p := ⟨gb351, _, none⟩) NB333_351.out _).trans (hHeld.2.2.2.2.2.2))))⟩ (fun hHeld => ?_)
    clear hK K
    refine done_ (done_of HT_.out (by kernel_rfl)) ?_
    have hnb66 := NB331_351.out
    have hnc66 := NB351_331.out
    obtain ⟨hcz67_0, hcz67_1, hfz67_0, hfz67_1⟩ := cz2_ BK331
    try go_wp2_with (first | ((with_reducible refine gate_callee (f := 17) rfl ?_); refine goesL_ (some 34) rfl rfl Try.func17 (by kernel_rfl) rfl #[.agg #[.slice A0_0 l0_0.length c0_0, .int .i64 a0_1]] rfl al_ ?_; (with_reducible refine (laws_toRows.calls k _ _ l0_0 a0_1 t352 t355 _ ?side1 ?side2 A29.out).mono ?_); (case side1 => exact Kd.C_below HR0_0.out (hb_ HB)); (case side2 => exact HC0_0.out); rintro e w68 ⟨v353, rfl, ho0, hb⟩; refine ⟨_, rfl, ?_⟩; have HO354 := A_ (Kd.R_lower (Kd.R_new' (Kd.R_new' (Kd.R_new' ho0 (Kd.R_lt (by (with_reducible repeat (first | apply Kd.R_alloc | apply Kd.R_drewN | apply Kd.R_drew)); exact (Kd.R_mono (Kd.R_far (p := ⟨gb351, 1, none⟩) (Kd.R_far (p := ⟨gb351, 0, none⟩) (Kd.R_types HO338.out BK351.out (by decide)) (fun _ hk => hk.2) (.slice Ao63 t347.length co63)) (fun _ hk => hk.2) (.int .i64 t350)) (fun _ h_ => h_.1))))) (Kd.R_lt (by (with_reducible repeat (first | apply Kd.R_alloc | apply Kd.R_drewN | apply Kd.R_drew)); exact (Kd.R_mono (Kd.R_far (p := ⟨gb351, 1, none⟩) (Kd.R_far (p := ⟨gb351, 0, none⟩) (Kd.R_types HO346.out BK351.out (by decide)) (fun _ hk => hk.2) (.slice Ao63 t347.length co63)) (fun _ hk => hk.2) (.int .i64 t350)) (fun _ h_ => h_.1))))) (Kd.R_lt (by (with_reducible repeat (first | apply Kd.R_alloc | apply Kd.R_drewN | apply Kd.R_drew)); exact (Kd.R_mono (Kd.R_far (p := ⟨gb351, 1, none⟩) (Kd.R_far (p := ⟨gb351, 0, none⟩) (Kd.R_types HO349.out BK351.out (by decide)) (fun _ hk => hk.2) (.slice Ao63 t347.length co63)) (fun _ hk => hk.2) (.int .i64 t350)) (fun _ h_ => h_.1))))) (below_size (hb_ HB))); replace HO338 := A_ (Kd.R_elder' (by (with_reducible repeat (first | apply Kd.R_alloc | apply Kd.R_drewN | apply Kd.R_drew)); exact (Kd.R_mono (Kd.R_far (p := ⟨gb351, 1, none⟩) (Kd.R_far (p := ⟨gb351, 0, none⟩) (Kd.R_types HO338.out BK351.out (by decide)) (fun _ hk => hk.2) (.slice Ao63 t347.length co63)) (fun _ hk => hk.2) (.int .i64 t350)) (fun _ h_ => h_.1))) (Kd.R_base ho0) hb); replace HO346 := A_ (Kd.R_elder' (by (with_reducible repeat (first | apply Kd.R_alloc | apply Kd.R_drewN | apply Kd.R_drew)); exact (Kd.R_mono (Kd.R_far (p := ⟨gb351, 1, none⟩) (Kd.R_far (p := ⟨gb351, 0, none⟩) (Kd.R_types HO346.out BK351.out (by decide)) (fun _ hk => hk.2) (.slice Ao63 t347.length co63)) (fun _ hk => hk.2) (.int .i64 t350)) (fun _ h_ => h_.1))) (Kd.R_base ho0) hb); replace HO349 := A_ (Kd.R_elder' (by (with_reducible repeat (first | apply Kd.R_alloc | apply Kd.R_drewN | apply Kd.R_drew)); exact (Kd.R_mono (Kd.R_far (p := ⟨gb351, 1, none⟩) (Kd.R_far (p := ⟨gb351, 0, none⟩) (Kd.R_types HO349.out BK351.out (by decide)) (fun _ hk => hk.2) (.slice Ao63 t347.length co63)) (fun _ hk => hk.2) (.int .i64 t350)) (fun _ h_ => h_.1))) (Kd.R_base ho0) hb); replace BK331 := bb_ BK331 hb; replace BK332 := bb_ BK332 hb; replace BK333 := bb_ BK333 hb; replace BK351 := bq_ (o' := .cells #[.slice Ao63 t347.length co63, .int .i64 t350] 44 (0, 0)) BK351 hb; replace HB := hs_ HB hb; (try clear hb); (try clear hb2); (try clear hk); (try clear hi); (try clear ho0)) | ((with_reducible refine gate_dst (N := 9) rfl ?_); refine bx_ HB rfl (N := 9) rfl (cs := #[.slice none 0 0, .int .i64 0]) (t := 44) hr_ ?_; clear HB; intro gb356 w69 hg hb BK356 GW356 HB; have NB331_356 := ng_ BK331 hg; have NB356_331 := ns_ (ng_ BK331 hg); have NB332_356 := ng_ BK332 hg; have NB356_332 := ns_ (ng_ BK332 hg); have NB333_356 := ng_ BK333 hg; have NB356_333 := ns_ (ng_ BK333 hg); have NB351_356 := ng_ BK351 hg; have NB356_351 := ns_ (ng_ BK351 hg); replace HO338 := A_ (Kd.R_below (rb_ HO338.out) hb); replace HO346 := A_ (Kd.R_below (rb_ HO346.out) hb); replace HO349 := A_ (Kd.R_below (rb_ HO349.out) hb); replace HO354 := A_ (Kd.R_below (rb_ HO354.out) hb); replace BK331 := bb_ BK331 hb; replace BK332 := bb_ BK332 hb; replace BK333 := bb_ BK333 hb; replace BK351 := bb_ BK351 hb; clear hb hg; obtain ⟨Ao70, co70, eo70⟩ := Kd.R_slice HO354.out; subst eo70; have hnb71 := NB356_331.out; have hnc71 := NB331_356.out; have hnb72 := NB356_332.out; have hnc72 := NB332_356.out; have hnb73 := NB356_333.out; have hnc73 := NB333_356.out; have hnb74 := NB356_351.out; have hnc74 := NB351_356.out; obtain ⟨hcz75_0, hcz75_1, hfz75_0, hfz75_1⟩ := cz2_ BK356; have hnb76 := NB333_351.out; have hnc76 := NB351_333.out; obtain ⟨hcz77_0, hcz77_1, hfz77_0, hfz77_1⟩ := cz2_ BK333) | ((with_reducible refine gate_callee (f := 19) rfl ?_); refine goesL_ (some 36) rfl rfl Try.func19 (by kernel_rfl) rfl #[.agg #[.int .i64 a2_0, .slice A2_1 l2_1.length c2_1]] rfl al_ ?_; (with_reducible refine (laws_toRes.calls k a2_0 _ _ l2_1 t357 t358 _ ?side1 ?side2 A30.out).mono ?_); (case side1 => exact Kd.C_below HR2_1.out (hb_ HB)); (case side2 => exact HC2_1.out); rintro e w78 ⟨v359, rfl, ho0, hb⟩; refine ⟨_, rfl, ?_⟩; have HO360 := A_ (Kd.R_lower (Kd.R_new' (Kd.R_new' (Kd.R_new' (Kd.R_new' ho0 (Kd.R_lt (by (with_reducible repeat (first | apply Kd.R_alloc | apply Kd.R_drewN | apply Kd.R_drew)); exact (Kd.R_mono (Kd.R_far (p := ⟨gb356, 1, none⟩) (Kd.R_far (p := ⟨gb356, 0, none⟩) (Kd.R_types HO338.out BK356.out (by decide)) (fun _ hk => hk.2) (.slice Ao70 t352.length co70)) (fun _ hk => hk.2) (.int .i64 t355)) (fun _ h_ => h_.1))))) (Kd.R_lt (by (with_reducible repeat (first | apply Kd.R_alloc | apply Kd.R_drewN | apply Kd.R_drew)); exact (Kd.R_mono (Kd.R_far (p := ⟨gb356, 1, none⟩) (Kd.R_far (p := ⟨gb356, 0, none⟩) (Kd.R_types HO346.out BK356.out (by decide)) (fun _ hk => hk.2) (.slice Ao70 t352.length co70)) (fun _ hk => hk.2) (.int .i64 t355)) (fun _ h_ => h_.1))))) (Kd.R_lt (by (with_reducible repeat (first | apply Kd.R_alloc | apply Kd.R_drewN | apply Kd.R_drew)); exact (Kd.R_mono (Kd.R_far (p := ⟨gb356, 1, none⟩) (Kd.R_far (p := ⟨gb356, 0, none⟩) (Kd.R_types HO349.out BK356.out (by decide)) (fun _ hk => hk.2) (.slice Ao70 t352.length co70)) (fun _ hk => hk.2) (.int .i64 t355)) (fun _ h_ => h_.1))))) (Kd.R_lt (by (with_reducible repeat (first | apply Kd.R_alloc | apply Kd.R_drewN | apply Kd.R_drew)); exact (Kd.R_mono (Kd.R_far (p := ⟨gb356, 1, none⟩) (Kd.R_far (p := ⟨gb356, 0, none⟩) (Kd.R_types HO354.out BK356.out (by decide)) (fun _ hk => hk.2) (.slice Ao70 t352.length co70)) (fun _ hk => hk.2) (.int .i64 t355)) (fun _ h_ => h_.1))))) (below_size (hb_ HB))); replace HO338 := A_ (Kd.R_elder' (by (with_reducible repeat (first | apply Kd.R_alloc | apply Kd.R_drewN | apply Kd.R_drew)); exact (Kd.R_mono (Kd.R_far (p := ⟨gb356, 1, none⟩) (Kd.R_far (p := ⟨gb356, 0, none⟩) (Kd.R_types HO338.out BK356.out (by decide)) (fun _ hk => hk.2) (.slice Ao70 t352.length co70)) (fun _ hk => hk.2) (.int .i64 t355)) (fun _ h_ => h_.1))) (Kd.R_base ho0) hb); replace HO346 := A_ (Kd.R_elder' (by (with_reducible repeat (first | apply Kd.R_alloc | apply Kd.R_drewN | apply Kd.R_drew)); exact (Kd.R_mono (Kd.R_far (p := ⟨gb356, 1, none⟩) (Kd.R_far (p := ⟨gb356, 0, none⟩) (Kd.R_types HO346.out BK356.out (by decide)) (fun _ hk => hk.2) (.slice Ao70 t352.length co70)) (fun _ hk => hk.2) (.int .i64 t355)) (fun _ h_ => h_.1))) (Kd.R_base ho0) hb); replace HO349 := A_ (Kd.R_elder' (by (with_reducible repeat (first | apply Kd.R_alloc | apply Kd.R_drewN | apply Kd.R_drew)); exact (Kd.R_mono (Kd.R_far (p := ⟨gb356, 1, none⟩) (Kd.R_far (p := ⟨gb356, 0, none⟩) (Kd.R_types HO349.out BK356.out (by decide)) (fun _ hk => hk.2) (.slice Ao70 t352.length co70)) (fun _ hk => hk.2) (.int .i64 t355)) (fun _ h_ => h_.1))) (Kd.R_base ho0) hb); replace HO354 := A_ (Kd.R_elder' (by (with_reducible repeat (first | apply Kd.R_alloc | apply Kd.R_drewN | apply Kd.R_drew)); exact (Kd.R_mono (Kd.R_far (p := ⟨gb356, 1, none⟩) (Kd.R_far (p := ⟨gb356, 0, none⟩) (Kd.R_types HO354.out BK356.out (by decide)) (fun _ hk => hk.2) (.slice Ao70 t352.length co70)) (fun _ hk => hk.2) (.int .i64 t355)) (fun _ h_ => h_.1))) (Kd.R_base ho0) hb); replace BK331 := bb_ BK331 hb; replace BK332 := bb_ BK332 hb; replace BK333 := bb_ BK333 hb; replace BK351 := bb_ BK351 hb; replace BK356 := bq_ (o' := .cells #[.slice Ao70 t352.length co70, .int .i64 t355] 44 (0, 0)) BK356 hb; replace HB := hs_ HB hb; (try clear hb); (try clear hb2); (try clear hk); (try clear hi); (try clear ho0)) | ((with_reducible refine gate_dst (N := 10) rfl ?_); refine bx_ HB rfl (N := 10) rfl (cs := #[.int .i64 0, .slice none 0 0]) (t := 49) hr_ ?_; clear HB; intro gb361 w79 hg hb BK361 GW361 HB; have NB331_361 := ng_ BK331 hg; have NB361_331 := ns_ (ng_ BK331 hg); have NB332_361 := ng_ BK332 hg; have NB361_332 := ns_ (ng_ BK332 hg); have NB333_361 := ng_ BK333 hg; have NB361_333 := ns_ (ng_ BK333 hg); have NB351_361 := ng_ BK351 hg; have NB361_351 := ns_ (ng_ BK351 hg); have NB356_361 := ng_ BK356 hg; have NB361_356 := ns_ (ng_ BK356 hg); replace HO338 := A_ (Kd.R_below (rb_ HO338.out) hb); replace HO346 := A_ (Kd.R_below (rb_ HO346.out) hb); replace HO349 := A_ (Kd.R_below (rb_ HO349.out) hb); replace HO354 := A_ (Kd.R_below (rb_ HO354.out) hb); replace HO360 := A_ (Kd.R_below (rb_ HO360.out) hb); replace BK331 := bb_ BK331 hb; replace BK332 := bb_ BK332 hb; replace BK333 := bb_ BK333 hb; replace BK351 := bb_ BK351 hb; replace BK356 := bb_ BK356 hb; clear hb hg; have hnb80 := NB361_331.out; have hnc80 := NB331_361.out; have hnb81 := NB361_332.out; have hnc81 := NB332_361.out; have hnb82 := NB361_333.out; have hnc82 := NB333_361.out; have hnb83 := NB361_351.out; have hnc83 := NB351_361.out; have hnb84 := NB361_356.out; have hnc84 := NB356_361.out; obtain ⟨hcz85_0, hcz85_1, hfz85_0, hfz85_1⟩ := cz2_ BK361; obtain ⟨Ao86, co86, eo86⟩ := Kd.R_slice HO360.out; subst eo86))
    have n0_ : Aside0 (Kd.R (Kd.int .i64) 3 ((w79.setCell ⟨gb361, 0, none⟩ (.int .i64 t357)).setCell ⟨gb361, 1, none⟩ (.slice Ao86 t358.length co86)) w.heap.size (fun k_ => some k_ ≠ (v345 : Value).ownBlock ∧ some k_ ≠ (.slice Ao63 t347.length co63 : Value).ownBlock ∧ some k_ ≠ (.slice Ao70 t352.length co70 : Value).ownBlock ∧ some k_ ≠ (.slice Ao86 t358.length co86 : Value).ownBlock) v337 t336) := ⟨by (with_reducible repeat (first | apply Kd.R_alloc | apply Kd.R_drewN | apply Kd.R_drew)); exact Kd.R_mono (Kd.R_far (p := ⟨gb361, 1, none⟩) (Kd.R_far (p := ⟨gb361, 0, none⟩) (Kd.R_types HO338.out BK361.out (by decide)) (fun _ hk => hk.2) (.int .i64 t357)) (fun _ hk => hk.2) (.slice Ao86 t358.length co86)) (fun _ hk => ⟨hk.1.1.1.1, ⟨hk.1.1.1.2, ⟨hk.1.1.2, hk.1.2⟩⟩⟩)⟩
    have n1_ : Aside0 (Kd.R (Kd.int .i64) 3 ((w79.setCell ⟨gb361, 0, none⟩ (.int .i64 t357)).setCell ⟨gb361, 1, none⟩ (.slice Ao86 t358.length co86)) w.heap.size (fun k_ => some k_ ≠ (v337 : Value).ownBlock ∧ some k_ ≠ (.slice Ao63 t347.length co63 : Value).ownBlock ∧ some k_ ≠ (.slice Ao70 t352.length co70 : Value).ownBlock ∧ some k_ ≠ (.slice Ao86 t358.length co86 : Value).ownBlock) v345 t344) := ⟨by (with_reducible repeat (first | apply Kd.R_alloc | apply Kd.R_drewN | apply Kd.R_drew)); exact Kd.R_mono (Kd.R_far (p := ⟨gb361, 1, none⟩) (Kd.R_far (p := ⟨gb361, 0, none⟩) (Kd.R_types HO346.out BK361.out (by decide)) (fun _ hk => hk.2) (.int .i64 t357)) (fun _ hk => hk.2) (.slice Ao86 t358.length co86)) (fun _ hk => ⟨hk.1.1.1.1, ⟨hk.1.1.1.2, ⟨hk.1.1.2, hk.1.2⟩⟩⟩)⟩
    have n2_ : Aside0 (Kd.R (Kd.int .i64) 3 ((w79.setCell ⟨gb361, 0, none⟩ (.int .i64 t357)).setCell ⟨gb361, 1, none⟩ (.slice Ao86 t358.length co86)) w.heap.size (fun k_ => some k_ ≠ (v337 : Value).ownBlock ∧ some k_ ≠ (v345 : Value).ownBlock ∧ some k_ ≠ (.slice Ao70 t352.length co70 : Value).ownBlock ∧ some k_ ≠ (.slice Ao86 t358.length co86 : Value).ownBlock) (.slice Ao63 t347.length co63) t347) := ⟨by (with_reducible repeat (first | apply Kd.R_alloc | apply Kd.R_drewN | apply Kd.R_drew)); exact Kd.R_mono (Kd.R_far (p := ⟨gb361, 1, none⟩) (Kd.R_far (p := ⟨gb361, 0, none⟩) (Kd.R_types HO349.out BK361.out (by decide)) (fun _ hk => hk.2) (.int .i64 t357)) (fun _ hk => hk.2) (.slice Ao86 t358.length co86)) (fun _ hk => ⟨hk.1.1.1.1, ⟨hk.1.1.1.2, ⟨hk.1.1.2, hk.1.2⟩⟩⟩)⟩
    have n3_ : Aside0 (Kd.R (Kd.int .i64) 3 ((w79.setCell ⟨gb361, 0, none⟩ (.int .i64 t357)).setCell ⟨gb361, 1, none⟩ (.slice Ao86 t358.length co86)) w.heap.size (fun k_ => some k_ ≠ (v337 : Value).ownBlock ∧ some k_ ≠ (v345 : Value).ownBlock ∧ some k_ ≠ (.slice Ao63 t347.length co63 : Value).ownBlock ∧ some k_ ≠ (.slice Ao86 t358.length co86 : Value).ownBlock) (.slice Ao70 t352.length co70) t352) := ⟨by (with_reducible repeat (first | apply Kd.R_alloc | apply Kd.R_drewN | apply Kd.R_drew)); exact Kd.R_mono (Kd.R_far (p := ⟨gb361, 1, none⟩) (Kd.R_far (p := ⟨gb361, 0, none⟩) (Kd.R_types HO354.out BK361.out (by decide)) (fun _ hk => hk.2) (.int .i64 t357)) (fun _ hk => hk.2) (.slice Ao86 t358.length co86)) (fun _ hk => ⟨hk.1.1.1.1.2, ⟨hk.1.1.1.2, ⟨hk.1.1.2, hk.1.2⟩⟩⟩)⟩
    have n4_ : Aside0 (Kd.R (Kd.int .i64) 3 ((w79.setCell ⟨gb361, 0, none⟩ (.int .i64 t357)).setCell ⟨gb361, 1, none⟩ (.slice Ao86 t358.length co86)) w.heap.size (fun k_ => some k_ ≠ (v337 : Value).ownBlock ∧ some k_ ≠ (v345 : Value).ownBlock ∧ some k_ ≠ (.slice Ao63 t347.length co63 : Value).ownBlock ∧ some k_ ≠ (.slice Ao70 t352.length co70 : Value).ownBlock) (.slice Ao86 t358.length co86) t358) := ⟨by (with_reducible repeat (first | apply Kd.R_alloc | apply Kd.R_drewN | apply Kd.R_drew)); exact Kd.R_mono (Kd.R_far (p := ⟨gb361, 1, none⟩) (Kd.R_far (p := ⟨gb361, 0, none⟩) (Kd.R_types HO360.out BK361.out (by decide)) (fun _ hk => hk.2) (.int .i64 t357)) (fun _ hk => hk.2) (.slice Ao86 t358.length co86)) (fun _ hk => ⟨hk.1.1.1.1.2, ⟨hk.1.1.1.2, ⟨hk.1.1.2, hk.1.2⟩⟩⟩)⟩
    have n5_ : Aside0 (((w79.setCell ⟨gb361, 0, none⟩ (.int .i64 t357)).setCell ⟨gb361, 1, none⟩ (.slice Ao86 t358.length co86)).heap[gb331]? = some (.cells #[.slice A0_0 l0_0.length c0_0, .int .i64 a0_1] 37 (0, 0))) := ⟨bk_ BK331⟩
    have n6_ : Aside0 (((w79.setCell ⟨gb361, 0, none⟩ (.int .i64 t357)).setCell ⟨gb361, 1, none⟩ (.slice Ao86 t358.length co86)).heap[gb332]? = some (.cells #[.int .i64 a1_0, .int .i64 a1_1, .int .i64 a1_2] 39 (0, 0))) := ⟨bk_ BK332⟩
    have n7_ : Aside0 (((w79.setCell ⟨gb361, 0, none⟩ (.int .i64 t357)).setCell ⟨gb361, 1, none⟩ (.slice Ao86 t358.length co86)).heap[gb333]? = some (.cells #[.int .i64 a2_0, .slice A2_1 l2_1.length c2_1] 41 (0, 0))) := ⟨bk_ BK333⟩
    have n8_ : Aside0 (((w79.setCell ⟨gb361, 0, none⟩ (.int .i64 t357)).setCell ⟨gb361, 1, none⟩ (.slice Ao86 t358.length co86)).heap[gb351]? = some (.cells #[.slice Ao63 t347.length co63, .int .i64 t350] 44 (0, 0))) := ⟨bk_ BK351⟩
    have n9_ : Aside0 (((w79.setCell ⟨gb361, 0, none⟩ (.int .i64 t357)).setCell ⟨gb361, 1, none⟩ (.slice Ao86 t358.length co86)).heap[gb356]? = some (.cells #[.slice Ao70 t352.length co70, .int .i64 t355] 44 (0, 0))) := ⟨bk_ BK356⟩
    have n10_ : Aside0 (((w79.setCell ⟨gb361, 0, none⟩ (.int .i64 t357)).setCell ⟨gb361, 1, none⟩ (.slice Ao86 t358.length co86)).heap[gb361]? = some (.cells #[.int .i64 t357, .slice Ao86 t358.length co86] 49 (0, 0))) := ⟨bp_ BK361⟩
    have n11_ : Aside0 (Below w.heap.size w ((w79.setCell ⟨gb361, 0, none⟩ (.int .i64 t357)).setCell ⟨gb361, 1, none⟩ (.slice Ao86 t358.length co86))) := ⟨hb_ HB⟩
    (try clear HO338)
    (try clear HO346)
    (try clear HO349)
    (try clear HO354)
    (try clear HO360)
    (try clear BK331)
    (try clear BK332)
    (try clear BK333)
    (try clear BK351)
    (try clear BK356)
    (try clear BK361)
    (try clear HB)
    generalize ((w79.setCell ⟨gb361, 0, none⟩ (.int .i64 t357)).setCell ⟨gb361, 1, none⟩ (.slice Ao86 t358.length co86)) = w87 at n0_ n1_ n2_ n3_ n4_ n5_ n6_ n7_ n8_ n9_ n10_ n11_ ⊢
    have HO338 := n0_
    have HO346 := n1_
    have HO349 := n2_
    have HO354 := n3_
    have HO360 := n4_
    have BK331 := n5_
    have BK332 := n6_
    have BK333 := n7_
    have BK351 := n8_
    have BK356 := n9_
    have BK361 := n10_
    have HB := n11_
    clear n0_ n1_ n2_ n3_ n4_ n5_ n6_ n7_ n8_ n9_ n10_ n11_
    replace HO338 := A_ (Kd.R_drew HO338.out)
    replace HO346 := A_ (Kd.R_drew HO346.out)
    replace HO349 := A_ (Kd.R_drew HO349.out)
    replace HO354 := A_ (Kd.R_drew HO354.out)
    replace HO360 := A_ (Kd.R_drew HO360.out)
    replace BK331 := A_ (blk_drew BK331.out)
    replace BK332 := A_ (blk_drew BK332.out)
    replace BK333 := A_ (blk_drew BK333.out)
    replace BK351 := A_ (blk_drew BK351.out)
    replace BK356 := A_ (blk_drew BK356.out)
    replace BK361 := A_ (blk_drew BK361.out)
    replace HB := A_ (below_drew1 HB.out)
    refine start_ (n := 7) (S := fun w' => w'.cell? ⟨gb356, 0, none⟩ = some (.slice Ao70 t352.length co70) ∧ w'.cell? ⟨gb356, 1, none⟩ = some (.int .i64 t355) ∧ w'.cell? ⟨gb332, 0, none⟩ = some (.int .i64 a1_0) ∧ w'.cell? ⟨gb332, 1, none⟩ = some (.int .i64 a1_1) ∧ w'.cell? ⟨gb332, 2, none⟩ = some (.int .i64 a1_2) ∧ w'.cell? ⟨gb361, 0, none⟩ = some (.int .i64 t357) ∧ w'.cell? ⟨gb361, 1, none⟩ = some (.slice Ao86 t358.length co86)) (ds := []) (bt_ 0 7) (by kernel_rfl) rfl rfl ⟨(blk_cell BK356.out 0).trans rfl, (blk_cell BK356.out 1).trans rfl, (blk_cell BK332.out 0).trans rfl, (blk_cell BK332.out 1).trans rfl, (blk_cell BK332.out 2).trans rfl, (blk_cell BK361.out 0).trans rfl, (blk_cell BK361.out 1).trans rfl⟩ (fun hHeld => ?_)
    generalize w87.drew = w88 at HO338 HO346 HO349 HO354 HO360 BK331 BK332 BK333 BK351 BK356 BK361 HB hHeld ⊢
    refine take_ (i := 0) (N := some 37) (v := ?_) (a' := ?_) (bt_ 1 7) rfl rfl (by kernel_rfl) (fun _ _ _ h => h) (Or.inl ⟨by rfl, ?_⟩) hHeld ?_ ?_
    rotate_left
    ·
     rintro w' ⟨s0, s1, s2, s3, s4, s5, s6⟩
     go_simp
     with_reducible rfl
    rotate_left
    ·
     simp only [Act.put, List.setIfInBounds_toArray, List.set_cons_zero, List.set_cons_succ, i64_w, i32_w]
     rfl
    refine take_ (i := 1) (N := some 38) (v := ?_) (a' := ?_) (bt_ 3 7) rfl rfl (by kernel_rfl) (fun _ _ _ h => h) (Or.inl ⟨by rfl, ?_⟩) hHeld ?_ ?_
    rotate_left
    ·
     rintro w' ⟨s0, s1, s2, s3, s4, s5, s6⟩
     go_simp
     with_reducible rfl
    rotate_left
    ·
     simp only [Act.put, List.setIfInBounds_toArray, List.set_cons_zero, List.set_cons_succ, i64_w, i32_w]
     rfl
    refine take_ (i := 3) (N := some 40) (v := ?_) (a' := ?_) (bt_ 11 7) rfl rfl (by kernel_rfl) (fun _ _ _ h => h) (Or.inl ⟨by rfl, ?_⟩) hHeld ?_ ?_
    rotate_left
    ·
     rintro w' ⟨s0, s1, s2, s3, s4, s5, s6⟩
     go_simp
     with_reducible rfl
    rotate_left
    ·
     simp only [Act.put, List.setIfInBounds_toArray, List.set_cons_zero, List.set_cons_succ, i64_w, i32_w]
     rfl
    refine join_ (σ := Value × Nat) 1 (bt_ 63 7) (fun s_ => [(39, .agg #[.int .i64 t362, .int .i64 t363, .int .i64 t364]), (41, .agg #[s_.1, .int .i64 t368]), (11, .pointer (some ⟨s_.2, 0, none⟩))]) (fun s_ w' => (w'.cell? ⟨gb356, 0, none⟩ = some (.slice Ao70 t352.length co70) ∧ w'.cell? ⟨gb356, 1, none⟩ = some (.int .i64 t355) ∧ w'.cell? ⟨gb332, 0, none⟩ = some (.int .i64 a1_0) ∧ w'.cell? ⟨gb332, 1, none⟩ = some (.int .i64 a1_1) ∧ w'.cell? ⟨gb332, 2, none⟩ = some (.int .i64 a1_2) ∧ w'.cell? ⟨gb361, 0, none⟩ = some (.int .i64 t357) ∧ w'.cell? ⟨gb361, 1, none⟩ = some (.slice Ao86 t358.length co86)) ∧ (Kd.R (Kd.int .i64) 3 w' w.heap.size (fun k_ => some k_ ≠ (v345 : Value).ownBlock ∧ some k_ ≠ (.slice Ao63 t347.length co63 : Value).ownBlock ∧ some k_ ≠ (.slice Ao70 t352.length co70 : Value).ownBlock ∧ some k_ ≠ (.slice Ao86 t358.length co86 : Value).ownBlock ∧ some k_ ≠ (s_.1 : Value).ownBlock) v337 t336) ∧ (Kd.R (Kd.int .i64) 3 w' w.heap.size (fun k_ => some k_ ≠ (v337 : Value).ownBlock ∧ some k_ ≠ (.slice Ao63 t347.length co63 : Value).ownBlock ∧ some k_ ≠ (.slice Ao70 t352.length co70 : Value).ownBlock ∧ some k_ ≠ (.slice Ao86 t358.length co86 : Value).ownBlock ∧ some k_ ≠ (s_.1 : Value).ownBlock) v345 t344) ∧ (Kd.R (Kd.int .i64) 3 w' w.heap.size (fun k_ => some k_ ≠ (v337 : Value).ownBlock ∧ some k_ ≠ (v345 : Value).ownBlock ∧ some k_ ≠ (.slice Ao70 t352.length co70 : Value).ownBlock ∧ some k_ ≠ (.slice Ao86 t358.length co86 : Value).ownBlock ∧ some k_ ≠ (s_.1 : Value).ownBlock) (.slice Ao63 t347.length co63) t347) ∧ (Kd.R (Kd.int .i64) 3 w' w.heap.size (fun k_ => some k_ ≠ (v337 : Value).ownBlock ∧ some k_ ≠ (v345 : Value).ownBlock ∧ some k_ ≠ (.slice Ao63 t347.length co63 : Value).ownBlock ∧ some k_ ≠ (.slice Ao86 t358.length co86 : Value).ownBlock ∧ some k_ ≠ (s_.1 : Value).ownBlock) (.slice Ao70 t352.length co70) t352) ∧ (Kd.R (Kd.int .i64) 3 w' w.heap.size (fun k_ => some k_ ≠ (v337 : Value).ownBlock ∧ some k_ ≠ (v345 : Value).ownBlock ∧ some k_ ≠ (.slice Ao63 t347.length co63 : Value).ownBlock ∧ some k_ ≠ (.slice Ao70 t352.length co70 : Value).ownBlock ∧ some k_ ≠ (s_.1 : Value).ownBlock) (.slice Ao86 t358.length co86) t358) ∧ (Kd.R (Kd.int .i64) 3 w' w.heap.size (fun k_ => some k_ ≠ (v337 : Value).ownBlock ∧ some k_ ≠ (v345 : Value).ownBlock ∧ some k_ ≠ (.slice Ao63 t347.length co63 : Value).ownBlock ∧ some k_ ≠ (.slice Ao70 t352.length co70 : Value).ownBlock ∧ some k_ ≠ (.slice Ao86 t358.length co86 : Value).ownBlock) s_.1 t365) ∧ (w'.heap[gb331]? = some (.cells #[.slice A0_0 l0_0.length c0_0, .int .i64 a0_1] 37 (0, 0))) ∧ (w'.heap[gb332]? = some (.cells #[.int .i64 a1_0, .int .i64 a1_1, .int .i64 a1_2] 39 (0, 0))) ∧ (w'.heap[gb333]? = some (.cells #[.int .i64 a2_0, .slice A2_1 l2_1.length c2_1] 41 (0, 0))) ∧ (w'.heap[gb351]? = some (.cells #[.slice Ao63 t347.length co63, .int .i64 t350] 44 (0, 0))) ∧ (w'.heap[gb356]? = some (.cells #[.slice Ao70 t352.length co70, .int .i64 t355] 44 (0, 0))) ∧ (w'.heap[gb361]? = some (.cells #[.int .i64 t357, .slice Ao86 t358.length co86] 49 (0, 0))) ∧ (w'.heap[s_.2]? = some (.cells #[.slice none 0 0, .int .i64 0] 44 (0, 0))) ∧ (w.heap.size ≤ s_.2) ∧ (w.heap.size ≤ s_.2) ∧ (gb331 ≠ s_.2) ∧ (s_.2 ≠ gb331) ∧ (gb332 ≠ s_.2) ∧ (s_.2 ≠ gb332) ∧ (gb333 ≠ s_.2) ∧ (s_.2 ≠ gb333) ∧ (gb351 ≠ s_.2) ∧ (s_.2 ≠ gb351) ∧ (gb356 ≠ s_.2) ∧ (s_.2 ≠ gb356) ∧ (gb361 ≠ s_.2) ∧ (s_.2 ≠ gb361) ∧ (Below w.heap.size w w')) ?_ ?_
    rotate_left
    ·
     intro hCont
     refine two_ (i := 2) (j := 5) (Ni := some 39) (Nj := some 11) (bt_ 15 7) (bt_ 43 7) rfl rfl rfl rfl (by kernel_rfl) (by decide) (by decide) (fun K hK => ?_) (fun K hK => ?_)
     ·
      skip
      refine goes_ Try.func18 (by kernel_rfl) rfl #[.agg #[.int .i64 a1_0, .int .i64 a1_1, .int .i64 a1_2]] (by rfl) rfl rfl al_ ?_
      with_reducible refine (laws_toOp.calls a1_0 a1_1 a1_2 t362 t363 t364 _ A31.out).mono ?_
      rintro e w89 ⟨rfl, hb⟩
      refine ⟨_, rfl, ?_⟩
      replace HO338 := A_ (Kd.R_below (rb_ HO338.out) hb)
      replace HO346 := A_ (Kd.R_below (rb_ HO346.out) hb)
      replace HO349 := A_ (Kd.R_below (rb_ HO349.out) hb)
      replace HO354 := A_ (Kd.R_below (rb_ HO354.out) hb)
      replace HO360 := A_ (Kd.R_below (rb_ HO360.out) hb)
      replace BK331 := bb_ BK331 hb
      replace BK332 := bb_ BK332 hb
      replace BK333 := bb_ BK333 hb
      replace BK351 := bb_ BK351 hb
      replace BK356 := bb_ BK356 hb
      replace BK361 := bb_ BK361 hb
      replace HB := hs_ HB hb
      (try clear hb)
      (try clear hb2)
      (try clear hk)
      (try clear hi)
      refine hK.out _ _ ⟨(blk_cell BK356.out 0).trans rfl, (blk_cell BK356.out 1).trans rfl, (blk_cell BK332.out 0).trans rfl, (blk_cell BK332.out 1).trans rfl, (blk_cell BK332.out 2).trans rfl, (blk_cell BK361.out 0).trans rfl, (blk_cell BK361.out 1).trans rfl⟩ (fun hHeld => ?_)
      clear hK K
      refine norm_ (a' := ?_) ?_ ?_
      rotate_left
      ·
       show Act.put _ (some 39) _ = _
       simp only [Act.put, List.setIfInBounds_toArray, List.set_cons_zero, List.set_cons_succ, i64_w, i32_w]
       rfl
      refine two_ (i := 4) (j := 5) (Ni := some 41) (Nj := some 11) (bt_ 31 7) (bt_ 47 7) rfl rfl rfl rfl (by kernel_rfl) (by decide) (by decide) (fun K hK => ?_) (fun K hK => ?_)
      ·
       skip
       refine goes_ Try.func20 (by kernel_rfl) rfl #[.agg #[.slice Ao70 t352.length co70, .int .i64 t355], .agg #[.int .i64 t362, .int .i64 t363, .int .i64 t364], .agg #[.int .i64 t357, .slice Ao86 t358.length co86]] (by rfl) rfl rfl al_ ?_
       with_reducible refine (impl_After.calls k _ _ t352 t355 t362 t363 t364 t357 _ _ t358 t365 t368 _ ?side1 ?side2 ?side3 ?side4 A32.out).mono ?_
       (case side1 => repeat (first | exact (Kd.R_reads' HO354.out).2.2 | (with_reducible refine Kd.C_alloc ?_ _) | (with_reducible refine Kd.C_drewN ?_ _) | (with_reducible refine Kd.C_drew ?_)))
       (case side2 => exact (Kd.R_reads' HO354.out).2.1)
       (case side3 => repeat (first | exact (Kd.R_reads' HO360.out).2.2 | (with_reducible refine Kd.C_alloc ?_ _) | (with_reducible refine Kd.C_drewN ?_ _) | (with_reducible refine Kd.C_drew ?_)))
       (case side4 => exact (Kd.R_reads' HO360.out).2.1)
       rintro e w90 ⟨v366, rfl, ho0, hb⟩
       refine ⟨_, rfl, ?_⟩
       have HO367 := A_ (Kd.R_lower (Kd.R_new' (Kd.R_new' (Kd.R_new' (Kd.R_new' (Kd.R_new' ho0 (Kd.R_lt (rb_ HO338.out))) (Kd.R_lt (rb_ HO346.out))) (Kd.R_lt (rb_ HO349.out))) (Kd.R_lt (rb_ HO354.out))) (Kd.R_lt (rb_ HO360.out))) (below_size (hb_ HB)))
       replace HO338 := A_ (Kd.R_elder' (rb_ HO338.out) (Kd.R_base ho0) hb)
       replace HO346 := A_ (Kd.R_elder' (rb_ HO346.out) (Kd.R_base ho0) hb)
       replace HO349 := A_ (Kd.R_elder' (rb_ HO349.out) (Kd.R_base ho0) hb)
       replace HO354 := A_ (Kd.R_elder' (rb_ HO354.out) (Kd.R_base ho0) hb)
       replace HO360 := A_ (Kd.R_elder' (rb_ HO360.out) (Kd.R_base ho0) hb)
       replace BK331 := bb_ BK331 hb
       replace BK332 := bb_ BK332 hb
       replace BK333 := bb_ BK333 hb
       replace BK351 := bb_ BK351 hb
       replace BK356 := bb_ BK356 hb
       replace BK361 := bb_ BK361 hb
       replace HB := hs_ HB hb
       (try clear hb)
       (try clear hb2)
       (try clear hk)
       (try clear hi)
       (try clear ho0)
       refine hK.out _ _ ⟨(blk_cell BK356.out 0).trans rfl, (blk_cell BK356.out 1).trans rfl, (blk_cell BK332.out 0).trans rfl, (blk_cell BK332.out 1).trans rfl, (blk_cell BK332.out 2).trans rfl, (blk_cell BK361.out 0).trans rfl, (blk_cell BK361.out 1).trans rfl⟩ (fun hHeld => ?_)
       clear hK K
       refine norm_ (a' := ?_) ?_ ?_
       rotate_left
       ·
        show Act.put _ (some 41) _ = _
        simp only [Act.put, List.setIfInBounds_toArray, List.set_cons_zero, List.set_cons_succ, i64_w, i32_w]
        rfl
       refine one_ (i := 5) (N := some 11) (bt_ 63 7) rfl rfl (by kernel_rfl) (by decide) (fun K hK => ?_)
       refine box_step ?hg (N := 11) ?hd (cs := #[.slice none 0 0, .int .i64 0]) (t := 44) ?hr ?_; (case hd => rfl); (case hg => rfl); (case hr => first | (go_simp; done) | (go_simp; rfl))
       intro gb369 hg w91 hbox hb
       have BK369 := A_ hbox
       have GW369 := gs_ HB hg
       have NB331_369 := ng_ BK331 hg
       have NB369_331 := ns_ (ng_ BK331 hg)
       have NB332_369 := ng_ BK332 hg
       have NB369_332 := ns_ (ng_ BK332 hg)
       have NB333_369 := ng_ BK333 hg
       have NB369_333 := ns_ (ng_ BK333 hg)
       have NB351_369 := ng_ BK351 hg
       have NB369_351 := ns_ (ng_ BK351 hg)
       have NB356_369 := ng_ BK356 hg
       have NB369_356 := ns_ (ng_ BK356 hg)
       have NB361_369 := ng_ BK361 hg
       have NB369_361 := ns_ (ng_ BK361 hg)
       replace HO338 := A_ (Kd.R_below (rb_ HO338.out) hb)
       replace HO346 := A_ (Kd.R_below (rb_ HO346.out) hb)
       replace HO349 := A_ (Kd.R_below (rb_ HO349.out) hb)
       replace HO354 := A_ (Kd.R_below (rb_ HO354.out) hb)
       replace HO360 := A_ (Kd.R_below (rb_ HO360.out) hb)
       replace HO367 := A_ (Kd.R_below (rb_ HO367.out) hb)
       replace BK331 := bb_ BK331 hb
       replace BK332 := bb_ BK332 hb
       replace BK333 := bb_ BK333 hb
       replace BK351 := bb_ BK351 hb
       replace BK356 := bb_ BK356 hb
       replace BK361 := bb_ BK361 hb
       replace HB := hs_ HB hb
       clear hb hbox hg
       refine hK.out _ _ ⟨(blk_cell BK356.out 0).trans rfl, (blk_cell BK356.out 1).trans rfl, (blk_cell BK332.out 0).trans rfl, (blk_cell BK332.out 1).trans rfl, (blk_cell BK332.out 2).trans rfl, (blk_cell BK361.out 0).trans rfl, (blk_cell BK361.out 1).trans rfl⟩ (fun hHeld => ?_)
       clear hK K
       refine norm_ (a' := ?_) ?_ ?_
       rotate_left
       ·
        show Act.put _ (some 11) _ = _
        simp only [Act.put, List.setIfInBounds_toArray, List.set_cons_zero, List.set_cons_succ, i64_w, i32_w]
        rfl
       exact norm_ (by simp only [putAll, Act.put, List.setIfInBounds_toArray, List.set_cons_zero, List.set_cons_succ]) (hCont (v366, gb369) _ ⟨hHeld, (by (with_reducible repeat (first | apply Kd.R_alloc | apply Kd.R_drewN | apply Kd.R_drew)); exact Kd.R_mono HO338.out (fun _ hk => ⟨hk.1.1, ⟨hk.1.2.1, ⟨hk.1.2.2.1, ⟨hk.1.2.2.2, hk.2⟩⟩⟩⟩)), (by (with_reducible repeat (first | apply Kd.R_alloc | apply Kd.R_drewN | apply Kd.R_drew)); exact Kd.R_mono HO346.out (fun _ hk => ⟨hk.1.1, ⟨hk.1.2.1, ⟨hk.1.2.2.1, ⟨hk.1.2.2.2, hk.2⟩⟩⟩⟩)), (by (with_reducible repeat (first | apply Kd.R_alloc | apply Kd.R_drewN | apply Kd.R_drew)); exact Kd.R_mono HO349.out (fun _ hk => ⟨hk.1.1, ⟨hk.1.2.1, ⟨hk.1.2.2.1, ⟨hk.1.2.2.2, hk.2⟩⟩⟩⟩)), (by (with_reducible repeat (first | apply Kd.R_alloc | apply Kd.R_drewN | apply Kd.R_drew)); exact Kd.R_mono HO354.out (fun _ hk => ⟨hk.1.1, ⟨hk.1.2.1, ⟨hk.1.2.2.1, ⟨hk.1.2.2.2, hk.2⟩⟩⟩⟩)), (by (with_reducible repeat (first | apply Kd.R_alloc | apply Kd.R_drewN | apply Kd.R_drew)); exact Kd.R_mono HO360.out (fun _ hk => ⟨hk.1.1, ⟨hk.1.2.1, ⟨hk.1.2.2.1, ⟨hk.1.2.2.2, hk.2⟩⟩⟩⟩)), (by (with_reducible repeat (first | apply Kd.R_alloc | apply Kd.R_drewN | apply Kd.R_drew)); exact Kd.R_mono HO367.out (fun _ hk => ⟨hk.1.1.1.1.2, ⟨hk.1.1.1.2, ⟨hk.1.1.2, ⟨hk.1.2, hk.2⟩⟩⟩⟩)), (bk_ BK331), (bk_ BK332), (bk_ BK333), (bk_ BK351), (bk_ BK356), (bk_ BK361), (bk_ BK369), GW369.out, GW369.out, NB331_369.out, NB369_331.out, NB332_369.out, NB369_332.out, NB333_369.out, NB369_333.out, NB351_369.out, NB369_351.out, NB356_369.out, NB369_356.out, NB361_369.out, NB369_361.out, (hb_ HB)⟩)
      skip
      refine box_step ?hg (N := 11) ?hd (cs := #[.slice none 0 0, .int .i64 0]) (t := 44) ?hr ?_; (case hd => rfl); (case hg => rfl); (case hr => first | (go_simp; done) | (go_simp; rfl))
      intro gb369 hg w90 hbox hb
      have BK369 := A_ hbox
      have GW369 := gs_ HB hg
      have NB331_369 := ng_ BK331 hg
      have NB369_331 := ns_ (ng_ BK331 hg)
      have NB332_369 := ng_ BK332 hg
      have NB369_332 := ns_ (ng_ BK332 hg)
      have NB333_369 := ng_ BK333 hg
      have NB369_333 := ns_ (ng_ BK333 hg)
      have NB351_369 := ng_ BK351 hg
      have NB369_351 := ns_ (ng_ BK351 hg)
      have NB356_369 := ng_ BK356 hg
      have NB369_356 := ns_ (ng_ BK356 hg)
      have NB361_369 := ng_ BK361 hg
      have NB369_361 := ns_ (ng_ BK361 hg)
      replace HO338 := A_ (Kd.R_below (rb_ HO338.out) hb)
      replace HO346 := A_ (Kd.R_below (rb_ HO346.out) hb)
      replace HO349 := A_ (Kd.R_below (rb_ HO349.out) hb)
      replace HO354 := A_ (Kd.R_below (rb_ HO354.out) hb)
      replace HO360 := A_ (Kd.R_below (rb_ HO360.out) hb)
      replace BK331 := bb_ BK331 hb
      replace BK332 := bb_ BK332 hb
      replace BK333 := bb_ BK333 hb
      replace BK351 := bb_ BK351 hb
      replace BK356 := bb_ BK356 hb
      replace BK361 := bb_ BK361 hb
      replace HB := hs_ HB hb
      clear hb hbox hg
      refine hK.out _ _ ⟨(blk_cell BK356.out 0).trans rfl, (blk_cell BK356.out 1).trans rfl, (blk_cell BK332.out 0).trans rfl, (blk_cell BK332.out 1).trans rfl, (blk_cell BK332.out 2).trans rfl, (blk_cell BK361.out 0).trans rfl, (blk_cell BK361.out 1).trans rfl⟩ (fun hHeld => ?_)
      clear hK K
      refine norm_ (a' := ?_) ?_ ?_
      rotate_left
      ·
       show Act.put _ (some 11) _ = _
       simp only [Act.put, List.setIfInBounds_toArray, List.set_cons_zero, List.set_cons_succ, i64_w, i32_w]
       rfl
      refine one_ (i := 4) (N := some 41) (bt_ 63 7) rfl rfl (by kernel_rfl) (by decide) (fun K hK => ?_)
      refine goes_ Try.func20 (by kernel_rfl) rfl #[.agg #[.slice Ao70 t352.length co70, .int .i64 t355], .agg #[.int .i64 t362, .int .i64 t363, .int .i64 t364], .agg #[.int .i64 t357, .slice Ao86 t358.length co86]] (by rfl) rfl rfl al_ ?_
      with_reducible refine (impl_After.calls k _ _ t352 t355 t362 t363 t364 t357 _ _ t358 t365 t368 _ ?side1 ?side2 ?side3 ?side4 A32.out).mono ?_
      (case side1 => repeat (first | exact (Kd.R_reads' HO354.out).2.2 | (with_reducible refine Kd.C_alloc ?_ _) | (with_reducible refine Kd.C_drewN ?_ _) | (with_reducible refine Kd.C_drew ?_)))
      (case side2 => exact (Kd.R_reads' HO354.out).2.1)
      (case side3 => repeat (first | exact (Kd.R_reads' HO360.out).2.2 | (with_reducible refine Kd.C_alloc ?_ _) | (with_reducible refine Kd.C_drewN ?_ _) | (with_reducible refine Kd.C_drew ?_)))
      (case side4 => exact (Kd.R_reads' HO360.out).2.1)
      rintro e w91 ⟨v366, rfl, ho0, hb⟩
      refine ⟨_, rfl, ?_⟩
      have HO367 := A_ (Kd.R_lower (Kd.R_new' (Kd.R_new' (Kd.R_new' (Kd.R_new' (Kd.R_new' ho0 (Kd.R_lt (rb_ HO338.out))) (Kd.R_lt (rb_ HO346.out))) (Kd.R_lt (rb_ HO349.out))) (Kd.R_lt (rb_ HO354.out))) (Kd.R_lt (rb_ HO360.out))) (below_size (hb_ HB)))
      replace HO338 := A_ (Kd.R_elder' (rb_ HO338.out) (Kd.R_base ho0) hb)
      replace HO346 := A_ (Kd.R_elder' (rb_ HO346.out) (Kd.R_base ho0) hb)
      replace HO349 := A_ (Kd.R_elder' (rb_ HO349.out) (Kd.R_base ho0) hb)
      replace HO354 := A_ (Kd.R_elder' (rb_ HO354.out) (Kd.R_base ho0) hb)
      replace HO360 := A_ (Kd.R_elder' (rb_ HO360.out) (Kd.R_base ho0) hb)
      replace BK331 := bb_ BK331 hb
      replace BK332 := bb_ BK332 hb
      replace BK333 := bb_ BK333 hb
      replace BK351 := bb_ BK351 hb
      replace BK356 := bb_ BK356 hb
      replace BK361 := bb_ BK361 hb
      replace BK369 := bb_ BK369 hb
      replace HB := hs_ HB hb
      (try clear hb)
      (try clear hb2)
      (try clear hk)
      (try clear hi)
      (try clear ho0)
      refine hK.out _ _ ⟨(blk_cell BK356.out 0).trans rfl, (blk_cell BK356.out 1).trans rfl, (blk_cell BK332.out 0).trans rfl, (blk_cell BK332.out 1).trans rfl, (blk_cell BK332.out 2).trans rfl, (blk_cell BK361.out 0).trans rfl, (blk_cell BK361.out 1).trans rfl⟩ (fun hHeld => ?_)
      clear hK K
      refine norm_ (a' := ?_) ?_ ?_
      rotate_left
      ·
       show Act.put _ (some 41) _ = _
       simp only [Act.put, List.setIfInBounds_toArray, List.set_cons_zero, List.set_cons_succ, i64_w, i32_w]
       rfl
      exact norm_ (by simp only [putAll, Act.put, List.setIfInBounds_toArray, List.set_cons_zero, List.set_cons_succ]) (hCont (v366, gb369) _ ⟨hHeld, (by (with_reducible repeat (first | apply Kd.R_alloc | apply Kd.R_drewN | apply Kd.R_drew)); exact Kd.R_mono HO338.out (fun _ hk => ⟨hk.1.1, ⟨hk.1.2.1, ⟨hk.1.2.2.1, ⟨hk.1.2.2.2, hk.2⟩⟩⟩⟩)), (by (with_reducible repeat (first | apply Kd.R_alloc | apply Kd.R_drewN | apply Kd.R_drew)); exact Kd.R_mono HO346.out (fun _ hk => ⟨hk.1.1, ⟨hk.1.2.1, ⟨hk.1.2.2.1, ⟨hk.1.2.2.2, hk.2⟩⟩⟩⟩)), (by (with_reducible repeat (first | apply Kd.R_alloc | apply Kd.R_drewN | apply Kd.R_drew)); exact Kd.R_mono HO349.out (fun _ hk => ⟨hk.1.1, ⟨hk.1.2.1, ⟨hk.1.2.2.1, ⟨hk.1.2.2.2, hk.2⟩⟩⟩⟩)), (by (with_reducible repeat (first | apply Kd.R_alloc | apply Kd.R_drewN | apply Kd.R_drew)); exact Kd.R_mono HO354.out (fun _ hk => ⟨hk.1.1, ⟨hk.1.2.1, ⟨hk.1.2.2.1, ⟨hk.1.2.2.2, hk.2⟩⟩⟩⟩)), (by (with_reducible repeat (first | apply Kd.R_alloc | apply Kd.R_drewN | apply Kd.R_drew)); exact Kd.R_mono HO360.out (fun _ hk => ⟨hk.1.1, ⟨hk.1.2.1, ⟨hk.1.2.2.1, ⟨hk.1.2.2.2, hk.2⟩⟩⟩⟩)), (by (with_reducible repeat (first | apply Kd.R_alloc | apply Kd.R_drewN | apply Kd.R_drew)); exact Kd.R_mono HO367.out (fun _ hk => ⟨hk.1.1.1.1.2, ⟨hk.1.1.1.2, ⟨hk.1.1.2, ⟨hk.1.2, hk.2⟩⟩⟩⟩)), (bk_ BK331), (bk_ BK332), (bk_ BK333), (bk_ BK351), (bk_ BK356), (bk_ BK361), (bk_ BK369), GW369.out, GW369.out, NB331_369.out, NB369_331.out, NB332_369.out, NB369_332.out, NB333_369.out, NB369_333.out, NB351_369.out, NB369_351.out, NB356_369.out, NB369_356.out, NB361_369.out, NB369_361.out, (hb_ HB)⟩)
     skip
     refine box_step ?hg (N := 11) ?hd (cs := #[.slice none 0 0, .int .i64 0]) (t := 44) ?hr ?_; (case hd => rfl); (case hg => rfl); (case hr => first | (go_simp; done) | (go_simp; rfl))
     intro gb369 hg w89 hbox hb
     have BK369 := A_ hbox
     have GW369 := gs_ HB hg
     have NB331_369 := ng_ BK331 hg
     have NB369_331 := ns_ (ng_ BK331 hg)
     have NB332_369 := ng_ BK332 hg
     have NB369_332 := ns_ (ng_ BK332 hg)
     have NB333_369 := ng_ BK333 hg
     have NB369_333 := ns_ (ng_ BK333 hg)
     have NB351_369 := ng_ BK351 hg
     have NB369_351 := ns_ (ng_ BK351 hg)
     have NB356_369 := ng_ BK356 hg
     have NB369_356 := ns_ (ng_ BK356 hg)
     have NB361_369 := ng_ BK361 hg
     have NB369_361 := ns_ (ng_ BK361 hg)
     replace HO338 := A_ (Kd.R_below (rb_ HO338.out) hb)
     replace HO346 := A_ (Kd.R_below (rb_ HO346.out) hb)
     replace HO349 := A_ (Kd.R_below (rb_ HO349.out) hb)
     replace HO354 := A_ (Kd.R_below (rb_ HO354.out) hb)
     replace HO360 := A_ (Kd.R_below (rb_ HO360.out) hb)
     replace BK331 := bb_ BK331 hb
     replace BK332 := bb_ BK332 hb
     replace BK333 := bb_ BK333 hb
     replace BK351 := bb_ BK351 hb
     replace BK356 := bb_ BK356 hb
     replace BK361 := bb_ BK361 hb
     replace HB := hs_ HB hb
     clear hb hbox hg
     refine hK.out _ _ ⟨(blk_cell BK356.out 0).trans rfl, (blk_cell BK356.out 1).trans rfl, (blk_cell BK332.out 0).trans rfl, (blk_cell BK332.out 1).trans rfl, (blk_cell BK332.out 2).trans rfl, (blk_cell BK361.out 0).trans rfl, (blk_cell BK361.out 1).trans rfl⟩ (fun hHeld => ?_)
     clear hK K
     refine norm_ (a' := ?_) ?_ ?_
     rotate_left
     ·
      show Act.put _ (some 11) _ = _
      simp only [Act.put, List.setIfInBounds_toArray, List.set_cons_zero, List.set_cons_succ, i64_w, i32_w]
      rfl
     refine one_ (i := 2) (N := some 39) (bt_ 47 7) rfl rfl (by kernel_rfl) (by decide) (fun K hK => ?_)
     refine goes_ Try.func18 (by kernel_rfl) rfl #[.agg #[.int .i64 a1_0, .int .i64 a1_1, .int .i64 a1_2]] (by rfl) rfl rfl al_ ?_
     with_reducible refine (laws_toOp.calls a1_0 a1_1 a1_2 t362 t363 t364 _ A31.out).mono ?_
     rintro e w90 ⟨rfl, hb⟩
     refine ⟨_, rfl, ?_⟩
     replace HO338 := A_ (Kd.R_below (rb_ HO338.out) hb)
     replace HO346 := A_ (Kd.R_below (rb_ HO346.out) hb)
     replace HO349 := A_ (Kd.R_below (rb_ HO349.out) hb)
     replace HO354 := A_ (Kd.R_below (rb_ HO354.out) hb)
     replace HO360 := A_ (Kd.R_below (rb_ HO360.out) hb)
     replace BK331 := bb_ BK331 hb
     replace BK332 := bb_ BK332 hb
     replace BK333 := bb_ BK333 hb
     replace BK351 := bb_ BK351 hb
     replace BK356 := bb_ BK356 hb
     replace BK361 := bb_ BK361 hb
     replace BK369 := bb_ BK369 hb
     replace HB := hs_ HB hb
     (try clear hb)
     (try clear hb2)
     (try clear hk)
     (try clear hi)
     refine hK.out _ _ ⟨(blk_cell BK356.out 0).trans rfl, (blk_cell BK356.out 1).trans rfl, (blk_cell BK332.out 0).trans rfl, (blk_cell BK332.out 1).trans rfl, (blk_cell BK332.out 2).trans rfl, (blk_cell BK361.out 0).trans rfl, (blk_cell BK361.out 1).trans rfl⟩ (fun hHeld => ?_)
     clear hK K
     refine norm_ (a' := ?_) ?_ ?_
     rotate_left
     ·
      show Act.put _ (some 39) _ = _
      simp only [Act.put, List.setIfInBounds_toArray, List.set_cons_zero, List.set_cons_succ, i64_w, i32_w]
      rfl
     refine one_ (i := 4) (N := some 41) (bt_ 63 7) rfl rfl (by kernel_rfl) (by decide) (fun K hK => ?_)
     refine goes_ Try.func20 (by kernel_rfl) rfl #[.agg #[.slice Ao70 t352.length co70, .int .i64 t355], .agg #[.int .i64 t362, .int .i64 t363, .int .i64 t364], .agg #[.int .i64 t357, .slice Ao86 t358.length co86]] (by rfl) rfl rfl al_ ?_
     with_reducible refine (impl_After.calls k _ _ t352 t355 t362 t363 t364 t357 _ _ t358 t365 t368 _ ?side1 ?side2 ?side3 ?side4 A32.out).mono ?_
     (case side1 => repeat (first | exact (Kd.R_reads' HO354.out).2.2 | (with_reducible refine Kd.C_alloc ?_ _) | (with_reducible refine Kd.C_drewN ?_ _) | (with_reducible refine Kd.C_drew ?_)))
     (case side2 => exact (Kd.R_reads' HO354.out).2.1)
     (case side3 => repeat (first | exact (Kd.R_reads' HO360.out).2.2 | (with_reducible refine Kd.C_alloc ?_ _) | (with_reducible refine Kd.C_drewN ?_ _) | (with_reducible refine Kd.C_drew ?_)))
     (case side4 => exact (Kd.R_reads' HO360.out).2.1)
     rintro e w91 ⟨v366, rfl, ho0, hb⟩
     refine ⟨_, rfl, ?_⟩
     have HO367 := A_ (Kd.R_lower (Kd.R_new' (Kd.R_new' (Kd.R_new' (Kd.R_new' (Kd.R_new' ho0 (Kd.R_lt (rb_ HO338.out))) (Kd.R_lt (rb_ HO346.out))) (Kd.R_lt (rb_ HO349.out))) (Kd.R_lt (rb_ HO354.out))) (Kd.R_lt (rb_ HO360.out))) (below_size (hb_ HB)))
     replace HO338 := A_ (Kd.R_elder' (rb_ HO338.out) (Kd.R_base ho0) hb)
     replace HO346 := A_ (Kd.R_elder' (rb_ HO346.out) (Kd.R_base ho0) hb)
     replace HO349 := A_ (Kd.R_elder' (rb_ HO349.out) (Kd.R_base ho0) hb)
     replace HO354 := A_ (Kd.R_elder' (rb_ HO354.out) (Kd.R_base ho0) hb)
     replace HO360 := A_ (Kd.R_elder' (rb_ HO360.out) (Kd.R_base ho0) hb)
     replace BK331 := bb_ BK331 hb
     replace BK332 := bb_ BK332 hb
     replace BK333 := bb_ BK333 hb
     replace BK351 := bb_ BK351 hb
     replace BK356 := bb_ BK356 hb
     replace BK361 := bb_ BK361 hb
     replace BK369 := bb_ BK369 hb
     replace HB := hs_ HB hb
     (try clear hb)
     (try clear hb2)
     (try clear hk)
     (try clear hi)
     (try clear ho0)
     refine hK.out _ _ ⟨(blk_cell BK356.out 0).trans rfl, (blk_cell BK356.out 1).trans rfl, (blk_cell BK332.out 0).trans rfl, (blk_cell BK332.out 1).trans rfl, (blk_cell BK332.out 2).trans rfl, (blk_cell BK361.out 0).trans rfl, (blk_cell BK361.out 1).trans rfl⟩ (fun hHeld => ?_)
     clear hK K
     refine norm_ (a' := ?_) ?_ ?_
     rotate_left
     ·
      show Act.put _ (some 41) _ = _
      simp only [Act.put, List.setIfInBounds_toArray, List.set_cons_zero, List.set_cons_succ, i64_w, i32_w]
      rfl
     exact norm_ (by simp only [putAll, Act.put, List.setIfInBounds_toArray, List.set_cons_zero, List.set_cons_succ]) (hCont (v366, gb369) _ ⟨hHeld, (by (with_reducible repeat (first | apply Kd.R_alloc | apply Kd.R_drewN | apply Kd.R_drew)); exact Kd.R_mono HO338.out (fun _ hk => ⟨hk.1.1, ⟨hk.1.2.1, ⟨hk.1.2.2.1, ⟨hk.1.2.2.2, hk.2⟩⟩⟩⟩)), (by (with_reducible repeat (first | apply Kd.R_alloc | apply Kd.R_drewN | apply Kd.R_drew)); exact Kd.R_mono HO346.out (fun _ hk => ⟨hk.1.1, ⟨hk.1.2.1, ⟨hk.1.2.2.1, ⟨hk.1.2.2.2, hk.2⟩⟩⟩⟩)), (by (with_reducible repeat (first | apply Kd.R_alloc | apply Kd.R_drewN | apply Kd.R_drew)); exact Kd.R_mono HO349.out (fun _ hk => ⟨hk.1.1, ⟨hk.1.2.1, ⟨hk.1.2.2.1, ⟨hk.1.2.2.2, hk.2⟩⟩⟩⟩)), (by (with_reducible repeat (first | apply Kd.R_alloc | apply Kd.R_drewN | apply Kd.R_drew)); exact Kd.R_mono HO354.out (fun _ hk => ⟨hk.1.1, ⟨hk.1.2.1, ⟨hk.1.2.2.1, ⟨hk.1.2.2.2, hk.2⟩⟩⟩⟩)), (by (with_reducible repeat (first | apply Kd.R_alloc | apply Kd.R_drewN | apply Kd.R_drew)); exact Kd.R_mono HO360.out (fun _ hk => ⟨hk.1.1, ⟨hk.1.2.1, ⟨hk.1.2.2.1, ⟨hk.1.2.2.2, hk.2⟩⟩⟩⟩)), (by (with_reducible repeat (first | apply Kd.R_alloc | apply Kd.R_drewN | apply Kd.R_drew)); exact Kd.R_mono HO367.out (fun _ hk => ⟨hk.1.1.1.1.2, ⟨hk.1.1.1.2, ⟨hk.1.1.2, ⟨hk.1.2, hk.2⟩⟩⟩⟩)), (bk_ BK331), (bk_ BK332), (bk_ BK333), (bk_ BK351), (bk_ BK356), (bk_ BK361), (bk_ BK369), GW369.out, GW369.out, NB331_369.out, NB369_331.out, NB332_369.out, NB369_332.out, NB333_369.out, NB369_333.out, NB351_369.out, NB369_351.out, NB356_369.out, NB369_356.out, NB361_369.out, NB369_361.out, (hb_ HB)⟩)
    rintro ⟨v366, gb369⟩ w92 ⟨hS_, h0_, h1_, h2_, h3_, h4_, h5_, h6_, h7_, h8_, h9_, h10_, h11_, h12_, h13_, h14_, h15_, h16_, h17_, h18_, h19_, h20_, h21_, h22_, h23_, h24_, h25_, h26_, h27_⟩
    (try dsimp only at h0_ h1_ h2_ h3_ h4_ h5_ h6_ h7_ h8_ h9_ h10_ h11_ h12_ h13_ h14_ h15_ h16_ h17_ h18_ h19_ h20_ h21_ h22_ h23_ h24_ h25_ h26_ h27_)
    clear HO338 HO346 HO349 HO354 HO360 BK331 BK332 BK333 BK351 BK356 BK361 HB
    have HO338 := A_ h0_
    have HO346 := A_ h1_
    have HO349 := A_ h2_
    have HO354 := A_ h3_
    have HO360 := A_ h4_
    have HO367 := A_ h5_
    have BK331 := A_ h6_
    have BK332 := A_ h7_
    have BK333 := A_ h8_
    have BK351 := A_ h9_
    have BK356 := A_ h10_
    have BK361 := A_ h11_
    have BK369 := A_ h12_
    have GW369 := A_ h13_
    have NB331_369 := A_ h15_
    have NB369_331 := A_ h16_
    have NB332_369 := A_ h17_
    have NB369_332 := A_ h18_
    have NB333_369 := A_ h19_
    have NB369_333 := A_ h20_
    have NB351_369 := A_ h21_
    have NB369_351 := A_ h22_
    have NB356_369 := A_ h23_
    have NB369_356 := A_ h24_
    have NB361_369 := A_ h25_
    have NB369_361 := A_ h26_
    have HB := A_ h27_
    clear h0_ h1_ h2_ h3_ h4_ h5_ h6_ h7_ h8_ h9_ h10_ h11_ h12_ h13_ h14_ h15_ h16_ h17_ h18_ h19_ h20_ h21_ h22_ h23_ h24_ h25_ h26_ h27_
    (try dsimp only at hS_)
    have hHeld := hS_
    obtain ⟨Ao93, co93, eo93⟩ := Kd.R_slice HO367.out
    (first | subst eo93 | (injection eo93 with f1_ f2_ f3_; have f4_ := f1_.symm; have f5_ := f3_.symm; clear f1_ f2_ f3_; subst f4_; subst f5_))
    refine norm_ (a' := ?_) ?_ ?_
    rotate_left
    ·
     simp only [putAll, Act.put, List.setIfInBounds_toArray, List.set_cons_zero, List.set_cons_succ]
     rfl
    refine one_ (i := 6) (N := none) (bt_ 127 7) rfl rfl (by kernel_rfl) (by decide) (fun K hK => ?_)
    have hs94 : w92.cell? ⟨gb369, 0, none⟩ = some (.slice none 0 0) := (blk_cell BK369.out 0).trans rfl
    have hfs94 := blk_frozen BK369.out 0
    have hns94_0 := NB331_369.out
    have hns94_1 := NB332_369.out
    have hns94_2 := NB333_369.out
    have hns94_3 := NB351_369.out
    have hns94_4 := NB356_369.out
    have hns94_5 := NB361_369.out
    have hms94_0 := NB369_331.out
    have hms94_1 := NB369_332.out
    have hms94_2 := NB369_333.out
    have hms94_3 := NB369_351.out
    have hms94_4 := NB369_356.out
    have hms94_5 := NB369_361.out
    have hs95 : w92.cell? ⟨gb369, 1, none⟩ = some (.int .i64 0) := (blk_cell BK369.out 1).trans rfl
    have hfs95 := blk_frozen BK369.out 1
    have hns95_0 := NB331_369.out
    have hns95_1 := NB332_369.out
    have hns95_2 := NB333_369.out
    have hns95_3 := NB351_369.out
    have hns95_4 := NB356_369.out
    have hns95_5 := NB361_369.out
    have hms95_0 := NB369_331.out
    have hms95_1 := NB369_332.out
    have hms95_2 := NB369_333.out
    have hms95_3 := NB369_351.out
    have hms95_4 := NB369_356.out
    have hms95_5 := NB369_361.out
    refine skip_ (w1 := ?_) (by rfl) rfl ?_ ?_
    rotate_left
    ·
     go_simp
     rfl
    refine hK.out _ _ ⟨((cell_far (p := ⟨gb369, _, none⟩) NB356_369.out _).trans (((cell_far (p := ⟨gb369, _, none⟩) NB356_369.out _).trans (hHeld.1)))), ((cell_far (p := ⟨gb369, _, none⟩) NB356_369.out _).trans (((cell_far (p := ⟨gb369, _, none⟩) NB356_369.out _).trans (hHeld.2.1)))), ((cell_far (p := ⟨gb369, _, none⟩) NB332_369.out _).trans (((cell_far (p := ⟨gb369, _, none⟩) NB332_369.out _).trans (hHeld.2.2.1)))), ((cell_far (p := ⟨gb369, _, none⟩) NB332_369.out _).trans (((cell_far (p := ⟨gb369, _, none⟩) NB332_369.out _).trans (hHeld.2.2.2.1)))), ((cell_far (p := ⟨gb369, _, none⟩) NB332_369.out _).trans (((cell_far (p := ⟨gb369, _, none⟩) NB332_369.out _).trans (hHeld.2.2.2.2.1)))), ((cell_far (p := ⟨gb369, _, none⟩) NB361_369.out _).trans (((cell_far (p := ⟨gb369, _, none⟩) NB361_369.out _).trans (hHeld.2.2.2.2.2.1)))), ((cell_far (p := ⟨gb369, _, none⟩) NB361_369.out _).trans (((cell_far (p := ⟨gb369, _, none⟩) NB361_369.out _).trans (hHeld.2.2.2.2.2.2))))⟩ (fun hHeld => ?_)
    clear hK K
    refine done_ (by kernel_rfl) ?_
    have hnb96 := NB369_331.out
    have hnc96 := NB331_369.out
    have hnb97 := NB369_332.out
    have hnc97 := NB332_369.out
    have hnb98 := NB369_333.out
    have hnc98 := NB333_369.out
    have hnb99 := NB369_351.out
    have hnc99 := NB351_369.out
    have hnb100 := NB369_356.out
    have hnc100 := NB356_369.out
    have hnb101 := NB369_361.out
    have hnc101 := NB361_369.out
    obtain ⟨hcz102_0, hcz102_1, hfz102_0, hfz102_1⟩ := cz2_ BK369
    have hnb103 := NB351_332.out
    have hnc103 := NB332_351.out
    obtain ⟨hcz104_0, hcz104_1, hfz104_0, hfz104_1⟩ := cz2_ BK351
    try go_wp2_with (first | ((with_reducible refine gate_callee (f := 21) rfl ?_); refine goesL_ (some 44) rfl rfl Try.func21 (by kernel_rfl) rfl #[.agg #[.slice Ao93 t365.length co93, .int .i64 t368], .agg #[.slice Ao63 t347.length co63, .int .i64 t350]] rfl al_ ?_; (with_reducible refine (laws_eqRows.calls k _ _ t365 t368 _ _ t347 t350 true _ ?side1 ?side2 ?side3 ?side4 A33.out).mono ?_); (case side1 => refine (Kd.R_reads' (e := 3) (base := w.heap.size) (ok := fun k_ => (some k_ ≠ (v337 : Value).ownBlock ∧ (some k_ ≠ (v345 : Value).ownBlock ∧ (some k_ ≠ (.slice Ao63 t347.length co63 : Value).ownBlock ∧ (some k_ ≠ (.slice Ao70 t352.length co70 : Value).ownBlock ∧ some k_ ≠ (.slice Ao86 t358.length co86 : Value).ownBlock))))) (n := t365.length) (c := co93) ?_).2.2; exact (by (with_reducible repeat (first | apply Kd.R_alloc | apply Kd.R_drewN | apply Kd.R_drew)); exact (Kd.R_mono (Kd.R_far (p := ⟨gb369, 1, none⟩) (Kd.R_far (p := ⟨gb369, 0, none⟩) (Kd.R_types HO367.out BK369.out (by decide)) (fun _ hk => hk.2) (.slice Ao93 t365.length co93)) (fun _ hk => hk.2) (.int .i64 t368)) (fun _ h_ => h_.1)))); (case side2 => exact (Kd.R_reads' HO367.out).2.1); (case side3 => refine (Kd.R_reads' (e := 3) (base := w.heap.size) (ok := fun k_ => (some k_ ≠ (v337 : Value).ownBlock ∧ (some k_ ≠ (v345 : Value).ownBlock ∧ (some k_ ≠ (.slice Ao70 t352.length co70 : Value).ownBlock ∧ (some k_ ≠ (.slice Ao86 t358.length co86 : Value).ownBlock ∧ some k_ ≠ (.slice Ao93 t365.length co93 : Value).ownBlock))))) (n := t347.length) (c := co63) ?_).2.2; exact (by (with_reducible repeat (first | apply Kd.R_alloc | apply Kd.R_drewN | apply Kd.R_drew)); exact (Kd.R_mono (Kd.R_far (p := ⟨gb369, 1, none⟩) (Kd.R_far (p := ⟨gb369, 0, none⟩) (Kd.R_types HO349.out BK369.out (by decide)) (fun _ hk => hk.2) (.slice Ao93 t365.length co93)) (fun _ hk => hk.2) (.int .i64 t368)) (fun _ h_ => h_.1)))); (case side4 => exact (Kd.R_reads' HO349.out).2.1); rintro e w105 ⟨rfl, hb⟩; refine ⟨_, rfl, ?_⟩; replace HO338 := A_ (Kd.R_below (by (with_reducible repeat (first | apply Kd.R_alloc | apply Kd.R_drewN | apply Kd.R_drew)); exact (Kd.R_mono (Kd.R_far (p := ⟨gb369, 1, none⟩) (Kd.R_far (p := ⟨gb369, 0, none⟩) (Kd.R_types HO338.out BK369.out (by decide)) (fun _ hk => hk.2) (.slice Ao93 t365.length co93)) (fun _ hk => hk.2) (.int .i64 t368)) (fun _ h_ => h_.1))) hb); replace HO346 := A_ (Kd.R_below (by (with_reducible repeat (first | apply Kd.R_alloc | apply Kd.R_drewN | apply Kd.R_drew)); exact (Kd.R_mono (Kd.R_far (p := ⟨gb369, 1, none⟩) (Kd.R_far (p := ⟨gb369, 0, none⟩) (Kd.R_types HO346.out BK369.out (by decide)) (fun _ hk => hk.2) (.slice Ao93 t365.length co93)) (fun _ hk => hk.2) (.int .i64 t368)) (fun _ h_ => h_.1))) hb); replace HO349 := A_ (Kd.R_below (by (with_reducible repeat (first | apply Kd.R_alloc | apply Kd.R_drewN | apply Kd.R_drew)); exact (Kd.R_mono (Kd.R_far (p := ⟨gb369, 1, none⟩) (Kd.R_far (p := ⟨gb369, 0, none⟩) (Kd.R_types HO349.out BK369.out (by decide)) (fun _ hk => hk.2) (.slice Ao93 t365.length co93)) (fun _ hk => hk.2) (.int .i64 t368)) (fun _ h_ => h_.1))) hb); replace HO354 := A_ (Kd.R_below (by (with_reducible repeat (first | apply Kd.R_alloc | apply Kd.R_drewN | apply Kd.R_drew)); exact (Kd.R_mono (Kd.R_far (p := ⟨gb369, 1, none⟩) (Kd.R_far (p := ⟨gb369, 0, none⟩) (Kd.R_types HO354.out BK369.out (by decide)) (fun _ hk => hk.2) (.slice Ao93 t365.length co93)) (fun _ hk => hk.2) (.int .i64 t368)) (fun _ h_ => h_.1))) hb); replace HO360 := A_ (Kd.R_below (by (with_reducible repeat (first | apply Kd.R_alloc | apply Kd.R_drewN | apply Kd.R_drew)); exact (Kd.R_mono (Kd.R_far (p := ⟨gb369, 1, none⟩) (Kd.R_far (p := ⟨gb369, 0, none⟩) (Kd.R_types HO360.out BK369.out (by decide)) (fun _ hk => hk.2) (.slice Ao93 t365.length co93)) (fun _ hk => hk.2) (.int .i64 t368)) (fun _ h_ => h_.1))) hb); replace HO367 := A_ (Kd.R_below (by (with_reducible repeat (first | apply Kd.R_alloc | apply Kd.R_drewN | apply Kd.R_drew)); exact (Kd.R_mono (Kd.R_far (p := ⟨gb369, 1, none⟩) (Kd.R_far (p := ⟨gb369, 0, none⟩) (Kd.R_types HO367.out BK369.out (by decide)) (fun _ hk => hk.2) (.slice Ao93 t365.length co93)) (fun _ hk => hk.2) (.int .i64 t368)) (fun _ h_ => h_.1))) hb); replace BK331 := bb_ BK331 hb; replace BK332 := bb_ BK332 hb; replace BK333 := bb_ BK333 hb; replace BK351 := bb_ BK351 hb; replace BK356 := bb_ BK356 hb; replace BK361 := bb_ BK361 hb; replace BK369 := bq_ (o' := .cells #[.slice Ao93 t365.length co93, .int .i64 t368] 44 (0, 0)) BK369 hb; replace HB := hs_ HB hb; (try clear hb); (try clear hb2); (try clear hk); (try clear hi)))
    replace HO338 := A_ (Kd.R_drew HO338.out)
    replace HO346 := A_ (Kd.R_drew HO346.out)
    replace HO349 := A_ (Kd.R_drew HO349.out)
    replace HO354 := A_ (Kd.R_drew HO354.out)
    replace HO360 := A_ (Kd.R_drew HO360.out)
    replace HO367 := A_ (Kd.R_drew HO367.out)
    replace BK331 := A_ (blk_drew BK331.out)
    replace BK332 := A_ (blk_drew BK332.out)
    replace BK333 := A_ (blk_drew BK333.out)
    replace BK351 := A_ (blk_drew BK351.out)
    replace BK356 := A_ (blk_drew BK356.out)
    replace BK361 := A_ (blk_drew BK361.out)
    replace BK369 := A_ (blk_drew BK369.out)
    replace HB := A_ (below_drew1 HB.out)
    refine start_ (n := 5) (S := fun w' => w'.cell? ⟨gb356, 0, none⟩ = some (.slice Ao70 t352.length co70) ∧ w'.cell? ⟨gb356, 1, none⟩ = some (.int .i64 t355) ∧ w'.cell? ⟨gb331, 0, none⟩ = some (.slice A0_0 l0_0.length c0_0) ∧ w'.cell? ⟨gb331, 1, none⟩ = some (.int .i64 a0_1)) (ds := []) (bt_ 0 5) (by kernel_rfl) rfl rfl ⟨(blk_cell BK356.out 0).trans rfl, (blk_cell BK356.out 1).trans rfl, (blk_cell BK331.out 0).trans rfl, (blk_cell BK331.out 1).trans rfl⟩ (fun hHeld => ?_)
    generalize w105.drew = w106 at HO338 HO346 HO349 HO354 HO360 HO367 BK331 BK332 BK333 BK351 BK356 BK361 BK369 HB hHeld ⊢
    refine take_ (i := 0) (N := some 46) (v := ?_) (a' := ?_) (bt_ 1 5) rfl rfl (by kernel_rfl) (fun _ _ _ h => h) (Or.inl ⟨by rfl, ?_⟩) hHeld ?_ ?_
    rotate_left
    ·
     rintro w' ⟨s0, s1, s2, s3⟩
     go_simp
     with_reducible rfl
    rotate_left
    ·
     simp only [Act.put, List.setIfInBounds_toArray, List.set_cons_zero, List.set_cons_succ, i64_w, i32_w]
     rfl
    refine take_ (i := 1) (N := some 47) (v := ?_) (a' := ?_) (bt_ 3 5) rfl rfl (by kernel_rfl) (fun _ _ _ h => h) (Or.inl ⟨by rfl, ?_⟩) hHeld ?_ ?_
    rotate_left
    ·
     rintro w' ⟨s0, s1, s2, s3⟩
     go_simp
     with_reducible rfl
    rotate_left
    ·
     simp only [Act.put, List.setIfInBounds_toArray, List.set_cons_zero, List.set_cons_succ, i64_w, i32_w]
     rfl
    refine one_ (i := 2) (N := some 48) (bt_ 7 5) rfl rfl (by kernel_rfl) (by decide) (fun K hK => ?_)
    refine goes_ Try.func17 (by kernel_rfl) rfl #[.agg #[.slice A0_0 l0_0.length c0_0, .int .i64 a0_1]] (by rfl) rfl rfl al_ ?_
    with_reducible refine (laws_toRows.calls k _ _ l0_0 a0_1 t371 t374 _ ?side1 ?side2 A35.out).mono ?_
    (case side1 => exact cb_ (Kd.C_below HR0_0.out HB.out))
    (case side2 => exact HC0_0.out)
    rintro e w107 ⟨v372, rfl, ho0, hb⟩
    refine ⟨_, rfl, ?_⟩
    have HO373 := A_ (Kd.R_lower (Kd.R_new' (Kd.R_new' (Kd.R_new' (Kd.R_new' (Kd.R_new' (Kd.R_new' ho0 (Kd.R_lt (rb_ HO338.out))) (Kd.R_lt (rb_ HO346.out))) (Kd.R_lt (rb_ HO349.out))) (Kd.R_lt (rb_ HO354.out))) (Kd.R_lt (rb_ HO360.out))) (Kd.R_lt (rb_ HO367.out))) (below_size (hb_ HB)))
    replace HO338 := A_ (Kd.R_elder' (rb_ HO338.out) (Kd.R_base ho0) hb)
    replace HO346 := A_ (Kd.R_elder' (rb_ HO346.out) (Kd.R_base ho0) hb)
    replace HO349 := A_ (Kd.R_elder' (rb_ HO349.out) (Kd.R_base ho0) hb)
    replace HO354 := A_ (Kd.R_elder' (rb_ HO354.out) (Kd.R_base ho0) hb)
    replace HO360 := A_ (Kd.R_elder' (rb_ HO360.out) (Kd.R_base ho0) hb)
    replace HO367 := A_ (Kd.R_elder' (rb_ HO367.out) (Kd.R_base ho0) hb)
    replace BK331 := bb_ BK331 hb
    replace BK332 := bb_ BK332 hb
    replace BK333 := bb_ BK333 hb
    replace BK351 := bb_ BK351 hb
    replace BK356 := bb_ BK356 hb
    replace BK361 := bb_ BK361 hb
    replace BK369 := bb_ BK369 hb
    replace HB := hs_ HB hb
    (try clear hb)
    (try clear hb2)
    (try clear hk)
    (try clear hi)
    (try clear ho0)
    obtain ⟨Ao108, co108, eo108⟩ := Kd.R_slice HO373.out
    (first | subst eo108 | (injection eo108 with f1_ f2_ f3_; have f4_ := f1_.symm; have f5_ := f3_.symm; clear f1_ f2_ f3_; subst f4_; subst f5_))
    refine hK.out _ _ ⟨(blk_cell BK356.out 0).trans rfl, (blk_cell BK356.out 1).trans rfl, (blk_cell BK331.out 0).trans rfl, (blk_cell BK331.out 1).trans rfl⟩ (fun hHeld => ?_)
    clear hK K
    refine norm_ (a' := ?_) ?_ ?_
    rotate_left
    ·
     show Act.put _ (some 48) _ = _
     simp only [Act.put, List.setIfInBounds_toArray, List.set_cons_zero, List.set_cons_succ, i64_w, i32_w]
     rfl
    refine one_ (i := 3) (N := some 49) (bt_ 15 5) rfl rfl (by kernel_rfl) (by decide) (fun K hK => ?_)
    refine goes_ Try.func21 (by kernel_rfl) rfl #[.agg #[.slice Ao70 t352.length co70, .int .i64 t355], .agg #[.slice Ao108 t371.length co108, .int .i64 t374]] (by rfl) rfl rfl al_ ?_
    with_reducible refine (laws_eqRows.calls k _ _ t352 t355 _ _ t371 t374 true _ ?side1 ?side2 ?side3 ?side4 A36.out).mono ?_
    (case side1 => repeat (first | exact (Kd.R_reads' HO354.out).2.2 | (with_reducible refine Kd.C_alloc ?_ _) | (with_reducible refine Kd.C_drewN ?_ _) | (with_reducible refine Kd.C_drew ?_)))
    (case side2 => exact (Kd.R_reads' HO354.out).2.1)
    (case side3 => repeat (first | exact (Kd.R_reads' HO373.out).2.2 | (with_reducible refine Kd.C_alloc ?_ _) | (with_reducible refine Kd.C_drewN ?_ _) | (with_reducible refine Kd.C_drew ?_)))
    (case side4 => exact (Kd.R_reads' HO373.out).2.1)
    rintro e w109 ⟨rfl, hb⟩
    refine ⟨_, rfl, ?_⟩
    replace HO338 := A_ (Kd.R_below (rb_ HO338.out) hb)
    replace HO346 := A_ (Kd.R_below (rb_ HO346.out) hb)
    replace HO349 := A_ (Kd.R_below (rb_ HO349.out) hb)
    replace HO354 := A_ (Kd.R_below (rb_ HO354.out) hb)
    replace HO360 := A_ (Kd.R_below (rb_ HO360.out) hb)
    replace HO367 := A_ (Kd.R_below (rb_ HO367.out) hb)
    replace HO373 := A_ (Kd.R_below (rb_ HO373.out) hb)
    replace BK331 := bb_ BK331 hb
    replace BK332 := bb_ BK332 hb
    replace BK333 := bb_ BK333 hb
    replace BK351 := bb_ BK351 hb
    replace BK356 := bb_ BK356 hb
    replace BK361 := bb_ BK361 hb
    replace BK369 := bb_ BK369 hb
    replace HB := hs_ HB hb
    (try clear hb)
    (try clear hb2)
    (try clear hk)
    (try clear hi)
    refine hK.out _ _ ⟨(blk_cell BK356.out 0).trans rfl, (blk_cell BK356.out 1).trans rfl, (blk_cell BK331.out 0).trans rfl, (blk_cell BK331.out 1).trans rfl⟩ (fun hHeld => ?_)
    clear hK K
    refine norm_ (a' := ?_) ?_ ?_
    rotate_left
    ·
     show Act.put _ (some 49) _ = _
     simp only [Act.put, List.setIfInBounds_toArray, List.set_cons_zero, List.set_cons_succ, i64_w, i32_w]
     rfl
    refine pure_ (i := 4) (N := some 50) (v := ?_) (a' := ?_) (bt_ 31 5) rfl rfl (by kernel_rfl) (fun _ _ _ h => h) (Or.inl ⟨by rfl, ?_⟩) ?_ ?_
    rotate_left
    ·
     intro w'
     go_simp
     with_reducible rfl
    rotate_left
    ·
     simp only [Act.put, List.setIfInBounds_toArray, List.set_cons_zero, List.set_cons_succ, i64_w, i32_w]
     rfl
    refine done_ (by kernel_rfl) ?_
    try go_wp2
    replace HO338 := A_ (Kd.R_drew HO338.out)
    replace HO346 := A_ (Kd.R_drew HO346.out)
    replace HO349 := A_ (Kd.R_drew HO349.out)
    replace HO354 := A_ (Kd.R_drew HO354.out)
    replace HO360 := A_ (Kd.R_drew HO360.out)
    replace HO367 := A_ (Kd.R_drew HO367.out)
    replace HO373 := A_ (Kd.R_drew HO373.out)
    replace BK331 := A_ (blk_drew BK331.out)
    replace BK332 := A_ (blk_drew BK332.out)
    replace BK333 := A_ (blk_drew BK333.out)
    replace BK351 := A_ (blk_drew BK351.out)
    replace BK356 := A_ (blk_drew BK356.out)
    replace BK361 := A_ (blk_drew BK361.out)
    replace BK369 := A_ (blk_drew BK369.out)
    replace HB := A_ (below_drew1 HB.out)
    refine start_ (n := 5) (S := fun w' => w'.cell? ⟨gb361, 0, none⟩ = some (.int .i64 t357) ∧ w'.cell? ⟨gb361, 1, none⟩ = some (.slice Ao86 t358.length co86) ∧ w'.cell? ⟨gb333, 0, none⟩ = some (.int .i64 a2_0) ∧ w'.cell? ⟨gb333, 1, none⟩ = some (.slice A2_1 l2_1.length c2_1)) (ds := []) (bt_ 0 5) (by kernel_rfl) rfl rfl ⟨(blk_cell BK361.out 0).trans rfl, (blk_cell BK361.out 1).trans rfl, (blk_cell BK333.out 0).trans rfl, (blk_cell BK333.out 1).trans rfl⟩ (fun hHeld => ?_)
    generalize w109.drew = w110 at HO338 HO346 HO349 HO354 HO360 HO367 HO373 BK331 BK332 BK333 BK351 BK356 BK361 BK369 HB hHeld ⊢
    refine take_ (i := 0) (N := some 51) (v := ?_) (a' := ?_) (bt_ 1 5) rfl rfl (by kernel_rfl) (fun _ _ _ h => h) (Or.inl ⟨by rfl, ?_⟩) hHeld ?_ ?_
    rotate_left
    ·
     rintro w' ⟨s0, s1, s2, s3⟩
     go_simp
     with_reducible rfl
    rotate_left
    ·
     simp only [Act.put, List.setIfInBounds_toArray, List.set_cons_zero, List.set_cons_succ, i64_w, i32_w]
     rfl
    refine take_ (i := 1) (N := some 52) (v := ?_) (a' := ?_) (bt_ 3 5) rfl rfl (by kernel_rfl) (fun _ _ _ h => h) (Or.inl ⟨by rfl, ?_⟩) hHeld ?_ ?_
    rotate_left
    ·
     rintro w' ⟨s0, s1, s2, s3⟩
     go_simp
     with_reducible rfl
    rotate_left
    ·
     simp only [Act.put, List.setIfInBounds_toArray, List.set_cons_zero, List.set_cons_succ, i64_w, i32_w]
     rfl
    refine one_ (i := 2) (N := some 53) (bt_ 7 5) rfl rfl (by kernel_rfl) (by decide) (fun K hK => ?_)
    refine goes_ Try.func19 (by kernel_rfl) rfl #[.agg #[.int .i64 a2_0, .slice A2_1 l2_1.length c2_1]] (by rfl) rfl rfl al_ ?_
    with_reducible refine (laws_toRes.calls k a2_0 _ _ l2_1 t376 t377 _ ?side1 ?side2 A38.out).mono ?_
    (case side1 => exact cb_ (Kd.C_below HR2_1.out HB.out))
    (case side2 => exact HC2_1.out)
    rintro e w111 ⟨v378, rfl, ho0, hb⟩
    refine ⟨_, rfl, ?_⟩
    have HO379 := A_ (Kd.R_lower (Kd.R_new' (Kd.R_new' (Kd.R_new' (Kd.R_new' (Kd.R_new' (Kd.R_new' (Kd.R_new' ho0 (Kd.R_lt (rb_ HO338.out))) (Kd.R_lt (rb_ HO346.out))) (Kd.R_lt (rb_ HO349.out))) (Kd.R_lt (rb_ HO354.out))) (Kd.R_lt (rb_ HO360.out))) (Kd.R_lt (rb_ HO367.out))) (Kd.R_lt (rb_ HO373.out))) (below_size (hb_ HB)))
    replace HO338 := A_ (Kd.R_elder' (rb_ HO338.out) (Kd.R_base ho0) hb)
    replace HO346 := A_ (Kd.R_elder' (rb_ HO346.out) (Kd.R_base ho0) hb)
    replace HO349 := A_ (Kd.R_elder' (rb_ HO349.out) (Kd.R_base ho0) hb)
    replace HO354 := A_ (Kd.R_elder' (rb_ HO354.out) (Kd.R_base ho0) hb)
    replace HO360 := A_ (Kd.R_elder' (rb_ HO360.out) (Kd.R_base ho0) hb)
    replace HO367 := A_ (Kd.R_elder' (rb_ HO367.out) (Kd.R_base ho0) hb)
    replace HO373 := A_ (Kd.R_elder' (rb_ HO373.out) (Kd.R_base ho0) hb)
    replace BK331 := bb_ BK331 hb
    replace BK332 := bb_ BK332 hb
    replace BK333 := bb_ BK333 hb
    replace BK351 := bb_ BK351 hb
    replace BK356 := bb_ BK356 hb
    replace BK361 := bb_ BK361 hb
    replace BK369 := bb_ BK369 hb
    replace HB := hs_ HB hb
    (try clear hb)
    (try clear hb2)
    (try clear hk)
    (try clear hi)
    (try clear ho0)
    obtain ⟨Ao112, co112, eo112⟩ := Kd.R_slice HO379.out
    (first | subst eo112 | (injection eo112 with f1_ f2_ f3_; have f4_ := f1_.symm; have f5_ := f3_.symm; clear f1_ f2_ f3_; subst f4_; subst f5_))
    refine hK.out _ _ ⟨(blk_cell BK361.out 0).trans rfl, (blk_cell BK361.out 1).trans rfl, (blk_cell BK333.out 0).trans rfl, (blk_cell BK333.out 1).trans rfl⟩ (fun hHeld => ?_)
    clear hK K
    refine norm_ (a' := ?_) ?_ ?_
    rotate_left
    ·
     show Act.put _ (some 53) _ = _
     simp only [Act.put, List.setIfInBounds_toArray, List.set_cons_zero, List.set_cons_succ, i64_w, i32_w]
     rfl
    refine one_ (i := 3) (N := some 54) (bt_ 15 5) rfl rfl (by kernel_rfl) (by decide) (fun K hK => ?_)
    refine goes_ Try.func22 (by kernel_rfl) rfl #[.agg #[.int .i64 t357, .slice Ao86 t358.length co86], .agg #[.int .i64 t376, .slice Ao112 t377.length co112]] (by rfl) rfl rfl al_ ?_
    with_reducible refine (laws_eqRes.calls k t357 _ _ t358 t376 _ _ t377 true _ ?side1 ?side2 ?side3 ?side4 A39.out).mono ?_
    (case side1 => repeat (first | exact (Kd.R_reads' HO360.out).2.2 | (with_reducible refine Kd.C_alloc ?_ _) | (with_reducible refine Kd.C_drewN ?_ _) | (with_reducible refine Kd.C_drew ?_)))
    (case side2 => exact (Kd.R_reads' HO360.out).2.1)
    (case side3 => repeat (first | exact (Kd.R_reads' HO379.out).2.2 | (with_reducible refine Kd.C_alloc ?_ _) | (with_reducible refine Kd.C_drewN ?_ _) | (with_reducible refine Kd.C_drew ?_)))
    (case side4 => exact (Kd.R_reads' HO379.out).2.1)
    rintro e w113 ⟨rfl, hb⟩
    refine ⟨_, rfl, ?_⟩
    replace HO338 := A_ (Kd.R_below (rb_ HO338.out) hb)
    replace HO346 := A_ (Kd.R_below (rb_ HO346.out) hb)
    replace HO349 := A_ (Kd.R_below (rb_ HO349.out) hb)
    replace HO354 := A_ (Kd.R_below (rb_ HO354.out) hb)
    replace HO360 := A_ (Kd.R_below (rb_ HO360.out) hb)
    replace HO367 := A_ (Kd.R_below (rb_ HO367.out) hb)
    replace HO373 := A_ (Kd.R_below (rb_ HO373.out) hb)
    replace HO379 := A_ (Kd.R_below (rb_ HO379.out) hb)
    replace BK331 := bb_ BK331 hb
    replace BK332 := bb_ BK332 hb
    replace BK333 := bb_ BK333 hb
    replace BK351 := bb_ BK351 hb
    replace BK356 := bb_ BK356 hb
    replace BK361 := bb_ BK361 hb
    replace BK369 := bb_ BK369 hb
    replace HB := hs_ HB hb
    (try clear hb)
    (try clear hb2)
    (try clear hk)
    (try clear hi)
    refine hK.out _ _ ⟨(blk_cell BK361.out 0).trans rfl, (blk_cell BK361.out 1).trans rfl, (blk_cell BK333.out 0).trans rfl, (blk_cell BK333.out 1).trans rfl⟩ (fun hHeld => ?_)
    clear hK K
    refine norm_ (a' := ?_) ?_ ?_
    rotate_left
    ·
     show Act.put _ (some 54) _ = _
     simp only [Act.put, List.setIfInBounds_toArray, List.set_cons_zero, List.set_cons_succ, i64_w, i32_w]
     rfl
    refine pure_ (i := 4) (N := some 55) (v := ?_) (a' := ?_) (bt_ 31 5) rfl rfl (by kernel_rfl) (fun _ _ _ h => h) (Or.inl ⟨by rfl, ?_⟩) ?_ ?_
    rotate_left
    ·
     intro w'
     go_simp
     with_reducible rfl
    rotate_left
    ·
     simp only [Act.put, List.setIfInBounds_toArray, List.set_cons_zero, List.set_cons_succ, i64_w, i32_w]
     rfl
    refine done_ (by kernel_rfl) ?_
    obtain ⟨hcz114_0, hcz114_1, hfz114_0, hfz114_1⟩ := cz2_ BK356
    go_upto_region 21 with (first | ((with_reducible refine gate_callee (f := 23) rfl ?_); refine goesL_ (some 58) rfl rfl Try.func23 (by kernel_rfl) rfl #[.agg #[.slice Ao70 t352.length co70, .int .i64 t355], .int .i64 1] rfl al_ ?_; (with_reducible refine (laws_markRows.calls k (fun k_ => some k_ = (.slice Ao70 t352.length co70 : Value).ownBlock) (.slice Ao70 t352.length co70) t352 t355 1 t381 t382 w _ ?side1 ?side2 A41.out).mono ?_); (case side1 => repeat (first | (with_reducible first | exact HB.out | apply below_alloc | apply pw_below_drewN | apply below_drew1 | refine below_set ?_ GW331.out | refine below_set ?_ GW332.out | refine below_set ?_ GW333.out | refine below_set ?_ GW351.out | refine below_set ?_ GW356.out | refine below_set ?_ GW361.out | refine below_set ?_ GW369.out) | exact HB.out)); (case side2 => exact Kd.R_tight rfl HO354.out); rintro e w115 ⟨rfl, hy0, hb, hkp⟩; refine ⟨_, rfl, ?_⟩; have n0_ := A_ (blk_kept (bk_ BK331) hkp (fun hs_ => (fun e_ => (Kd.R_ne HO354.out BK331.out (by decide)) e_) hs_)); have n1_ := A_ (blk_kept (bk_ BK332) hkp (fun hs_ => (fun e_ => (Kd.R_ne HO354.out BK332.out (by decide)) e_) hs_)); have n2_ := A_ (blk_kept (bk_ BK333) hkp (fun hs_ => (fun e_ => (Kd.R_ne HO354.out BK333.out (by decide)) e_) hs_)); have n3_ := A_ (Kd.R_mono (ok' := fun k_ => some k_ ≠ (v345 : Value).ownBlock ∧ some k_ ≠ (.slice Ao63 t347.length co63 : Value).ownBlock ∧ some k_ ≠ (.slice Ao70 t352.length co70 : Value).ownBlock ∧ some k_ ≠ (.slice Ao86 t358.length co86 : Value).ownBlock ∧ some k_ ≠ (.slice Ao93 t365.length co93 : Value).ownBlock ∧ some k_ ≠ (.slice Ao108 t371.length co108 : Value).ownBlock ∧ some k_ ≠ (.slice Ao112 t377.length co112 : Value).ownBlock) (Kd.R_keptB (HO338.out) hkp (fun k_ hk_ hs_ => (hk_.1.1.2.2.1) hs_)) (fun k_ hk_ => ⟨hk_.1.1.1.1, hk_.1.1.1.2.1, hk_.1.1.1.2.2.1, hk_.1.1.1.2.2.2.1, hk_.1.1.1.2.2.2.2, hk_.1.1.2, hk_.1.2⟩)); have n4_ := A_ (Kd.R_mono (ok' := fun k_ => some k_ ≠ (v337 : Value).ownBlock ∧ some k_ ≠ (.slice Ao63 t347.length co63 : Value).ownBlock ∧ some k_ ≠ (.slice Ao70 t352.length co70 : Value).ownBlock ∧ some k_ ≠ (.slice Ao86 t358.length co86 : Value).ownBlock ∧ some k_ ≠ (.slice Ao93 t365.length co93 : Value).ownBlock ∧ some k_ ≠ (.slice Ao108 t371.length co108 : Value).ownBlock ∧ some k_ ≠ (.slice Ao112 t377.length co112 : Value).ownBlock) (Kd.R_keptB (HO346.out) hkp (fun k_ hk_ hs_ => (hk_.1.1.2.2.1) hs_)) (fun k_ hk_ => ⟨hk_.1.1.1.1, hk_.1.1.1.2.1, hk_.1.1.1.2.2.1, hk_.1.1.1.2.2.2.1, hk_.1.1.1.2.2.2.2, hk_.1.1.2, hk_.1.2⟩)); have n5_ := A_ (Kd.R_mono (ok' := fun k_ => some k_ ≠ (v337 : Value).ownBlock ∧ some k_ ≠ (v345 : Value).ownBlock ∧ some k_ ≠ (.slice Ao70 t352.length co70 : Value).ownBlock ∧ some k_ ≠ (.slice Ao86 t358.length co86 : Value).ownBlock ∧ some k_ ≠ (.slice Ao93 t365.length co93 : Value).ownBlock ∧ some k_ ≠ (.slice Ao108 t371.length co108 : Value).ownBlock ∧ some k_ ≠ (.slice Ao112 t377.length co112 : Value).ownBlock) (Kd.R_keptB (HO349.out) hkp (fun k_ hk_ hs_ => (hk_.1.1.2.2.1) hs_)) (fun k_ hk_ => ⟨hk_.1.1.1.1, hk_.1.1.1.2.1, hk_.1.1.1.2.2.1, hk_.1.1.1.2.2.2.1, hk_.1.1.1.2.2.2.2, hk_.1.1.2, hk_.1.2⟩)); have n6_ := A_ (blk_kept (bk_ BK351) hkp (fun hs_ => (fun e_ => (Kd.R_ne HO354.out BK351.out (by decide)) e_) hs_)); have n7_ := A_ (Kd.R_reok rfl hy0 (fun k_ e_ => HO354.out.1 k_ e_)); have n8_ := A_ (blk_kept (bk_ BK356) hkp (fun hs_ => (fun e_ => (Kd.R_ne HO354.out BK356.out (by decide)) e_) hs_)); have n9_ := A_ (Kd.R_mono (ok' := fun k_ => some k_ ≠ (v337 : Value).ownBlock ∧ some k_ ≠ (v345 : Value).ownBlock ∧ some k_ ≠ (.slice Ao63 t347.length co63 : Value).ownBlock ∧ some k_ ≠ (.slice Ao70 t352.length co70 : Value).ownBlock ∧ some k_ ≠ (.slice Ao93 t365.length co93 : Value).ownBlock ∧ some k_ ≠ (.slice Ao108 t371.length co108 : Value).ownBlock ∧ some k_ ≠ (.slice Ao112 t377.length co112 : Value).ownBlock) (Kd.R_keptB (HO360.out) hkp (fun k_ hk_ hs_ => (hk_.1.1.2.2.2.1) hs_)) (fun k_ hk_ => ⟨hk_.1.1.1.1, hk_.1.1.1.2.1, hk_.1.1.1.2.2.1, hk_.1.1.1.2.2.2.1, hk_.1.1.1.2.2.2.2, hk_.1.1.2, hk_.1.2⟩)); have n10_ := A_ (blk_kept (bk_ BK361) hkp (fun hs_ => (fun e_ => (Kd.R_ne HO354.out BK361.out (by decide)) e_) hs_)); have n11_ := A_ (Kd.R_mono (ok' := fun k_ => some k_ ≠ (v337 : Value).ownBlock ∧ some k_ ≠ (v345 : Value).ownBlock ∧ some k_ ≠ (.slice Ao63 t347.length co63 : Value).ownBlock ∧ some k_ ≠ (.slice Ao70 t352.length co70 : Value).ownBlock ∧ some k_ ≠ (.slice Ao86 t358.length co86 : Value).ownBlock ∧ some k_ ≠ (.slice Ao108 t371.length co108 : Value).ownBlock ∧ some k_ ≠ (.slice Ao112 t377.length co112 : Value).ownBlock) (Kd.R_keptB (HO367.out) hkp (fun k_ hk_ hs_ => (hk_.1.1.2.2.2.1) hs_)) (fun k_ hk_ => ⟨hk_.1.1.1.1, hk_.1.1.1.2.1, hk_.1.1.1.2.2.1, hk_.1.1.1.2.2.2.1, hk_.1.1.1.2.2.2.2, hk_.1.1.2, hk_.1.2⟩)); have n12_ := A_ (blk_kept (bk_ BK369) hkp (fun hs_ => (fun e_ => (Kd.R_ne HO354.out BK369.out (by decide)) e_) hs_)); have n13_ := A_ (Kd.R_mono (ok' := fun k_ => some k_ ≠ (v337 : Value).ownBlock ∧ some k_ ≠ (v345 : Value).ownBlock ∧ some k_ ≠ (.slice Ao63 t347.length co63 : Value).ownBlock ∧ some k_ ≠ (.slice Ao70 t352.length co70 : Value).ownBlock ∧ some k_ ≠ (.slice Ao86 t358.length co86 : Value).ownBlock ∧ some k_ ≠ (.slice Ao93 t365.length co93 : Value).ownBlock ∧ some k_ ≠ (.slice Ao112 t377.length co112 : Value).ownBlock) (Kd.R_keptB (HO373.out) hkp (fun k_ hk_ hs_ => (hk_.1.1.1.2) hs_)) (fun k_ hk_ => ⟨hk_.1.1.1.1.1.1.1.2, hk_.1.1.1.1.1.1.2, hk_.1.1.1.1.1.2, hk_.1.1.1.1.2, hk_.1.1.1.2, hk_.1.1.2, hk_.1.2⟩)); have n14_ := A_ (Kd.R_mono (ok' := fun k_ => some k_ ≠ (v337 : Value).ownBlock ∧ some k_ ≠ (v345 : Value).ownBlock ∧ some k_ ≠ (.slice Ao63 t347.length co63 : Value).ownBlock ∧ some k_ ≠ (.slice Ao70 t352.length co70 : Value).ownBlock ∧ some k_ ≠ (.slice Ao86 t358.length co86 : Value).ownBlock ∧ some k_ ≠ (.slice Ao93 t365.length co93 : Value).ownBlock ∧ some k_ ≠ (.slice Ao108 t371.length co108 : Value).ownBlock) (Kd.R_keptB (HO379.out) hkp (fun k_ hk_ hs_ => (hk_.1.1.1.2) hs_)) (fun k_ hk_ => ⟨hk_.1.1.1.1.1.1.1.2, hk_.1.1.1.1.1.1.2, hk_.1.1.1.1.1.2, hk_.1.1.1.1.2, hk_.1.1.1.2, hk_.1.1.2, hk_.1.2⟩)); have n15_ := A_ hb; clear BK331; clear BK332; clear BK333; clear HO338; clear HO346; clear HO349; clear BK351; clear HO354; clear BK356; clear HO360; clear BK361; clear HO367; clear BK369; clear HO373; clear HO379; clear HB; have BK331 := n0_; have BK332 := n1_; have BK333 := n2_; have HO338 := n3_; have HO346 := n4_; have HO349 := n5_; have BK351 := n6_; have HO354 := n7_; have BK356 := n8_; have HO360 := n9_; have BK361 := n10_; have HO367 := n11_; have BK369 := n12_; have HO373 := n13_; have HO379 := n14_; have HB := n15_; clear n0_ n1_ n2_ n3_ n4_ n5_ n6_ n7_ n8_ n9_ n10_ n11_ n12_ n13_ n14_ n15_; (try clear hb); (try clear hkp); (try clear hy0); obtain ⟨hcz116_0, hcz116_1, hfz116_0, hfz116_1⟩ := cz2_ BK361) | ((with_reducible refine gate_callee (f := 24) rfl ?_); refine goesL_ (some 61) rfl rfl Try.func24 (by kernel_rfl) rfl #[.agg #[.int .i64 t357, .slice Ao86 t358.length co86], .int .i64 t381] rfl al_ ?_; (with_reducible refine (laws_markRes.calls k t357 (fun k_ => some k_ = (.slice Ao86 t358.length co86 : Value).ownBlock) (.slice Ao86 t358.length co86) t358 t381 t383 t384 w _ ?side1 ?side2 A42.out).mono ?_); (case side1 => repeat (first | (with_reducible first | exact HB.out | apply below_alloc | apply pw_below_drewN | apply below_drew1 | refine below_set ?_ GW331.out | refine below_set ?_ GW332.out | refine below_set ?_ GW333.out | refine below_set ?_ GW351.out | refine below_set ?_ GW356.out | refine below_set ?_ GW361.out | refine below_set ?_ GW369.out) | exact HB.out)); (case side2 => exact Kd.R_tight rfl HO360.out); rintro e w117 ⟨rfl, hy0, hb, hkp⟩; refine ⟨_, rfl, ?_⟩; have n0_ := A_ (blk_kept (bk_ BK331) hkp (fun hs_ => (fun e_ => (Kd.R_ne HO360.out BK331.out (by decide)) e_) hs_)); have n1_ := A_ (blk_kept (bk_ BK332) hkp (fun hs_ => (fun e_ => (Kd.R_ne HO360.out BK332.out (by decide)) e_) hs_)); have n2_ := A_ (blk_kept (bk_ BK333) hkp (fun hs_ => (fun e_ => (Kd.R_ne HO360.out BK333.out (by decide)) e_) hs_)); have n3_ := A_ (Kd.R_mono (ok' := fun k_ => some k_ ≠ (v345 : Value).ownBlock ∧ some k_ ≠ (.slice Ao63 t347.length co63 : Value).ownBlock ∧ some k_ ≠ (.slice Ao70 t352.length co70 : Value).ownBlock ∧ some k_ ≠ (.slice Ao86 t358.length co86 : Value).ownBlock ∧ some k_ ≠ (.slice Ao93 t365.length co93 : Value).ownBlock ∧ some k_ ≠ (.slice Ao108 t371.length co108 : Value).ownBlock ∧ some k_ ≠ (.slice Ao112 t377.length co112 : Value).ownBlock) (Kd.R_keptB (HO338.out) hkp (fun k_ hk_ hs_ => (hk_.2.2.2.1) hs_)) (fun k_ hk_ => ⟨hk_.1.1, hk_.1.2.1, hk_.1.2.2.1, hk_.1.2.2.2.1, hk_.1.2.2.2.2.1, hk_.1.2.2.2.2.2.1, hk_.1.2.2.2.2.2.2⟩)); have n4_ := A_ (Kd.R_mono (ok' := fun k_ => some k_ ≠ (v337 : Value).ownBlock ∧ some k_ ≠ (.slice Ao63 t347.length co63 : Value).ownBlock ∧ some k_ ≠ (.slice Ao70 t352.length co70 : Value).ownBlock ∧ some k_ ≠ (.slice Ao86 t358.length co86 : Value).ownBlock ∧ some k_ ≠ (.slice Ao93 t365.length co93 : Value).ownBlock ∧ some k_ ≠ (.slice Ao108 t371.length co108 : Value).ownBlock ∧ some k_ ≠ (.slice Ao112 t377.length co112 : Value).ownBlock) (Kd.R_keptB (HO346.out) hkp (fun k_ hk_ hs_ => (hk_.2.2.2.1) hs_)) (fun k_ hk_ => ⟨hk_.1.1, hk_.1.2.1, hk_.1.2.2.1, hk_.1.2.2.2.1, hk_.1.2.2.2.2.1, hk_.1.2.2.2.2.2.1, hk_.1.2.2.2.2.2.2⟩)); have n5_ := A_ (Kd.R_mono (ok' := fun k_ => some k_ ≠ (v337 : Value).ownBlock ∧ some k_ ≠ (v345 : Value).ownBlock ∧ some k_ ≠ (.slice Ao70 t352.length co70 : Value).ownBlock ∧ some k_ ≠ (.slice Ao86 t358.length co86 : Value).ownBlock ∧ some k_ ≠ (.slice Ao93 t365.length co93 : Value).ownBlock ∧ some k_ ≠ (.slice Ao108 t371.length co108 : Value).ownBlock ∧ some k_ ≠ (.slice Ao112 t377.length co112 : Value).ownBlock) (Kd.R_keptB (HO349.out) hkp (fun k_ hk_ hs_ => (hk_.2.2.2.1) hs_)) (fun k_ hk_ => ⟨hk_.1.1, hk_.1.2.1, hk_.1.2.2.1, hk_.1.2.2.2.1, hk_.1.2.2.2.2.1, hk_.1.2.2.2.2.2.1, hk_.1.2.2.2.2.2.2⟩)); have n6_ := A_ (blk_kept (bk_ BK351) hkp (fun hs_ => (fun e_ => (Kd.R_ne HO360.out BK351.out (by decide)) e_) hs_)); have n7_ := A_ (Kd.R_mono (ok' := fun k_ => some k_ ≠ (v337 : Value).ownBlock ∧ some k_ ≠ (v345 : Value).ownBlock ∧ some k_ ≠ (.slice Ao63 t347.length co63 : Value).ownBlock ∧ some k_ ≠ (.slice Ao86 t358.length co86 : Value).ownBlock ∧ some k_ ≠ (.slice Ao93 t365.length co93 : Value).ownBlock ∧ some k_ ≠ (.slice Ao108 t371.length co108 : Value).ownBlock ∧ some k_ ≠ (.slice Ao112 t377.length co112 : Value).ownBlock) (Kd.R_keptB (HO354.out) hkp (fun k_ hk_ hs_ => (hk_.1.1.2.2.2.1) hs_)) (fun k_ hk_ => ⟨hk_.1.1.1.1, hk_.1.1.1.2.1, hk_.1.1.1.2.2.1, hk_.1.1.1.2.2.2.1, hk_.1.1.1.2.2.2.2, hk_.1.1.2, hk_.1.2⟩)); have n8_ := A_ (blk_kept (bk_ BK356) hkp (fun hs_ => (fun e_ => (Kd.R_ne HO360.out BK356.out (by decide)) e_) hs_)); have n9_ := A_ (Kd.R_reok rfl hy0 (fun k_ e_ => HO360.out.1 k_ e_)); have n10_ := A_ (blk_kept (bk_ BK361) hkp (fun hs_ => (fun e_ => (Kd.R_ne HO360.out BK361.out (by decide)) e_) hs_)); have n11_ := A_ (Kd.R_mono (ok' := fun k_ => some k_ ≠ (v337 : Value).ownBlock ∧ some k_ ≠ (v345 : Value).ownBlock ∧ some k_ ≠ (.slice Ao63 t347.length co63 : Value).ownBlock ∧ some k_ ≠ (.slice Ao70 t352.length co70 : Value).ownBlock ∧ some k_ ≠ (.slice Ao86 t358.length co86 : Value).ownBlock ∧ some k_ ≠ (.slice Ao108 t371.length co108 : Value).ownBlock ∧ some k_ ≠ (.slice Ao112 t377.length co112 : Value).ownBlock) (Kd.R_keptB (HO367.out) hkp (fun k_ hk_ hs_ => (hk_.2.2.2.2.1) hs_)) (fun k_ hk_ => ⟨hk_.1.1, hk_.1.2.1, hk_.1.2.2.1, hk_.1.2.2.2.1, hk_.1.2.2.2.2.1, hk_.1.2.2.2.2.2.1, hk_.1.2.2.2.2.2.2⟩)); have n12_ := A_ (blk_kept (bk_ BK369) hkp (fun hs_ => (fun e_ => (Kd.R_ne HO360.out BK369.out (by decide)) e_) hs_)); have n13_ := A_ (Kd.R_mono (ok' := fun k_ => some k_ ≠ (v337 : Value).ownBlock ∧ some k_ ≠ (v345 : Value).ownBlock ∧ some k_ ≠ (.slice Ao63 t347.length co63 : Value).ownBlock ∧ some k_ ≠ (.slice Ao70 t352.length co70 : Value).ownBlock ∧ some k_ ≠ (.slice Ao86 t358.length co86 : Value).ownBlock ∧ some k_ ≠ (.slice Ao93 t365.length co93 : Value).ownBlock ∧ some k_ ≠ (.slice Ao112 t377.length co112 : Value).ownBlock) (Kd.R_keptB (HO373.out) hkp (fun k_ hk_ hs_ => (hk_.2.2.2.2.1) hs_)) (fun k_ hk_ => ⟨hk_.1.1, hk_.1.2.1, hk_.1.2.2.1, hk_.1.2.2.2.1, hk_.1.2.2.2.2.1, hk_.1.2.2.2.2.2.1, hk_.1.2.2.2.2.2.2⟩)); have n14_ := A_ (Kd.R_mono (ok' := fun k_ => some k_ ≠ (v337 : Value).ownBlock ∧ some k_ ≠ (v345 : Value).ownBlock ∧ some k_ ≠ (.slice Ao63 t347.length co63 : Value).ownBlock ∧ some k_ ≠ (.slice Ao70 t352.length co70 : Value).ownBlock ∧ some k_ ≠ (.slice Ao86 t358.length co86 : Value).ownBlock ∧ some k_ ≠ (.slice Ao93 t365.length co93 : Value).ownBlock ∧ some k_ ≠ (.slice Ao108 t371.length co108 : Value).ownBlock) (Kd.R_keptB (HO379.out) hkp (fun k_ hk_ hs_ => (hk_.2.2.2.2.1) hs_)) (fun k_ hk_ => ⟨hk_.1.1, hk_.1.2.1, hk_.1.2.2.1, hk_.1.2.2.2.1, hk_.1.2.2.2.2.1, hk_.1.2.2.2.2.2.1, hk_.1.2.2.2.2.2.2⟩)); have n15_ := A_ hb; clear BK331; clear BK332; clear BK333; clear HO338; clear HO346; clear HO349; clear BK351; clear HO354; clear BK356; clear HO360; clear BK361; clear HO367; clear BK369; clear HO373; clear HO379; clear HB; have BK331 := n0_; have BK332 := n1_; have BK333 := n2_; have HO338 := n3_; have HO346 := n4_; have HO349 := n5_; have BK351 := n6_; have HO354 := n7_; have BK356 := n8_; have HO360 := n9_; have BK361 := n10_; have HO367 := n11_; have BK369 := n12_; have HO373 := n13_; have HO379 := n14_; have HB := n15_; clear n0_ n1_ n2_ n3_ n4_ n5_ n6_ n7_ n8_ n9_ n10_ n11_ n12_ n13_ n14_ n15_; (try clear hb); (try clear hkp); (try clear hy0)))
    (try simp only [Act.put, List.setIfInBounds_toArray, List.set_cons_zero, List.set_cons_succ])
    go_cut [69] (fun v69 wc => ∃ (kq : Nat) (x69_42 : Bool), v69 = .bool x69_42 ∧ Aside0 (laws_FnExactAfter.j0 kq x69_42 l0_0 a0_1 a1_0 a1_1 a1_2 a2_0 l2_1 t347 t350 t365 t368 = some r) ∧ Aside0 (kq ≤ k) ∧ Aside0 (Kd.R (Kd.int .i64) 3 wc w.heap.size (fun k_ => some k_ ≠ ((.slice Ao70 t352.length co70) : Value).ownBlock ∧ some k_ ≠ ((.slice Ao86 t358.length co86) : Value).ownBlock ∧ some k_ ≠ ((.slice Ao93 t365.length co93) : Value).ownBlock) (.slice Ao63 t347.length co63) t347) ∧ Aside0 (Kd.R (Kd.int .i64) 3 wc w.heap.size (fun k_ => some k_ ≠ ((.slice Ao63 t347.length co63) : Value).ownBlock ∧ some k_ ≠ ((.slice Ao86 t358.length co86) : Value).ownBlock ∧ some k_ ≠ ((.slice Ao93 t365.length co93) : Value).ownBlock) (.slice Ao70 t352.length co70) t382) ∧ Aside0 (Kd.R (Kd.int .i64) 3 wc w.heap.size (fun k_ => some k_ ≠ ((.slice Ao63 t347.length co63) : Value).ownBlock ∧ some k_ ≠ ((.slice Ao70 t352.length co70) : Value).ownBlock ∧ some k_ ≠ ((.slice Ao93 t365.length co93) : Value).ownBlock) (.slice Ao86 t358.length co86) t384) ∧ Aside0 (Kd.R (Kd.int .i64) 3 wc w.heap.size (fun k_ => some k_ ≠ ((.slice Ao63 t347.length co63) : Value).ownBlock ∧ some k_ ≠ ((.slice Ao70 t352.length co70) : Value).ownBlock ∧ some k_ ≠ ((.slice Ao86 t358.length co86) : Value).ownBlock) (.slice Ao93 t365.length co93) t365) ∧ Aside0 (wc.heap[gb331]? = some (.cells #[(.slice A0_0 l0_0.length c0_0), .int .i64 a0_1] 37 (0, 0))) ∧ Aside0 (wc.heap[gb332]? = some (.cells #[.int .i64 a1_0, .int .i64 a1_1, .int .i64 a1_2] 39 (0, 0))) ∧ Aside0 (wc.heap[gb333]? = some (.cells #[.int .i64 a2_0, (.slice A2_1 l2_1.length c2_1)] 41 (0, 0))) ∧ Aside0 (wc.heap[gb351]? = some (.cells #[(.slice Ao63 t347.length co63), .int .i64 t350] 44 (0, 0))) ∧ Aside0 (wc.heap[gb356]? = some (.cells #[(.slice Ao70 t352.length co70), .int .i64 t355] 44 (0, 0))) ∧ Aside0 (wc.heap[gb361]? = some (.cells #[.int .i64 t357, (.slice Ao86 t358.length co86)] 49 (0, 0))) ∧ Aside0 (wc.heap[gb369]? = some (.cells #[(.slice Ao93 t365.length co93), .int .i64 t368] 44 (0, 0))) ∧ Aside0 (Below w.heap.size w wc))
    case first =>
     have H := HC43.out
     clear HC43
     replace H := ic_ H
     rcases H with ⟨c118b0, H⟩ | ⟨c118b0, H⟩
     ·
      (first | rw [c118b0] | (simp only [i64_w, i32_w]; rw [c118b0]) | skip)
      replace H' := A_ H; clear H
      go_wp2
      go_meet
      case rel => exact ⟨_, (true), rt_, H', ⟨by first | omega | exact Nat.le_refl _⟩, ⟨by (with_reducible repeat (first | apply Kd.R_alloc | apply Kd.R_drewN | apply Kd.R_drew)); exact Kd.R_mono HO349.out (fun _ hk => ⟨hk.2.2.1, ⟨hk.2.2.2.1, hk.2.2.2.2.1⟩⟩)⟩, ⟨by (with_reducible repeat (first | apply Kd.R_alloc | apply Kd.R_drewN | apply Kd.R_drew)); exact Kd.R_mono HO354.out (fun _ hk => ⟨hk.2.2.1, ⟨hk.2.2.2.1, hk.2.2.2.2.1⟩⟩)⟩, ⟨by (with_reducible repeat (first | apply Kd.R_alloc | apply Kd.R_drewN | apply Kd.R_drew)); exact Kd.R_mono HO360.out (fun _ hk => ⟨hk.2.2.1, ⟨hk.2.2.2.1, hk.2.2.2.2.1⟩⟩)⟩, ⟨by (with_reducible repeat (first | apply Kd.R_alloc | apply Kd.R_drewN | apply Kd.R_drew)); exact Kd.R_mono HO367.out (fun _ hk => ⟨hk.2.2.1, ⟨hk.2.2.2.1, hk.2.2.2.2.1⟩⟩)⟩, ⟨bk_ BK331⟩, ⟨bk_ BK332⟩, ⟨bk_ BK333⟩, ⟨bk_ BK351⟩, ⟨bk_ BK356⟩, ⟨bk_ BK361⟩, ⟨bk_ BK369⟩, ⟨hb_ HB⟩⟩
     (first | rw [c118b0] | (simp only [i64_w, i32_w]; rw [c118b0]) | skip)
     replace H := bs_ H
     obtain ⟨t385, A119, H⟩ := H
     replace H' := A_ H; clear H
     have hnb120 := NB369_331.out
     have hnc120 := NB331_369.out
     have hnb121 := NB369_332.out
     have hnc121 := NB332_369.out
     have hnb122 := NB369_333.out
     have hnc122 := NB333_369.out
     have hnb123 := NB369_351.out
     have hnc123 := NB351_369.out
     have hnb124 := NB369_356.out
     have hnc124 := NB356_369.out
     have hnb125 := NB369_361.out
     have hnc125 := NB361_369.out
     obtain ⟨hcz126_0, hcz126_1, hfz126_0, hfz126_1⟩ := cz2_ BK369
     have hnb127 := NB351_331.out
     have hnc127 := NB331_351.out
     have hnb128 := NB351_332.out
     have hnc128 := NB332_351.out
     have hnb129 := NB351_333.out
     have hnc129 := NB333_351.out
     have hnb130 := NB351_356.out
     have hnc130 := NB356_351.out
     have hnb131 := NB351_361.out
     have hnc131 := NB361_351.out
     obtain ⟨hcz132_0, hcz132_1, hfz132_0, hfz132_1⟩ := cz2_ BK351
     go_wp2_with (first | (go_at_call 21; (with_reducible refine (laws_eqRows.calls k _ _ t365 t368 _ _ t347 t350 t385 _ ?side1 ?side2 ?side3 ?side4 A119.out).mono ?_); (case side1 => repeat (first | exact (Kd.R_reads' HO367.out).2.2 | (with_reducible refine Kd.C_alloc ?_ _) | (with_reducible refine Kd.C_drewN ?_ _) | (with_reducible refine Kd.C_drew ?_))); (case side2 => exact (Kd.R_reads' HO367.out).2.1); (case side3 => repeat (first | exact (Kd.R_reads' HO349.out).2.2 | (with_reducible refine Kd.C_alloc ?_ _) | (with_reducible refine Kd.C_drewN ?_ _) | (with_reducible refine Kd.C_drew ?_))); (case side4 => exact (Kd.R_reads' HO349.out).2.1); rintro e w133 ⟨rfl, hb⟩; replace HO338 := A_ (Kd.R_below (rb_ HO338.out) hb); replace HO346 := A_ (Kd.R_below (rb_ HO346.out) hb); replace HO349 := A_ (Kd.R_below (rb_ HO349.out) hb); replace HO354 := A_ (Kd.R_below (rb_ HO354.out) hb); replace HO360 := A_ (Kd.R_below (rb_ HO360.out) hb); replace HO367 := A_ (Kd.R_below (rb_ HO367.out) hb); replace HO373 := A_ (Kd.R_below (rb_ HO373.out) hb); replace HO379 := A_ (Kd.R_below (rb_ HO379.out) hb); replace BK331 := bb_ BK331 hb; replace BK332 := bb_ BK332 hb; replace BK333 := bb_ BK333 hb; replace BK351 := bb_ BK351 hb; replace BK356 := bb_ BK356 hb; replace BK361 := bb_ BK361 hb; replace BK369 := bb_ BK369 hb; replace HB := hs_ HB hb; (try clear hb); (try clear hb2); (try clear hk); (try clear hi)))
     go_meet
     case rel => exact ⟨_, (!t385), rt_, H', ⟨by first | omega | exact Nat.le_refl _⟩, ⟨by (with_reducible repeat (first | apply Kd.R_alloc | apply Kd.R_drewN | apply Kd.R_drew)); exact Kd.R_mono HO349.out (fun _ hk => ⟨hk.2.2.1, ⟨hk.2.2.2.1, hk.2.2.2.2.1⟩⟩)⟩, ⟨by (with_reducible repeat (first | apply Kd.R_alloc | apply Kd.R_drewN | apply Kd.R_drew)); exact Kd.R_mono HO354.out (fun _ hk => ⟨hk.2.2.1, ⟨hk.2.2.2.1, hk.2.2.2.2.1⟩⟩)⟩, ⟨by (with_reducible repeat (first | apply Kd.R_alloc | apply Kd.R_drewN | apply Kd.R_drew)); exact Kd.R_mono HO360.out (fun _ hk => ⟨hk.2.2.1, ⟨hk.2.2.2.1, hk.2.2.2.2.1⟩⟩)⟩, ⟨by (with_reducible repeat (first | apply Kd.R_alloc | apply Kd.R_drewN | apply Kd.R_drew)); exact Kd.R_mono HO367.out (fun _ hk => ⟨hk.2.2.1, ⟨hk.2.2.2.1, hk.2.2.2.2.1⟩⟩)⟩, ⟨bk_ BK331⟩, ⟨bk_ BK332⟩, ⟨bk_ BK333⟩, ⟨bk_ BK351⟩, ⟨bk_ BK356⟩, ⟨bk_ BK361⟩, ⟨bk_ BK369⟩, ⟨hb_ HB⟩⟩
    case rest =>
     clear HC43
     try clear c118b0
     try clear hcz102_0
     try clear hcz102_1
     try clear hcz104_0
     try clear hcz104_1
     try clear hcz114_0
     try clear hcz114_1
     try clear hcz116_0
     try clear hcz116_1
     try clear hcz126_0
     try clear hcz126_1
     try clear hcz132_0
     try clear hcz132_1
     try clear hfz102_0
     try clear hfz102_1
     try clear hfz104_0
     try clear hfz104_1
     try clear hfz114_0
     try clear hfz114_1
     try clear hfz116_0
     try clear hfz116_1
     try clear hfz126_0
     try clear hfz126_1
     try clear hfz132_0
     try clear hfz132_1
     obtain ⟨kq, x69_42, rfl, HA, HJ42, HO_352000, HO_357000, HO_362001, HO_370000, BK331, BK332, BK333, BK351, BK356, BK361, BK369, HB⟩ := hcut
     have hl357000_42 := (Kd.R_reads' HO_357000.out).1
     rw [hl357000_42] at HO_357000
     (try simp only [hl357000_42])
     (try simp only [hl357000_42] at BK331)
     (try simp only [hl357000_42] at BK332)
     (try simp only [hl357000_42] at BK333)
     (try simp only [hl357000_42] at BK351)
     (try simp only [hl357000_42] at BK356)
     (try simp only [hl357000_42] at BK361)
     (try simp only [hl357000_42] at BK369)
     (try simp only [hl357000_42] at HO_352000)
     (try simp only [hl357000_42] at HO_362001)
     (try simp only [hl357000_42] at HO_370000)
     have hl362001_42 := (Kd.R_reads' HO_362001.out).1
     rw [hl362001_42] at HO_362001
     (try simp only [hl362001_42])
     (try simp only [hl362001_42] at BK331)
     (try simp only [hl362001_42] at BK332)
     (try simp only [hl362001_42] at BK333)
     (try simp only [hl362001_42] at BK351)
     (try simp only [hl362001_42] at BK356)
     (try simp only [hl362001_42] at BK361)
     (try simp only [hl362001_42] at BK369)
     (try simp only [hl362001_42] at HO_352000)
     (try simp only [hl362001_42] at HO_357000)
     (try simp only [hl362001_42] at HO_370000)
     cases kq with
     | zero => exact absurd HA.out (by simp [laws_FnExactAfter.j0])
     | succ kj42 =>
      have H := HA.out
      clear HA
      simp only [laws_FnExactAfter.j0] at H
      by_cases c134 : x69_42 = true
      ·
       subst c134
       replace H := it_ H
       exact absurd H (by simp)
      obtain rfl := Bool.eq_false_iff.mpr c134
      replace H := iF_ H
      replace H := bs_ H
      obtain ⟨⟨t386, t387⟩, A135, H⟩ := H
      dsimp only at H
      replace H := bs_ H
      obtain ⟨t388, A136, H⟩ := H
      by_cases c137 : t388 < 0
      ·
       rw [if_pos c137] at H
       exact absurd H (by simp)
      rw [if_neg c137] at H
      have c137b0 : decide (t388 < 0) = false := decide_eq_false c137
      clear c137
      replace H := ie_ H
      rcases H with ⟨c138b0, c138b1, H⟩ | ⟨_, _, H⟩
      ·
       replace H := bs_ H
       obtain ⟨⟨t389, t392⟩, A139, H⟩ := H
       dsimp only at H
       replace H := bs_ H
       obtain ⟨⟨t393, t394, t395⟩, A140, H⟩ := H
       dsimp only at H
       replace H := bs_ H
       obtain ⟨⟨t396, t397⟩, A141, H⟩ := H
       dsimp only at H
       replace H := bs_ H
       obtain ⟨⟨t400, t403⟩, A142, H⟩ := H
       dsimp only at H
       replace H := bs_ H
       obtain ⟨t405, A143, H⟩ := H
       by_cases c144 : t405 = true
       ·
        subst c144
        replace H := it_ H
        replace H := bs_ H
        obtain ⟨t406, A145, H⟩ := H
        by_cases c146 : t406 < 0
        ·
         rw [if_pos c146] at H
         exact absurd H (by simp)
        rw [if_neg c146] at H
        have c146b0 : decide (t406 < 0) = false := decide_eq_false c146
        clear c146
        replace H := ie_ H
        rcases H with ⟨c147b0, c147b1, H⟩ | ⟨_, _, H⟩
        ·
         obtain rfl := Option.some.inj H
         have hnb148 := NB369_331.out
         have hnc148 := NB331_369.out
         have hnb149 := NB369_332.out
         have hnc149 := NB332_369.out
         have hnb150 := NB369_333.out
         have hnc150 := NB333_369.out
         have hnb151 := NB369_351.out
         have hnc151 := NB351_369.out
         have hnb152 := NB369_356.out
         have hnc152 := NB356_369.out
         have hnb153 := NB369_361.out
         have hnc153 := NB361_369.out
         obtain ⟨hcz154_0, hcz154_1, hfz154_0, hfz154_1⟩ := cz2_ BK369
         try go_wp2_with (first | ((with_reducible refine gate_callee (f := 23) rfl ?_); refine goesL_ (some 72) rfl rfl Try.func23 (by kernel_rfl) rfl #[.agg #[.slice Ao93 t365.length co93, .int .i64 t368], .int .i64 1] rfl al_ ?_; (with_reducible refine (laws_markRows.calls kj42 (fun k_ => some k_ = (.slice Ao93 t365.length co93 : Value).ownBlock) (.slice Ao93 t365.length co93) t365 t368 1 t386 t387 w _ ?side1 ?side2 A135.out).mono ?_); (case side1 => repeat (first | (with_reducible first | exact HB.out | apply below_alloc | apply pw_below_drewN | apply below_drew1 | refine below_set ?_ GW331.out | refine below_set ?_ GW332.out | refine below_set ?_ GW333.out | refine below_set ?_ GW351.out | refine below_set ?_ GW356.out | refine below_set ?_ GW361.out | refine below_set ?_ GW369.out) | exact HB.out)); (case side2 => exact Kd.R_tight rfl HO_370000.out); rintro e w155 ⟨rfl, hy0, hb, hkp⟩; refine ⟨_, rfl, ?_⟩; have n0_ := A_ (Kd.R_mono (ok' := fun k_ => some k_ ≠ (.slice Ao70 t382.length co70 : Value).ownBlock ∧ some k_ ≠ (.slice Ao86 t384.length co86 : Value).ownBlock ∧ some k_ ≠ (.slice Ao93 t365.length co93 : Value).ownBlock) (Kd.R_keptB (HO_352000.out) hkp (fun k_ hk_ hs_ => (hk_.2.2) hs_)) (fun k_ hk_ => ⟨hk_.1.1, hk_.1.2.1, hk_.1.2.2⟩)); have n1_ := A_ (Kd.R_mono (ok' := fun k_ => some k_ ≠ (.slice Ao63 t347.length co63 : Value).ownBlock ∧ some k_ ≠ (.slice Ao86 t384.length co86 : Value).ownBlock ∧ some k_ ≠ (.slice Ao93 t365.length co93 : Value).ownBlock) (Kd.R_keptB (HO_357000.out) hkp (fun k_ hk_ hs_ => (hk_.2.2) hs_)) (fun k_ hk_ => ⟨hk_.1.1, hk_.1.2.1, hk_.1.2.2⟩)); have n2_ := A_ (Kd.R_mono (ok' := fun k_ => some k_ ≠ (.slice Ao63 t347.length co63 : Value).ownBlock ∧ some k_ ≠ (.slice Ao70 t382.length co70 : Value).ownBlock ∧ some k_ ≠ (.slice Ao93 t365.length co93 : Value).ownBlock) (Kd.R_keptB (HO_362001.out) hkp (fun k_ hk_ hs_ => (hk_.2.2) hs_)) (fun k_ hk_ => ⟨hk_.1.1, hk_.1.2.1, hk_.1.2.2⟩)); have n3_ := A_ (Kd.R_reok rfl hy0 (fun k_ e_ => HO_370000.out.1 k_ e_)); have n4_ := A_ (blk_kept (bk_ BK331) hkp (fun hs_ => (fun e_ => (Kd.R_ne HO_370000.out BK331.out (by decide)) e_) hs_)); have n5_ := A_ (blk_kept (bk_ BK332) hkp (fun hs_ => (fun e_ => (Kd.R_ne HO_370000.out BK332.out (by decide)) e_) hs_)); have n6_ := A_ (blk_kept (bk_ BK333) hkp (fun hs_ => (fun e_ => (Kd.R_ne HO_370000.out BK333.out (by decide)) e_) hs_)); have n7_ := A_ (blk_kept (bk_ BK351) hkp (fun hs_ => (fun e_ => (Kd.R_ne HO_370000.out BK351.out (by decide)) e_) hs_)); have n8_ := A_ (blk_kept (bk_ BK356) hkp (fun hs_ => (fun e_ => (Kd.R_ne HO_370000.out BK356.out (by decide)) e_) hs_)); have n9_ := A_ (blk_kept (bk_ BK361) hkp (fun hs_ => (fun e_ => (Kd.R_ne HO_370000.out BK361.out (by decide)) e_) hs_)); have n10_ := A_ (blk_kept (bk_ BK369) hkp (fun hs_ => (fun e_ => (Kd.R_ne HO_370000.out BK369.out (by decide)) e_) hs_)); have n11_ := A_ hb; clear HO_352000; clear HO_357000; clear HO_362001; clear HO_370000; clear BK331; clear BK332; clear BK333; clear BK351; clear BK356; clear BK361; clear BK369; clear HB; have HO_352000 := n0_; have HO_357000 := n1_; have HO_362001 := n2_; have HO_370000 := n3_; have BK331 := n4_; have BK332 := n5_; have BK333 := n6_; have BK351 := n7_; have BK356 := n8_; have BK361 := n9_; have BK369 := n10_; have HB := n11_; clear n0_ n1_ n2_ n3_ n4_ n5_ n6_ n7_ n8_ n9_ n10_ n11_; (try clear hb); (try clear hkp); (try clear hy0); obtain ⟨hcz156_0, hcz156_1, hfz156_0, hfz156_1⟩ := cz2_ BK369) | ((with_reducible refine gate_callee (f := 25) rfl ?_); refine goesL_ (some 75) rfl rfl Try.func25 (by kernel_rfl) rfl #[.agg #[.slice Ao93 t387.length co93, .int .i64 t368], .int .i64 1] rfl (by (try simp only [List.map_toArray, List.map_cons, List.map_nil]); first | done | (rw [show t387.length = t365.length from (Kd.R_reads' HO_370000.out).1.symm] <;> rfl) | rfl | (simp only [List.length_drop, List.length_take]; rfl)) ?_; (with_reducible refine (laws_heldRows.calls kj42 _ _ t387 t368 1 t388 _ ?side1 ?side2 A136.out).mono ?_); (case side1 => repeat (first | exact (Kd.R_reads' HO_370000.out).2.2 | (with_reducible refine Kd.C_alloc ?_ _) | (with_reducible refine Kd.C_drewN ?_ _) | (with_reducible refine Kd.C_drew ?_))); (case side2 => rw [show t387.length = t365.length from (Kd.R_reads' HO_370000.out).1.symm]; exact (Kd.R_reads' HO_370000.out).2.1); rintro e w157 ⟨rfl, hb⟩; refine ⟨_, rfl, ?_⟩; replace HO_352000 := A_ (Kd.R_below (rb_ HO_352000.out) hb); replace HO_357000 := A_ (Kd.R_below (rb_ HO_357000.out) hb); replace HO_362001 := A_ (Kd.R_below (rb_ HO_362001.out) hb); replace HO_370000 := A_ (Kd.R_below (rb_ HO_370000.out) hb); replace BK331 := bb_ BK331 hb; replace BK332 := bb_ BK332 hb; replace BK333 := bb_ BK333 hb; replace BK351 := bb_ BK351 hb; replace BK356 := bb_ BK356 hb; replace BK361 := bb_ BK361 hb; replace BK369 := bb_ BK369 hb; replace HB := hs_ HB hb; (try clear hb); (try clear hb2); (try clear hk); (try clear hi)))
         replace HO_352000 := A_ (Kd.R_drew HO_352000.out)
         replace HO_357000 := A_ (Kd.R_drew HO_357000.out)
         replace HO_362001 := A_ (Kd.R_drew HO_362001.out)
         replace HO_370000 := A_ (Kd.R_drew HO_370000.out)
         replace BK331 := A_ (blk_drew BK331.out)
         replace BK332 := A_ (blk_drew BK332.out)
         replace BK333 := A_ (blk_drew BK333.out)
         replace BK351 := A_ (blk_drew BK351.out)
         replace BK356 := A_ (blk_drew BK356.out)
         replace BK361 := A_ (blk_drew BK361.out)
         replace BK369 := A_ (blk_drew BK369.out)
         replace HB := A_ (below_drew1 HB.out)
         refine start_ (n := 9) (S := fun w' => w'.cell? ⟨gb331, 0, none⟩ = some (.slice A0_0 l0_0.length c0_0) ∧ w'.cell? ⟨gb331, 1, none⟩ = some (.int .i64 a0_1) ∧ w'.cell? ⟨gb332, 0, none⟩ = some (.int .i64 a1_0) ∧ w'.cell? ⟨gb332, 1, none⟩ = some (.int .i64 a1_1) ∧ w'.cell? ⟨gb332, 2, none⟩ = some (.int .i64 a1_2) ∧ w'.cell? ⟨gb333, 0, none⟩ = some (.int .i64 a2_0) ∧ w'.cell? ⟨gb333, 1, none⟩ = some (.slice A2_1 l2_1.length c2_1)) (ds := []) (bt_ 0 9) (by kernel_rfl) rfl rfl ⟨(blk_cell BK331.out 0).trans rfl, (blk_cell BK331.out 1).trans rfl, (blk_cell BK332.out 0).trans rfl, (blk_cell BK332.out 1).trans rfl, (blk_cell BK332.out 2).trans rfl, (blk_cell BK333.out 0).trans rfl, (blk_cell BK333.out 1).trans rfl⟩ (fun hHeld => ?_); refine with_tabW laws_FnExactAfter.tab31 laws_FnExactAfter.bits31 (fun HT_ HW_ => ?_)
         generalize w157.drew = w158 at HO_352000 HO_357000 HO_362001 HO_370000 BK331 BK332 BK333 BK351 BK356 BK361 BK369 HB hHeld ⊢
         refine tk7_ 0 81 (bt_ 1 9) hHeld ?_
         refine tk7_ 2 83 (bt_ 5 9) hHeld ?_
         refine tk7_ 4 85 (bt_ 21 9) hHeld ?_
         refine join_ (σ := Value × Value × Value × Nat) 1 (bt_ 255 9) (fun s_ => [(82, .agg #[s_.1, .int .i64 t392]), (84, .agg #[.int .i64 t393, .int .i64 t394, .int .i64 t395]), (86, .agg #[.int .i64 t396, s_.2.1]), (87, .agg #[s_.2.2.1, .int .i64 t403]), (15, .pointer (some ⟨s_.2.2.2, 0, none⟩))]) (fun s_ w' => (w'.cell? ⟨gb331, 0, none⟩ = some (.slice A0_0 l0_0.length c0_0) ∧ w'.cell? ⟨gb331, 1, none⟩ = some (.int .i64 a0_1) ∧ w'.cell? ⟨gb332, 0, none⟩ = some (.int .i64 a1_0) ∧ w'.cell? ⟨gb332, 1, none⟩ = some (.int .i64 a1_1) ∧ w'.cell? ⟨gb332, 2, none⟩ = some (.int .i64 a1_2) ∧ w'.cell? ⟨gb333, 0, none⟩ = some (.int .i64 a2_0) ∧ w'.cell? ⟨gb333, 1, none⟩ = some (.slice A2_1 l2_1.length c2_1)) ∧ (Kd.R (Kd.int .i64) 3 w' w.heap.size (fun k_ => some k_ ≠ (s_.2.1 : Value).ownBlock ∧ some k_ ≠ (s_.2.2.1 : Value).ownBlock ∧ some k_ ≠ (.slice Ao63 t347.length co63 : Value).ownBlock ∧ some k_ ≠ (.slice Ao70 t382.length co70 : Value).ownBlock ∧ some k_ ≠ (.slice Ao86 t384.length co86 : Value).ownBlock ∧ some k_ ≠ (.slice Ao93 t365.length co93 : Value).ownBlock) s_.1 t389) ∧ (Kd.R (Kd.int .i64) 3 w' w.heap.size (fun k_ => some k_ ≠ (s_.1 : Value).ownBlock ∧ some k_ ≠ (s_.2.2.1 : Value).ownBlock ∧ some k_ ≠ (.slice Ao63 t347.length co63 : Value).ownBlock ∧ some k_ ≠ (.slice Ao70 t382.length co70 : Value).ownBlock ∧ some k_ ≠ (.slice Ao86 t384.length co86 : Value).ownBlock ∧ some k_ ≠ (.slice Ao93 t365.length co93 : Value).ownBlock) s_.2.1 t397) ∧ (Kd.R (Kd.int .i64) 3 w' w.heap.size (fun k_ => some k_ ≠ (s_.1 : Value).ownBlock ∧ some k_ ≠ (s_.2.1 : Value).ownBlock ∧ some k_ ≠ (.slice Ao63 t347.length co63 : Value).ownBlock ∧ some k_ ≠ (.slice Ao70 t382.length co70 : Value).ownBlock ∧ some k_ ≠ (.slice Ao86 t384.length co86 : Value).ownBlock ∧ some k_ ≠ (.slice Ao93 t365.length co93 : Value).ownBlock) s_.2.2.1 t400) ∧ (Kd.R (Kd.int .i64) 3 w' w.heap.size (fun k_ => some k_ ≠ (s_.1 : Value).ownBlock ∧ some k_ ≠ (s_.2.1 : Value).ownBlock ∧ some k_ ≠ (s_.2.2.1 : Value).ownBlock ∧ some k_ ≠ (.slice Ao70 t382.length co70 : Value).ownBlock ∧ some k_ ≠ (.slice Ao86 t384.length co86 : Value).ownBlock ∧ some k_ ≠ (.slice Ao93 t365.length co93 : Value).ownBlock) (.slice Ao63 t347.length co63) t347) ∧ (Kd.R (Kd.int .i64) 3 w' w.heap.size (fun k_ => some k_ ≠ (s_.1 : Value).ownBlock ∧ some k_ ≠ (s_.2.1 : Value).ownBlock ∧ some k_ ≠ (s_.2.2.1 : Value).ownBlock ∧ some k_ ≠ (.slice Ao63 t347.length co63 : Value).ownBlock ∧ some k_ ≠ (.slice Ao86 t384.length co86 : Value).ownBlock ∧ some k_ ≠ (.slice Ao93 t365.length co93 : Value).ownBlock) (.slice Ao70 t382.length co70) t382) ∧ (Kd.R (Kd.int .i64) 3 w' w.heap.size (fun k_ => some k_ ≠ (s_.1 : Value).ownBlock ∧ some k_ ≠ (s_.2.1 : Value).ownBlock ∧ some k_ ≠ (s_.2.2.1 : Value).ownBlock ∧ some k_ ≠ (.slice Ao63 t347.length co63 : Value).ownBlock ∧ some k_ ≠ (.slice Ao70 t382.length co70 : Value).ownBlock ∧ some k_ ≠ (.slice Ao93 t365.length co93 : Value).ownBlock) (.slice Ao86 t384.length co86) t384) ∧ (Kd.R (Kd.int .i64) 3 w' w.heap.size (fun k_ => some k_ ≠ (s_.1 : Value).ownBlock ∧ some k_ ≠ (s_.2.1 : Value).ownBlock ∧ some k_ ≠ (s_.2.2.1 : Value).ownBlock ∧ some k_ ≠ (.slice Ao63 t347.length co63 : Value).ownBlock ∧ some k_ ≠ (.slice Ao70 t382.length co70 : Value).ownBlock ∧ some k_ ≠ (.slice Ao86 t384.length co86 : Value).ownBlock) (.slice Ao93 t365.length co93) t387) ∧ (w'.heap[gb331]? = some (.cells #[.slice A0_0 l0_0.length c0_0, .int .i64 a0_1] 37 (0, 0))) ∧ (w'.heap[gb332]? = some (.cells #[.int .i64 a1_0, .int .i64 a1_1, .int .i64 a1_2] 39 (0, 0))) ∧ (w'.heap[gb333]? = some (.cells #[.int .i64 a2_0, .slice A2_1 l2_1.length c2_1] 41 (0, 0))) ∧ (w'.heap[gb351]? = some (.cells #[.slice Ao63 t347.length co63, .int .i64 t350] 44 (0, 0))) ∧ (w'.heap[gb356]? = some (.cells #[.slice Ao70 t382.length co70, .int .i64 t355] 44 (0, 0))) ∧ (w'.heap[gb361]? = some (.cells #[.int .i64 t357, .slice Ao86 t384.length co86] 49 (0, 0))) ∧ (w'.heap[gb369]? = some (.cells #[.slice Ao93 t365.length co93, .int .i64 t368] 44 (0, 0))) ∧ (w'.heap[s_.2.2.2]? = some (.cells #[.slice none 0 0, .int .i64 0] 44 (0, 0))) ∧ (w.heap.size ≤ s_.2.2.2) ∧ (w.heap.size ≤ s_.2.2.2) ∧ (gb331 ≠ s_.2.2.2) ∧ (s_.2.2.2 ≠ gb331) ∧ (gb332 ≠ s_.2.2.2) ∧ (s_.2.2.2 ≠ gb332) ∧ (gb333 ≠ s_.2.2.2) ∧ (s_.2.2.2 ≠ gb333) ∧ (gb351 ≠ s_.2.2.2) ∧ (s_.2.2.2 ≠ gb351) ∧ (gb356 ≠ s_.2.2.2) ∧ (s_.2.2.2 ≠ gb356) ∧ (gb361 ≠ s_.2.2.2) ∧ (s_.2.2.2 ≠ gb361) ∧ (gb369 ≠ s_.2.2.2) ∧ (s_.2.2.2 ≠ gb369) ∧ (Below w.heap.size w w')) ?_ ?_
         rotate_left
         ·
          intro hJ1_3_5_6_7
          refine join_ (σ := Value × Value × Value) 2 (bt_ 127 9) (fun s_ => [(82, .agg #[s_.1, .int .i64 t392]), (84, .agg #[.int .i64 t393, .int .i64 t394, .int .i64 t395]), (86, .agg #[.int .i64 t396, s_.2.1]), (87, .agg #[s_.2.2, .int .i64 t403])]) (fun s_ w' => (w'.cell? ⟨gb331, 0, none⟩ = some (.slice A0_0 l0_0.length c0_0) ∧ w'.cell? ⟨gb331, 1, none⟩ = some (.int .i64 a0_1) ∧ w'.cell? ⟨gb332, 0, none⟩ = some (.int .i64 a1_0) ∧ w'.cell? ⟨gb332, 1, none⟩ = some (.int .i64 a1_1) ∧ w'.cell? ⟨gb332, 2, none⟩ = some (.int .i64 a1_2) ∧ w'.cell? ⟨gb333, 0, none⟩ = some (.int .i64 a2_0) ∧ w'.cell? ⟨gb333, 1, none⟩ = some (.slice A2_1 l2_1.length c2_1)) ∧ (Kd.R (Kd.int .i64) 3 w' w.heap.size (fun k_ => some k_ ≠ (s_.2.1 : Value).ownBlock ∧ some k_ ≠ (s_.2.2 : Value).ownBlock ∧ some k_ ≠ (.slice Ao63 t347.length co63 : Value).ownBlock ∧ some k_ ≠ (.slice Ao70 t382.length co70 : Value).ownBlock ∧ some k_ ≠ (.slice Ao86 t384.length co86 : Value).ownBlock ∧ some k_ ≠ (.slice Ao93 t365.length co93 : Value).ownBlock) s_.1 t389) ∧ (Kd.R (Kd.int .i64) 3 w' w.heap.size (fun k_ => some k_ ≠ (s_.1 : Value).ownBlock ∧ some k_ ≠ (s_.2.2 : Value).ownBlock ∧ some k_ ≠ (.slice Ao63 t347.length co63 : Value).ownBlock ∧ some k_ ≠ (.slice Ao70 t382.length co70 : Value).ownBlock ∧ some k_ ≠ (.slice Ao86 t384.length co86 : Value).ownBlock ∧ some k_ ≠ (.slice Ao93 t365.length co93 : Value).ownBlock) s_.2.1 t397) ∧ (Kd.R (Kd.int .i64) 3 w' w.heap.size (fun k_ => some k_ ≠ (s_.1 : Value).ownBlock ∧ some k_ ≠ (s_.2.1 : Value).ownBlock ∧ some k_ ≠ (.slice Ao63 t347.length co63 : Value).ownBlock ∧ some k_ ≠ (.slice Ao70 t382.length co70 : Value).ownBlock ∧ some k_ ≠ (.slice Ao86 t384.length co86 : Value).ownBlock ∧ some k_ ≠ (.slice Ao93 t365.length co93 : Value).ownBlock) s_.2.2 t400) ∧ (Kd.R (Kd.int .i64) 3 w' w.heap.size (fun k_ => some k_ ≠ (s_.1 : Value).ownBlock ∧ some k_ ≠ (s_.2.1 : Value).ownBlock ∧ some k_ ≠ (s_.2.2 : Value).ownBlock ∧ some k_ ≠ (.slice Ao70 t382.length co70 : Value).ownBlock ∧ some k_ ≠ (.slice Ao86 t384.length co86 : Value).ownBlock ∧ some k_ ≠ (.slice Ao93 t365.length co93 : Value).ownBlock) (.slice Ao63 t347.length co63) t347) ∧ (Kd.R (Kd.int .i64) 3 w' w.heap.size (fun k_ => some k_ ≠ (s_.1 : Value).ownBlock ∧ some k_ ≠ (s_.2.1 : Value).ownBlock ∧ some k_ ≠ (s_.2.2 : Value).ownBlock ∧ some k_ ≠ (.slice Ao63 t347.length co63 : Value).ownBlock ∧ some k_ ≠ (.slice Ao86 t384.length co86 : Value).ownBlock ∧ some k_ ≠ (.slice Ao93 t365.length co93 : Value).ownBlock) (.slice Ao70 t382.length co70) t382) ∧ (Kd.R (Kd.int .i64) 3 w' w.heap.size (fun k_ => some k_ ≠ (s_.1 : Value).ownBlock ∧ some k_ ≠ (s_.2.1 : Value).ownBlock ∧ some k_ ≠ (s_.2.2 : Value).ownBlock ∧ some k_ ≠ (.slice Ao63 t347.length co63 : Value).ownBlock ∧ some k_ ≠ (.slice Ao70 t382.length co70 : Value).ownBlock ∧ some k_ ≠ (.slice Ao93 t365.length co93 : Value).ownBlock) (.slice Ao86 t384.length co86) t384) ∧ (Kd.R (Kd.int .i64) 3 w' w.heap.size (fun k_ => some k_ ≠ (s_.1 : Value).ownBlock ∧ some k_ ≠ (s_.2.1 : Value).ownBlock ∧ some k_ ≠ (s_.2.2 : Value).ownBlock ∧ some k_ ≠ (.slice Ao63 t347.length co63 : Value).ownBlock ∧ some k_ ≠ (.slice Ao70 t382.length co70 : Value).ownBlock ∧ some k_ ≠ (.slice Ao86 t384.length co86 : Value).ownBlock) (.slice Ao93 t365.length co93) t387) ∧ (w'.heap[gb331]? = some (.cells #[.slice A0_0 l0_0.length c0_0, .int .i64 a0_1] 37 (0, 0))) ∧ (w'.heap[gb332]? = some (.cells #[.int .i64 a1_0, .int .i64 a1_1, .int .i64 a1_2] 39 (0, 0))) ∧ (w'.heap[gb333]? = some (.cells #[.int .i64 a2_0, .slice A2_1 l2_1.length c2_1] 41 (0, 0))) ∧ (w'.heap[gb351]? = some (.cells #[.slice Ao63 t347.length co63, .int .i64 t350] 44 (0, 0))) ∧ (w'.heap[gb356]? = some (.cells #[.slice Ao70 t382.length co70, .int .i64 t355] 44 (0, 0))) ∧ (w'.heap[gb361]? = some (.cells #[.int .i64 t357, .slice Ao86 t384.length co86] 49 (0, 0))) ∧ (w'.heap[gb369]? = some (.cells #[.slice Ao93 t365.length co93, .int .i64 t368] 44 (0, 0))) ∧ (Below w.heap.size w w')) ?_ ?_
          rotate_left
          ·
           intro hJ1_3_5_6
           refine join_ (σ := Value × Value × Nat) 2 (bt_ 191 9) (fun s_ => [(82, .agg #[s_.1, .int .i64 t392]), (84, .agg #[.int .i64 t393, .int .i64 t394, .int .i64 t395]), (86, .agg #[.int .i64 t396, s_.2.1]), (15, .pointer (some ⟨s_.2.2, 0, none⟩))]) (fun s_ w' => (w'.cell? ⟨gb331, 0, none⟩ = some (.slice A0_0 l0_0.length c0_0) ∧ w'.cell? ⟨gb331, 1, none⟩ = some (.int .i64 a0_1) ∧ w'.cell? ⟨gb332, 0, none⟩ = some (.int .i64 a1_0) ∧ w'.cell? ⟨gb332, 1, none⟩ = some (.int .i64 a1_1) ∧ w'.cell? ⟨gb332, 2, none⟩ = some (.int .i64 a1_2) ∧ w'.cell? ⟨gb333, 0, none⟩ = some (.int .i64 a2_0) ∧ w'.cell? ⟨gb333, 1, none⟩ = some (.slice A2_1 l2_1.length c2_1)) ∧ (Kd.R (Kd.int .i64) 3 w' w.heap.size (fun k_ => some k_ ≠ (s_.2.1 : Value).ownBlock ∧ some k_ ≠ (.slice Ao63 t347.length co63 : Value).ownBlock ∧ some k_ ≠ (.slice Ao70 t382.length co70 : Value).ownBlock ∧ some k_ ≠ (.slice Ao86 t384.length co86 : Value).ownBlock ∧ some k_ ≠ (.slice Ao93 t365.length co93 : Value).ownBlock) s_.1 t389) ∧ (Kd.R (Kd.int .i64) 3 w' w.heap.size (fun k_ => some k_ ≠ (s_.1 : Value).ownBlock ∧ some k_ ≠ (.slice Ao63 t347.length co63 : Value).ownBlock ∧ some k_ ≠ (.slice Ao70 t382.length co70 : Value).ownBlock ∧ some k_ ≠ (.slice Ao86 t384.length co86 : Value).ownBlock ∧ some k_ ≠ (.slice Ao93 t365.length co93 : Value).ownBlock) s_.2.1 t397) ∧ (Kd.R (Kd.int .i64) 3 w' w.heap.size (fun k_ => some k_ ≠ (s_.1 : Value).ownBlock ∧ some k_ ≠ (s_.2.1 : Value).ownBlock ∧ some k_ ≠ (.slice Ao70 t382.length co70 : Value).ownBlock ∧ some k_ ≠ (.slice Ao86 t384.length co86 : Value).ownBlock ∧ some k_ ≠ (.slice Ao93 t365.length co93 : Value).ownBlock) (.slice Ao63 t347.length co63) t347) ∧ (Kd.R (Kd.int .i64) 3 w' w.heap.size (fun k_ => some k_ ≠ (s_.1 : Value).ownBlock ∧ some k_ ≠ (s_.2.1 : Value).ownBlock ∧ some k_ ≠ (.slice Ao63 t347.length co63 : Value).ownBlock ∧ some k_ ≠ (.slice Ao86 t384.length co86 : Value).ownBlock ∧ some k_ ≠ (.slice Ao93 t365.length co93 : Value).ownBlock) (.slice Ao70 t382.length co70) t382) ∧ (Kd.R (Kd.int .i64) 3 w' w.heap.size (fun k_ => some k_ ≠ (s_.1 : Value).ownBlock ∧ some k_ ≠ (s_.2.1 : Value).ownBlock ∧ some k_ ≠ (.slice Ao63 t347.length co63 : Value).ownBlock ∧ some k_ ≠ (.slice Ao70 t382.length co70 : Value).ownBlock ∧ some k_ ≠ (.slice Ao93 t365.length co93 : Value).ownBlock) (.slice Ao86 t384.length co86) t384) ∧ (Kd.R (Kd.int .i64) 3 w' w.heap.size (fun k_ => some k_ ≠ (s_.1 : Value).ownBlock ∧ some k_ ≠ (s_.2.1 : Value).ownBlock ∧ some k_ ≠ (.slice Ao63 t347.length co63 : Value).ownBlock ∧ some k_ ≠ (.slice Ao70 t382.length co70 : Value).ownBlock ∧ some k_ ≠ (.slice Ao86 t384.length co86 : Value).ownBlock) (.slice Ao93 t365.length co93) t387) ∧ (w'.heap[gb331]? = some (.cells #[.slice A0_0 l0_0.length c0_0, .int .i64 a0_1] 37 (0, 0))) ∧ (w'.heap[gb332]? = some (.cells #[.int .i64 a1_0, .int .i64 a1_1, .int .i64 a1_2] 39 (0, 0))) ∧ (w'.heap[gb333]? = some (.cells #[.int .i64 a2_0, .slice A2_1 l2_1.length c2_1] 41 (0, 0))) ∧ (w'.heap[gb351]? = some (.cells #[.slice Ao63 t347.length co63, .int .i64 t350] 44 (0, 0))) ∧ (w'.heap[gb356]? = some (.cells #[.slice Ao70 t382.length co70, .int .i64 t355] 44 (0, 0))) ∧ (w'.heap[gb361]? = some (.cells #[.int .i64 t357, .slice Ao86 t384.length co86] 49 (0, 0))) ∧ (w'.heap[gb369]? = some (.cells #[.slice Ao93 t365.length co93, .int .i64 t368] 44 (0, 0))) ∧ (w'.heap[s_.2.2]? = some (.cells #[.slice none 0 0, .int .i64 0] 44 (0, 0))) ∧ (w.heap.size ≤ s_.2.2) ∧ (w.heap.size ≤ s_.2.2) ∧ (gb331 ≠ s_.2.2) ∧ (s_.2.2 ≠ gb331) ∧ (gb332 ≠ s_.2.2) ∧ (s_.2.2 ≠ gb332) ∧ (gb333 ≠ s_.2.2) ∧ (s_.2.2 ≠ gb333) ∧ (gb351 ≠ s_.2.2) ∧ (s_.2.2 ≠ gb351) ∧ (gb356 ≠ s_.2.2) ∧ (s_.2.2 ≠ gb356) ∧ (gb361 ≠ s_.2.2) ∧ (s_.2.2 ≠ gb361) ∧ (gb369 ≠ s_.2.2) ∧ (s_.2.2 ≠ gb369) ∧ (Below w.heap.size w w')) ?_ ?_
           rotate_left
           ·
            intro hJ1_3_5_7
            refine join_ (σ := Value × Value) 3 (bt_ 63 9) (fun s_ => [(82, .agg #[s_.1, .int .i64 t392]), (84, .agg #[.int .i64 t393, .int .i64 t394, .int .i64 t395]), (86, .agg #[.int .i64 t396, s_.2])]) (fun s_ w' => (w'.cell? ⟨gb331, 0, none⟩ = some (.slice A0_0 l0_0.length c0_0) ∧ w'.cell? ⟨gb331, 1, none⟩ = some (.int .i64 a0_1) ∧ w'.cell? ⟨gb332, 0, none⟩ = some (.int .i64 a1_0) ∧ w'.cell? ⟨gb332, 1, none⟩ = some (.int .i64 a1_1) ∧ w'.cell? ⟨gb332, 2, none⟩ = some (.int .i64 a1_2) ∧ w'.cell? ⟨gb333, 0, none⟩ = some (.int .i64 a2_0) ∧ w'.cell? ⟨gb333, 1, none⟩ = some (.slice A2_1 l2_1.length c2_1)) ∧ (Kd.R (Kd.int .i64) 3 w' w.heap.size (fun k_ => some k_ ≠ (s_.2 : Value).ownBlock ∧ some k_ ≠ (.slice Ao63 t347.length co63 : Value).ownBlock ∧ some k_ ≠ (.slice Ao70 t382.length co70 : Value).ownBlock ∧ some k_ ≠ (.slice Ao86 t384.length co86 : Value).ownBlock ∧ some k_ ≠ (.slice Ao93 t365.length co93 : Value).ownBlock) s_.1 t389) ∧ (Kd.R (Kd.int .i64) 3 w' w.heap.size (fun k_ => some k_ ≠ (s_.1 : Value).ownBlock ∧ some k_ ≠ (.slice Ao63 t347.length co63 : Value).ownBlock ∧ some k_ ≠ (.slice Ao70 t382.length co70 : Value).ownBlock ∧ some k_ ≠ (.slice Ao86 t384.length co86 : Value).ownBlock ∧ some k_ ≠ (.slice Ao93 t365.length co93 : Value).ownBlock) s_.2 t397) ∧ (Kd.R (Kd.int .i64) 3 w' w.heap.size (fun k_ => some k_ ≠ (s_.1 : Value).ownBlock ∧ some k_ ≠ (s_.2 : Value).ownBlock ∧ some k_ ≠ (.slice Ao70 t382.length co70 : Value).ownBlock ∧ some k_ ≠ (.slice Ao86 t384.length co86 : Value).ownBlock ∧ some k_ ≠ (.slice Ao93 t365.length co93 : Value).ownBlock) (.slice Ao63 t347.length co63) t347) ∧ (Kd.R (Kd.int .i64) 3 w' w.heap.size (fun k_ => some k_ ≠ (s_.1 : Value).ownBlock ∧ some k_ ≠ (s_.2 : Value).ownBlock ∧ some k_ ≠ (.slice Ao63 t347.length co63 : Value).ownBlock ∧ some k_ ≠ (.slice Ao86 t384.length co86 : Value).ownBlock ∧ some k_ ≠ (.slice Ao93 t365.length co93 : Value).ownBlock) (.slice Ao70 t382.length co70) t382) ∧ (Kd.R (Kd.int .i64) 3 w' w.heap.size (fun k_ => some k_ ≠ (s_.1 : Value).ownBlock ∧ some k_ ≠ (s_.2 : Value).ownBlock ∧ some k_ ≠ (.slice Ao63 t347.length co63 : Value).ownBlock ∧ some k_ ≠ (.slice Ao70 t382.length co70 : Value).ownBlock ∧ some k_ ≠ (.slice Ao93 t365.length co93 : Value).ownBlock) (.slice Ao86 t384.length co86) t384) ∧ (Kd.R (Kd.int .i64) 3 w' w.heap.size (fun k_ => some k_ ≠ (s_.1 : Value).ownBlock ∧ some k_ ≠ (s_.2 : Value).ownBlock ∧ some k_ ≠ (.slice Ao63 t347.length co63 : Value).ownBlock ∧ some k_ ≠ (.slice Ao70 t382.length co70 : Value).ownBlock ∧ some k_ ≠ (.slice Ao86 t384.length co86 : Value).ownBlock) (.slice Ao93 t365.length co93) t387) ∧ (w'.heap[gb331]? = some (.cells #[.slice A0_0 l0_0.length c0_0, .int .i64 a0_1] 37 (0, 0))) ∧ (w'.heap[gb332]? = some (.cells #[.int .i64 a1_0, .int .i64 a1_1, .int .i64 a1_2] 39 (0, 0))) ∧ (w'.heap[gb333]? = some (.cells #[.int .i64 a2_0, .slice A2_1 l2_1.length c2_1] 41 (0, 0))) ∧ (w'.heap[gb351]? = some (.cells #[.slice Ao63 t347.length co63, .int .i64 t350] 44 (0, 0))) ∧ (w'.heap[gb356]? = some (.cells #[.slice Ao70 t382.length co70, .int .i64 t355] 44 (0, 0))) ∧ (w'.heap[gb361]? = some (.cells #[.int .i64 t357, .slice Ao86 t384.length co86] 49 (0, 0))) ∧ (w'.heap[gb369]? = some (.cells #[.slice Ao93 t365.length co93, .int .i64 t368] 44 (0, 0))) ∧ (Below w.heap.size w w')) ?_ ?_
            rotate_left
            ·
             intro hJ1_3_5
             refine join_ (σ := Value × Nat) 3 (bt_ 159 9) (fun s_ => [(82, .agg #[s_.1, .int .i64 t392]), (84, .agg #[.int .i64 t393, .int .i64 t394, .int .i64 t395]), (15, .pointer (some ⟨s_.2, 0, none⟩))]) (fun s_ w' => (w'.cell? ⟨gb331, 0, none⟩ = some (.slice A0_0 l0_0.length c0_0) ∧ w'.cell? ⟨gb331, 1, none⟩ = some (.int .i64 a0_1) ∧ w'.cell? ⟨gb332, 0, none⟩ = some (.int .i64 a1_0) ∧ w'.cell? ⟨gb332, 1, none⟩ = some (.int .i64 a1_1) ∧ w'.cell? ⟨gb332, 2, none⟩ = some (.int .i64 a1_2) ∧ w'.cell? ⟨gb333, 0, none⟩ = some (.int .i64 a2_0) ∧ w'.cell? ⟨gb333, 1, none⟩ = some (.slice A2_1 l2_1.length c2_1)) ∧ (Kd.R (Kd.int .i64) 3 w' w.heap.size (fun k_ => some k_ ≠ (.slice Ao63 t347.length co63 : Value).ownBlock ∧ some k_ ≠ (.slice Ao70 t382.length co70 : Value).ownBlock ∧ some k_ ≠ (.slice Ao86 t384.length co86 : Value).ownBlock ∧ some k_ ≠ (.slice Ao93 t365.length co93 : Value).ownBlock) s_.1 t389) ∧ (Kd.R (Kd.int .i64) 3 w' w.heap.size (fun k_ => some k_ ≠ (s_.1 : Value).ownBlock ∧ some k_ ≠ (.slice Ao70 t382.length co70 : Value).ownBlock ∧ some k_ ≠ (.slice Ao86 t384.length co86 : Value).ownBlock ∧ some k_ ≠ (.slice Ao93 t365.length co93 : Value).ownBlock) (.slice Ao63 t347.length co63) t347) ∧ (Kd.R (Kd.int .i64) 3 w' w.heap.size (fun k_ => some k_ ≠ (s_.1 : Value).ownBlock ∧ some k_ ≠ (.slice Ao63 t347.length co63 : Value).ownBlock ∧ some k_ ≠ (.slice Ao86 t384.length co86 : Value).ownBlock ∧ some k_ ≠ (.slice Ao93 t365.length co93 : Value).ownBlock) (.slice Ao70 t382.length co70) t382) ∧ (Kd.R (Kd.int .i64) 3 w' w.heap.size (fun k_ => some k_ ≠ (s_.1 : Value).ownBlock ∧ some k_ ≠ (.slice Ao63 t347.length co63 : Value).ownBlock ∧ some k_ ≠ (.slice Ao70 t382.length co70 : Value).ownBlock ∧ some k_ ≠ (.slice Ao93 t365.length co93 : Value).ownBlock) (.slice Ao86 t384.length co86) t384) ∧ (Kd.R (Kd.int .i64) 3 w' w.heap.size (fun k_ => some k_ ≠ (s_.1 : Value).ownBlock ∧ some k_ ≠ (.slice Ao63 t347.length co63 : Value).ownBlock ∧ some k_ ≠ (.slice Ao70 t382.length co70 : Value).ownBlock ∧ some k_ ≠ (.slice Ao86 t384.length co86 : Value).ownBlock) (.slice Ao93 t365.length co93) t387) ∧ (w'.heap[gb331]? = some (.cells #[.slice A0_0 l0_0.length c0_0, .int .i64 a0_1] 37 (0, 0))) ∧ (w'.heap[gb332]? = some (.cells #[.int .i64 a1_0, .int .i64 a1_1, .int .i64 a1_2] 39 (0, 0))) ∧ (w'.heap[gb333]? = some (.cells #[.int .i64 a2_0, .slice A2_1 l2_1.length c2_1] 41 (0, 0))) ∧ (w'.heap[gb351]? = some (.cells #[.slice Ao63 t347.length co63, .int .i64 t350] 44 (0, 0))) ∧ (w'.heap[gb356]? = some (.cells #[.slice Ao70 t382.length co70, .int .i64 t355] 44 (0, 0))) ∧ (w'.heap[gb361]? = some (.cells #[.int .i64 t357, .slice Ao86 t384.length co86] 49 (0, 0))) ∧ (w'.heap[gb369]? = some (.cells #[.slice Ao93 t365.length co93, .int .i64 t368] 44 (0, 0))) ∧ (w'.heap[s_.2]? = some (.cells #[.slice none 0 0, .int .i64 0] 44 (0, 0))) ∧ (w.heap.size ≤ s_.2) ∧ (w.heap.size ≤ s_.2) ∧ (gb331 ≠ s_.2) ∧ (s_.2 ≠ gb331) ∧ (gb332 ≠ s_.2) ∧ (s_.2 ≠ gb332) ∧ (gb333 ≠ s_.2) ∧ (s_.2 ≠ gb333) ∧ (gb351 ≠ s_.2) ∧ (s_.2 ≠ gb351) ∧ (gb356 ≠ s_.2) ∧ (s_.2 ≠ gb356) ∧ (gb361 ≠ s_.2) ∧ (s_.2 ≠ gb361) ∧ (gb369 ≠ s_.2) ∧ (s_.2 ≠ gb369) ∧ (Below w.heap.size w w')) ?_ ?_
             rotate_left
             ·
              intro hJ1_3_7
              refine join_ (σ := Value) 4 (bt_ 31 9) (fun s_ => [(82, .agg #[s_, .int .i64 t392]), (84, .agg #[.int .i64 t393, .int .i64 t394, .int .i64 t395])]) (fun s_ w' => (w'.cell? ⟨gb331, 0, none⟩ = some (.slice A0_0 l0_0.length c0_0) ∧ w'.cell? ⟨gb331, 1, none⟩ = some (.int .i64 a0_1) ∧ w'.cell? ⟨gb332, 0, none⟩ = some (.int .i64 a1_0) ∧ w'.cell? ⟨gb332, 1, none⟩ = some (.int .i64 a1_1) ∧ w'.cell? ⟨gb332, 2, none⟩ = some (.int .i64 a1_2) ∧ w'.cell? ⟨gb333, 0, none⟩ = some (.int .i64 a2_0) ∧ w'.cell? ⟨gb333, 1, none⟩ = some (.slice A2_1 l2_1.length c2_1)) ∧ (Kd.R (Kd.int .i64) 3 w' w.heap.size (fun k_ => some k_ ≠ (.slice Ao63 t347.length co63 : Value).ownBlock ∧ some k_ ≠ (.slice Ao70 t382.length co70 : Value).ownBlock ∧ some k_ ≠ (.slice Ao86 t384.length co86 : Value).ownBlock ∧ some k_ ≠ (.slice Ao93 t365.length co93 : Value).ownBlock) s_ t389) ∧ (Kd.R (Kd.int .i64) 3 w' w.heap.size (fun k_ => some k_ ≠ (s_ : Value).ownBlock ∧ some k_ ≠ (.slice Ao70 t382.length co70 : Value).ownBlock ∧ some k_ ≠ (.slice Ao86 t384.length co86 : Value).ownBlock ∧ some k_ ≠ (.slice Ao93 t365.length co93 : Value).ownBlock) (.slice Ao63 t347.length co63) t347) ∧ (Kd.R (Kd.int .i64) 3 w' w.heap.size (fun k_ => some k_ ≠ (s_ : Value).ownBlock ∧ some k_ ≠ (.slice Ao63 t347.length co63 : Value).ownBlock ∧ some k_ ≠ (.slice Ao86 t384.length co86 : Value).ownBlock ∧ some k_ ≠ (.slice Ao93 t365.length co93 : Value).ownBlock) (.slice Ao70 t382.length co70) t382) ∧ (Kd.R (Kd.int .i64) 3 w' w.heap.size (fun k_ => some k_ ≠ (s_ : Value).ownBlock ∧ some k_ ≠ (.slice Ao63 t347.length co63 : Value).ownBlock ∧ some k_ ≠ (.slice Ao70 t382.length co70 : Value).ownBlock ∧ some k_ ≠ (.slice Ao93 t365.length co93 : Value).ownBlock) (.slice Ao86 t384.length co86) t384) ∧ (Kd.R (Kd.int .i64) 3 w' w.heap.size (fun k_ => some k_ ≠ (s_ : Value).ownBlock ∧ some k_ ≠ (.slice Ao63 t347.length co63 : Value).ownBlock ∧ some k_ ≠ (.slice Ao70 t382.length co70 : Value).ownBlock ∧ some k_ ≠ (.slice Ao86 t384.length co86 : Value).ownBlock) (.slice Ao93 t365.length co93) t387) ∧ (w'.heap[gb331]? = some (.cells #[.slice A0_0 l0_0.length c0_0, .int .i64 a0_1] 37 (0, 0))) ∧ (w'.heap[gb332]? = some (.cells #[.int .i64 a1_0, .int .i64 a1_1, .int .i64 a1_2] 39 (0, 0))) ∧ (w'.heap[gb333]? = some (.cells #[.int .i64 a2_0, .slice A2_1 l2_1.length c2_1] 41 (0, 0))) ∧ (w'.heap[gb351]? = some (.cells #[.slice Ao63 t347.length co63, .int .i64 t350] 44 (0, 0))) ∧ (w'.heap[gb356]? = some (.cells #[.slice Ao70 t382.length co70, .int .i64 t355] 44 (0, 0))) ∧ (w'.heap[gb361]? = some (.cells #[.int .i64 t357, .slice Ao86 t384.length co86] 49 (0, 0))) ∧ (w'.heap[gb369]? = some (.cells #[.slice Ao93 t365.length co93, .int .i64 t368] 44 (0, 0))) ∧ (Below w.heap.size w w')) ?_ ?_
              rotate_left
              ·
               intro hJ1_3
               refine join_ (σ := Value × Nat) 4 (bt_ 151 9) (fun s_ => [(82, .agg #[s_.1, .int .i64 t392]), (15, .pointer (some ⟨s_.2, 0, none⟩))]) (fun s_ w' => (w'.cell? ⟨gb331, 0, none⟩ = some (.slice A0_0 l0_0.length c0_0) ∧ w'.cell? ⟨gb331, 1, none⟩ = some (.int .i64 a0_1) ∧ w'.cell? ⟨gb332, 0, none⟩ = some (.int .i64 a1_0) ∧ w'.cell? ⟨gb332, 1, none⟩ = some (.int .i64 a1_1) ∧ w'.cell? ⟨gb332, 2, none⟩ = some (.int .i64 a1_2) ∧ w'.cell? ⟨gb333, 0, none⟩ = some (.int .i64 a2_0) ∧ w'.cell? ⟨gb333, 1, none⟩ = some (.slice A2_1 l2_1.length c2_1)) ∧ (Kd.R (Kd.int .i64) 3 w' w.heap.size (fun k_ => some k_ ≠ (.slice Ao63 t347.length co63 : Value).ownBlock ∧ some k_ ≠ (.slice Ao70 t382.length co70 : Value).ownBlock ∧ some k_ ≠ (.slice Ao86 t384.length co86 : Value).ownBlock ∧ some k_ ≠ (.slice Ao93 t365.length co93 : Value).ownBlock) s_.1 t389) ∧ (Kd.R (Kd.int .i64) 3 w' w.heap.size (fun k_ => some k_ ≠ (s_.1 : Value).ownBlock ∧ some k_ ≠ (.slice Ao70 t382.length co70 : Value).ownBlock ∧ some k_ ≠ (.slice Ao86 t384.length co86 : Value).ownBlock ∧ some k_ ≠ (.slice Ao93 t365.length co93 : Value).ownBlock) (.slice Ao63 t347.length co63) t347) ∧ (Kd.R (Kd.int .i64) 3 w' w.heap.size (fun k_ => some k_ ≠ (s_.1 : Value).ownBlock ∧ some k_ ≠ (.slice Ao63 t347.length co63 : Value).ownBlock ∧ some k_ ≠ (.slice Ao86 t384.length co86 : Value).ownBlock ∧ some k_ ≠ (.slice Ao93 t365.length co93 : Value).ownBlock) (.slice Ao70 t382.length co70) t382) ∧ (Kd.R (Kd.int .i64) 3 w' w.heap.size (fun k_ => some k_ ≠ (s_.1 : Value).ownBlock ∧ some k_ ≠ (.slice Ao63 t347.length co63 : Value).ownBlock ∧ some k_ ≠ (.slice Ao70 t382.length co70 : Value).ownBlock ∧ some k_ ≠ (.slice Ao93 t365.length co93 : Value).ownBlock) (.slice Ao86 t384.length co86) t384) ∧ (Kd.R (Kd.int .i64) 3 w' w.heap.size (fun k_ => some k_ ≠ (s_.1 : Value).ownBlock ∧ some k_ ≠ (.slice Ao63 t347.length co63 : Value).ownBlock ∧ some k_ ≠ (.slice Ao70 t382.length co70 : Value).ownBlock ∧ some k_ ≠ (.slice Ao86 t384.length co86 : Value).ownBlock) (.slice Ao93 t365.length co93) t387) ∧ (w'.heap[gb331]? = some (.cells #[.slice A0_0 l0_0.length c0_0, .int .i64 a0_1] 37 (0, 0))) ∧ (w'.heap[gb332]? = some (.cells #[.int .i64 a1_0, .int .i64 a1_1, .int .i64 a1_2] 39 (0, 0))) ∧ (w'.heap[gb333]? = some (.cells #[.int .i64 a2_0, .slice A2_1 l2_1.length c2_1] 41 (0, 0))) ∧ (w'.heap[gb351]? = some (.cells #[.slice Ao63 t347.length co63, .int .i64 t350] 44 (0, 0))) ∧ (w'.heap[gb356]? = some (.cells #[.slice Ao70 t382.length co70, .int .i64 t355] 44 (0, 0))) ∧ (w'.heap[gb361]? = some (.cells #[.int .i64 t357, .slice Ao86 t384.length co86] 49 (0, 0))) ∧ (w'.heap[gb369]? = some (.cells #[.slice Ao93 t365.length co93, .int .i64 t368] 44 (0, 0))) ∧ (w'.heap[s_.2]? = some (.cells #[.slice none 0 0, .int .i64 0] 44 (0, 0))) ∧ (w.heap.size ≤ s_.2) ∧ (w.heap.size ≤ s_.2) ∧ (gb331 ≠ s_.2) ∧ (s_.2 ≠ gb331) ∧ (gb332 ≠ s_.2) ∧ (s_.2 ≠ gb332) ∧ (gb333 ≠ s_.2) ∧ (s_.2 ≠ gb333) ∧ (gb351 ≠ s_.2) ∧ (s_.2 ≠ gb351) ∧ (gb356 ≠ s_.2) ∧ (s_.2 ≠ gb356) ∧ (gb361 ≠ s_.2) ∧ (s_.2 ≠ gb361) ∧ (gb369 ≠ s_.2) ∧ (s_.2 ≠ gb369) ∧ (Below w.heap.size w w')) ?_ ?_
               rotate_left
               ·
                intro hJ1_7
                refine join_ (σ := Value) 5 (bt_ 23 9) (fun s_ => [(82, .agg #[s_, .int .i64 t392])]) (fun s_ w' => (w'.cell? ⟨gb331, 0, none⟩ = some (.slice A0_0 l0_0.length c0_0) ∧ w'.cell? ⟨gb331, 1, none⟩ = some (.int .i64 a0_1) ∧ w'.cell? ⟨gb332, 0, none⟩ = some (.int .i64 a1_0) ∧ w'.cell? ⟨gb332, 1, none⟩ = some (.int .i64 a1_1) ∧ w'.cell? ⟨gb332, 2, none⟩ = some (.int .i64 a1_2) ∧ w'.cell? ⟨gb333, 0, none⟩ = some (.int .i64 a2_0) ∧ w'.cell? ⟨gb333, 1, none⟩ = some (.slice A2_1 l2_1.length c2_1)) ∧ (Kd.R (Kd.int .i64) 3 w' w.heap.size (fun k_ => some k_ ≠ (.slice Ao63 t347.length co63 : Value).ownBlock ∧ some k_ ≠ (.slice Ao70 t382.length co70 : Value).ownBlock ∧ some k_ ≠ (.slice Ao86 t384.length co86 : Value).ownBlock ∧ some k_ ≠ (.slice Ao93 t365.length co93 : Value).ownBlock) s_ t389) ∧ (Kd.R (Kd.int .i64) 3 w' w.heap.size (fun k_ => some k_ ≠ (s_ : Value).ownBlock ∧ some k_ ≠ (.slice Ao70 t382.length co70 : Value).ownBlock ∧ some k_ ≠ (.slice Ao86 t384.length co86 : Value).ownBlock ∧ some k_ ≠ (.slice Ao93 t365.length co93 : Value).ownBlock) (.slice Ao63 t347.length co63) t347) ∧ (Kd.R (Kd.int .i64) 3 w' w.heap.size (fun k_ => some k_ ≠ (s_ : Value).ownBlock ∧ some k_ ≠ (.slice Ao63 t347.length co63 : Value).ownBlock ∧ some k_ ≠ (.slice Ao86 t384.length co86 : Value).ownBlock ∧ some k_ ≠ (.slice Ao93 t365.length co93 : Value).ownBlock) (.slice Ao70 t382.length co70) t382) ∧ (Kd.R (Kd.int .i64) 3 w' w.heap.size (fun k_ => some k_ ≠ (s_ : Value).ownBlock ∧ some k_ ≠ (.slice Ao63 t347.length co63 : Value).ownBlock ∧ some k_ ≠ (.slice Ao70 t382.length co70 : Value).ownBlock ∧ some k_ ≠ (.slice Ao93 t365.length co93 : Value).ownBlock) (.slice Ao86 t384.length co86) t384) ∧ (Kd.R (Kd.int .i64) 3 w' w.heap.size (fun k_ => some k_ ≠ (s_ : Value).ownBlock ∧ some k_ ≠ (.slice Ao63 t347.length co63 : Value).ownBlock ∧ some k_ ≠ (.slice Ao70 t382.length co70 : Value).ownBlock ∧ some k_ ≠ (.slice Ao86 t384.length co86 : Value).ownBlock) (.slice Ao93 t365.length co93) t387) ∧ (w'.heap[gb331]? = some (.cells #[.slice A0_0 l0_0.length c0_0, .int .i64 a0_1] 37 (0, 0))) ∧ (w'.heap[gb332]? = some (.cells #[.int .i64 a1_0, .int .i64 a1_1, .int .i64 a1_2] 39 (0, 0))) ∧ (w'.heap[gb333]? = some (.cells #[.int .i64 a2_0, .slice A2_1 l2_1.length c2_1] 41 (0, 0))) ∧ (w'.heap[gb351]? = some (.cells #[.slice Ao63 t347.length co63, .int .i64 t350] 44 (0, 0))) ∧ (w'.heap[gb356]? = some (.cells #[.slice Ao70 t382.length co70, .int .i64 t355] 44 (0, 0))) ∧ (w'.heap[gb361]? = some (.cells #[.int .i64 t357, .slice Ao86 t384.length co86] 49 (0, 0))) ∧ (w'.heap[gb369]? = some (.cells #[.slice Ao93 t365.length co93, .int .i64 t368] 44 (0, 0))) ∧ (Below w.heap.size w w')) ?_ ?_
                rotate_left
                ·
                 intro hJ1
                 refine join_ (σ := Nat) 5 (bt_ 149 9) (fun s_ => [(15, .pointer (some ⟨s_, 0, none⟩))]) (fun s_ w' => (w'.cell? ⟨gb331, 0, none⟩ = some (.slice A0_0 l0_0.length c0_0) ∧ w'.cell? ⟨gb331, 1, none⟩ = some (.int .i64 a0_1) ∧ w'.cell? ⟨gb332, 0, none⟩ = some (.int .i64 a1_0) ∧ w'.cell? ⟨gb332, 1, none⟩ = some (.int .i64 a1_1) ∧ w'.cell? ⟨gb332, 2, none⟩ = some (.int .i64 a1_2) ∧ w'.cell? ⟨gb333, 0, none⟩ = some (.int .i64 a2_0) ∧ w'.cell? ⟨gb333, 1, none⟩ = some (.slice A2_1 l2_1.length c2_1)) ∧ (Kd.R (Kd.int .i64) 3 w' w.heap.size (fun k_ => some k_ ≠ (.slice Ao70 t382.length co70 : Value).ownBlock ∧ some k_ ≠ (.slice Ao86 t384.length co86 : Value).ownBlock ∧ some k_ ≠ (.slice Ao93 t365.length co93 : Value).ownBlock) (.slice Ao63 t347.length co63) t347) ∧ (Kd.R (Kd.int .i64) 3 w' w.heap.size (fun k_ => some k_ ≠ (.slice Ao63 t347.length co63 : Value).ownBlock ∧ some k_ ≠ (.slice Ao86 t384.length co86 : Value).ownBlock ∧ some k_ ≠ (.slice Ao93 t365.length co93 : Value).ownBlock) (.slice Ao70 t382.length co70) t382) ∧ (Kd.R (Kd.int .i64) 3 w' w.heap.size (fun k_ => some k_ ≠ (.slice Ao63 t347.length co63 : Value).ownBlock ∧ some k_ ≠ (.slice Ao70 t382.length co70 : Value).ownBlock ∧ some k_ ≠ (.slice Ao93 t365.length co93 : Value).ownBlock) (.slice Ao86 t384.length co86) t384) ∧ (Kd.R (Kd.int .i64) 3 w' w.heap.size (fun k_ => some k_ ≠ (.slice Ao63 t347.length co63 : Value).ownBlock ∧ some k_ ≠ (.slice Ao70 t382.length co70 : Value).ownBlock ∧ some k_ ≠ (.slice Ao86 t384.length co86 : Value).ownBlock) (.slice Ao93 t365.length co93) t387) ∧ (w'.heap[gb331]? = some (.cells #[.slice A0_0 l0_0.length c0_0, .int .i64 a0_1] 37 (0, 0))) ∧ (w'.heap[gb332]? = some (.cells #[.int .i64 a1_0, .int .i64 a1_1, .int .i64 a1_2] 39 (0, 0))) ∧ (w'.heap[gb333]? = some (.cells #[.int .i64 a2_0, .slice A2_1 l2_1.length c2_1] 41 (0, 0))) ∧ (w'.heap[gb351]? = some (.cells #[.slice Ao63 t347.length co63, .int .i64 t350] 44 (0, 0))) ∧ (w'.heap[gb356]? = some (.cells #[.slice Ao70 t382.length co70, .int .i64 t355] 44 (0, 0))) ∧ (w'.heap[gb361]? = some (.cells #[.int .i64 t357, .slice Ao86 t384.length co86] 49 (0, 0))) ∧ (w'.heap[gb369]? = some (.cells #[.slice Ao93 t365.length co93, .int .i64 t368] 44 (0, 0))) ∧ (w'.heap[s_]? = some (.cells #[.slice none 0 0, .int .i64 0] 44 (0, 0))) ∧ (w.heap.size ≤ s_) ∧ (w.heap.size ≤ s_) ∧ (gb331 ≠ s_) ∧ (s_ ≠ gb331) ∧ (gb332 ≠ s_) ∧ (s_ ≠ gb332) ∧ (gb333 ≠ s_) ∧ (s_ ≠ gb333) ∧ (gb351 ≠ s_) ∧ (s_ ≠ gb351) ∧ (gb356 ≠ s_) ∧ (s_ ≠ gb356) ∧ (gb361 ≠ s_) ∧ (s_ ≠ gb361) ∧ (gb369 ≠ s_) ∧ (s_ ≠ gb369) ∧ (Below w.heap.size w w')) ?_ ?_
                 rotate_left
                 ·
                  intro hJ7
                  refine two_ (i := 1) (j := 7) (Ni := some 82) (Nj := some 15) (bt_ 23 9) (bt_ 149 9) rfl rfl rfl rfl (two_of HT_.out (by kernel_rfl)) (by decide) (by decide) (fun K hK => ?_) (fun K hK => ?_)
                  ·
                   skip
                   refine goes_ Try.func17 (by kernel_rfl) rfl #[.agg #[.slice A0_0 l0_0.length c0_0, .int .i64 a0_1]] (by rfl) rfl rfl al_ ?_
                   with_reducible refine (laws_toRows.calls kj42 _ _ l0_0 a0_1 t389 t392 _ ?side1 ?side2 A139.out).mono ?_
                   (case side1 => exact cb_ (Kd.C_below HR0_0.out HB.out))
                   (case side2 => exact HC0_0.out)
                   rintro e w159 ⟨v390, rfl, ho0, hb⟩
                   refine ⟨_, rfl, ?_⟩
                   have HO391 := A_ (Kd.R_lower (Kd.R_new' (Kd.R_new' (Kd.R_new' (Kd.R_new' ho0 (Kd.R_lt (rb_ HO_352000.out))) (Kd.R_lt (rb_ HO_357000.out))) (Kd.R_lt (rb_ HO_362001.out))) (Kd.R_lt (rb_ HO_370000.out))) (below_size (hb_ HB)))
                   replace HO_352000 := A_ (Kd.R_elder' (rb_ HO_352000.out) (Kd.R_base ho0) hb)
                   replace HO_357000 := A_ (Kd.R_elder' (rb_ HO_357000.out) (Kd.R_base ho0) hb)
                   replace HO_362001 := A_ (Kd.R_elder' (rb_ HO_362001.out) (Kd.R_base ho0) hb)
                   replace HO_370000 := A_ (Kd.R_elder' (rb_ HO_370000.out) (Kd.R_base ho0) hb)
                   replace BK331 := bb_ BK331 hb
                   replace BK332 := bb_ BK332 hb
                   replace BK333 := bb_ BK333 hb
                   replace BK351 := bb_ BK351 hb
                   replace BK356 := bb_ BK356 hb
                   replace BK361 := bb_ BK361 hb
                   replace BK369 := bb_ BK369 hb
                   replace HB := hs_ HB hb
                   (try clear hb)
                   (try clear hb2)
                   (try clear hk)
                   (try clear hi)
                   (try clear ho0)
                   refine hK.out _ _ ⟨(blk_cell BK331.out 0).trans rfl, (blk_cell BK331.out 1).trans rfl, (blk_cell BK332.out 0).trans rfl, (blk_cell BK332.out 1).trans rfl, (blk_cell BK332.out 2).trans rfl, (blk_cell BK333.out 0).trans rfl, (blk_cell BK333.out 1).trans rfl⟩ (fun hHeld => ?_)
                   clear hK K
                   refine norm_ (a' := ?_) ?_ ?_
                   rotate_left
                   ·
                    show Act.put _ (some 82) _ = _
                    simp only [Act.put, List.setIfInBounds_toArray, List.set_cons_zero, List.set_cons_succ, i64_w, i32_w]
                    rfl
                   exact norm_ nm_ (hJ1 (v390) _ ⟨hHeld, (by (with_reducible repeat (first | apply Kd.R_alloc | apply Kd.R_drewN | apply Kd.R_drew)); exact Kd.R_mono HO391.out (fun _ hk => ⟨hk.1.1.1.2, ⟨hk.1.1.2, ⟨hk.1.2, hk.2⟩⟩⟩)), (by (with_reducible repeat (first | apply Kd.R_alloc | apply Kd.R_drewN | apply Kd.R_drew)); exact Kd.R_mono HO_352000.out (fun _ hk => ⟨hk.2, ⟨hk.1.1, ⟨hk.1.2.1, hk.1.2.2⟩⟩⟩)), (by (with_reducible repeat (first | apply Kd.R_alloc | apply Kd.R_drewN | apply Kd.R_drew)); exact Kd.R_mono HO_357000.out (fun _ hk => ⟨hk.2, ⟨hk.1.1, ⟨hk.1.2.1, hk.1.2.2⟩⟩⟩)), (by (with_reducible repeat (first | apply Kd.R_alloc | apply Kd.R_drewN | apply Kd.R_drew)); exact Kd.R_mono HO_362001.out (fun _ hk => ⟨hk.2, ⟨hk.1.1, ⟨hk.1.2.1, hk.1.2.2⟩⟩⟩)), (by (with_reducible repeat (first | apply Kd.R_alloc | apply Kd.R_drewN | apply Kd.R_drew)); exact Kd.R_mono HO_370000.out (fun _ hk => ⟨hk.2, ⟨hk.1.1, ⟨hk.1.2.1, hk.1.2.2⟩⟩⟩)), (bk_ BK331), (bk_ BK332), (bk_ BK333), (bk_ BK351), (bk_ BK356), (bk_ BK361), (bk_ BK369), (hb_ HB)⟩)
                  skip
                  refine box_step ?hg (N := 15) ?hd (cs := #[.slice none 0 0, .int .i64 0]) (t := 44) ?hr ?_; (case hd => rfl); (case hg => rfl); (case hr => first | (go_simp; done) | (go_simp; rfl))
                  intro gb404 hg w159 hbox hb
                  have BK404 := A_ hbox
                  have GW404 := gs_ HB hg
                  have NB331_404 := ng_ BK331 hg
                  have NB404_331 := ns_ (ng_ BK331 hg)
                  have NB332_404 := ng_ BK332 hg
                  have NB404_332 := ns_ (ng_ BK332 hg)
                  have NB333_404 := ng_ BK333 hg
                  have NB404_333 := ns_ (ng_ BK333 hg)
                  have NB351_404 := ng_ BK351 hg
                  have NB404_351 := ns_ (ng_ BK351 hg)
                  have NB356_404 := ng_ BK356 hg
                  have NB404_356 := ns_ (ng_ BK356 hg)
                  have NB361_404 := ng_ BK361 hg
                  have NB404_361 := ns_ (ng_ BK361 hg)
                  have NB369_404 := ng_ BK369 hg
                  have NB404_369 := ns_ (ng_ BK369 hg)
                  replace HO_352000 := A_ (Kd.R_below (rb_ HO_352000.out) hb)
                  replace HO_357000 := A_ (Kd.R_below (rb_ HO_357000.out) hb)
                  replace HO_362001 := A_ (Kd.R_below (rb_ HO_362001.out) hb)
                  replace HO_370000 := A_ (Kd.R_below (rb_ HO_370000.out) hb)
                  replace BK331 := bb_ BK331 hb
                  replace BK332 := bb_ BK332 hb
                  replace BK333 := bb_ BK333 hb
                  replace BK351 := bb_ BK351 hb
                  replace BK356 := bb_ BK356 hb
                  replace BK361 := bb_ BK361 hb
                  replace BK369 := bb_ BK369 hb
                  replace HB := hs_ HB hb
                  clear hb hbox hg
                  refine hK.out _ _ ⟨(blk_cell BK331.out 0).trans rfl, (blk_cell BK331.out 1).trans rfl, (blk_cell BK332.out 0).trans rfl, (blk_cell BK332.out 1).trans rfl, (blk_cell BK332.out 2).trans rfl, (blk_cell BK333.out 0).trans rfl, (blk_cell BK333.out 1).trans rfl⟩ (fun hHeld => ?_)
                  clear hK K
                  refine norm_ (a' := ?_) ?_ ?_
                  rotate_left
                  ·
                   show Act.put _ (some 15) _ = _
                   simp only [Act.put, List.setIfInBounds_toArray, List.set_cons_zero, List.set_cons_succ, i64_w, i32_w]
                   rfl
                  exact norm_ nm_ (hJ7 (gb404) _ ⟨hHeld, (rb_ HO_352000.out), (rb_ HO_357000.out), (rb_ HO_362001.out), (rb_ HO_370000.out), (bk_ BK331), (bk_ BK332), (bk_ BK333), (bk_ BK351), (bk_ BK356), (bk_ BK361), (bk_ BK369), (bk_ BK404), GW404.out, GW404.out, NB331_404.out, NB404_331.out, NB332_404.out, NB404_332.out, NB333_404.out, NB404_333.out, NB351_404.out, NB404_351.out, NB356_404.out, NB404_356.out, NB361_404.out, NB404_361.out, NB369_404.out, NB404_369.out, (hb_ HB)⟩)
                 skip
                 rintro gb404 w160 ⟨hS_, h0_, h1_, h2_, h3_, h4_, h5_, h6_, h7_, h8_, h9_, h10_, h11_, h12_, h13_, h14_, h15_, h16_, h17_, h18_, h19_, h20_, h21_, h22_, h23_, h24_, h25_, h26_, h27_, h28_⟩
                 (try dsimp only at h0_ h1_ h2_ h3_ h4_ h5_ h6_ h7_ h8_ h9_ h10_ h11_ h12_ h13_ h14_ h15_ h16_ h17_ h18_ h19_ h20_ h21_ h22_ h23_ h24_ h25_ h26_ h27_ h28_)
                 clear HO_352000 HO_357000 HO_362001 HO_370000 BK331 BK332 BK333 BK351 BK356 BK361 BK369 HB
                 have HO_352000 := A_ h0_
                 have HO_357000 := A_ h1_
                 have HO_362001 := A_ h2_
                 have HO_370000 := A_ h3_
                 have BK331 := A_ h4_
                 have BK332 := A_ h5_
                 have BK333 := A_ h6_
                 have BK351 := A_ h7_
                 have BK356 := A_ h8_
                 have BK361 := A_ h9_
                 have BK369 := A_ h10_
                 have BK404 := A_ h11_
                 have GW404 := A_ h12_
                 have NB331_404 := A_ h14_
                 have NB404_331 := A_ h15_
                 have NB332_404 := A_ h16_
                 have NB404_332 := A_ h17_
                 have NB333_404 := A_ h18_
                 have NB404_333 := A_ h19_
                 have NB351_404 := A_ h20_
                 have NB404_351 := A_ h21_
                 have NB356_404 := A_ h22_
                 have NB404_356 := A_ h23_
                 have NB361_404 := A_ h24_
                 have NB404_361 := A_ h25_
                 have NB369_404 := A_ h26_
                 have NB404_369 := A_ h27_
                 have HB := A_ h28_
                 clear h0_ h1_ h2_ h3_ h4_ h5_ h6_ h7_ h8_ h9_ h10_ h11_ h12_ h13_ h14_ h15_ h16_ h17_ h18_ h19_ h20_ h21_ h22_ h23_ h24_ h25_ h26_ h27_ h28_
                 (try dsimp only at hS_)
                 have hHeld := hS_
                 refine norm_ (a' := ?_) ?_ ?_
                 rotate_left
                 ·
                  simp only [putAll, Act.put, List.setIfInBounds_toArray, List.set_cons_zero, List.set_cons_succ]
                  rfl
                 refine one_ (i := 1) (N := some 82) (bt_ 151 9) rfl rfl (one_of HT_.out (by kernel_rfl)) (by decide) (fun K hK => ?_)
                 refine goes_ Try.func17 (by kernel_rfl) rfl #[.agg #[.slice A0_0 l0_0.length c0_0, .int .i64 a0_1]] (by rfl) rfl rfl al_ ?_
                 with_reducible refine (laws_toRows.calls kj42 _ _ l0_0 a0_1 t389 t392 _ ?side1 ?side2 A139.out).mono ?_
                 (case side1 => exact cb_ (Kd.C_below HR0_0.out HB.out))
                 (case side2 => exact HC0_0.out)
                 rintro e w161 ⟨v390, rfl, ho0, hb⟩
                 refine ⟨_, rfl, ?_⟩
                 have HO391 := A_ (Kd.R_lower (Kd.R_new' (Kd.R_new' (Kd.R_new' (Kd.R_new' ho0 (Kd.R_lt (rb_ HO_352000.out))) (Kd.R_lt (rb_ HO_357000.out))) (Kd.R_lt (rb_ HO_362001.out))) (Kd.R_lt (rb_ HO_370000.out))) (below_size (hb_ HB)))
                 replace HO_352000 := A_ (Kd.R_elder' (rb_ HO_352000.out) (Kd.R_base ho0) hb)
                 replace HO_357000 := A_ (Kd.R_elder' (rb_ HO_357000.out) (Kd.R_base ho0) hb)
                 replace HO_362001 := A_ (Kd.R_elder' (rb_ HO_362001.out) (Kd.R_base ho0) hb)
                 replace HO_370000 := A_ (Kd.R_elder' (rb_ HO_370000.out) (Kd.R_base ho0) hb)
                 replace BK331 := bb_ BK331 hb
                 replace BK332 := bb_ BK332 hb
                 replace BK333 := bb_ BK333 hb
                 replace BK351 := bb_ BK351 hb
                 replace BK356 := bb_ BK356 hb
                 replace BK361 := bb_ BK361 hb
                 replace BK369 := bb_ BK369 hb
                 replace BK404 := bb_ BK404 hb
                 replace HB := hs_ HB hb
                 (try clear hb)
                 (try clear hb2)
                 (try clear hk)
                 (try clear hi)
                 (try clear ho0)
                 refine hK.out _ _ ⟨(blk_cell BK331.out 0).trans rfl, (blk_cell BK331.out 1).trans rfl, (blk_cell BK332.out 0).trans rfl, (blk_cell BK332.out 1).trans rfl, (blk_cell BK332.out 2).trans rfl, (blk_cell BK333.out 0).trans rfl, (blk_cell BK333.out 1).trans rfl⟩ (fun hHeld => ?_)
                 clear hK K
                 refine norm_ (a' := ?_) ?_ ?_
                 rotate_left
                 ·
                  show Act.put _ (some 82) _ = _
                  simp only [Act.put, List.setIfInBounds_toArray, List.set_cons_zero, List.set_cons_succ, i64_w, i32_w]
                  rfl
                 exact norm_ nm_ (hJ1_7 (v390, gb404) _ ⟨hHeld, (by (with_reducible repeat (first | apply Kd.R_alloc | apply Kd.R_drewN | apply Kd.R_drew)); exact Kd.R_mono HO391.out (fun _ hk => ⟨hk.1.1.1.2, ⟨hk.1.1.2, ⟨hk.1.2, hk.2⟩⟩⟩)), (by (with_reducible repeat (first | apply Kd.R_alloc | apply Kd.R_drewN | apply Kd.R_drew)); exact Kd.R_mono HO_352000.out (fun _ hk => ⟨hk.2, ⟨hk.1.1, ⟨hk.1.2.1, hk.1.2.2⟩⟩⟩)), (by (with_reducible repeat (first | apply Kd.R_alloc | apply Kd.R_drewN | apply Kd.R_drew)); exact Kd.R_mono HO_357000.out (fun _ hk => ⟨hk.2, ⟨hk.1.1, ⟨hk.1.2.1, hk.1.2.2⟩⟩⟩)), (by (with_reducible repeat (first | apply Kd.R_alloc | apply Kd.R_drewN | apply Kd.R_drew)); exact Kd.R_mono HO_362001.out (fun _ hk => ⟨hk.2, ⟨hk.1.1, ⟨hk.1.2.1, hk.1.2.2⟩⟩⟩)), (by (with_reducible repeat (first | apply Kd.R_alloc | apply Kd.R_drewN | apply Kd.R_drew)); exact Kd.R_mono HO_370000.out (fun _ hk => ⟨hk.2, ⟨hk.1.1, ⟨hk.1.2.1, hk.1.2.2⟩⟩⟩)), (bk_ BK331), (bk_ BK332), (bk_ BK333), (bk_ BK351), (bk_ BK356), (bk_ BK361), (bk_ BK369), (bk_ BK404), GW404.out, GW404.out, NB331_404.out, NB404_331.out, NB332_404.out, NB404_332.out, NB333_404.out, NB404_333.out, NB351_404.out, NB404_351.out, NB356_404.out, NB404_356.out, NB361_404.out, NB404_361.out, NB369_404.out, NB404_369.out, (hb_ HB)⟩)
                skip
                rintro v390 w160 ⟨hS_, h0_, h1_, h2_, h3_, h4_, h5_, h6_, h7_, h8_, h9_, h10_, h11_, h12_⟩
                (try dsimp only at h0_ h1_ h2_ h3_ h4_ h5_ h6_ h7_ h8_ h9_ h10_ h11_ h12_)
                clear HO_352000 HO_357000 HO_362001 HO_370000 BK331 BK332 BK333 BK351 BK356 BK361 BK369 HB
                have HO391 := A_ h0_
                have HO_352000 := A_ h1_
                have HO_357000 := A_ h2_
                have HO_362001 := A_ h3_
                have HO_370000 := A_ h4_
                have BK331 := A_ h5_
                have BK332 := A_ h6_
                have BK333 := A_ h7_
                have BK351 := A_ h8_
                have BK356 := A_ h9_
                have BK361 := A_ h10_
                have BK369 := A_ h11_
                have HB := A_ h12_
                clear h0_ h1_ h2_ h3_ h4_ h5_ h6_ h7_ h8_ h9_ h10_ h11_ h12_
                (try dsimp only at hS_)
                have hHeld := hS_
                refine norm_ (a' := ?_) ?_ ?_
                rotate_left
                ·
                 simp only [putAll, Act.put, List.setIfInBounds_toArray, List.set_cons_zero, List.set_cons_succ]
                 rfl
                refine two_ (i := 3) (j := 7) (Ni := some 84) (Nj := some 15) (bt_ 31 9) (bt_ 151 9) rfl rfl rfl rfl (two_of HT_.out (by kernel_rfl)) (by decide) (by decide) (fun K hK => ?_) (fun K hK => ?_)
                ·
                 skip
                 refine goes_ Try.func18 (by kernel_rfl) rfl #[.agg #[.int .i64 a1_0, .int .i64 a1_1, .int .i64 a1_2]] (by rfl) rfl rfl al_ ?_
                 with_reducible refine (laws_toOp.calls a1_0 a1_1 a1_2 t393 t394 t395 _ A140.out).mono ?_
                 rintro e w161 ⟨rfl, hb⟩
                 refine ⟨_, rfl, ?_⟩
                 replace HO_352000 := A_ (Kd.R_below (rb_ HO_352000.out) hb)
                 replace HO_357000 := A_ (Kd.R_below (rb_ HO_357000.out) hb)
                 replace HO_362001 := A_ (Kd.R_below (rb_ HO_362001.out) hb)
                 replace HO_370000 := A_ (Kd.R_below (rb_ HO_370000.out) hb)
                 replace HO391 := A_ (Kd.R_below (rb_ HO391.out) hb)
                 replace BK331 := bb_ BK331 hb
                 replace BK332 := bb_ BK332 hb
                 replace BK333 := bb_ BK333 hb
                 replace BK351 := bb_ BK351 hb
                 replace BK356 := bb_ BK356 hb
                 replace BK361 := bb_ BK361 hb
                 replace BK369 := bb_ BK369 hb
                 replace HB := hs_ HB hb
                 (try clear hb)
                 (try clear hb2)
                 (try clear hk)
                 (try clear hi)
                 refine hK.out _ _ ⟨(blk_cell BK331.out 0).trans rfl, (blk_cell BK331.out 1).trans rfl, (blk_cell BK332.out 0).trans rfl, (blk_cell BK332.out 1).trans rfl, (blk_cell BK332.out 2).trans rfl, (blk_cell BK333.out 0).trans rfl, (blk_cell BK333.out 1).trans rfl⟩ (fun hHeld => ?_)
                 clear hK K
                 refine norm_ (a' := ?_) ?_ ?_
                 rotate_left
                 ·
                  show Act.put _ (some 84) _ = _
                  simp only [Act.put, List.setIfInBounds_toArray, List.set_cons_zero, List.set_cons_succ, i64_w, i32_w]
                  rfl
                 exact norm_ nm_ (hJ1_3 (v390) _ ⟨hHeld, (rb_ HO391.out), (rb_ HO_352000.out), (rb_ HO_357000.out), (rb_ HO_362001.out), (rb_ HO_370000.out), (bk_ BK331), (bk_ BK332), (bk_ BK333), (bk_ BK351), (bk_ BK356), (bk_ BK361), (bk_ BK369), (hb_ HB)⟩)
                skip
                refine box_step ?hg (N := 15) ?hd (cs := #[.slice none 0 0, .int .i64 0]) (t := 44) ?hr ?_; (case hd => rfl); (case hg => rfl); (case hr => first | (go_simp; done) | (go_simp; rfl))
                intro gb404 hg w161 hbox hb
                have BK404 := A_ hbox
                have GW404 := gs_ HB hg
                have NB331_404 := ng_ BK331 hg
                have NB404_331 := ns_ (ng_ BK331 hg)
                have NB332_404 := ng_ BK332 hg
                have NB404_332 := ns_ (ng_ BK332 hg)
                have NB333_404 := ng_ BK333 hg
                have NB404_333 := ns_ (ng_ BK333 hg)
                have NB351_404 := ng_ BK351 hg
                have NB404_351 := ns_ (ng_ BK351 hg)
                have NB356_404 := ng_ BK356 hg
                have NB404_356 := ns_ (ng_ BK356 hg)
                have NB361_404 := ng_ BK361 hg
                have NB404_361 := ns_ (ng_ BK361 hg)
                have NB369_404 := ng_ BK369 hg
                have NB404_369 := ns_ (ng_ BK369 hg)
                replace HO_352000 := A_ (Kd.R_below (rb_ HO_352000.out) hb)
                replace HO_357000 := A_ (Kd.R_below (rb_ HO_357000.out) hb)
                replace HO_362001 := A_ (Kd.R_below (rb_ HO_362001.out) hb)
                replace HO_370000 := A_ (Kd.R_below (rb_ HO_370000.out) hb)
                replace HO391 := A_ (Kd.R_below (rb_ HO391.out) hb)
                replace BK331 := bb_ BK331 hb
                replace BK332 := bb_ BK332 hb
                replace BK333 := bb_ BK333 hb
                replace BK351 := bb_ BK351 hb
                replace BK356 := bb_ BK356 hb
                replace BK361 := bb_ BK361 hb
                replace BK369 := bb_ BK369 hb
                replace HB := hs_ HB hb
                clear hb hbox hg
                refine hK.out _ _ ⟨(blk_cell BK331.out 0).trans rfl, (blk_cell BK331.out 1).trans rfl, (blk_cell BK332.out 0).trans rfl, (blk_cell BK332.out 1).trans rfl, (blk_cell BK332.out 2).trans rfl, (blk_cell BK333.out 0).trans rfl, (blk_cell BK333.out 1).trans rfl⟩ (fun hHeld => ?_)
                clear hK K
                refine norm_ (a' := ?_) ?_ ?_
                rotate_left
                ·
                 show Act.put _ (some 15) _ = _
                 simp only [Act.put, List.setIfInBounds_toArray, List.set_cons_zero, List.set_cons_succ, i64_w, i32_w]
                 rfl
                exact norm_ nm_ (hJ1_7 (v390, gb404) _ ⟨hHeld, (rb_ HO391.out), (rb_ HO_352000.out), (rb_ HO_357000.out), (rb_ HO_362001.out), (rb_ HO_370000.out), (bk_ BK331), (bk_ BK332), (bk_ BK333), (bk_ BK351), (bk_ BK356), (bk_ BK361), (bk_ BK369), (bk_ BK404), GW404.out, GW404.out, NB331_404.out, NB404_331.out, NB332_404.out, NB404_332.out, NB333_404.out, NB404_333.out, NB351_404.out, NB404_351.out, NB356_404.out, NB404_356.out, NB361_404.out, NB404_361.out, NB369_404.out, NB404_369.out, (hb_ HB)⟩)
               skip
               rintro ⟨v390, gb404⟩ w161 ⟨hS_, h0_, h1_, h2_, h3_, h4_, h5_, h6_, h7_, h8_, h9_, h10_, h11_, h12_, h13_, h14_, h15_, h16_, h17_, h18_, h19_, h20_, h21_, h22_, h23_, h24_, h25_, h26_, h27_, h28_, h29_⟩
               (try dsimp only at h0_ h1_ h2_ h3_ h4_ h5_ h6_ h7_ h8_ h9_ h10_ h11_ h12_ h13_ h14_ h15_ h16_ h17_ h18_ h19_ h20_ h21_ h22_ h23_ h24_ h25_ h26_ h27_ h28_ h29_)
               clear HO_352000 HO_357000 HO_362001 HO_370000 BK331 BK332 BK333 BK351 BK356 BK361 BK369 HB
               have HO391 := A_ h0_
               have HO_352000 := A_ h1_
               have HO_357000 := A_ h2_
               have HO_362001 := A_ h3_
               have HO_370000 := A_ h4_
               have BK331 := A_ h5_
               have BK332 := A_ h6_
               have BK333 := A_ h7_
               have BK351 := A_ h8_
               have BK356 := A_ h9_
               have BK361 := A_ h10_
               have BK369 := A_ h11_
               have BK404 := A_ h12_
               have GW404 := A_ h13_
               have NB331_404 := A_ h15_
               have NB404_331 := A_ h16_
               have NB332_404 := A_ h17_
               have NB404_332 := A_ h18_
               have NB333_404 := A_ h19_
               have NB404_333 := A_ h20_
               have NB351_404 := A_ h21_
               have NB404_351 := A_ h22_
               have NB356_404 := A_ h23_
               have NB404_356 := A_ h24_
               have NB361_404 := A_ h25_
               have NB404_361 := A_ h26_
               have NB369_404 := A_ h27_
               have NB404_369 := A_ h28_
               have HB := A_ h29_
               clear h0_ h1_ h2_ h3_ h4_ h5_ h6_ h7_ h8_ h9_ h10_ h11_ h12_ h13_ h14_ h15_ h16_ h17_ h18_ h19_ h20_ h21_ h22_ h23_ h24_ h25_ h26_ h27_ h28_ h29_
               (try dsimp only at hS_)
               have hHeld := hS_
               refine norm_ (a' := ?_) ?_ ?_
               rotate_left
               ·
                simp only [putAll, Act.put, List.setIfInBounds_toArray, List.set_cons_zero, List.set_cons_succ]
                rfl
               refine one_ (i := 3) (N := some 84) (bt_ 159 9) rfl rfl (one_of HT_.out (by kernel_rfl)) (by decide) (fun K hK => ?_)
               refine goes_ Try.func18 (by kernel_rfl) rfl #[.agg #[.int .i64 a1_0, .int .i64 a1_1, .int .i64 a1_2]] (by rfl) rfl rfl al_ ?_
               with_reducible refine (laws_toOp.calls a1_0 a1_1 a1_2 t393 t394 t395 _ A140.out).mono ?_
               rintro e w162 ⟨rfl, hb⟩
               refine ⟨_, rfl, ?_⟩
               replace HO_352000 := A_ (Kd.R_below (rb_ HO_352000.out) hb)
               replace HO_357000 := A_ (Kd.R_below (rb_ HO_357000.out) hb)
               replace HO_362001 := A_ (Kd.R_below (rb_ HO_362001.out) hb)
               replace HO_370000 := A_ (Kd.R_below (rb_ HO_370000.out) hb)
               replace HO391 := A_ (Kd.R_below (rb_ HO391.out) hb)
               replace BK331 := bb_ BK331 hb
               replace BK332 := bb_ BK332 hb
               replace BK333 := bb_ BK333 hb
               replace BK351 := bb_ BK351 hb
               replace BK356 := bb_ BK356 hb
               replace BK361 := bb_ BK361 hb
               replace BK369 := bb_ BK369 hb
               replace BK404 := bb_ BK404 hb
               replace HB := hs_ HB hb
               (try clear hb)
               (try clear hb2)
               (try clear hk)
               (try clear hi)
               refine hK.out _ _ ⟨(blk_cell BK331.out 0).trans rfl, (blk_cell BK331.out 1).trans rfl, (blk_cell BK332.out 0).trans rfl, (blk_cell BK332.out 1).trans rfl, (blk_cell BK332.out 2).trans rfl, (blk_cell BK333.out 0).trans rfl, (blk_cell BK333.out 1).trans rfl⟩ (fun hHeld => ?_)
               clear hK K
               refine norm_ (a' := ?_) ?_ ?_
               rotate_left
               ·
                show Act.put _ (some 84) _ = _
                simp only [Act.put, List.setIfInBounds_toArray, List.set_cons_zero, List.set_cons_succ, i64_w, i32_w]
                rfl
               exact norm_ nm_ (hJ1_3_7 (v390, gb404) _ ⟨hHeld, (rb_ HO391.out), (rb_ HO_352000.out), (rb_ HO_357000.out), (rb_ HO_362001.out), (rb_ HO_370000.out), (bk_ BK331), (bk_ BK332), (bk_ BK333), (bk_ BK351), (bk_ BK356), (bk_ BK361), (bk_ BK369), (bk_ BK404), GW404.out, GW404.out, NB331_404.out, NB404_331.out, NB332_404.out, NB404_332.out, NB333_404.out, NB404_333.out, NB351_404.out, NB404_351.out, NB356_404.out, NB404_356.out, NB361_404.out, NB404_361.out, NB369_404.out, NB404_369.out, (hb_ HB)⟩)
              skip
              rintro v390 w161 ⟨hS_, h0_, h1_, h2_, h3_, h4_, h5_, h6_, h7_, h8_, h9_, h10_, h11_, h12_⟩
              (try dsimp only at h0_ h1_ h2_ h3_ h4_ h5_ h6_ h7_ h8_ h9_ h10_ h11_ h12_)
              clear HO_352000 HO_357000 HO_362001 HO_370000 BK331 BK332 BK333 BK351 BK356 BK361 BK369 HB
              have HO391 := A_ h0_
              have HO_352000 := A_ h1_
              have HO_357000 := A_ h2_
              have HO_362001 := A_ h3_
              have HO_370000 := A_ h4_
              have BK331 := A_ h5_
              have BK332 := A_ h6_
              have BK333 := A_ h7_
              have BK351 := A_ h8_
              have BK356 := A_ h9_
              have BK361 := A_ h10_
              have BK369 := A_ h11_
              have HB := A_ h12_
              clear h0_ h1_ h2_ h3_ h4_ h5_ h6_ h7_ h8_ h9_ h10_ h11_ h12_
              (try dsimp only at hS_)
              have hHeld := hS_
              refine norm_ (a' := ?_) ?_ ?_
              rotate_left
              ·
               simp only [putAll, Act.put, List.setIfInBounds_toArray, List.set_cons_zero, List.set_cons_succ]
               rfl
              refine two_ (i := 5) (j := 7) (Ni := some 86) (Nj := some 15) (bt_ 63 9) (bt_ 159 9) rfl rfl rfl rfl (two_of HT_.out (by kernel_rfl)) (by decide) (by decide) (fun K hK => ?_) (fun K hK => ?_)
              ·
               skip
               refine goes_ Try.func19 (by kernel_rfl) rfl #[.agg #[.int .i64 a2_0, .slice A2_1 l2_1.length c2_1]] (by rfl) rfl rfl al_ ?_
               with_reducible refine (laws_toRes.calls kj42 a2_0 _ _ l2_1 t396 t397 _ ?side1 ?side2 A141.out).mono ?_
               (case side1 => exact cb_ (Kd.C_below HR2_1.out HB.out))
               (case side2 => exact HC2_1.out)
               rintro e w162 ⟨v398, rfl, ho0, hb⟩
               refine ⟨_, rfl, ?_⟩
               have HO399 := A_ (Kd.R_lower (Kd.R_new' (Kd.R_new' (Kd.R_new' (Kd.R_new' (Kd.R_new' ho0 (Kd.R_lt (rb_ HO_352000.out))) (Kd.R_lt (rb_ HO_357000.out))) (Kd.R_lt (rb_ HO_362001.out))) (Kd.R_lt (rb_ HO_370000.out))) (Kd.R_lt (rb_ HO391.out))) (below_size (hb_ HB)))
               replace HO_352000 := A_ (Kd.R_elder' (rb_ HO_352000.out) (Kd.R_base ho0) hb)
               replace HO_357000 := A_ (Kd.R_elder' (rb_ HO_357000.out) (Kd.R_base ho0) hb)
               replace HO_362001 := A_ (Kd.R_elder' (rb_ HO_362001.out) (Kd.R_base ho0) hb)
               replace HO_370000 := A_ (Kd.R_elder' (rb_ HO_370000.out) (Kd.R_base ho0) hb)
               replace HO391 := A_ (Kd.R_elder' (rb_ HO391.out) (Kd.R_base ho0) hb)
               replace BK331 := bb_ BK331 hb
               replace BK332 := bb_ BK332 hb
               replace BK333 := bb_ BK333 hb
               replace BK351 := bb_ BK351 hb
               replace BK356 := bb_ BK356 hb
               replace BK361 := bb_ BK361 hb
               replace BK369 := bb_ BK369 hb
               replace HB := hs_ HB hb
               (try clear hb)
               (try clear hb2)
               (try clear hk)
               (try clear hi)
               (try clear ho0)
               refine hK.out _ _ ⟨(blk_cell BK331.out 0).trans rfl, (blk_cell BK331.out 1).trans rfl, (blk_cell BK332.out 0).trans rfl, (blk_cell BK332.out 1).trans rfl, (blk_cell BK332.out 2).trans rfl, (blk_cell BK333.out 0).trans rfl, (blk_cell BK333.out 1).trans rfl⟩ (fun hHeld => ?_)
               clear hK K
               refine norm_ (a' := ?_) ?_ ?_
               rotate_left
               ·
                show Act.put _ (some 86) _ = _
                simp only [Act.put, List.setIfInBounds_toArray, List.set_cons_zero, List.set_cons_succ, i64_w, i32_w]
                rfl
               exact norm_ nm_ (hJ1_3_5 (v390, v398) _ ⟨hHeld, (by (with_reducible repeat (first | apply Kd.R_alloc | apply Kd.R_drewN | apply Kd.R_drew)); exact Kd.R_mono HO391.out (fun _ hk => ⟨hk.2, ⟨hk.1.1, ⟨hk.1.2.1, ⟨hk.1.2.2.1, hk.1.2.2.2⟩⟩⟩⟩)), (by (with_reducible repeat (first | apply Kd.R_alloc | apply Kd.R_drewN | apply Kd.R_drew)); exact Kd.R_mono HO399.out (fun _ hk => ⟨hk.2, ⟨hk.1.1.1.1.2, ⟨hk.1.1.1.2, ⟨hk.1.1.2, hk.1.2⟩⟩⟩⟩)), (by (with_reducible repeat (first | apply Kd.R_alloc | apply Kd.R_drewN | apply Kd.R_drew)); exact Kd.R_mono HO_352000.out (fun _ hk => ⟨hk.1.1, ⟨hk.2, ⟨hk.1.2.1, ⟨hk.1.2.2.1, hk.1.2.2.2⟩⟩⟩⟩)), (by (with_reducible repeat (first | apply Kd.R_alloc | apply Kd.R_drewN | apply Kd.R_drew)); exact Kd.R_mono HO_357000.out (fun _ hk => ⟨hk.1.1, ⟨hk.2, ⟨hk.1.2.1, ⟨hk.1.2.2.1, hk.1.2.2.2⟩⟩⟩⟩)), (by (with_reducible repeat (first | apply Kd.R_alloc | apply Kd.R_drewN | apply Kd.R_drew)); exact Kd.R_mono HO_362001.out (fun _ hk => ⟨hk.1.1, ⟨hk.2, ⟨hk.1.2.1, ⟨hk.1.2.2.1, hk.1.2.2.2⟩⟩⟩⟩)), (by (with_reducible repeat (first | apply Kd.R_alloc | apply Kd.R_drewN | apply Kd.R_drew)); exact Kd.R_mono HO_370000.out (fun _ hk => ⟨hk.1.1, ⟨hk.2, ⟨hk.1.2.1, ⟨hk.1.2.2.1, hk.1.2.2.2⟩⟩⟩⟩)), (bk_ BK331), (bk_ BK332), (bk_ BK333), (bk_ BK351), (bk_ BK356), (bk_ BK361), (bk_ BK369), (hb_ HB)⟩)
              skip
              refine box_step ?hg (N := 15) ?hd (cs := #[.slice none 0 0, .int .i64 0]) (t := 44) ?hr ?_; (case hd => rfl); (case hg => rfl); (case hr => first | (go_simp; done) | (go_simp; rfl))
              intro gb404 hg w162 hbox hb
              have BK404 := A_ hbox
              have GW404 := gs_ HB hg
              have NB331_404 := ng_ BK331 hg
              have NB404_331 := ns_ (ng_ BK331 hg)
              have NB332_404 := ng_ BK332 hg
              have NB404_332 := ns_ (ng_ BK332 hg)
              have NB333_404 := ng_ BK333 hg
              have NB404_333 := ns_ (ng_ BK333 hg)
              have NB351_404 := ng_ BK351 hg
              have NB404_351 := ns_ (ng_ BK351 hg)
              have NB356_404 := ng_ BK356 hg
              have NB404_356 := ns_ (ng_ BK356 hg)
              have NB361_404 := ng_ BK361 hg
              have NB404_361 := ns_ (ng_ BK361 hg)
              have NB369_404 := ng_ BK369 hg
              have NB404_369 := ns_ (ng_ BK369 hg)
              replace HO_352000 := A_ (Kd.R_below (rb_ HO_352000.out) hb)
              replace HO_357000 := A_ (Kd.R_below (rb_ HO_357000.out) hb)
              replace HO_362001 := A_ (Kd.R_below (rb_ HO_362001.out) hb)
              replace HO_370000 := A_ (Kd.R_below (rb_ HO_370000.out) hb)
              replace HO391 := A_ (Kd.R_below (rb_ HO391.out) hb)
              replace BK331 := bb_ BK331 hb
              replace BK332 := bb_ BK332 hb
              replace BK333 := bb_ BK333 hb
              replace BK351 := bb_ BK351 hb
              replace BK356 := bb_ BK356 hb
              replace BK361 := bb_ BK361 hb
              replace BK369 := bb_ BK369 hb
              replace HB := hs_ HB hb
              clear hb hbox hg
              refine hK.out _ _ ⟨(blk_cell BK331.out 0).trans rfl, (blk_cell BK331.out 1).trans rfl, (blk_cell BK332.out 0).trans rfl, (blk_cell BK332.out 1).trans rfl, (blk_cell BK332.out 2).trans rfl, (blk_cell BK333.out 0).trans rfl, (blk_cell BK333.out 1).trans rfl⟩ (fun hHeld => ?_)
              clear hK K
              refine norm_ (a' := ?_) ?_ ?_
              rotate_left
              ·
               show Act.put _ (some 15) _ = _
               simp only [Act.put, List.setIfInBounds_toArray, List.set_cons_zero, List.set_cons_succ, i64_w, i32_w]
               rfl
              exact norm_ nm_ (hJ1_3_7 (v390, gb404) _ ⟨hHeld, (rb_ HO391.out), (rb_ HO_352000.out), (rb_ HO_357000.out), (rb_ HO_362001.out), (rb_ HO_370000.out), (bk_ BK331), (bk_ BK332), (bk_ BK333), (bk_ BK351), (bk_ BK356), (bk_ BK361), (bk_ BK369), (bk_ BK404), GW404.out, GW404.out, NB331_404.out, NB404_331.out, NB332_404.out, NB404_332.out, NB333_404.out, NB404_333.out, NB351_404.out, NB404_351.out, NB356_404.out, NB404_356.out, NB361_404.out, NB404_361.out, NB369_404.out, NB404_369.out, (hb_ HB)⟩)
             skip
             rintro ⟨v390, gb404⟩ w162 ⟨hS_, h0_, h1_, h2_, h3_, h4_, h5_, h6_, h7_, h8_, h9_, h10_, h11_, h12_, h13_, h14_, h15_, h16_, h17_, h18_, h19_, h20_, h21_, h22_, h23_, h24_, h25_, h26_, h27_, h28_, h29_⟩
             (try dsimp only at h0_ h1_ h2_ h3_ h4_ h5_ h6_ h7_ h8_ h9_ h10_ h11_ h12_ h13_ h14_ h15_ h16_ h17_ h18_ h19_ h20_ h21_ h22_ h23_ h24_ h25_ h26_ h27_ h28_ h29_)
             clear HO_352000 HO_357000 HO_362001 HO_370000 BK331 BK332 BK333 BK351 BK356 BK361 BK369 HB
             have HO391 := A_ h0_
             have HO_352000 := A_ h1_
             have HO_357000 := A_ h2_
             have HO_362001 := A_ h3_
             have HO_370000 := A_ h4_
             have BK331 := A_ h5_
             have BK332 := A_ h6_
             have BK333 := A_ h7_
             have BK351 := A_ h8_
             have BK356 := A_ h9_
             have BK361 := A_ h10_
             have BK369 := A_ h11_
             have BK404 := A_ h12_
             have GW404 := A_ h13_
             have NB331_404 := A_ h15_
             have NB404_331 := A_ h16_
             have NB332_404 := A_ h17_
             have NB404_332 := A_ h18_
             have NB333_404 := A_ h19_
             have NB404_333 := A_ h20_
             have NB351_404 := A_ h21_
             have NB404_351 := A_ h22_
             have NB356_404 := A_ h23_
             have NB404_356 := A_ h24_
             have NB361_404 := A_ h25_
             have NB404_361 := A_ h26_
             have NB369_404 := A_ h27_
             have NB404_369 := A_ h28_
             have HB := A_ h29_
             clear h0_ h1_ h2_ h3_ h4_ h5_ h6_ h7_ h8_ h9_ h10_ h11_ h12_ h13_ h14_ h15_ h16_ h17_ h18_ h19_ h20_ h21_ h22_ h23_ h24_ h25_ h26_ h27_ h28_ h29_
             (try dsimp only at hS_)
             have hHeld := hS_
             refine norm_ (a' := ?_) ?_ ?_
             rotate_left
             ·
              simp only [putAll, Act.put, List.setIfInBounds_toArray, List.set_cons_zero, List.set_cons_succ]
              rfl
             refine one_ (i := 5) (N := some 86) (bt_ 191 9) rfl rfl (one_of HT_.out (by kernel_rfl)) (by decide) (fun K hK => ?_)
             refine goes_ Try.func19 (by kernel_rfl) rfl #[.agg #[.int .i64 a2_0, .slice A2_1 l2_1.length c2_1]] (by rfl) rfl rfl al_ ?_
             with_reducible refine (laws_toRes.calls kj42 a2_0 _ _ l2_1 t396 t397 _ ?side1 ?side2 A141.out).mono ?_
             (case side1 => exact cb_ (Kd.C_below HR2_1.out HB.out))
             (case side2 => exact HC2_1.out)
             rintro e w163 ⟨v398, rfl, ho0, hb⟩
             refine ⟨_, rfl, ?_⟩
             have HO399 := A_ (Kd.R_lower (Kd.R_new' (Kd.R_new' (Kd.R_new' (Kd.R_new' (Kd.R_new' ho0 (Kd.R_lt (rb_ HO_352000.out))) (Kd.R_lt (rb_ HO_357000.out))) (Kd.R_lt (rb_ HO_362001.out))) (Kd.R_lt (rb_ HO_370000.out))) (Kd.R_lt (rb_ HO391.out))) (below_size (hb_ HB)))
             replace HO_352000 := A_ (Kd.R_elder' (rb_ HO_352000.out) (Kd.R_base ho0) hb)
             replace HO_357000 := A_ (Kd.R_elder' (rb_ HO_357000.out) (Kd.R_base ho0) hb)
             replace HO_362001 := A_ (Kd.R_elder' (rb_ HO_362001.out) (Kd.R_base ho0) hb)
             replace HO_370000 := A_ (Kd.R_elder' (rb_ HO_370000.out) (Kd.R_base ho0) hb)
             replace HO391 := A_ (Kd.R_elder' (rb_ HO391.out) (Kd.R_base ho0) hb)
             replace BK331 := bb_ BK331 hb
             replace BK332 := bb_ BK332 hb
             replace BK333 := bb_ BK333 hb
             replace BK351 := bb_ BK351 hb
             replace BK356 := bb_ BK356 hb
             replace BK361 := bb_ BK361 hb
             replace BK369 := bb_ BK369 hb
             replace BK404 := bb_ BK404 hb
             replace HB := hs_ HB hb
             (try clear hb)
             (try clear hb2)
             (try clear hk)
             (try clear hi)
             (try clear ho0)
             refine hK.out _ _ ⟨(blk_cell BK331.out 0).trans rfl, (blk_cell BK331.out 1).trans rfl, (blk_cell BK332.out 0).trans rfl, (blk_cell BK332.out 1).trans rfl, (blk_cell BK332.out 2).trans rfl, (blk_cell BK333.out 0).trans rfl, (blk_cell BK333.out 1).trans rfl⟩ (fun hHeld => ?_)
             clear hK K
             refine norm_ (a' := ?_) ?_ ?_
             rotate_left
             ·
              show Act.put _ (some 86) _ = _
              simp only [Act.put, List.setIfInBounds_toArray, List.set_cons_zero, List.set_cons_succ, i64_w, i32_w]
              rfl
             exact norm_ nm_ (hJ1_3_5_7 (v390, v398, gb404) _ ⟨hHeld, (by (with_reducible repeat (first | apply Kd.R_alloc | apply Kd.R_drewN | apply Kd.R_drew)); exact Kd.R_mono HO391.out (fun _ hk => ⟨hk.2, ⟨hk.1.1, ⟨hk.1.2.1, ⟨hk.1.2.2.1, hk.1.2.2.2⟩⟩⟩⟩)), (by (with_reducible repeat (first | apply Kd.R_alloc | apply Kd.R_drewN | apply Kd.R_drew)); exact Kd.R_mono HO399.out (fun _ hk => ⟨hk.2, ⟨hk.1.1.1.1.2, ⟨hk.1.1.1.2, ⟨hk.1.1.2, hk.1.2⟩⟩⟩⟩)), (by (with_reducible repeat (first | apply Kd.R_alloc | apply Kd.R_drewN | apply Kd.R_drew)); exact Kd.R_mono HO_352000.out (fun _ hk => ⟨hk.1.1, ⟨hk.2, ⟨hk.1.2.1, ⟨hk.1.2.2.1, hk.1.2.2.2⟩⟩⟩⟩)), (by (with_reducible repeat (first | apply Kd.R_alloc | apply Kd.R_drewN | apply Kd.R_drew)); exact Kd.R_mono HO_357000.out (fun _ hk => ⟨hk.1.1, ⟨hk.2, ⟨hk.1.2.1, ⟨hk.1.2.2.1, hk.1.2.2.2⟩⟩⟩⟩)), (by (with_reducible repeat (first | apply Kd.R_alloc | apply Kd.R_drewN | apply Kd.R_drew)); exact Kd.R_mono HO_362001.out (fun _ hk => ⟨hk.1.1, ⟨hk.2, ⟨hk.1.2.1, ⟨hk.1.2.2.1, hk.1.2.2.2⟩⟩⟩⟩)), (by (with_reducible repeat (first | apply Kd.R_alloc | apply Kd.R_drewN | apply Kd.R_drew)); exact Kd.R_mono HO_370000.out (fun _ hk => ⟨hk.1.1, ⟨hk.2, ⟨hk.1.2.1, ⟨hk.1.2.2.1, hk.1.2.2.2⟩⟩⟩⟩)), (bk_ BK331), (bk_ BK332), (bk_ BK333), (bk_ BK351), (bk_ BK356), (bk_ BK361), (bk_ BK369), (bk_ BK404), GW404.out, GW404.out, NB331_404.out, NB404_331.out, NB332_404.out, NB404_332.out, NB333_404.out, NB404_333.out, NB351_404.out, NB404_351.out, NB356_404.out, NB404_356.out, NB361_404.out, NB404_361.out, NB369_404.out, NB404_369.out, (hb_ HB)⟩)
            skip
            rintro ⟨v390, v398⟩ w162 ⟨hS_, h0_, h1_, h2_, h3_, h4_, h5_, h6_, h7_, h8_, h9_, h10_, h11_, h12_, h13_⟩
            (try dsimp only at h0_ h1_ h2_ h3_ h4_ h5_ h6_ h7_ h8_ h9_ h10_ h11_ h12_ h13_)
            clear HO_352000 HO_357000 HO_362001 HO_370000 BK331 BK332 BK333 BK351 BK356 BK361 BK369 HB
            have HO391 := A_ h0_
            have HO399 := A_ h1_
            have HO_352000 := A_ h2_
            have HO_357000 := A_ h3_
            have HO_362001 := A_ h4_
            have HO_370000 := A_ h5_
            have BK331 := A_ h6_
            have BK332 := A_ h7_
            have BK333 := A_ h8_
            have BK351 := A_ h9_
            have BK356 := A_ h10_
            have BK361 := A_ h11_
            have BK369 := A_ h12_
            have HB := A_ h13_
            clear h0_ h1_ h2_ h3_ h4_ h5_ h6_ h7_ h8_ h9_ h10_ h11_ h12_ h13_
            (try dsimp only at hS_)
            have hHeld := hS_
            obtain ⟨Ao163, co163, eo163⟩ := Kd.R_slice HO391.out
            (first | subst eo163 | (injection eo163 with f1_ f2_ f3_; have f4_ := f1_.symm; have f5_ := f3_.symm; clear f1_ f2_ f3_; subst f4_; subst f5_))
            obtain ⟨Ao164, co164, eo164⟩ := Kd.R_slice HO399.out
            (first | subst eo164 | (injection eo164 with f1_ f2_ f3_; have f4_ := f1_.symm; have f5_ := f3_.symm; clear f1_ f2_ f3_; subst f4_; subst f5_))
            refine norm_ (a' := ?_) ?_ ?_
            rotate_left
            ·
             simp only [putAll, Act.put, List.setIfInBounds_toArray, List.set_cons_zero, List.set_cons_succ]
             rfl
            refine two_ (i := 6) (j := 7) (Ni := some 87) (Nj := some 15) (bt_ 127 9) (bt_ 191 9) rfl rfl rfl rfl (two_of HT_.out (by kernel_rfl)) (by decide) (by decide) (fun K hK => ?_) (fun K hK => ?_)
            ·
             skip
             refine goes_ Try.func20 (by kernel_rfl) rfl #[.agg #[.slice Ao163 t389.length co163, .int .i64 t392], .agg #[.int .i64 t393, .int .i64 t394, .int .i64 t395], .agg #[.int .i64 t396, .slice Ao164 t397.length co164]] (by rfl) rfl rfl al_ ?_
             with_reducible refine (impl_After.calls kj42 _ _ t389 t392 t393 t394 t395 t396 _ _ t397 t400 t403 _ ?side1 ?side2 ?side3 ?side4 A142.out).mono ?_
             (case side1 => repeat (first | exact (Kd.R_reads' HO391.out).2.2 | (with_reducible refine Kd.C_alloc ?_ _) | (with_reducible refine Kd.C_drewN ?_ _) | (with_reducible refine Kd.C_drew ?_)))
             (case side2 => exact (Kd.R_reads' HO391.out).2.1)
             (case side3 => repeat (first | exact (Kd.R_reads' HO399.out).2.2 | (with_reducible refine Kd.C_alloc ?_ _) | (with_reducible refine Kd.C_drewN ?_ _) | (with_reducible refine Kd.C_drew ?_)))
             (case side4 => exact (Kd.R_reads' HO399.out).2.1)
             rintro e w165 ⟨v401, rfl, ho0, hb⟩
             refine ⟨_, rfl, ?_⟩
             have HO402 := A_ (Kd.R_lower (Kd.R_new' (Kd.R_new' (Kd.R_new' (Kd.R_new' (Kd.R_new' (Kd.R_new' ho0 (Kd.R_lt (rb_ HO_352000.out))) (Kd.R_lt (rb_ HO_357000.out))) (Kd.R_lt (rb_ HO_362001.out))) (Kd.R_lt (rb_ HO_370000.out))) (Kd.R_lt (rb_ HO391.out))) (Kd.R_lt (rb_ HO399.out))) (below_size (hb_ HB)))
             replace HO_352000 := A_ (Kd.R_elder' (rb_ HO_352000.out) (Kd.R_base ho0) hb)
             replace HO_357000 := A_ (Kd.R_elder' (rb_ HO_357000.out) (Kd.R_base ho0) hb)
             replace HO_362001 := A_ (Kd.R_elder' (rb_ HO_362001.out) (Kd.R_base ho0) hb)
             replace HO_370000 := A_ (Kd.R_elder' (rb_ HO_370000.out) (Kd.R_base ho0) hb)
             replace HO391 := A_ (Kd.R_elder' (rb_ HO391.out) (Kd.R_base ho0) hb)
             replace HO399 := A_ (Kd.R_elder' (rb_ HO399.out) (Kd.R_base ho0) hb)
             replace BK331 := bb_ BK331 hb
             replace BK332 := bb_ BK332 hb
             replace BK333 := bb_ BK333 hb
             replace BK351 := bb_ BK351 hb
             replace BK356 := bb_ BK356 hb
             replace BK361 := bb_ BK361 hb
             replace BK369 := bb_ BK369 hb
             replace HB := hs_ HB hb
             (try clear hb)
             (try clear hb2)
             (try clear hk)
             (try clear hi)
             (try clear ho0)
             refine hK.out _ _ ⟨(blk_cell BK331.out 0).trans rfl, (blk_cell BK331.out 1).trans rfl, (blk_cell BK332.out 0).trans rfl, (blk_cell BK332.out 1).trans rfl, (blk_cell BK332.out 2).trans rfl, (blk_cell BK333.out 0).trans rfl, (blk_cell BK333.out 1).trans rfl⟩ (fun hHeld => ?_)
             clear hK K
             refine norm_ (a' := ?_) ?_ ?_
             rotate_left
             ·
              show Act.put _ (some 87) _ = _
              simp only [Act.put, List.setIfInBounds_toArray, List.set_cons_zero, List.set_cons_succ, i64_w, i32_w]
              rfl
             exact norm_ nm_ (hJ1_3_5_6 (.slice Ao163 t389.length co163, .slice Ao164 t397.length co164, v401) _ ⟨hHeld, (by (with_reducible repeat (first | apply Kd.R_alloc | apply Kd.R_drewN | apply Kd.R_drew)); exact Kd.R_mono HO391.out (fun _ hk => ⟨hk.1.1, ⟨hk.2, ⟨hk.1.2.1, ⟨hk.1.2.2.1, ⟨hk.1.2.2.2.1, hk.1.2.2.2.2⟩⟩⟩⟩⟩)), (by (with_reducible repeat (first | apply Kd.R_alloc | apply Kd.R_drewN | apply Kd.R_drew)); exact Kd.R_mono HO399.out (fun _ hk => ⟨hk.1.1, ⟨hk.2, ⟨hk.1.2.1, ⟨hk.1.2.2.1, ⟨hk.1.2.2.2.1, hk.1.2.2.2.2⟩⟩⟩⟩⟩)), (by (with_reducible repeat (first | apply Kd.R_alloc | apply Kd.R_drewN | apply Kd.R_drew)); exact Kd.R_mono HO402.out (fun _ hk => ⟨hk.1.2, ⟨hk.2, ⟨hk.1.1.1.1.1.2, ⟨hk.1.1.1.1.2, ⟨hk.1.1.1.2, hk.1.1.2⟩⟩⟩⟩⟩)), (by (with_reducible repeat (first | apply Kd.R_alloc | apply Kd.R_drewN | apply Kd.R_drew)); exact Kd.R_mono HO_352000.out (fun _ hk => ⟨hk.1.1, ⟨hk.1.2.1, ⟨hk.2, ⟨hk.1.2.2.1, ⟨hk.1.2.2.2.1, hk.1.2.2.2.2⟩⟩⟩⟩⟩)), (by (with_reducible repeat (first | apply Kd.R_alloc | apply Kd.R_drewN | apply Kd.R_drew)); exact Kd.R_mono HO_357000.out (fun _ hk => ⟨hk.1.1, ⟨hk.1.2.1, ⟨hk.2, ⟨hk.1.2.2.1, ⟨hk.1.2.2.2.1, hk.1.2.2.2.2⟩⟩⟩⟩⟩)), (by (with_reducible repeat (first | apply Kd.R_alloc | apply Kd.R_drewN | apply Kd.R_drew)); exact Kd.R_mono HO_362001.out (fun _ hk => ⟨hk.1.1, ⟨hk.1.2.1, ⟨hk.2, ⟨hk.1.2.2.1, ⟨hk.1.2.2.2.1, hk.1.2.2.2.2⟩⟩⟩⟩⟩)), (by (with_reducible repeat (first | apply Kd.R_alloc | apply Kd.R_drewN | apply Kd.R_drew)); exact Kd.R_mono HO_370000.out (fun _ hk => ⟨hk.1.1, ⟨hk.1.2.1, ⟨hk.2, ⟨hk.1.2.2.1, ⟨hk.1.2.2.2.1, hk.1.2.2.2.2⟩⟩⟩⟩⟩)), (bk_ BK331), (bk_ BK332), (bk_ BK333), (bk_ BK351), (bk_ BK356), (bk_ BK361), (bk_ BK369), (hb_ HB)⟩)
            skip
            refine box_step ?hg (N := 15) ?hd (cs := #[.slice none 0 0, .int .i64 0]) (t := 44) ?hr ?_; (case hd => rfl); (case hg => rfl); (case hr => first | (go_simp; done) | (go_simp; rfl))
            intro gb404 hg w163 hbox hb
            have BK404 := A_ hbox
            have GW404 := gs_ HB hg
            have NB331_404 := ng_ BK331 hg
            have NB404_331 := ns_ (ng_ BK331 hg)
            have NB332_404 := ng_ BK332 hg
            have NB404_332 := ns_ (ng_ BK332 hg)
            have NB333_404 := ng_ BK333 hg
            have NB404_333 := ns_ (ng_ BK333 hg)
            have NB351_404 := ng_ BK351 hg
            have NB404_351 := ns_ (ng_ BK351 hg)
            have NB356_404 := ng_ BK356 hg
            have NB404_356 := ns_ (ng_ BK356 hg)
            have NB361_404 := ng_ BK361 hg
            have NB404_361 := ns_ (ng_ BK361 hg)
            have NB369_404 := ng_ BK369 hg
            have NB404_369 := ns_ (ng_ BK369 hg)
            replace HO_352000 := A_ (Kd.R_below (rb_ HO_352000.out) hb)
            replace HO_357000 := A_ (Kd.R_below (rb_ HO_357000.out) hb)
            replace HO_362001 := A_ (Kd.R_below (rb_ HO_362001.out) hb)
            replace HO_370000 := A_ (Kd.R_below (rb_ HO_370000.out) hb)
            replace HO391 := A_ (Kd.R_below (rb_ HO391.out) hb)
            replace HO399 := A_ (Kd.R_below (rb_ HO399.out) hb)
            replace BK331 := bb_ BK331 hb
            replace BK332 := bb_ BK332 hb
            replace BK333 := bb_ BK333 hb
            replace BK351 := bb_ BK351 hb
            replace BK356 := bb_ BK356 hb
            replace BK361 := bb_ BK361 hb
            replace BK369 := bb_ BK369 hb
            replace HB := hs_ HB hb
            clear hb hbox hg
            refine hK.out _ _ ⟨(blk_cell BK331.out 0).trans rfl, (blk_cell BK331.out 1).trans rfl, (blk_cell BK332.out 0).trans rfl, (blk_cell BK332.out 1).trans rfl, (blk_cell BK332.out 2).trans rfl, (blk_cell BK333.out 0).trans rfl, (blk_cell BK333.out 1).trans rfl⟩ (fun hHeld => ?_)
            clear hK K
            refine norm_ (a' := ?_) ?_ ?_
            rotate_left
            ·
             show Act.put _ (some 15) _ = _
             simp only [Act.put, List.setIfInBounds_toArray, List.set_cons_zero, List.set_cons_succ, i64_w, i32_w]
             rfl
            exact norm_ nm_ (hJ1_3_5_7 (.slice Ao163 t389.length co163, .slice Ao164 t397.length co164, gb404) _ ⟨hHeld, (rb_ HO391.out), (rb_ HO399.out), (rb_ HO_352000.out), (rb_ HO_357000.out), (rb_ HO_362001.out), (rb_ HO_370000.out), (bk_ BK331), (bk_ BK332), (bk_ BK333), (bk_ BK351), (bk_ BK356), (bk_ BK361), (bk_ BK369), (bk_ BK404), GW404.out, GW404.out, NB331_404.out, NB404_331.out, NB332_404.out, NB404_332.out, NB333_404.out, NB404_333.out, NB351_404.out, NB404_351.out, NB356_404.out, NB404_356.out, NB361_404.out, NB404_361.out, NB369_404.out, NB404_369.out, (hb_ HB)⟩)
           skip
           rintro ⟨v390, v398, gb404⟩ w163 ⟨hS_, h0_, h1_, h2_, h3_, h4_, h5_, h6_, h7_, h8_, h9_, h10_, h11_, h12_, h13_, h14_, h15_, h16_, h17_, h18_, h19_, h20_, h21_, h22_, h23_, h24_, h25_, h26_, h27_, h28_, h29_, h30_⟩
           (try dsimp only at h0_ h1_ h2_ h3_ h4_ h5_ h6_ h7_ h8_ h9_ h10_ h11_ h12_ h13_ h14_ h15_ h16_ h17_ h18_ h19_ h20_ h21_ h22_ h23_ h24_ h25_ h26_ h27_ h28_ h29_ h30_)
           clear HO_352000 HO_357000 HO_362001 HO_370000 BK331 BK332 BK333 BK351 BK356 BK361 BK369 HB
           have HO391 := A_ h0_
           have HO399 := A_ h1_
           have HO_352000 := A_ h2_
           have HO_357000 := A_ h3_
           have HO_362001 := A_ h4_
           have HO_370000 := A_ h5_
           have BK331 := A_ h6_
           have BK332 := A_ h7_
           have BK333 := A_ h8_
           have BK351 := A_ h9_
           have BK356 := A_ h10_
           have BK361 := A_ h11_
           have BK369 := A_ h12_
           have BK404 := A_ h13_
           have GW404 := A_ h14_
           have NB331_404 := A_ h16_
           have NB404_331 := A_ h17_
           have NB332_404 := A_ h18_
           have NB404_332 := A_ h19_
           have NB333_404 := A_ h20_
           have NB404_333 := A_ h21_
           have NB351_404 := A_ h22_
           have NB404_351 := A_ h23_
           have NB356_404 := A_ h24_
           have NB404_356 := A_ h25_
           have NB361_404 := A_ h26_
           have NB404_361 := A_ h27_
           have NB369_404 := A_ h28_
           have NB404_369 := A_ h29_
           have HB := A_ h30_
           clear h0_ h1_ h2_ h3_ h4_ h5_ h6_ h7_ h8_ h9_ h10_ h11_ h12_ h13_ h14_ h15_ h16_ h17_ h18_ h19_ h20_ h21_ h22_ h23_ h24_ h25_ h26_ h27_ h28_ h29_ h30_
           (try dsimp only at hS_)
           have hHeld := hS_
           obtain ⟨Ao164, co164, eo164⟩ := Kd.R_slice HO391.out
           (first | subst eo164 | (injection eo164 with f1_ f2_ f3_; have f4_ := f1_.symm; have f5_ := f3_.symm; clear f1_ f2_ f3_; subst f4_; subst f5_))
           obtain ⟨Ao165, co165, eo165⟩ := Kd.R_slice HO399.out
           (first | subst eo165 | (injection eo165 with f1_ f2_ f3_; have f4_ := f1_.symm; have f5_ := f3_.symm; clear f1_ f2_ f3_; subst f4_; subst f5_))
           refine norm_ (a' := ?_) ?_ ?_
           rotate_left
           ·
            simp only [putAll, Act.put, List.setIfInBounds_toArray, List.set_cons_zero, List.set_cons_succ]
            rfl
           refine one_ (i := 6) (N := some 87) (bt_ 255 9) rfl rfl (one_of HT_.out (by kernel_rfl)) (by decide) (fun K hK => ?_)
           refine goes_ Try.func20 (by kernel_rfl) rfl #[.agg #[.slice Ao164 t389.length co164, .int .i64 t392], .agg #[.int .i64 t393, .int .i64 t394, .int .i64 t395], .agg #[.int .i64 t396, .slice Ao165 t397.length co165]] (by rfl) rfl rfl al_ ?_
           with_reducible refine (impl_After.calls kj42 _ _ t389 t392 t393 t394 t395 t396 _ _ t397 t400 t403 _ ?side1 ?side2 ?side3 ?side4 A142.out).mono ?_
           (case side1 => repeat (first | exact (Kd.R_reads' HO391.out).2.2 | (with_reducible refine Kd.C_alloc ?_ _) | (with_reducible refine Kd.C_drewN ?_ _) | (with_reducible refine Kd.C_drew ?_)))
           (case side2 => exact (Kd.R_reads' HO391.out).2.1)
           (case side3 => repeat (first | exact (Kd.R_reads' HO399.out).2.2 | (with_reducible refine Kd.C_alloc ?_ _) | (with_reducible refine Kd.C_drewN ?_ _) | (with_reducible refine Kd.C_drew ?_)))
           (case side4 => exact (Kd.R_reads' HO399.out).2.1)
           rintro e w166 ⟨v401, rfl, ho0, hb⟩
           refine ⟨_, rfl, ?_⟩
           have HO402 := A_ (Kd.R_lower (Kd.R_new' (Kd.R_new' (Kd.R_new' (Kd.R_new' (Kd.R_new' (Kd.R_new' ho0 (Kd.R_lt (rb_ HO_352000.out))) (Kd.R_lt (rb_ HO_357000.out))) (Kd.R_lt (rb_ HO_362001.out))) (Kd.R_lt (rb_ HO_370000.out))) (Kd.R_lt (rb_ HO391.out))) (Kd.R_lt (rb_ HO399.out))) (below_size (hb_ HB)))
           replace HO_352000 := A_ (Kd.R_elder' (rb_ HO_352000.out) (Kd.R_base ho0) hb)
           replace HO_357000 := A_ (Kd.R_elder' (rb_ HO_357000.out) (Kd.R_base ho0) hb)
           replace HO_362001 := A_ (Kd.R_elder' (rb_ HO_362001.out) (Kd.R_base ho0) hb)
           replace HO_370000 := A_ (Kd.R_elder' (rb_ HO_370000.out) (Kd.R_base ho0) hb)
           replace HO391 := A_ (Kd.R_elder' (rb_ HO391.out) (Kd.R_base ho0) hb)
           replace HO399 := A_ (Kd.R_elder' (rb_ HO399.out) (Kd.R_base ho0) hb)
           replace BK331 := bb_ BK331 hb
           replace BK332 := bb_ BK332 hb
           replace BK333 := bb_ BK333 hb
           replace BK351 := bb_ BK351 hb
           replace BK356 := bb_ BK356 hb
           replace BK361 := bb_ BK361 hb
           replace BK369 := bb_ BK369 hb
           replace BK404 := bb_ BK404 hb
           replace HB := hs_ HB hb
           (try clear hb)
           (try clear hb2)
           (try clear hk)
           (try clear hi)
           (try clear ho0)
           refine hK.out _ _ ⟨(blk_cell BK331.out 0).trans rfl, (blk_cell BK331.out 1).trans rfl, (blk_cell BK332.out 0).trans rfl, (blk_cell BK332.out 1).trans rfl, (blk_cell BK332.out 2).trans rfl, (blk_cell BK333.out 0).trans rfl, (blk_cell BK333.out 1).trans rfl⟩ (fun hHeld => ?_)
           clear hK K
           refine norm_ (a' := ?_) ?_ ?_
           rotate_left
           ·
            show Act.put _ (some 87) _ = _
            simp only [Act.put, List.setIfInBounds_toArray, List.set_cons_zero, List.set_cons_succ, i64_w, i32_w]
            rfl
           exact norm_ nm_ (hJ1_3_5_6_7 (.slice Ao164 t389.length co164, .slice Ao165 t397.length co165, v401, gb404) _ ⟨hHeld, (by (with_reducible repeat (first | apply Kd.R_alloc | apply Kd.R_drewN | apply Kd.R_drew)); exact Kd.R_mono HO391.out (fun _ hk => ⟨hk.1.1, ⟨hk.2, ⟨hk.1.2.1, ⟨hk.1.2.2.1, ⟨hk.1.2.2.2.1, hk.1.2.2.2.2⟩⟩⟩⟩⟩)), (by (with_reducible repeat (first | apply Kd.R_alloc | apply Kd.R_drewN | apply Kd.R_drew)); exact Kd.R_mono HO399.out (fun _ hk => ⟨hk.1.1, ⟨hk.2, ⟨hk.1.2.1, ⟨hk.1.2.2.1, ⟨hk.1.2.2.2.1, hk.1.2.2.2.2⟩⟩⟩⟩⟩)), (by (with_reducible repeat (first | apply Kd.R_alloc | apply Kd.R_drewN | apply Kd.R_drew)); exact Kd.R_mono HO402.out (fun _ hk => ⟨hk.1.2, ⟨hk.2, ⟨hk.1.1.1.1.1.2, ⟨hk.1.1.1.1.2, ⟨hk.1.1.1.2, hk.1.1.2⟩⟩⟩⟩⟩)), (by (with_reducible repeat (first | apply Kd.R_alloc | apply Kd.R_drewN | apply Kd.R_drew)); exact Kd.R_mono HO_352000.out (fun _ hk => ⟨hk.1.1, ⟨hk.1.2.1, ⟨hk.2, ⟨hk.1.2.2.1, ⟨hk.1.2.2.2.1, hk.1.2.2.2.2⟩⟩⟩⟩⟩)), (by (with_reducible repeat (first | apply Kd.R_alloc | apply Kd.R_drewN | apply Kd.R_drew)); exact Kd.R_mono HO_357000.out (fun _ hk => ⟨hk.1.1, ⟨hk.1.2.1, ⟨hk.2, ⟨hk.1.2.2.1, ⟨hk.1.2.2.2.1, hk.1.2.2.2.2⟩⟩⟩⟩⟩)), (by (with_reducible repeat (first | apply Kd.R_alloc | apply Kd.R_drewN | apply Kd.R_drew)); exact Kd.R_mono HO_362001.out (fun _ hk => ⟨hk.1.1, ⟨hk.1.2.1, ⟨hk.2, ⟨hk.1.2.2.1, ⟨hk.1.2.2.2.1, hk.1.2.2.2.2⟩⟩⟩⟩⟩)), (by (with_reducible repeat (first | apply Kd.R_alloc | apply Kd.R_drewN | apply Kd.R_drew)); exact Kd.R_mono HO_370000.out (fun _ hk => ⟨hk.1.1, ⟨hk.1.2.1, ⟨hk.2, ⟨hk.1.2.2.1, ⟨hk.1.2.2.2.1, hk.1.2.2.2.2⟩⟩⟩⟩⟩)), (bk_ BK331), (bk_ BK332), (bk_ BK333), (bk_ BK351), (bk_ BK356), (bk_ BK361), (bk_ BK369), (bk_ BK404), GW404.out, GW404.out, NB331_404.out, NB404_331.out, NB332_404.out, NB404_332.out, NB333_404.out, NB404_333.out, NB351_404.out, NB404_351.out, NB356_404.out, NB404_356.out, NB361_404.out, NB404_361.out, NB369_404.out, NB404_369.out, (hb_ HB)⟩)
          skip
          rintro ⟨v390, v398, v401⟩ w165 ⟨hS_, h0_, h1_, h2_, h3_, h4_, h5_, h6_, h7_, h8_, h9_, h10_, h11_, h12_, h13_, h14_⟩
          (try dsimp only at h0_ h1_ h2_ h3_ h4_ h5_ h6_ h7_ h8_ h9_ h10_ h11_ h12_ h13_ h14_)
          clear HO_352000 HO_357000 HO_362001 HO_370000 BK331 BK332 BK333 BK351 BK356 BK361 BK369 HB
          have HO391 := A_ h0_
          have HO399 := A_ h1_
          have HO402 := A_ h2_
          have HO_352000 := A_ h3_
          have HO_357000 := A_ h4_
          have HO_362001 := A_ h5_
          have HO_370000 := A_ h6_
          have BK331 := A_ h7_
          have BK332 := A_ h8_
          have BK333 := A_ h9_
          have BK351 := A_ h10_
          have BK356 := A_ h11_
          have BK361 := A_ h12_
          have BK369 := A_ h13_
          have HB := A_ h14_
          clear h0_ h1_ h2_ h3_ h4_ h5_ h6_ h7_ h8_ h9_ h10_ h11_ h12_ h13_ h14_
          (try dsimp only at hS_)
          have hHeld := hS_
          refine norm_ (a' := ?_) ?_ ?_
          rotate_left
          ·
           simp only [putAll, Act.put, List.setIfInBounds_toArray, List.set_cons_zero, List.set_cons_succ]
           rfl
          refine one_ (i := 7) (N := some 15) (bt_ 255 9) rfl rfl (one_of HT_.out (by kernel_rfl)) (by decide) (fun K hK => ?_)
          refine box_step ?hg (N := 15) ?hd (cs := #[.slice none 0 0, .int .i64 0]) (t := 44) ?hr ?_; (case hd => rfl); (case hg => rfl); (case hr => first | (go_simp; done) | (go_simp; rfl))
          intro gb404 hg w166 hbox hb
          have BK404 := A_ hbox
          have GW404 := gs_ HB hg
          have NB331_404 := ng_ BK331 hg
          have NB404_331 := ns_ (ng_ BK331 hg)
          have NB332_404 := ng_ BK332 hg
          have NB404_332 := ns_ (ng_ BK332 hg)
          have NB333_404 := ng_ BK333 hg
          have NB404_333 := ns_ (ng_ BK333 hg)
          have NB351_404 := ng_ BK351 hg
          have NB404_351 := ns_ (ng_ BK351 hg)
          have NB356_404 := ng_ BK356 hg
          have NB404_356 := ns_ (ng_ BK356 hg)
          have NB361_404 := ng_ BK361 hg
          have NB404_361 := ns_ (ng_ BK361 hg)
          have NB369_404 := ng_ BK369 hg
          have NB404_369 := ns_ (ng_ BK369 hg)
          replace HO_352000 := A_ (Kd.R_below (rb_ HO_352000.out) hb)
          replace HO_357000 := A_ (Kd.R_below (rb_ HO_357000.out) hb)
          replace HO_362001 := A_ (Kd.R_below (rb_ HO_362001.out) hb)
          replace HO_370000 := A_ (Kd.R_below (rb_ HO_370000.out) hb)
          replace HO391 := A_ (Kd.R_below (rb_ HO391.out) hb)
          replace HO399 := A_ (Kd.R_below (rb_ HO399.out) hb)
          replace HO402 := A_ (Kd.R_below (rb_ HO402.out) hb)
          replace BK331 := bb_ BK331 hb
          replace BK332 := bb_ BK332 hb
          replace BK333 := bb_ BK333 hb
          replace BK351 := bb_ BK351 hb
          replace BK356 := bb_ BK356 hb
          replace BK361 := bb_ BK361 hb
          replace BK369 := bb_ BK369 hb
          replace HB := hs_ HB hb
          clear hb hbox hg
          refine hK.out _ _ ⟨(blk_cell BK331.out 0).trans rfl, (blk_cell BK331.out 1).trans rfl, (blk_cell BK332.out 0).trans rfl, (blk_cell BK332.out 1).trans rfl, (blk_cell BK332.out 2).trans rfl, (blk_cell BK333.out 0).trans rfl, (blk_cell BK333.out 1).trans rfl⟩ (fun hHeld => ?_)
          clear hK K
          refine norm_ (a' := ?_) ?_ ?_
          rotate_left
          ·
           show Act.put _ (some 15) _ = _
           simp only [Act.put, List.setIfInBounds_toArray, List.set_cons_zero, List.set_cons_succ, i64_w, i32_w]
           rfl
          exact norm_ nm_ (hJ1_3_5_6_7 (v390, v398, v401, gb404) _ ⟨hHeld, (rb_ HO391.out), (rb_ HO399.out), (rb_ HO402.out), (rb_ HO_352000.out), (rb_ HO_357000.out), (rb_ HO_362001.out), (rb_ HO_370000.out), (bk_ BK331), (bk_ BK332), (bk_ BK333), (bk_ BK351), (bk_ BK356), (bk_ BK361), (bk_ BK369), (bk_ BK404), GW404.out, GW404.out, NB331_404.out, NB404_331.out, NB332_404.out, NB404_332.out, NB333_404.out, NB404_333.out, NB351_404.out, NB404_351.out, NB356_404.out, NB404_356.out, NB361_404.out, NB404_361.out, NB369_404.out, NB404_369.out, (hb_ HB)⟩)
         rintro ⟨v390, v398, v401, gb404⟩ w166 ⟨hS_, h0_, h1_, h2_, h3_, h4_, h5_, h6_, h7_, h8_, h9_, h10_, h11_, h12_, h13_, h14_, h15_, h16_, h17_, h18_, h19_, h20_, h21_, h22_, h23_, h24_, h25_, h26_, h27_, h28_, h29_, h30_, h31_⟩
         (try dsimp only at h0_ h1_ h2_ h3_ h4_ h5_ h6_ h7_ h8_ h9_ h10_ h11_ h12_ h13_ h14_ h15_ h16_ h17_ h18_ h19_ h20_ h21_ h22_ h23_ h24_ h25_ h26_ h27_ h28_ h29_ h30_ h31_)
         clear HO_352000 HO_357000 HO_362001 HO_370000 BK331 BK332 BK333 BK351 BK356 BK361 BK369 HB
         have HO391 := A_ h0_
         have HO399 := A_ h1_
         have HO402 := A_ h2_
         have HO_352000 := A_ h3_
         have HO_357000 := A_ h4_
         have HO_362001 := A_ h5_
         have HO_370000 := A_ h6_
         have BK331 := A_ h7_
         have BK332 := A_ h8_
         have BK333 := A_ h9_
         have BK351 := A_ h10_
         have BK356 := A_ h11_
         have BK361 := A_ h12_
         have BK369 := A_ h13_
         have BK404 := A_ h14_
         have GW404 := A_ h15_
         have NB331_404 := A_ h17_
         have NB404_331 := A_ h18_
         have NB332_404 := A_ h19_
         have NB404_332 := A_ h20_
         have NB333_404 := A_ h21_
         have NB404_333 := A_ h22_
         have NB351_404 := A_ h23_
         have NB404_351 := A_ h24_
         have NB356_404 := A_ h25_
         have NB404_356 := A_ h26_
         have NB361_404 := A_ h27_
         have NB404_361 := A_ h28_
         have NB369_404 := A_ h29_
         have NB404_369 := A_ h30_
         have HB := A_ h31_
         clear h0_ h1_ h2_ h3_ h4_ h5_ h6_ h7_ h8_ h9_ h10_ h11_ h12_ h13_ h14_ h15_ h16_ h17_ h18_ h19_ h20_ h21_ h22_ h23_ h24_ h25_ h26_ h27_ h28_ h29_ h30_ h31_
         (try dsimp only at hS_)
         have hHeld := hS_
         obtain ⟨Ao167, co167, eo167⟩ := Kd.R_slice HO402.out
         (first | subst eo167 | (injection eo167 with f1_ f2_ f3_; have f4_ := f1_.symm; have f5_ := f3_.symm; clear f1_ f2_ f3_; subst f4_; subst f5_))
         refine norm_ (a' := ?_) ?_ ?_
         rotate_left
         ·
          simp only [putAll, Act.put, List.setIfInBounds_toArray, List.set_cons_zero, List.set_cons_succ]
          rfl
         refine one_ (i := 8) (N := none) (bt_ 511 9) rfl rfl (one_of HT_.out (by kernel_rfl)) (by decide) (fun K hK => ?_)
         have hs168 : w166.cell? ⟨gb404, 0, none⟩ = some (.slice none 0 0) := (blk_cell BK404.out 0).trans rfl
         have hfs168 := blk_frozen BK404.out 0
         have hns168_0 := NB331_404.out
         have hns168_1 := NB332_404.out
         have hns168_2 := NB333_404.out
         have hns168_3 := NB351_404.out
         have hns168_4 := NB356_404.out
         have hns168_5 := NB361_404.out
         have hns168_6 := NB369_404.out
         have hms168_0 := NB404_331.out
         have hms168_1 := NB404_332.out
         have hms168_2 := NB404_333.out
         have hms168_3 := NB404_351.out
         have hms168_4 := NB404_356.out
         have hms168_5 := NB404_361.out
         have hms168_6 := NB404_369.out
         have hs169 : w166.cell? ⟨gb404, 1, none⟩ = some (.int .i64 0) := (blk_cell BK404.out 1).trans rfl
         have hfs169 := blk_frozen BK404.out 1
         have hns169_0 := NB331_404.out
         have hns169_1 := NB332_404.out
         have hns169_2 := NB333_404.out
         have hns169_3 := NB351_404.out
         have hns169_4 := NB356_404.out
         have hns169_5 := NB361_404.out
         have hns169_6 := NB369_404.out
         have hms169_0 := NB404_331.out
         have hms169_1 := NB404_332.out
         have hms169_2 := NB404_333.out
         have hms169_3 := NB404_351.out
         have hms169_4 := NB404_356.out
         have hms169_5 := NB404_361.out
         have hms169_6 := NB404_369.out
         refine skip_ (w1 := ?_) (by rfl) rfl ?_ ?_
         rotate_left
         ·
          go_simp
          rfl
         refine hK.out _ _ ⟨((cell_far (p := ⟨gb404, _, none⟩) NB331_404.out _).trans (((cell_far (p := ⟨gb404, _, none⟩) NB331_404.out _).trans (hHeld.1)))), ((cell_far (p := ⟨gb404, _, none⟩) NB331_404.out _).trans (((cell_far (p := ⟨gb404, _, none⟩) NB331_404.out _).trans (hHeld.2.1)))), ((cell_far (p := ⟨gb404, _, none⟩) NB332_404.out _).trans (((cell_far (p := ⟨gb404, _, none⟩) NB332_404.out _).trans (hHeld.2.2.1)))), ((cell_far (p := ⟨gb404, _, none⟩) NB332_404.out _).trans (((cell_far (p := ⟨gb404, _, none⟩) NB332_404.out _).trans (hHeld.2.2.2.1)))), ((cell_far (p := ⟨gb404, _, none⟩) NB332_404.out _).trans (((cell_far (p := ⟨gb404, _, none⟩) NB332_404.out _).trans (hHeld.2.2.2.2.1)))), ((cell_far (p := ⟨gb404, _, none⟩) NB333_404.out _).trans (((cell_far (p := ⟨gb404, _, none⟩) NB333_404.out _).trans (hHeld.2.2.2.2.2.1)))), ((cell_far (p := ⟨gb404, _, none⟩) NB333_404.out _).trans (((cell_far (p := ⟨gb404, _, none⟩) NB333_404.out _).trans (hHeld.2.2.2.2.2.2))))⟩ (fun hHeld => ?_)
         clear hK K
         refine done_ (done_of HT_.out (by kernel_rfl)) ?_
         have hnb170 := NB404_331.out
         have hnc170 := NB331_404.out
         have hnb171 := NB404_332.out
         have hnc171 := NB332_404.out
         have hnb172 := NB404_333.out
         have hnc172 := NB333_404.out
         have hnb173 := NB404_351.out
         have hnc173 := NB351_404.out
         have hnb174 := NB404_356.out
         have hnc174 := NB356_404.out
         have hnb175 := NB404_361.out
         have hnc175 := NB361_404.out
         have hnb176 := NB404_369.out
         have hnc176 := NB369_404.out
         obtain ⟨hcz177_0, hcz177_1, hfz177_0, hfz177_1⟩ := cz2_ BK404
         have hnb178 := NB351_331.out
         have hnc178 := NB331_351.out
         have hnb179 := NB351_332.out
         have hnc179 := NB332_351.out
         have hnb180 := NB351_333.out
         have hnc180 := NB333_351.out
         have hnb181 := NB351_356.out
         have hnc181 := NB356_351.out
         have hnb182 := NB351_361.out
         have hnc182 := NB361_351.out
         obtain ⟨hcz183_0, hcz183_1, hfz183_0, hfz183_1⟩ := cz2_ BK351
         try go_wp2_with (first | ((with_reducible refine gate_callee (f := 21) rfl ?_); refine goesL_ (some 90) rfl rfl Try.func21 (by kernel_rfl) rfl #[.agg #[.slice Ao167 t400.length co167, .int .i64 t403], .agg #[.slice Ao63 t347.length co63, .int .i64 t350]] rfl al_ ?_; (with_reducible refine (laws_eqRows.calls kj42 _ _ t400 t403 _ _ t347 t350 true _ ?side1 ?side2 ?side3 ?side4 A143.out).mono ?_); (case side1 => refine (Kd.R_reads' (e := 3) (base := w.heap.size) (ok := fun k_ => (some k_ ≠ (v390 : Value).ownBlock ∧ (some k_ ≠ (v398 : Value).ownBlock ∧ (some k_ ≠ (.slice Ao63 t347.length co63 : Value).ownBlock ∧ (some k_ ≠ (.slice Ao70 t382.length co70 : Value).ownBlock ∧ (some k_ ≠ (.slice Ao86 t384.length co86 : Value).ownBlock ∧ some k_ ≠ (.slice Ao93 t365.length co93 : Value).ownBlock)))))) (n := t400.length) (c := co167) ?_).2.2; exact (by (with_reducible repeat (first | apply Kd.R_alloc | apply Kd.R_drewN | apply Kd.R_drew)); exact (Kd.R_mono (Kd.R_far (p := ⟨gb404, 1, none⟩) (Kd.R_far (p := ⟨gb404, 0, none⟩) (Kd.R_types HO402.out BK404.out (by decide)) (fun _ hk => hk.2) (.slice Ao167 t400.length co167)) (fun _ hk => hk.2) (.int .i64 t403)) (fun _ h_ => h_.1)))); (case side2 => exact (Kd.R_reads' HO402.out).2.1); (case side3 => refine (Kd.R_reads' (e := 3) (base := w.heap.size) (ok := fun k_ => (some k_ ≠ (v390 : Value).ownBlock ∧ (some k_ ≠ (v398 : Value).ownBlock ∧ (some k_ ≠ (.slice Ao167 t400.length co167 : Value).ownBlock ∧ (some k_ ≠ (.slice Ao70 t382.length co70 : Value).ownBlock ∧ (some k_ ≠ (.slice Ao86 t384.length co86 : Value).ownBlock ∧ some k_ ≠ (.slice Ao93 t365.length co93 : Value).ownBlock)))))) (n := t347.length) (c := co63) ?_).2.2; exact (by (with_reducible repeat (first | apply Kd.R_alloc | apply Kd.R_drewN | apply Kd.R_drew)); exact (Kd.R_mono (Kd.R_far (p := ⟨gb404, 1, none⟩) (Kd.R_far (p := ⟨gb404, 0, none⟩) (Kd.R_types HO_352000.out BK404.out (by decide)) (fun _ hk => hk.2) (.slice Ao167 t400.length co167)) (fun _ hk => hk.2) (.int .i64 t403)) (fun _ h_ => h_.1)))); (case side4 => exact (Kd.R_reads' HO_352000.out).2.1); rintro e w184 ⟨rfl, hb⟩; refine ⟨_, rfl, ?_⟩; replace HO_352000 := A_ (Kd.R_below (by (with_reducible repeat (first | apply Kd.R_alloc | apply Kd.R_drewN | apply Kd.R_drew)); exact (Kd.R_mono (Kd.R_far (p := ⟨gb404, 1, none⟩) (Kd.R_far (p := ⟨gb404, 0, none⟩) (Kd.R_types HO_352000.out BK404.out (by decide)) (fun _ hk => hk.2) (.slice Ao167 t400.length co167)) (fun _ hk => hk.2) (.int .i64 t403)) (fun _ h_ => h_.1))) hb); replace HO_357000 := A_ (Kd.R_below (by (with_reducible repeat (first | apply Kd.R_alloc | apply Kd.R_drewN | apply Kd.R_drew)); exact (Kd.R_mono (Kd.R_far (p := ⟨gb404, 1, none⟩) (Kd.R_far (p := ⟨gb404, 0, none⟩) (Kd.R_types HO_357000.out BK404.out (by decide)) (fun _ hk => hk.2) (.slice Ao167 t400.length co167)) (fun _ hk => hk.2) (.int .i64 t403)) (fun _ h_ => h_.1))) hb); replace HO_362001 := A_ (Kd.R_below (by (with_reducible repeat (first | apply Kd.R_alloc | apply Kd.R_drewN | apply Kd.R_drew)); exact (Kd.R_mono (Kd.R_far (p := ⟨gb404, 1, none⟩) (Kd.R_far (p := ⟨gb404, 0, none⟩) (Kd.R_types HO_362001.out BK404.out (by decide)) (fun _ hk => hk.2) (.slice Ao167 t400.length co167)) (fun _ hk => hk.2) (.int .i64 t403)) (fun _ h_ => h_.1))) hb); replace HO_370000 := A_ (Kd.R_below (by (with_reducible repeat (first | apply Kd.R_alloc | apply Kd.R_drewN | apply Kd.R_drew)); exact (Kd.R_mono (Kd.R_far (p := ⟨gb404, 1, none⟩) (Kd.R_far (p := ⟨gb404, 0, none⟩) (Kd.R_types HO_370000.out BK404.out (by decide)) (fun _ hk => hk.2) (.slice Ao167 t400.length co167)) (fun _ hk => hk.2) (.int .i64 t403)) (fun _ h_ => h_.1))) hb); replace HO391 := A_ (Kd.R_below (by (with_reducible repeat (first | apply Kd.R_alloc | apply Kd.R_drewN | apply Kd.R_drew)); exact (Kd.R_mono (Kd.R_far (p := ⟨gb404, 1, none⟩) (Kd.R_far (p := ⟨gb404, 0, none⟩) (Kd.R_types HO391.out BK404.out (by decide)) (fun _ hk => hk.2) (.slice Ao167 t400.length co167)) (fun _ hk => hk.2) (.int .i64 t403)) (fun _ h_ => h_.1))) hb); replace HO399 := A_ (Kd.R_below (by (with_reducible repeat (first | apply Kd.R_alloc | apply Kd.R_drewN | apply Kd.R_drew)); exact (Kd.R_mono (Kd.R_far (p := ⟨gb404, 1, none⟩) (Kd.R_far (p := ⟨gb404, 0, none⟩) (Kd.R_types HO399.out BK404.out (by decide)) (fun _ hk => hk.2) (.slice Ao167 t400.length co167)) (fun _ hk => hk.2) (.int .i64 t403)) (fun _ h_ => h_.1))) hb); replace HO402 := A_ (Kd.R_below (by (with_reducible repeat (first | apply Kd.R_alloc | apply Kd.R_drewN | apply Kd.R_drew)); exact (Kd.R_mono (Kd.R_far (p := ⟨gb404, 1, none⟩) (Kd.R_far (p := ⟨gb404, 0, none⟩) (Kd.R_types HO402.out BK404.out (by decide)) (fun _ hk => hk.2) (.slice Ao167 t400.length co167)) (fun _ hk => hk.2) (.int .i64 t403)) (fun _ h_ => h_.1))) hb); replace BK331 := bb_ BK331 hb; replace BK332 := bb_ BK332 hb; replace BK333 := bb_ BK333 hb; replace BK351 := bb_ BK351 hb; replace BK356 := bb_ BK356 hb; replace BK361 := bb_ BK361 hb; replace BK369 := bb_ BK369 hb; replace BK404 := bq_ (o' := .cells #[.slice Ao167 t400.length co167, .int .i64 t403] 44 (0, 0)) BK404 hb; replace HB := hs_ HB hb; (try clear hb); (try clear hb2); (try clear hk); (try clear hi); obtain ⟨hcz185_0, hcz185_1, hfz185_0, hfz185_1⟩ := cz2_ BK369) | ((with_reducible refine gate_callee (f := 25) rfl ?_); refine goesL_ (some 94) rfl rfl Try.func25 (by kernel_rfl) rfl #[.agg #[.slice Ao93 t387.length co93, .int .i64 t368], .int .i64 1] rfl (by (try simp only [List.map_toArray, List.map_cons, List.map_nil]); first | done | (rw [show t387.length = t365.length from (Kd.R_reads' HO_370000.out).1.symm] <;> rfl) | rfl | (simp only [List.length_drop, List.length_take]; rfl)) ?_; (with_reducible refine (laws_heldRows.calls kj42 _ _ t387 t368 1 t406 _ ?side1 ?side2 A145.out).mono ?_); (case side1 => repeat (first | exact (Kd.R_reads' HO_370000.out).2.2 | (with_reducible refine Kd.C_alloc ?_ _) | (with_reducible refine Kd.C_drewN ?_ _) | (with_reducible refine Kd.C_drew ?_))); (case side2 => rw [show t387.length = t365.length from (Kd.R_reads' HO_370000.out).1.symm]; exact (Kd.R_reads' HO_370000.out).2.1); rintro e w186 ⟨rfl, hb⟩; refine ⟨_, rfl, ?_⟩; replace HO_352000 := A_ (Kd.R_below (rb_ HO_352000.out) hb); replace HO_357000 := A_ (Kd.R_below (rb_ HO_357000.out) hb); replace HO_362001 := A_ (Kd.R_below (rb_ HO_362001.out) hb); replace HO_370000 := A_ (Kd.R_below (rb_ HO_370000.out) hb); replace HO391 := A_ (Kd.R_below (rb_ HO391.out) hb); replace HO399 := A_ (Kd.R_below (rb_ HO399.out) hb); replace HO402 := A_ (Kd.R_below (rb_ HO402.out) hb); replace BK331 := bb_ BK331 hb; replace BK332 := bb_ BK332 hb; replace BK333 := bb_ BK333 hb; replace BK351 := bb_ BK351 hb; replace BK356 := bb_ BK356 hb; replace BK361 := bb_ BK361 hb; replace BK369 := bb_ BK369 hb; replace BK404 := bb_ BK404 hb; replace HB := hs_ HB hb; (try clear hb); (try clear hb2); (try clear hk); (try clear hi)))
         go_ret
         exact ⟨rs_, hb_ HB⟩
        exact absurd H (by simp)
       obtain rfl := Bool.eq_false_iff.mpr c144
       replace H := iF_ H
       exact absurd H (by simp)
      exact absurd H (by simp)
   obtain rfl := Bool.eq_false_iff.mpr c40
   replace H := iF_ H
   exact absurd H (by simp)
  obtain rfl := Bool.eq_false_iff.mpr c37
  replace H := iF_ H
  exact absurd H (by simp)
 obtain rfl := Bool.eq_false_iff.mpr c34
 replace H := iF_ H
 exact absurd H (by simp)

end Go.Proofs.Ytmkhghbalnadlaa.PFnExactAfter
