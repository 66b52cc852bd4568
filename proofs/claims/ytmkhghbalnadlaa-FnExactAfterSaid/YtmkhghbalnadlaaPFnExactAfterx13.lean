/- Contracts of functions of the program: each says that the call does what a plain Lean function tells. Made by programs of this session and of the kit. No condition beyond the hypotheses that each theorem names. -/
import Derived.Test.YtmkhghbalnadlaaPFnExactAfterx0
import Derived.Test.YtmkhghbalnadlaaPFnExactAfterx12
namespace Go.Proofs.Ytmkhghbalnadlaa.PFnExactAfter
open Go.RowKit Go.Proofs.YtmkhghbalnadlaaW.PrintWords Go.Proofs.YtmkhghbalnadlaaW.PrintLast Go.Proofs.YtmkhghbalnadlaaW.PrintMore
attribute [local go_sem] max2_int min2_int max_two min_two max_three min_three max_four min_four   -- for this text's walks alone
set_option linter.unusedVariables false
set_option linter.unusedSimpArgs false

/-! ### impl_After: function 20 -/
mutual
def impl_After.j0 : Nat → Bool → Int → Int → Int → List Int → Int → Option (List Int × Int)
 | 0, _, _, _, _, _, _ => none
 | k + 1, x19, x303000, x303001, x303002, x310000, x310001 => if x19 = true then (some (x310000, x310001)) else (if x303000 = 1 then (impl_After.j1 k x303000 (x303000 == 1) x303000 x303001 x303002 x310000 x310001) else (impl_After.j1 k x303000 (x303000 == 2) x303000 x303001 x303002 x310000 x310001))
def impl_After.j1 : Nat → Int → Bool → Int → Int → Int → List Int → Int → Option (List Int × Int)
 | 0, _, _, _, _, _, _, _ => none
 | k + 1, x22, x23, x303000, x303001, x303002, x310000, x310001 => if x23 = true then (if 0 ≤ x303001 then (if x303001 < (x310000.length : Int) then (some ((x310000.set (x303001 : Int).toNat x303002), x310001)) else (none)) else (none)) else (if x22 = 3 then (if 0 ≤ x303001 then (if x303001 < (x310000.length : Int) then (some ((x310000.set (x303001 : Int).toNat 0), x310001)) else (none)) else (none)) else (if x22 = 8 then (some (x310000, wrap64 (x310001 + 1))) else (if x22 = 9 then (some (x310000, wrap64 (x310001 + 1))) else (some (x310000, x310001)))))
end
def impl_After.f (k : Nat) (l0_0 : List Int) (a0_1 : Int) (a1_0 : Int) (a1_1 : Int) (a1_2 : Int) (a2_0 : Int) (l2_1 : List Int) : Option (List Int × Int) := (impl_copyRows.f l0_0 a0_1).bind fun bt305 => ((impl_Allowed.f k l0_0 a0_1 a1_0 a1_1 a1_2 a2_0 l2_1).bind fun t310 => (if t310 = true then (impl_After.j0 k (a2_0 != 0) a1_0 a1_1 a1_2 bt305.1 bt305.2) else (impl_After.j0 k true a1_0 a1_1 a1_2 bt305.1 bt305.2)))
theorem impl_After.mono_l : ∀ k, (∀ y0 y1 y2 y3 y4 y5, LeO (impl_After.j0 k y0 y1 y2 y3 y4 y5) (impl_After.j0 (k + 1) y0 y1 y2 y3 y4 y5)) ∧ (∀ y0 y1 y2 y3 y4 y5 y6, LeO (impl_After.j1 k y0 y1 y2 y3 y4 y5 y6) (impl_After.j1 (k + 1) y0 y1 y2 y3 y4 y5 y6))
 | 0 => ⟨fun _ _ _ _ _ _ r h => by simp [impl_After.j0] at h, fun _ _ _ _ _ _ _ r h => by simp [impl_After.j1] at h⟩
 | k + 1 => by
  obtain ⟨ih0, ih1⟩ := impl_After.mono_l k
  refine ⟨?_, ?_⟩
  ·
   intro y0 y1 y2 y3 y4 y5
   unfold impl_After.j0
   repeat' first
   | (with_reducible exact ih0 _ _ _ _ _ _)
   | (with_reducible exact ih1 _ _ _ _ _ _ _)
   | (with_reducible exact impl_Allowed.mono _ _ _ _ _ _ _ _)
   | (with_reducible exact LeO.refl _)
   | (with_reducible exact LeO.none _)
   | (with_reducible refine LeO.ite ?_ ?_)
   | (with_reducible refine LeO.bind ?_ (fun _ => ?_))
   | exact ih0 _ _ _ _ _ _
   | exact ih1 _ _ _ _ _ _ _
   | exact impl_Allowed.mono _ _ _ _ _ _ _ _
   | exact LeO.none _
   | refine LeO.ite ?_ ?_
   | refine LeO.bind ?_ (fun _ => ?_)
  intro y0 y1 y2 y3 y4 y5 y6
  unfold impl_After.j1
  repeat' first
  | (with_reducible exact ih0 _ _ _ _ _ _)
  | (with_reducible exact ih1 _ _ _ _ _ _ _)
  | (with_reducible exact impl_Allowed.mono _ _ _ _ _ _ _ _)
  | (with_reducible exact LeO.refl _)
  | (with_reducible exact LeO.none _)
  | (with_reducible refine LeO.ite ?_ ?_)
  | (with_reducible refine LeO.bind ?_ (fun _ => ?_))
  | exact ih0 _ _ _ _ _ _
  | exact ih1 _ _ _ _ _ _ _
  | exact impl_Allowed.mono _ _ _ _ _ _ _ _
  | exact LeO.none _
  | refine LeO.ite ?_ ?_
  | refine LeO.bind ?_ (fun _ => ?_)
theorem impl_After.mono : ∀ a0 a1 a2 a3 a4 a5 a6 k, LeO (impl_After.f k a0 a1 a2 a3 a4 a5 a6) (impl_After.f (k + 1) a0 a1 a2 a3 a4 a5 a6) := by
 intro a0 a1 a2 a3 a4 a5 a6 k
 obtain ⟨ih0, ih1⟩ := impl_After.mono_l k
 unfold impl_After.f
 repeat' first
   | (with_reducible exact ih0 _ _ _ _ _ _)
   | (with_reducible exact ih1 _ _ _ _ _ _ _)
   | (with_reducible exact impl_Allowed.mono _ _ _ _ _ _ _ _)
   | (with_reducible exact LeO.refl _)
   | (with_reducible exact LeO.none _)
   | (with_reducible refine LeO.ite ?_ ?_)
   | (with_reducible refine LeO.bind ?_ (fun _ => ?_))
   | exact ih0 _ _ _ _ _ _
   | exact ih1 _ _ _ _ _ _ _
   | exact impl_Allowed.mono _ _ _ _ _ _ _ _
   | exact LeO.none _
   | refine LeO.ite ?_ ?_
   | refine LeO.bind ?_ (fun _ => ?_)
set_option maxHeartbeats 8000000 in
set_option maxRecDepth 100000 in
theorem impl_After.calls (k : Nat) (A0_0 : Option Addr) (c0_0 : Nat) (l0_0 : List Int) (a0_1 : Int) (a1_0 : Int) (a1_1 : Int) (a1_2 : Int) (a2_0 : Int) (A2_1 : Option Addr) (c2_1 : Nat) (l2_1 : List Int) (r1 : List Int) (r2 : Int) (w : World) (hr0_0 : Kd.C (Kd.int .i64) w A0_0 l0_0.length l0_0) (hc0_0 : l0_0.length ≤ c0_0) (hr2_1 : Kd.C (Kd.int .i64) w A2_1 l2_1.length l2_1) (hc2_1 : l2_1.length ≤ c2_1) (h : impl_After.f k l0_0 a0_1 a1_0 a1_1 a1_2 a2_0 l2_1 = some (r1, r2)) :
    Calls Try.prog 20 #[.agg #[.slice A0_0 l0_0.length c0_0, .int .i64 a0_1], .agg #[.int .i64 a1_0, .int .i64 a1_1, .int .i64 a1_2], .agg #[.int .i64 a2_0, .slice A2_1 l2_1.length c2_1]] w fun e w' => ∃ v0_ : Value, e = .returned (.agg #[v0_, .int .i64 r2]) ∧ Kd.R (Kd.int .i64) 3 w' w.heap.size (fun _ => True) v0_ r1 ∧ Below w.heap.size w w' := by
 have hu44 := Try.underlying44
 have hu47 := Try.underlying47
 have hu49 := Try.underlying49
 have HR0_0 := A_ hr0_0
 have HC0_0 := A_ hc0_0
 clear hr0_0 hc0_0
 have HR2_1 := A_ hr2_1
 have HC2_1 := A_ hc2_1
 clear hr2_1 hc2_1
 have HB := A_ (Below.refl w.heap.size w)
 have H : ((impl_copyRows.f l0_0 a0_1).bind fun bt305 => ((impl_Allowed.f k l0_0 a0_1 a1_0 a1_1 a1_2 a2_0 l2_1).bind fun t310 => (if t310 = true then (impl_After.j0 k (a2_0 != 0) a1_0 a1_1 a1_2 bt305.1 bt305.2) else (impl_After.j0 k true a1_0 a1_1 a1_2 bt305.1 bt305.2)))) = some (r1, r2) := h
 clear h
 replace H := bs_ H
 obtain ⟨⟨t305, t308⟩, A4, H⟩ := H
 dsimp only at H
 have HC5 := A_ H
 clear H
 go_enter Try.func20, Try.ntmps20
 go_upto_region 2 with (first | (refine Y7_ ?_; clear HB; intro gb301 w6 BK301 GW301 HB) | ((with_reducible refine gate_dst (N := 4) rfl ?_); refine bx_ HB rfl (N := 4) rfl (cs := #[.int .i64 a1_0, .int .i64 a1_1, .int .i64 a1_2]) (t := 47) hr_ ?_; clear HB; intro gb302 w7 hg hb BK302 GW302 HB; have NB301_302 := ng_ BK301 hg; have NB302_301 := ns_ (ng_ BK301 hg); replace BK301 := bb_ BK301 hb; clear hb hg) | ((with_reducible refine gate_dst (N := 5) rfl ?_); refine bx_ HB rfl (N := 5) rfl (cs := #[.int .i64 a2_0, .slice A2_1 l2_1.length c2_1]) (t := 49) hr_ ?_; clear HB; intro gb303 w8 hg hb BK303 GW303 HB; have NB301_303 := ng_ BK301 hg; have NB303_301 := ns_ (ng_ BK301 hg); have NB302_303 := ng_ BK302 hg; have NB303_302 := ns_ (ng_ BK302 hg); replace BK301 := bb_ BK301 hb; replace BK302 := bb_ BK302 hb; clear hb hg) | ((with_reducible refine gate_dst (N := 6) rfl ?_); refine bx_ HB rfl (N := 6) rfl (cs := #[.slice none 0 0, .int .i64 0]) (t := 44) hr_ ?_; clear HB; intro gb304 w9 hg hb BK304 GW304 HB; have NB301_304 := ng_ BK301 hg; have NB304_301 := ns_ (ng_ BK301 hg); have NB302_304 := ng_ BK302 hg; have NB304_302 := ns_ (ng_ BK302 hg); have NB303_304 := ng_ BK303 hg; have NB304_303 := ns_ (ng_ BK303 hg); replace BK301 := bb_ BK301 hb; replace BK302 := bb_ BK302 hb; replace BK303 := bb_ BK303 hb; clear hb hg; have hnb10 := NB301_302.out; have hnc10 := NB302_301.out; have hnb11 := NB301_303.out; have hnc11 := NB303_301.out; have hnb12 := NB301_304.out; have hnc12 := NB304_301.out; obtain ⟨hcz13_0, hcz13_1, hfz13_0, hfz13_1⟩ := cz2_ BK301) | ((with_reducible refine gate_callee (f := 66) rfl ?_); refine goesL_ (some 9) rfl rfl Try.func66 (by kernel_rfl) rfl #[.agg #[.slice A0_0 l0_0.length c0_0, .int .i64 a0_1]] rfl al_ ?_; (with_reducible refine (impl_copyRows.calls _ _ l0_0 a0_1 t305 t308 _ ?side1 ?side2 A4.out).mono ?_); (case side1 => exact cb_ (Kd.C_below HR0_0.out HB.out)); (case side2 => exact HC0_0.out); rintro e w14 ⟨v306, rfl, ho0, hb⟩; refine ⟨_, rfl, ?_⟩; have HO307 := A_ (Kd.R_lower ho0 (below_size (hb_ HB))); replace BK301 := bb_ BK301 hb; replace BK302 := bb_ BK302 hb; replace BK303 := bb_ BK303 hb; replace BK304 := bb_ BK304 hb; replace HB := hs_ HB hb; (try clear hb); (try clear hb2); (try clear hk); (try clear hi); (try clear ho0)) | ((with_reducible refine gate_dst (N := 7) rfl ?_); refine bx_ HB rfl (N := 7) rfl (cs := #[.slice none 0 0, .int .i64 0]) (t := 44) hr_ ?_; clear HB; intro gb309 w15 hg hb BK309 GW309 HB; have NB301_309 := ng_ BK301 hg; have NB309_301 := ns_ (ng_ BK301 hg); have NB302_309 := ng_ BK302 hg; have NB309_302 := ns_ (ng_ BK302 hg); have NB303_309 := ng_ BK303 hg; have NB309_303 := ns_ (ng_ BK303 hg); have NB304_309 := ng_ BK304 hg; have NB309_304 := ns_ (ng_ BK304 hg); replace HO307 := A_ (Kd.R_below (rb_ HO307.out) hb); replace BK301 := bb_ BK301 hb; replace BK302 := bb_ BK302 hb; replace BK303 := bb_ BK303 hb; replace BK304 := bb_ BK304 hb; clear hb hg; obtain ⟨Ao16, co16, eo16⟩ := Kd.R_slice HO307.out; subst eo16; have hnb17 := NB309_301.out; have hnc17 := NB301_309.out; have hnb18 := NB309_302.out; have hnc18 := NB302_309.out; have hnb19 := NB309_303.out; have hnc19 := NB303_309.out; have hnb20 := NB309_304.out; have hnc20 := NB304_309.out; obtain ⟨hcz21_0, hcz21_1, hfz21_0, hfz21_1⟩ := cz2_ BK309))
 (try simp only [Act.put, List.setIfInBounds_toArray, List.set_cons_zero, List.set_cons_succ])
 go_cut [19] (fun v19 wc => ∃ (kq : Nat) (x19_4 : Bool), v19 = .bool x19_4 ∧ Aside0 (impl_After.j0 kq x19_4 a1_0 a1_1 a1_2 t305 t308 = some (r1, r2)) ∧ Aside0 (kq ≤ k) ∧ Aside0 (Kd.R (Kd.int .i64) 3 wc w.heap.size (fun _ => True) (.slice Ao16 t305.length co16) t305) ∧ Aside0 (wc.heap[gb301]? = some (.cells #[(.slice A0_0 l0_0.length c0_0), .int .i64 a0_1] 44 (0, 0))) ∧ Aside0 (wc.heap[gb302]? = some (.cells #[.int .i64 a1_0, .int .i64 a1_1, .int .i64 a1_2] 47 (0, 0))) ∧ Aside0 (wc.heap[gb303]? = some (.cells #[.int .i64 a2_0, (.slice A2_1 l2_1.length c2_1)] 49 (0, 0))) ∧ Aside0 (wc.heap[gb304]? = some (.cells #[(.slice none 0 0), .int .i64 0] 44 (0, 0))) ∧ Aside0 (wc.heap[gb309]? = some (.cells #[(.slice Ao16 t305.length co16), .int .i64 t308] 44 (0, 0))) ∧ Aside0 (Below w.heap.size w wc))
 case first =>
  have H := HC5.out
  clear HC5
  replace H := bs_ H
  obtain ⟨t310, A22, H⟩ := H
  by_cases c23 : t310 = true
  ·
   subst c23
   replace H := it_ H
   replace H' := A_ H; clear H
   have hnb24 := NB301_302.out
   have hnc24 := NB302_301.out
   have hnb25 := NB301_303.out
   have hnc25 := NB303_301.out
   have hnb26 := NB301_304.out
   have hnc26 := NB304_301.out
   have hnb27 := NB301_309.out
   have hnc27 := NB309_301.out
   obtain ⟨hcz28_0, hcz28_1, hfz28_0, hfz28_1⟩ := cz2_ BK301
   have hnb29 := NB302_303.out
   have hnc29 := NB303_302.out
   have hnb30 := NB302_304.out
   have hnc30 := NB304_302.out
   have hnb31 := NB302_309.out
   have hnc31 := NB309_302.out
   obtain ⟨hcz32_0, hcz32_1, hcz32_2, hfz32_0, hfz32_1, hfz32_2⟩ := cz3_ BK302
   have hnb33 := NB303_304.out
   have hnc33 := NB304_303.out
   have hnb34 := NB303_309.out
   have hnc34 := NB309_303.out
   obtain ⟨hcz35_0, hcz35_1, hfz35_0, hfz35_1⟩ := cz2_ BK303
   go_wp2_with (first | ((with_reducible refine gate_callee (f := 28) rfl ?_); refine goesL_ (some 13) rfl rfl Try.func28 (by kernel_rfl) rfl #[.agg #[.slice A0_0 l0_0.length c0_0, .int .i64 a0_1], .agg #[.int .i64 a1_0, .int .i64 a1_1, .int .i64 a1_2], .agg #[.int .i64 a2_0, .slice A2_1 l2_1.length c2_1]] rfl al_ ?_; (with_reducible refine (impl_Allowed.calls k _ _ l0_0 a0_1 a1_0 a1_1 a1_2 a2_0 _ _ l2_1 true _ ?side1 ?side2 ?side3 ?side4 A22.out).mono ?_); (case side1 => exact Kd.C_below HR0_0.out (hb_ HB)); (case side2 => exact HC0_0.out); (case side3 => exact Kd.C_below HR2_1.out (hb_ HB)); (case side4 => exact HC2_1.out); rintro e w36 ⟨rfl, hb⟩; refine ⟨_, rfl, ?_⟩; replace HO307 := A_ (Kd.R_below (by (with_reducible repeat (first | apply Kd.R_alloc | apply Kd.R_drewN | apply Kd.R_drew)); exact (Kd.R_mono (Kd.R_far (p := ⟨gb309, 1, none⟩) (Kd.R_far (p := ⟨gb309, 0, none⟩) (Kd.R_types HO307.out BK309.out (by decide)) (fun _ hk => hk.2) (.slice Ao16 t305.length co16)) (fun _ hk => hk.2) (.int .i64 t308)) (fun _ h_ => h_.1))) hb); replace BK301 := bb_ BK301 hb; replace BK302 := bb_ BK302 hb; replace BK303 := bb_ BK303 hb; replace BK304 := bb_ BK304 hb; replace BK309 := bq_ (o' := .cells #[.slice Ao16 t305.length co16, .int .i64 t308] 44 (0, 0)) BK309 hb; replace HB := hs_ HB hb; (try clear hb); (try clear hb2); (try clear hk); (try clear hi); obtain ⟨hcz37_0, hcz37_1, hfz37_0, hfz37_1⟩ := cz2_ BK303))
   go_meet
   case rel => exact ⟨_, ((a2_0 != 0)), rt_, H', ⟨by first | omega | exact Nat.le_refl _⟩, ⟨rb_ HO307.out⟩, ⟨bk_ BK301⟩, ⟨bk_ BK302⟩, ⟨bk_ BK303⟩, ⟨bk_ BK304⟩, ⟨bk_ BK309⟩, ⟨hb_ HB⟩⟩
  obtain rfl := Bool.eq_false_iff.mpr c23
  replace H := iF_ H
  replace H' := A_ H; clear H
  have hnb38 := NB301_302.out
  have hnc38 := NB302_301.out
  have hnb39 := NB301_303.out
  have hnc39 := NB303_301.out
  have hnb40 := NB301_304.out
  have hnc40 := NB304_301.out
  have hnb41 := NB301_309.out
  have hnc41 := NB309_301.out
  obtain ⟨hcz42_0, hcz42_1, hfz42_0, hfz42_1⟩ := cz2_ BK301
  have hnb43 := NB302_303.out
  have hnc43 := NB303_302.out
  have hnb44 := NB302_304.out
  have hnc44 := NB304_302.out
  have hnb45 := NB302_309.out
  have hnc45 := NB309_302.out
  obtain ⟨hcz46_0, hcz46_1, hcz46_2, hfz46_0, hfz46_1, hfz46_2⟩ := cz3_ BK302
  have hnb47 := NB303_304.out
  have hnc47 := NB304_303.out
  have hnb48 := NB303_309.out
  have hnc48 := NB309_303.out
  obtain ⟨hcz49_0, hcz49_1, hfz49_0, hfz49_1⟩ := cz2_ BK303
  go_wp2_with (first | ((with_reducible refine gate_callee (f := 28) rfl ?_); refine goesL_ (some 13) rfl rfl Try.func28 (by kernel_rfl) rfl #[.agg #[.slice A0_0 l0_0.length c0_0, .int .i64 a0_1], .agg #[.int .i64 a1_0, .int .i64 a1_1, .int .i64 a1_2], .agg #[.int .i64 a2_0, .slice A2_1 l2_1.length c2_1]] rfl al_ ?_; (with_reducible refine (impl_Allowed.calls k _ _ l0_0 a0_1 a1_0 a1_1 a1_2 a2_0 _ _ l2_1 false _ ?side1 ?side2 ?side3 ?side4 A22.out).mono ?_); (case side1 => exact Kd.C_below HR0_0.out (hb_ HB)); (case side2 => exact HC0_0.out); (case side3 => exact Kd.C_below HR2_1.out (hb_ HB)); (case side4 => exact HC2_1.out); rintro e w50 ⟨rfl, hb⟩; refine ⟨_, rfl, ?_⟩; replace HO307 := A_ (Kd.R_below (by (with_reducible repeat (first | apply Kd.R_alloc | apply Kd.R_drewN | apply Kd.R_drew)); exact (Kd.R_mono (Kd.R_far (p := ⟨gb309, 1, none⟩) (Kd.R_far (p := ⟨gb309, 0, none⟩) (Kd.R_types HO307.out BK309.out (by decide)) (fun _ hk => hk.2) (.slice Ao16 t305.length co16)) (fun _ hk => hk.2) (.int .i64 t308)) (fun _ h_ => h_.1))) hb); replace BK301 := bb_ BK301 hb; replace BK302 := bb_ BK302 hb; replace BK303 := bb_ BK303 hb; replace BK304 := bb_ BK304 hb; replace BK309 := bq_ (o' := .cells #[.slice Ao16 t305.length co16, .int .i64 t308] 44 (0, 0)) BK309 hb; replace HB := hs_ HB hb; (try clear hb); (try clear hb2); (try clear hk); (try clear hi)))
  go_meet
  case rel => exact ⟨_, (true), rt_, H', ⟨by first | omega | exact Nat.le_refl _⟩, ⟨rb_ HO307.out⟩, ⟨bk_ BK301⟩, ⟨bk_ BK302⟩, ⟨bk_ BK303⟩, ⟨bk_ BK304⟩, ⟨bk_ BK309⟩, ⟨hb_ HB⟩⟩
 case rest =>
  clear HC5
  try clear c1
  try clear c3
  try clear c4
  try clear c23
  try clear hcz13_0
  try clear hcz13_1
  try clear hcz21_0
  try clear hcz21_1
  try clear hcz28_0
  try clear hcz28_1
  try clear hcz32_0
  try clear hcz32_1
  try clear hcz32_2
  try clear hcz35_0
  try clear hcz35_1
  try clear hcz37_0
  try clear hcz37_1
  try clear hcz42_0
  try clear hcz42_1
  try clear hcz46_0
  try clear hcz46_1
  try clear hcz46_2
  try clear hcz49_0
  try clear hcz49_1
  try clear hfz13_0
  try clear hfz13_1
  try clear hfz21_0
  try clear hfz21_1
  try clear hfz28_0
  try clear hfz28_1
  try clear hfz32_0
  try clear hfz32_1
  try clear hfz32_2
  try clear hfz35_0
  try clear hfz35_1
  try clear hfz37_0
  try clear hfz37_1
  try clear hfz42_0
  try clear hfz42_1
  try clear hfz46_0
  try clear hfz46_1
  try clear hfz46_2
  try clear hfz49_0
  try clear hfz49_1
  obtain ⟨kq, x19_4, rfl, HA, HJ4, HO_310000, BK301, BK302, BK303, BK304, BK309, HB⟩ := hcut
  cases kq with
  | zero => exact absurd HA.out (by simp [impl_After.j0])
  | succ kj4 =>
   have H := HA.out
   clear HA
   simp only [impl_After.j0] at H
   by_cases c51 : x19_4 = true
   ·
    subst c51
    replace H := it_ H
    simp only [Option.some.injEq, Prod.mk.injEq] at H
    obtain ⟨rfl, rfl⟩ := H
    have hnb52 := NB309_301.out
    have hnc52 := NB301_309.out
    have hnb53 := NB309_302.out
    have hnc53 := NB302_309.out
    have hnb54 := NB309_303.out
    have hnc54 := NB303_309.out
    have hnb55 := NB309_304.out
    have hnc55 := NB304_309.out
    obtain ⟨hcz56_0, hcz56_1, hfz56_0, hfz56_1⟩ := cz2_ BK309
    have hnb57 := NB304_301.out
    have hnc57 := NB301_304.out
    have hnb58 := NB304_302.out
    have hnc58 := NB302_304.out
    have hnb59 := NB304_303.out
    have hnc59 := NB303_304.out
    obtain ⟨hcz60_0, hcz60_1, hfz60_0, hfz60_1⟩ := cz2_ BK304
    go_wp2
    refine bodyPost_ret (results_cell_row rfl _ _ gb304 44 #[.slice Ao16 t305.length co16, .int .i64 t308] (0, 0) _ rfl (bp_ BK304) Try.underlying44 rfl (by kernel_rfl)) rfl ?_
    exact ⟨_, rs_, by (with_reducible repeat (first | apply Kd.R_alloc | apply Kd.R_drewN | apply Kd.R_drew)); exact Kd.R_mono (Kd.R_far (p := ⟨gb304, 1, none⟩) (Kd.R_far (p := ⟨gb304, 0, none⟩) (Kd.R_types HO_310000.out BK304.out (by decide)) (fun _ hk => hk.2) (.slice Ao16 t305.length co16)) (fun _ hk => hk.2) (.int .i64 t308)) (fun _ hk => trivial), hb_ HB⟩
   obtain rfl := Bool.eq_false_iff.mpr c51
   replace H := iF_ H
   have HC61 := A_ H
   clear H
   have hnb62 := NB302_301.out
   have hnc62 := NB301_302.out
   have hnb63 := NB302_303.out
   have hnc63 := NB303_302.out
   have hnb64 := NB302_304.out
   have hnc64 := NB304_302.out
   have hnb65 := NB302_309.out
   have hnc65 := NB309_302.out
   obtain ⟨hcz66_0, hcz66_1, hcz66_2, hfz66_0, hfz66_1, hfz66_2⟩ := cz3_ BK302
   go_upto_if 23 with (fail)
   go_cut [23] (fun v23 wc => ∃ (kq : Nat) (x23_60 : Bool), v23 = .bool x23_60 ∧ Aside0 (impl_After.j1 kq a1_0 x23_60 a1_0 a1_1 a1_2 t305 t308 = some (r1, r2)) ∧ Aside0 (kq ≤ kj4) ∧ Aside0 (Kd.R (Kd.int .i64) 3 wc w.heap.size (fun _ => True) (.slice Ao16 t305.length co16) t305) ∧ Aside0 (wc.heap[gb301]? = some (.cells #[(.slice A0_0 l0_0.length c0_0), .int .i64 a0_1] 44 (0, 0))) ∧ Aside0 (wc.heap[gb302]? = some (.cells #[.int .i64 a1_0, .int .i64 a1_1, .int .i64 a1_2] 47 (0, 0))) ∧ Aside0 (wc.heap[gb303]? = some (.cells #[.int .i64 a2_0, (.slice A2_1 l2_1.length c2_1)] 49 (0, 0))) ∧ Aside0 (wc.heap[gb304]? = some (.cells #[(.slice none 0 0), .int .i64 0] 44 (0, 0))) ∧ Aside0 (wc.heap[gb309]? = some (.cells #[(.slice Ao16 t305.length co16), .int .i64 t308] 44 (0, 0))) ∧ Aside0 (Below w.heap.size w wc))
   case first =>
    have H := HC61.out
    clear HC61
    by_cases c67 : a1_0 = 1
    ·
     rw [if_pos c67] at H
     have c67b0 : (a1_0 == 1) = true := beq_iff_eq.mpr c67
     have c67b1 : (a1_0 != 1) = false := bne_eq_false_iff_eq.mpr c67
     clear c67
     (first | rw [c67b0] | (simp only [i64_w, i32_w]; rw [c67b0]) | skip)
     replace H' := A_ H; clear H
     go_wp2
     go_meet
     case rel => exact ⟨_, ((a1_0 == 1)), rt_, H', ⟨by have := HJ4.out; first | omega | exact Nat.le_refl _⟩, ⟨rb_ HO_310000.out⟩, ⟨bk_ BK301⟩, ⟨bk_ BK302⟩, ⟨bk_ BK303⟩, ⟨bk_ BK304⟩, ⟨bk_ BK309⟩, ⟨hb_ HB⟩⟩
    rw [if_neg c67] at H
    have c67b0 : (a1_0 == 1) = false := beq_eq_false_iff_ne.mpr c67
    have c67b1 : (a1_0 != 1) = true := bne_iff_ne.mpr c67
    (first | rw [c67b0] | (simp only [i64_w, i32_w]; rw [c67b0]) | skip)
    replace H' := A_ H; clear H
    go_wp2
    go_meet
    case rel => exact ⟨_, ((a1_0 == 2)), rt_, H', ⟨by have := HJ4.out; first | omega | exact Nat.le_refl _⟩, ⟨rb_ HO_310000.out⟩, ⟨bk_ BK301⟩, ⟨bk_ BK302⟩, ⟨bk_ BK303⟩, ⟨bk_ BK304⟩, ⟨bk_ BK309⟩, ⟨hb_ HB⟩⟩
   case rest =>
    clear HC61
    try clear c1
    try clear c3
    try clear c4
    try clear c23
    try clear c51
    try clear c67
    try clear c67b0
    try clear c67b1
    try clear hcz13_0
    try clear hcz13_1
    try clear hcz21_0
    try clear hcz21_1
    try clear hcz28_0
    try clear hcz28_1
    try clear hcz32_0
    try clear hcz32_1
    try clear hcz32_2
    try clear hcz35_0
    try clear hcz35_1
    try clear hcz37_0
    try clear hcz37_1
    try clear hcz42_0
    try clear hcz42_1
    try clear hcz46_0
    try clear hcz46_1
    try clear hcz46_2
    try clear hcz49_0
    try clear hcz49_1
    try clear hcz56_0
    try clear hcz56_1
    try clear hcz60_0
    try clear hcz60_1
    try clear hcz66_0
    try clear hcz66_1
    try clear hcz66_2
    try clear hfz13_0
    try clear hfz13_1
    try clear hfz21_0
    try clear hfz21_1
    try clear hfz28_0
    try clear hfz28_1
    try clear hfz32_0
    try clear hfz32_1
    try clear hfz32_2
    try clear hfz35_0
    try clear hfz35_1
    try clear hfz37_0
    try clear hfz37_1
    try clear hfz42_0
    try clear hfz42_1
    try clear hfz46_0
    try clear hfz46_1
    try clear hfz46_2
    try clear hfz49_0
    try clear hfz49_1
    try clear hfz56_0
    try clear hfz56_1
    try clear hfz60_0
    try clear hfz60_1
    try clear hfz66_0
    try clear hfz66_1
    try clear hfz66_2
    obtain ⟨kq, x23_60, rfl, HA, HJ60, HO_310000, BK301, BK302, BK303, BK304, BK309, HB⟩ := hcut
    cases kq with
    | zero => exact absurd HA.out (by simp [impl_After.j1])
    | succ kj60 =>
     have H := HA.out
     clear HA
     simp only [impl_After.j1] at H
     by_cases c68 : x23_60 = true
     ·
      subst c68
      replace H := it_ H
      replace H := ic_ H
      rcases H with ⟨c69b0, H⟩ | ⟨_, H⟩
      ·
       replace H := ic_ H
       rcases H with ⟨c70b0, H⟩ | ⟨_, H⟩
       ·
        obtain ⟨y311, hy311⟩ : ∃ y_ : List Int, y_ = (t305.set (a1_1 : Int).toNat a1_2) := ⟨_, rfl⟩
        replace H : (some (y311, t308)) = some (r1, r2) := by first | (rw [hy311]; with_reducible exact H) | (have H2_ := (Option.bind_some _ _).symm.trans H; rw [hy311]; with_reducible exact H2_) | (have H2_ := (Option.bind_some _ _).symm.trans H; with_reducible exact H2_) | with_reducible exact H | (rw [hy311]; exact H) | exact H
        have Ny311 := A_ hy311
        clear hy311
        simp only [Option.some.injEq, Prod.mk.injEq] at H
        obtain ⟨rfl, rfl⟩ := H
        have hnb72 := NB309_301.out
        have hnc72 := NB301_309.out
        have hnb73 := NB309_302.out
        have hnc73 := NB302_309.out
        have hnb74 := NB309_303.out
        have hnc74 := NB303_309.out
        have hnb75 := NB309_304.out
        have hnc75 := NB304_309.out
        obtain ⟨hcz76_0, hcz76_1, hfz76_0, hfz76_1⟩ := cz2_ BK309
        have hnb77 := NB302_301.out
        have hnc77 := NB301_302.out
        have hnb78 := NB302_303.out
        have hnc78 := NB303_302.out
        have hnb79 := NB302_304.out
        have hnc79 := NB304_302.out
        obtain ⟨hcz80_0, hcz80_1, hcz80_2, hfz80_0, hfz80_1, hfz80_2⟩ := cz3_ BK302
        have p71 : 0 ≤ (a1_1 : Int) := od_
        have q71 : (a1_1 : Int) < ((t305.length : Int) : Int) := od_
        obtain ⟨go71, co71, eo71, gb71, gl71, cl71, HG71⟩ := Kd.R_form HO_310000.out (by omega)
        (first | cases eo71 | (injection eo71 with ea_ en_ ec_; (first | subst ea_ | (injection ea_ with ea_; subst ea_)); subst ec_; clear en_))
        have GB71 := A_ gb71
        have GG71 := A_ HG71
        clear gb71 gl71 HG71
        obtain ⟨hx71_0, hf71_0⟩ := Kd.R_celln 0 HO_310000.out (a1_1 : Int) p71 q71
        replace p71 := eq_true p71
        replace q71 := eq_true q71
        have HP81 := Kd.R_putg HO_310000.out (a1_1 : Int) a1_2
        go_wp2_with (first | ((with_reducible refine gate_store (t := 3) (p := 32) rfl ?_); refine store_event (t := 3) (p := 32) (v := ?vo_w82) (w1 := (wc.setCell ⟨go71, (a1_1 : Int).toNat, none⟩ (.int .i64 a1_2))) ?hg ?ho ?hn ?hr ?_; (case ho => rfl); (case hg => rfl); (case hn => rfl); (case hr => first | (go_simp; done) | (go_simp; rfl)); intro w82 hw; have hg : wc.grownBy w82 (some go71) := (by rw [hw]; exact HP81.2); have hp_ : Kd.R (Kd.int .i64) 3 w82 w.heap.size (fun _ => True) (.slice (some ⟨go71, 0, none⟩) t305.length co16) y311 := (by rw [hw, Ny311.out]; exact HP81.1); clear HP81; have n0_ := A_ hp_; have n1_ := A_ (blk_grown (g := gb301) (o := .cells #[.slice A0_0 l0_0.length c0_0, .int .i64 a0_1] 44 (0, 0)) (bk_ BK301) hg (Kd.R_ne HO_310000.out BK301.out (by decide))); have n2_ := A_ (blk_grown (g := gb302) (o := .cells #[.int .i64 a1_0, .int .i64 a1_1, .int .i64 a1_2] 47 (0, 0)) (bk_ BK302) hg (Kd.R_ne HO_310000.out BK302.out (by decide))); have n3_ := A_ (blk_grown (g := gb303) (o := .cells #[.int .i64 a2_0, .slice A2_1 l2_1.length c2_1] 49 (0, 0)) (bk_ BK303) hg (Kd.R_ne HO_310000.out BK303.out (by decide))); have n4_ := A_ (blk_grown (g := gb304) (o := .cells #[.slice none 0 0, .int .i64 0] 44 (0, 0)) (bk_ BK304) hg (Kd.R_ne HO_310000.out BK304.out (by decide))); have n5_ := A_ (blk_grown (g := gb309) (o := .cells #[.slice (some ⟨go71, 0, none⟩) t305.length co16, .int .i64 t308] 44 (0, 0)) (bk_ BK309) hg (Kd.R_ne HO_310000.out BK309.out (by decide))); have n6_ := A_ ((by rw [hw]; exact below_set (HB.out) GB71.out : Below w.heap.size w w82)); clear HO_310000; clear BK301; clear BK302; clear BK303; clear BK304; clear BK309; clear HB; have HO_310000 := n0_; have BK301 := n1_; have BK302 := n2_; have BK303 := n3_; have BK304 := n4_; have BK309 := n5_; have HB := n6_; clear n0_ n1_ n2_ n3_ n4_ n5_ n6_; clear hg hw hp_; obtain ⟨hcz83_0, hcz83_1, hfz83_0, hfz83_1⟩ := cz2_ BK309; have hnb84 := NB304_301.out; have hnc84 := NB301_304.out; have hnb85 := NB304_303.out; have hnc85 := NB303_304.out; obtain ⟨hcz86_0, hcz86_1, hfz86_0, hfz86_1⟩ := cz2_ BK304))
        refine bodyPost_ret (results_cell_row rfl _ _ gb304 44 #[.slice (some ⟨go71, 0, none⟩) t305.length co16, .int .i64 t308] (0, 0) _ rfl (bp_ BK304) Try.underlying44 rfl (by kernel_rfl)) rfl ?_
        exact ⟨_, rs_, by (with_reducible repeat (first | apply Kd.R_alloc | apply Kd.R_drewN | apply Kd.R_drew)); exact Kd.R_mono (Kd.R_far (p := ⟨gb304, 1, none⟩) (Kd.R_far (p := ⟨gb304, 0, none⟩) (Kd.R_types HO_310000.out BK304.out (by decide)) (fun _ hk => hk.2) (.slice (some ⟨go71, 0, none⟩) t305.length co16)) (fun _ hk => hk.2) (.int .i64 t308)) (fun _ hk => trivial), hb_ HB⟩
       exact absurd H (by simp)
      exact absurd H (by simp)
     obtain rfl := Bool.eq_false_iff.mpr c68
     replace H := iF_ H
     by_cases c87 : a1_0 = 3
     ·
      rw [if_pos c87] at H
      have c87b0 : (a1_0 == 3) = true := beq_iff_eq.mpr c87
      have c87b1 : (a1_0 != 3) = false := bne_eq_false_iff_eq.mpr c87
      clear c87
      replace H := ic_ H
      rcases H with ⟨c88b0, H⟩ | ⟨_, H⟩
      ·
       replace H := ic_ H
       rcases H with ⟨c89b0, H⟩ | ⟨_, H⟩
       ·
        obtain ⟨y312, hy312⟩ : ∃ y_ : List Int, y_ = (t305.set (a1_1 : Int).toNat 0) := ⟨_, rfl⟩
        replace H : (some (y312, t308)) = some (r1, r2) := by first | (rw [hy312]; with_reducible exact H) | (have H2_ := (Option.bind_some _ _).symm.trans H; rw [hy312]; with_reducible exact H2_) | (have H2_ := (Option.bind_some _ _).symm.trans H; with_reducible exact H2_) | with_reducible exact H | (rw [hy312]; exact H) | exact H
        have Ny312 := A_ hy312
        clear hy312
        simp only [Option.some.injEq, Prod.mk.injEq] at H
        obtain ⟨rfl, rfl⟩ := H
        have hnb91 := NB309_301.out
        have hnc91 := NB301_309.out
        have hnb92 := NB309_302.out
        have hnc92 := NB302_309.out
        have hnb93 := NB309_303.out
        have hnc93 := NB303_309.out
        have hnb94 := NB309_304.out
        have hnc94 := NB304_309.out
        obtain ⟨hcz95_0, hcz95_1, hfz95_0, hfz95_1⟩ := cz2_ BK309
        have hnb96 := NB302_301.out
        have hnc96 := NB301_302.out
        have hnb97 := NB302_303.out
        have hnc97 := NB303_302.out
        have hnb98 := NB302_304.out
        have hnc98 := NB304_302.out
        obtain ⟨hcz99_0, hcz99_1, hcz99_2, hfz99_0, hfz99_1, hfz99_2⟩ := cz3_ BK302
        have p90 : 0 ≤ (a1_1 : Int) := od_
        have q90 : (a1_1 : Int) < ((t305.length : Int) : Int) := od_
        obtain ⟨go90, co90, eo90, gb90, gl90, cl90, HG90⟩ := Kd.R_form HO_310000.out (by omega)
        (first | cases eo90 | (injection eo90 with ea_ en_ ec_; (first | subst ea_ | (injection ea_ with ea_; subst ea_)); subst ec_; clear en_))
        have GB90 := A_ gb90
        have GG90 := A_ HG90
        clear gb90 gl90 HG90
        obtain ⟨hx90_0, hf90_0⟩ := Kd.R_celln 0 HO_310000.out (a1_1 : Int) p90 q90
        replace p90 := eq_true p90
        replace q90 := eq_true q90
        have HP100 := Kd.R_putg HO_310000.out (a1_1 : Int) 0
        go_wp2_with (first | ((with_reducible refine gate_store (t := 3) (p := 39) rfl ?_); refine store_event (t := 3) (p := 39) (v := ?vo_w101) (w1 := (wc.setCell ⟨go90, (a1_1 : Int).toNat, none⟩ (.int .i64 0))) ?hg ?ho ?hn ?hr ?_; (case ho => rfl); (case hg => rfl); (case hn => rfl); (case hr => first | (go_simp; done) | (go_simp; rfl)); intro w101 hw; have hg : wc.grownBy w101 (some go90) := (by rw [hw]; exact HP100.2); have hp_ : Kd.R (Kd.int .i64) 3 w101 w.heap.size (fun _ => True) (.slice (some ⟨go90, 0, none⟩) t305.length co16) y312 := (by rw [hw, Ny312.out]; exact HP100.1); clear HP100; have n0_ := A_ hp_; have n1_ := A_ (blk_grown (g := gb301) (o := .cells #[.slice A0_0 l0_0.length c0_0, .int .i64 a0_1] 44 (0, 0)) (bk_ BK301) hg (Kd.R_ne HO_310000.out BK301.out (by decide))); have n2_ := A_ (blk_grown (g := gb302) (o := .cells #[.int .i64 a1_0, .int .i64 a1_1, .int .i64 a1_2] 47 (0, 0)) (bk_ BK302) hg (Kd.R_ne HO_310000.out BK302.out (by decide))); have n3_ := A_ (blk_grown (g := gb303) (o := .cells #[.int .i64 a2_0, .slice A2_1 l2_1.length c2_1] 49 (0, 0)) (bk_ BK303) hg (Kd.R_ne HO_310000.out BK303.out (by decide))); have n4_ := A_ (blk_grown (g := gb304) (o := .cells #[.slice none 0 0, .int .i64 0] 44 (0, 0)) (bk_ BK304) hg (Kd.R_ne HO_310000.out BK304.out (by decide))); have n5_ := A_ (blk_grown (g := gb309) (o := .cells #[.slice (some ⟨go90, 0, none⟩) t305.length co16, .int .i64 t308] 44 (0, 0)) (bk_ BK309) hg (Kd.R_ne HO_310000.out BK309.out (by decide))); have n6_ := A_ ((by rw [hw]; exact below_set (HB.out) GB90.out : Below w.heap.size w w101)); clear HO_310000; clear BK301; clear BK302; clear BK303; clear BK304; clear BK309; clear HB; have HO_310000 := n0_; have BK301 := n1_; have BK302 := n2_; have BK303 := n3_; have BK304 := n4_; have BK309 := n5_; have HB := n6_; clear n0_ n1_ n2_ n3_ n4_ n5_ n6_; clear hg hw hp_; obtain ⟨hcz102_0, hcz102_1, hfz102_0, hfz102_1⟩ := cz2_ BK309; have hnb103 := NB304_301.out; have hnc103 := NB301_304.out; have hnb104 := NB304_303.out; have hnc104 := NB303_304.out; obtain ⟨hcz105_0, hcz105_1, hfz105_0, hfz105_1⟩ := cz2_ BK304))
        refine bodyPost_ret (results_cell_row rfl _ _ gb304 44 #[.slice (some ⟨go90, 0, none⟩) t305.length co16, .int .i64 t308] (0, 0) _ rfl (bp_ BK304) Try.underlying44 rfl (by kernel_rfl)) rfl ?_
        exact ⟨_, rs_, by (with_reducible repeat (first | apply Kd.R_alloc | apply Kd.R_drewN | apply Kd.R_drew)); exact Kd.R_mono (Kd.R_far (p := ⟨gb304, 1, none⟩) (Kd.R_far (p := ⟨gb304, 0, none⟩) (Kd.R_types HO_310000.out BK304.out (by decide)) (fun _ hk => hk.2) (.slice (some ⟨go90, 0, none⟩) t305.length co16)) (fun _ hk => hk.2) (.int .i64 t308)) (fun _ hk => trivial), hb_ HB⟩
       exact absurd H (by simp)
      exact absurd H (by simp)
     rw [if_neg c87] at H
     have c87b0 : (a1_0 == 3) = false := beq_eq_false_iff_ne.mpr c87
     have c87b1 : (a1_0 != 3) = true := bne_iff_ne.mpr c87
     by_cases c106 : a1_0 = 8
     ·
      rw [if_pos c106] at H
      have c106b0 : (a1_0 == 8) = true := beq_iff_eq.mpr c106
      have c106b1 : (a1_0 != 8) = false := bne_eq_false_iff_eq.mpr c106
      clear c106
      simp only [Option.some.injEq, Prod.mk.injEq] at H
      obtain ⟨rfl, rfl⟩ := H
      have hnb107 := NB309_301.out
      have hnc107 := NB301_309.out
      have hnb108 := NB309_302.out
      have hnc108 := NB302_309.out
      have hnb109 := NB309_303.out
      have hnc109 := NB303_309.out
      have hnb110 := NB309_304.out
      have hnc110 := NB304_309.out
      obtain ⟨hcz111_0, hcz111_1, hfz111_0, hfz111_1⟩ := cz2_ BK309
      have hnb112 := NB304_301.out
      have hnc112 := NB301_304.out
      have hnb113 := NB304_302.out
      have hnc113 := NB302_304.out
      have hnb114 := NB304_303.out
      have hnc114 := NB303_304.out
      obtain ⟨hcz115_0, hcz115_1, hfz115_0, hfz115_1⟩ := cz2_ BK304
      go_wp2
      refine bodyPost_ret (results_cell_row rfl _ _ gb304 44 #[.slice Ao16 t305.length co16, .int .i64 (wrap64 (t308 + 1))] (0, 0) _ rfl (bp_ BK304) Try.underlying44 rfl (by kernel_rfl)) rfl ?_
      exact ⟨_, rs_, by (with_reducible repeat (first | apply Kd.R_alloc | apply Kd.R_drewN | apply Kd.R_drew)); exact Kd.R_mono (Kd.R_far (p := ⟨gb304, 1, none⟩) (Kd.R_far (p := ⟨gb304, 0, none⟩) (Kd.R_far (p := ⟨gb309, 1, none⟩) (Kd.R_types (Kd.R_types HO_310000.out BK309.out (by decide)) BK304.out (by decide)) (fun _ hk => hk.1.2) (.int .i64 (wrap64 (t308 + 1)))) (fun _ hk => hk.2) (.slice Ao16 t305.length co16)) (fun _ hk => hk.2) (.int .i64 (wrap64 (t308 + 1)))) (fun _ hk => trivial), hb_ HB⟩
     rw [if_neg c106] at H
     have c106b0 : (a1_0 == 8) = false := beq_eq_false_iff_ne.mpr c106
     have c106b1 : (a1_0 != 8) = true := bne_iff_ne.mpr c106
     by_cases c116 : a1_0 = 9
     ·
      rw [if_pos c116] at H
      have c116b0 : (a1_0 == 9) = true := beq_iff_eq.mpr c116
      have c116b1 : (a1_0 != 9) = false := bne_eq_false_iff_eq.mpr c116
      clear c116
      simp only [Option.some.injEq, Prod.mk.injEq] at H
      obtain ⟨rfl, rfl⟩ := H
      have hnb117 := NB309_301.out
      have hnc117 := NB301_309.out
      have hnb118 := NB309_302.out
      have hnc118 := NB302_309.out
      have hnb119 := NB309_303.out
      have hnc119 := NB303_309.out
      have hnb120 := NB309_304.out
      have hnc120 := NB304_309.out
      obtain ⟨hcz121_0, hcz121_1, hfz121_0, hfz121_1⟩ := cz2_ BK309
      have hnb122 := NB304_301.out
      have hnc122 := NB301_304.out
      have hnb123 := NB304_302.out
      have hnc123 := NB302_304.out
      have hnb124 := NB304_303.out
      have hnc124 := NB303_304.out
      obtain ⟨hcz125_0, hcz125_1, hfz125_0, hfz125_1⟩ := cz2_ BK304
      go_wp2
      refine bodyPost_ret (results_cell_row rfl _ _ gb304 44 #[.slice Ao16 t305.length co16, .int .i64 (wrap64 (t308 + 1))] (0, 0) _ rfl (bp_ BK304) Try.underlying44 rfl (by kernel_rfl)) rfl ?_
      exact ⟨_, rs_, by (with_reducible repeat (first | apply Kd.R_alloc | apply Kd.R_drewN | apply Kd.R_drew)); exact Kd.R_mono (Kd.R_far (p := ⟨gb304, 1, none⟩) (Kd.R_far (p := ⟨gb304, 0, none⟩) (Kd.R_far (p := ⟨gb309, 1, none⟩) (Kd.R_types (Kd.R_types HO_310000.out BK309.out (by decide)) BK304.out (by decide)) (fun _ hk => hk.1.2) (.int .i64 (wrap64 (t308 + 1)))) (fun _ hk => hk.2) (.slice Ao16 t305.length co16)) (fun _ hk => hk.2) (.int .i64 (wrap64 (t308 + 1)))) (fun _ hk => trivial), hb_ HB⟩
     rw [if_neg c116] at H
     have c116b0 : (a1_0 == 9) = false := beq_eq_false_iff_ne.mpr c116
     have c116b1 : (a1_0 != 9) = true := bne_iff_ne.mpr c116
     simp only [Option.some.injEq, Prod.mk.injEq] at H
     obtain ⟨rfl, rfl⟩ := H
     have hnb126 := NB309_301.out
     have hnc126 := NB301_309.out
     have hnb127 := NB309_302.out
     have hnc127 := NB302_309.out
     have hnb128 := NB309_303.out
     have hnc128 := NB303_309.out
     have hnb129 := NB309_304.out
     have hnc129 := NB304_309.out
     obtain ⟨hcz130_0, hcz130_1, hfz130_0, hfz130_1⟩ := cz2_ BK309
     have hnb131 := NB304_301.out
     have hnc131 := NB301_304.out
     have hnb132 := NB304_302.out
     have hnc132 := NB302_304.out
     have hnb133 := NB304_303.out
     have hnc133 := NB303_304.out
     obtain ⟨hcz134_0, hcz134_1, hfz134_0, hfz134_1⟩ := cz2_ BK304
     go_wp2
     refine bodyPost_ret (results_cell_row rfl _ _ gb304 44 #[.slice Ao16 t305.length co16, .int .i64 t308] (0, 0) _ rfl (bp_ BK304) Try.underlying44 rfl (by kernel_rfl)) rfl ?_
     exact ⟨_, rs_, by (with_reducible repeat (first | apply Kd.R_alloc | apply Kd.R_drewN | apply Kd.R_drew)); exact Kd.R_mono (Kd.R_far (p := ⟨gb304, 1, none⟩) (Kd.R_far (p := ⟨gb304, 0, none⟩) (Kd.R_types HO_310000.out BK304.out (by decide)) (fun _ hk => hk.2) (.slice Ao16 t305.length co16)) (fun _ hk => hk.2) (.int .i64 t308)) (fun _ hk => trivial), hb_ HB⟩

/-! ### laws_eqIntS: function 67 -/
def laws_eqIntS.l0 : Nat → List Int → List Int → Int → Option (Bool)
 | 0, _, _, _ => none
 | k + 1, x0, x1, x5 => if x5 < (x0.length : Int) then (if 0 ≤ x5 then (if x5 < (x1.length : Int) then (if (rd x0 x5) = (rd x1 x5) then (laws_eqIntS.l0 k x0 x1 (wrap64 (x5 + 1))) else (none)) else (none)) else (none)) else (some true)
def laws_eqIntS.f (k : Nat) (l0 : List Int) (l1 : List Int) : Option (Bool) := if (l0.length : Int) = (l1.length : Int) then (laws_eqIntS.l0 k l0 l1 0) else (none)
theorem laws_eqIntS.mono_l : ∀ k, (∀ y0 y1 y2, LeO (laws_eqIntS.l0 k y0 y1 y2) (laws_eqIntS.l0 (k + 1) y0 y1 y2))
 | 0 => fun _ _ _ r h => by simp [laws_eqIntS.l0] at h
 | k + 1 => by
  have ih0 := laws_eqIntS.mono_l k
  ·
   intro y0 y1 y2
   unfold laws_eqIntS.l0
   repeat' first
   | (with_reducible exact ih0 _ _ _)
   | (with_reducible exact LeO.refl _)
   | (with_reducible exact LeO.none _)
   | (with_reducible refine LeO.ite ?_ ?_)
   | (with_reducible refine LeO.bind ?_ (fun _ => ?_))
   | exact ih0 _ _ _
   | exact LeO.none _
   | refine LeO.ite ?_ ?_
   | refine LeO.bind ?_ (fun _ => ?_)
theorem laws_eqIntS.mono : ∀ a0 a1 k, LeO (laws_eqIntS.f k a0 a1) (laws_eqIntS.f (k + 1) a0 a1) := by
 intro a0 a1 k
 have ih0 := laws_eqIntS.mono_l k
 unfold laws_eqIntS.f
 repeat' first
   | (with_reducible exact ih0 _ _ _)
   | (with_reducible exact LeO.refl _)
   | (with_reducible exact LeO.none _)
   | (with_reducible refine LeO.ite ?_ ?_)
   | (with_reducible refine LeO.bind ?_ (fun _ => ?_))
   | exact ih0 _ _ _
   | exact LeO.none _
   | refine LeO.ite ?_ ?_
   | refine LeO.bind ?_ (fun _ => ?_)
set_option maxHeartbeats 8000000 in
set_option maxRecDepth 100000 in
theorem laws_eqIntS.calls (k : Nat) (A0 : Option Addr) (c0 : Nat) (l0 : List Int) (A1 : Option Addr) (c1 : Nat) (l1 : List Int) (r : Bool) (w : World) (hr0 : Kd.C (Kd.int .i64) w A0 l0.length l0) (hc0 : l0.length ≤ c0) (hr1 : Kd.C (Kd.int .i64) w A1 l1.length l1) (hc1 : l1.length ≤ c1) (h : laws_eqIntS.f k l0 l1 = some r) :
    Calls Try.prog 67 #[.slice A0 l0.length c0, .slice A1 l1.length c1] w fun e w' => e = .returned (.bool r) ∧ Drawn0 w w' := by
 have HR0 := A_ hr0
 have HC0 := A_ hc0
 clear hr0 hc0
 have HR1 := A_ hr1
 have HC1 := A_ hc1
 clear hr1 hc1
 have H : (if (l0.length : Int) = (l1.length : Int) then (laws_eqIntS.l0 k l0 l1 0) else (none)) = some r := h
 clear h
 by_cases c3 : (l0.length : Int) = (l1.length : Int)
 ·
  rw [if_pos c3] at H
  have c3b0 : ((l0.length : Int) == (l1.length : Int)) = true := beq_iff_eq.mpr c3
  have c3b1 : ((l0.length : Int) != (l1.length : Int)) = false := bne_eq_false_iff_eq.mpr c3
  have c3b2 : (l0.length == l1.length) = true := by first | simpa using c3 | (simp at c3 ⊢; omega)
  clear c3
  replace H' := A_ H; clear H
  go_enter Try.func67, Try.ntmps67
  go_wp2
  repeat (go_quiet (fail); try go_wp2)
  go_loopg [5] k (fun kq v5 w' => ∃ (x5_1 : Int), v5 = .int .i64 x5_1 ∧ Aside0 (laws_eqIntS.l0 kq l0 l1 x5_1 = some r) ∧ Aside0 (kq ≤ k) ∧ Drawn0 w w')
  case atStart => exact ⟨(0), rt_, H', ⟨Nat.le_refl _⟩, by repeat (first | exact Drawn0.refl _ | apply Drawn0.step)⟩
  case round =>
   clear H'
   try clear c1
   try clear c3
   try clear c3b0
   try clear c3b1
   try clear c3b2
   obtain ⟨x5_1, rfl, HA, HK1, ⟨m1, rfl⟩⟩ := hrel
   cases gk with
   | zero => exact absurd HA.out (by simp [laws_eqIntS.l0])
   | succ k1 =>
    have H := HA.out
    clear HA
    simp only [laws_eqIntS.l0] at H
    replace H := ic_ H
    rcases H with ⟨c4b0, H⟩ | ⟨c4b0, H⟩
    ·
     replace H := ic_ H
     rcases H with ⟨c5b0, H⟩ | ⟨_, H⟩
     ·
      replace H := ic_ H
      rcases H with ⟨c6b0, H⟩ | ⟨_, H⟩
      ·
       replace H := ie_ H
       rcases H with ⟨c7b0, c7b1, H⟩ | ⟨_, _, H⟩
       ·
        replace H' := A_ H; clear H
        have p313 : 0 ≤ (x5_1 : Int) := od_
        have q313 : x5_1 < (l0.length : Int) := od_
        obtain ⟨ad313, e313, hx313_0⟩ := Kd.at_int HR0.out x5_1 p313 q313
        cases e313
        replace p313 := eq_true p313
        replace q313 := eq_true q313
        have p314 : 0 ≤ (x5_1 : Int) := od_
        have q314 : x5_1 < (l1.length : Int) := od_
        obtain ⟨ad314, e314, hx314_0⟩ := Kd.at_int HR1.out x5_1 p314 q314
        cases e314
        replace p314 := eq_true p314
        replace q314 := eq_true q314
        go_wp2
        repeat (go_quiet (fail); try go_wp2)
        go_roundg k1
        case measure => have := HK1.out; omega
        case rel => exact ⟨(wrap64 (x5_1 + 1)), rt_, H', ⟨by have := HK1.out; omega⟩, by repeat (first | exact Drawn0.refl _ | apply Drawn0.step)⟩
       exact absurd H (by simp)
      exact absurd H (by simp)
     exact absurd H (by simp)
    obtain rfl := Option.some.inj H
    go_wp2
    repeat (go_quiet (fail); try go_wp2)
    go_ret
    exact ⟨rt_, by repeat (first | exact Drawn0.refl _ | apply Drawn0.step)⟩
 rw [if_neg c3] at H
 exact absurd H (by simp)

/-! ### laws_eqRows: function 21 -/
def laws_eqRows.f (k : Nat) (l0_0 : List Int) (a0_1 : Int) (l1_0 : List Int) (a1_1 : Int) : Option (Bool) := (laws_eqIntS.f k l0_0 l1_0).bind fun t317 => (if t317 = true then (if a0_1 = a1_1 then (some true) else (none)) else (none))
theorem laws_eqRows.mono : ∀ a0 a1 a2 a3 k, LeO (laws_eqRows.f k a0 a1 a2 a3) (laws_eqRows.f (k + 1) a0 a1 a2 a3) := by
 intro a0 a1 a2 a3 k
 unfold laws_eqRows.f
 repeat' first
   | (with_reducible exact laws_eqIntS.mono _ _ _)
   | (with_reducible exact LeO.refl _)
   | (with_reducible exact LeO.none _)
   | (with_reducible refine LeO.ite ?_ ?_)
   | (with_reducible refine LeO.bind ?_ (fun _ => ?_))
   | exact laws_eqIntS.mono _ _ _
   | exact LeO.none _
   | refine LeO.ite ?_ ?_
   | refine LeO.bind ?_ (fun _ => ?_)
set_option maxHeartbeats 8000000 in
set_option maxRecDepth 100000 in
theorem laws_eqRows.calls (k : Nat) (A0_0 : Option Addr) (c0_0 : Nat) (l0_0 : List Int) (a0_1 : Int) (A1_0 : Option Addr) (c1_0 : Nat) (l1_0 : List Int) (a1_1 : Int) (r : Bool) (w : World) (hr0_0 : Kd.C (Kd.int .i64) w A0_0 l0_0.length l0_0) (hc0_0 : l0_0.length ≤ c0_0) (hr1_0 : Kd.C (Kd.int .i64) w A1_0 l1_0.length l1_0) (hc1_0 : l1_0.length ≤ c1_0) (h : laws_eqRows.f k l0_0 a0_1 l1_0 a1_1 = some r) :
    Calls Try.prog 21 #[.agg #[.slice A0_0 l0_0.length c0_0, .int .i64 a0_1], .agg #[.slice A1_0 l1_0.length c1_0, .int .i64 a1_1]] w fun e w' => e = .returned (.bool r) ∧ Below w.heap.size w w' := by
 have hu44 := Try.underlying44
 have HR0_0 := A_ hr0_0
 have HC0_0 := A_ hc0_0
 clear hr0_0 hc0_0
 have HR1_0 := A_ hr1_0
 have HC1_0 := A_ hc1_0
 clear hr1_0 hc1_0
 have HB := A_ (Below.refl w.heap.size w)
 have H : ((laws_eqIntS.f k l0_0 l1_0).bind fun t317 => (if t317 = true then (if a0_1 = a1_1 then (some true) else (none)) else (none))) = some r := h
 clear h
 replace H := bs_ H
 obtain ⟨t317, A3, H⟩ := H
 by_cases c4 : t317 = true
 ·
  subst c4
  replace H := it_ H
  replace H := ie_ H
  rcases H with ⟨c5b0, c5b1, H⟩ | ⟨_, _, H⟩
  ·
   obtain rfl := Option.some.inj H
   go_enter Try.func21, Try.ntmps21
   go_wp2_with (first | (refine Y5_ ?_; clear HB; intro gb315 w6 BK315 GW315 HB) | ((with_reducible refine gate_dst (N := 3) rfl ?_); refine bx_ HB rfl (N := 3) rfl (cs := #[.slice A1_0 l1_0.length c1_0, .int .i64 a1_1]) (t := 44) hr_ ?_; clear HB; intro gb316 w7 hg hb BK316 GW316 HB; have NB315_316 := ng_ BK315 hg; have NB316_315 := ns_ (ng_ BK315 hg); replace BK315 := bb_ BK315 hb; clear hb hg; have hnb8 := NB315_316.out; have hnc8 := NB316_315.out; obtain ⟨hcz9_0, hcz9_1, hfz9_0, hfz9_1⟩ := cz2_ BK315; obtain ⟨hcz10_0, hcz10_1, hfz10_0, hfz10_1⟩ := cz2_ BK316) | ((with_reducible refine gate_callee (f := 67) rfl ?_); refine goesL_ (some 9) rfl rfl Try.func67 (by kernel_rfl) rfl #[.slice A0_0 l0_0.length c0_0, .slice A1_0 l1_0.length c1_0] rfl al_ ?_; (with_reducible refine (laws_eqIntS.calls k _ _ l0_0 _ _ l1_0 true _ ?side1 ?side2 ?side3 ?side4 A3.out).mono ?_); (case side1 => exact cb_ (Kd.C_below HR0_0.out HB.out)); (case side2 => exact HC0_0.out); (case side3 => exact cb_ (Kd.C_below HR1_0.out HB.out)); (case side4 => exact HC1_0.out); rintro e w' ⟨rfl, ⟨nd, rfl⟩⟩; refine ⟨_, rfl, ?_⟩))
   go_ret
   exact ⟨rs_, hb_ HB⟩
  exact absurd H (by simp)
 obtain rfl := Bool.eq_false_iff.mpr c4
 replace H := iF_ H
 exact absurd H (by simp)

end Go.Proofs.Ytmkhghbalnadlaa.PFnExactAfter
