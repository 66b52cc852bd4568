/- Contracts of functions of the program: each says that the call does what a plain Lean function tells. Made by programs of this session and of the kit. No condition beyond the hypotheses that each theorem names. -/
import Derived.Test.YtmkhghbalnadlaaPFnAllowedx0
import Derived.Test.YtmkhghbalnadlaaPFnAllowedx12
namespace Go.Proofs.Ytmkhghbalnadlaa.PFnAllowed
open Go.RowKit Go.Proofs.YtmkhghbalnadlaaW.PrintWords Go.Proofs.YtmkhghbalnadlaaW.PrintLast Go.Proofs.YtmkhghbalnadlaaW.PrintMore
attribute [local go_sem] max2_int min2_int max_two min_two max_three min_three max_four min_four   -- for this text's walks alone
set_option linter.unusedVariables false
set_option linter.unusedSimpArgs false

/-! ### impl_After: function 20 -/
mutual
def impl_After.j0 : Nat → Bool → Int → Int → Int → List Int → Int → Option (List Int × Int)
 | 0, _, _, _, _, _, _ => none
 | k + 1, x19, x279000, x279001, x279002, x286000, x286001 => if x19 = true then (some (x286000, x286001)) else (if x279000 = 1 then (impl_After.j1 k x279000 (x279000 == 1) x279000 x279001 x279002 x286000 x286001) else (impl_After.j1 k x279000 (x279000 == 2) x279000 x279001 x279002 x286000 x286001))
def impl_After.j1 : Nat → Int → Bool → Int → Int → Int → List Int → Int → Option (List Int × Int)
 | 0, _, _, _, _, _, _, _ => none
 | k + 1, x22, x23, x279000, x279001, x279002, x286000, x286001 => if x23 = true then (if 0 ≤ x279001 then (if x279001 < (x286000.length : Int) then (some ((x286000.set (x279001 : Int).toNat x279002), x286001)) else (none)) else (none)) else (if x22 = 3 then (if 0 ≤ x279001 then (if x279001 < (x286000.length : Int) then (some ((x286000.set (x279001 : Int).toNat 0), x286001)) else (none)) else (none)) else (if x22 = 8 then (some (x286000, wrap64 (x286001 + 1))) else (if x22 = 9 then (some (x286000, wrap64 (x286001 + 1))) else (some (x286000, x286001)))))
end
def impl_After.f (k : Nat) (l0_0 : List Int) (a0_1 : Int) (a1_0 : Int) (a1_1 : Int) (a1_2 : Int) (a2_0 : Int) (l2_1 : List Int) : Option (List Int × Int) := (impl_copyRows.f l0_0 a0_1).bind fun bt281 => ((impl_Allowed.f k l0_0 a0_1 a1_0 a1_1 a1_2 a2_0 l2_1).bind fun t286 => (if t286 = true then (impl_After.j0 k (a2_0 != 0) a1_0 a1_1 a1_2 bt281.1 bt281.2) else (impl_After.j0 k true a1_0 a1_1 a1_2 bt281.1 bt281.2)))
theorem impl_After.mono_l : ∀ k, (∀ y0 y1 y2 y3 y4 y5, LeO (impl_After.j0 k y0 y1 y2 y3 y4 y5) (impl_After.j0 (k + 1) y0 y1 y2 y3 y4 y5)) ∧ (∀ y0 y1 y2 y3 y4 y5 y6, LeO (impl_After.j1 k y0 y1 y2 y3 y4 y5 y6) (impl_After.j1 (k + 1) y0 y1 y2 y3 y4 y5 y6))
 | 0 => ⟨fun _ _ _ _ _ _ r h => by simp [impl_After.j0] at h, fun _ _ _ _ _ _ _ r h => by simp [impl_After.j1] at h⟩
 | k + 1 => by
  obtain ⟨ih0, ih1⟩ := impl_After.mono_l k
  refine ⟨?_, ?_⟩
  ·
   intro y0 y1 y2 y3 y4 y5
   unfold impl_After.j0
   repeat' first | (with_reducible first | apply ih0 | apply ih1 | apply impl_Allowed.mono | apply LeO.refl | apply LeO.none | apply LeO.ite | refine LeO.bind ?_ (fun _ => ?_)) | apply ih0 | apply ih1 | apply impl_Allowed.mono | apply LeO.none | apply LeO.ite | refine LeO.bind ?_ (fun _ => ?_)
  intro y0 y1 y2 y3 y4 y5 y6
  unfold impl_After.j1
  repeat' first | (with_reducible first | apply ih0 | apply ih1 | apply impl_Allowed.mono | apply LeO.refl | apply LeO.none | apply LeO.ite | refine LeO.bind ?_ (fun _ => ?_)) | apply ih0 | apply ih1 | apply impl_Allowed.mono | apply LeO.none | apply LeO.ite | refine LeO.bind ?_ (fun _ => ?_)
theorem impl_After.mono : ∀ a0 a1 a2 a3 a4 a5 a6 k, LeO (impl_After.f k a0 a1 a2 a3 a4 a5 a6) (impl_After.f (k + 1) a0 a1 a2 a3 a4 a5 a6) := by
 intro a0 a1 a2 a3 a4 a5 a6 k
 obtain ⟨ih0, ih1⟩ := impl_After.mono_l k
 unfold impl_After.f
 repeat' first | (with_reducible first | apply ih0 | apply ih1 | apply impl_Allowed.mono | apply LeO.refl | apply LeO.none | apply LeO.ite | refine LeO.bind ?_ (fun _ => ?_)) | apply ih0 | apply ih1 | apply impl_Allowed.mono | apply LeO.none | apply LeO.ite | refine LeO.bind ?_ (fun _ => ?_)
set_option maxHeartbeats 8000000 in
set_option maxRecDepth 100000 in
theorem impl_After.calls (k : Nat) (A0_0 : Option Addr) (c0_0 : Nat) (l0_0 : List Int) (a0_1 : Int) (a1_0 : Int) (a1_1 : Int) (a1_2 : Int) (a2_0 : Int) (A2_1 : Option Addr) (c2_1 : Nat) (l2_1 : List Int) (r1 : List Int) (r2 : Int) (w : World) (hr0_0 : Kd.C (Kd.int .i64) w A0_0 l0_0.length l0_0) (hc0_0 : l0_0.length ≤ c0_0) (hr2_1 : Kd.C (Kd.int .i64) w A2_1 l2_1.length l2_1) (hc2_1 : l2_1.length ≤ c2_1) (h : impl_After.f k l0_0 a0_1 a1_0 a1_1 a1_2 a2_0 l2_1 = some (r1, r2)) :
    Calls Try.prog 20 #[.agg #[.slice A0_0 l0_0.length c0_0, .int .i64 a0_1], .agg #[.int .i64 a1_0, .int .i64 a1_1, .int .i64 a1_2], .agg #[.int .i64 a2_0, .slice A2_1 l2_1.length c2_1]] w fun e w' => ∃ v0_ : Value, e = .returned (.agg #[v0_, .int .i64 r2]) ∧ Kd.R (Kd.int .i64) 3 w' w.heap.size (fun _ => True) v0_ r1 ∧ Below w.heap.size w w' := by
 have hu44 := Try.underlying44
 have hu47 := Try.underlying47
 have hu49 := Try.underlying49
 have HR0_0 := A_ hr0_0
 have HC0_0 := A_ hc0_0
 clear hr0_0 hc0_0
 have HR2_1 := A_ hr2_1
 have HC2_1 := A_ hc2_1
 clear hr2_1 hc2_1
 have HB := A_ (Below.refl w.heap.size w)
 have H : ((impl_copyRows.f l0_0 a0_1).bind fun bt281 => ((impl_Allowed.f k l0_0 a0_1 a1_0 a1_1 a1_2 a2_0 l2_1).bind fun t286 => (if t286 = true then (impl_After.j0 k (a2_0 != 0) a1_0 a1_1 a1_2 bt281.1 bt281.2) else (impl_After.j0 k true a1_0 a1_1 a1_2 bt281.1 bt281.2)))) = some (r1, r2) := h
 clear h
 replace H := bs_ H
 obtain ⟨⟨t281, t284⟩, A4, H⟩ := H
 dsimp only at H
 have HC5 := A_ H
 clear H
 go_enter Try.func20, Try.ntmps20
 go_upto_region 2 with (first | ((with_reducible refine gate_dst (N := 3) rfl ?_); refine Y5_ ?_; clear HB; intro gb277 w6 BK277 GW277 HB) | ((with_reducible refine gate_dst (N := 4) rfl ?_); refine bx_ HB rfl (N := 4) rfl (cs := #[.int .i64 a1_0, .int .i64 a1_1, .int .i64 a1_2]) (t := 47) hr_ ?_; clear HB; intro gb278 w7 hg hb BK278 GW278 HB; have NB277_278 := ng_ BK277 hg; have NB278_277 := ns_ (ng_ BK277 hg); replace BK277 := bb_ BK277 hb; clear hb hg) | ((with_reducible refine gate_dst (N := 5) rfl ?_); refine bx_ HB rfl (N := 5) rfl (cs := #[.int .i64 a2_0, .slice A2_1 l2_1.length c2_1]) (t := 49) hr_ ?_; clear HB; intro gb279 w8 hg hb BK279 GW279 HB; have NB277_279 := ng_ BK277 hg; have NB279_277 := ns_ (ng_ BK277 hg); have NB278_279 := ng_ BK278 hg; have NB279_278 := ns_ (ng_ BK278 hg); replace BK277 := bb_ BK277 hb; replace BK278 := bb_ BK278 hb; clear hb hg) | ((with_reducible refine gate_dst (N := 6) rfl ?_); refine bx_ HB rfl (N := 6) rfl (cs := #[.slice none 0 0, .int .i64 0]) (t := 44) hr_ ?_; clear HB; intro gb280 w9 hg hb BK280 GW280 HB; have NB277_280 := ng_ BK277 hg; have NB280_277 := ns_ (ng_ BK277 hg); have NB278_280 := ng_ BK278 hg; have NB280_278 := ns_ (ng_ BK278 hg); have NB279_280 := ng_ BK279 hg; have NB280_279 := ns_ (ng_ BK279 hg); replace BK277 := bb_ BK277 hb; replace BK278 := bb_ BK278 hb; replace BK279 := bb_ BK279 hb; clear hb hg; have hnb10 := NB277_278.out; have hnc10 := NB278_277.out; have hnb11 := NB277_279.out; have hnc11 := NB279_277.out; have hnb12 := NB277_280.out; have hnc12 := NB280_277.out; obtain ⟨hcz13_0, hcz13_1, hfz13_0, hfz13_1⟩ := cz2_ BK277) | ((with_reducible refine gate_callee (f := 66) rfl ?_); refine goesL_ (some 9) rfl rfl Try.func66 (by kernel_rfl) rfl #[.agg #[.slice A0_0 l0_0.length c0_0, .int .i64 a0_1]] rfl al_ ?_; (with_reducible refine (impl_copyRows.calls _ _ l0_0 a0_1 t281 t284 _ ?side1 ?side2 A4.out).mono ?_); (case side1 => exact cb_ (Kd.C_below HR0_0.out HB.out)); (case side2 => exact HC0_0.out); rintro e w14 ⟨v282, rfl, ho0, hb⟩; refine ⟨_, rfl, ?_⟩; have HO283 := A_ (Kd.R_lower ho0 (below_size (hb_ HB))); replace BK277 := bb_ BK277 hb; replace BK278 := bb_ BK278 hb; replace BK279 := bb_ BK279 hb; replace BK280 := bb_ BK280 hb; replace HB := hs_ HB hb; (try clear hb); (try clear hb2); (try clear hk); (try clear hi); (try clear ho0)) | ((with_reducible refine gate_dst (N := 7) rfl ?_); refine bx_ HB rfl (N := 7) rfl (cs := #[.slice none 0 0, .int .i64 0]) (t := 44) hr_ ?_; clear HB; intro gb285 w15 hg hb BK285 GW285 HB; have NB277_285 := ng_ BK277 hg; have NB285_277 := ns_ (ng_ BK277 hg); have NB278_285 := ng_ BK278 hg; have NB285_278 := ns_ (ng_ BK278 hg); have NB279_285 := ng_ BK279 hg; have NB285_279 := ns_ (ng_ BK279 hg); have NB280_285 := ng_ BK280 hg; have NB285_280 := ns_ (ng_ BK280 hg); replace HO283 := A_ (Kd.R_below (rb_ HO283.out) hb); replace BK277 := bb_ BK277 hb; replace BK278 := bb_ BK278 hb; replace BK279 := bb_ BK279 hb; replace BK280 := bb_ BK280 hb; clear hb hg; obtain ⟨Ao16, co16, eo16⟩ := Kd.R_slice HO283.out; subst eo16; have hnb17 := NB285_277.out; have hnc17 := NB277_285.out; have hnb18 := NB285_278.out; have hnc18 := NB278_285.out; have hnb19 := NB285_279.out; have hnc19 := NB279_285.out; have hnb20 := NB285_280.out; have hnc20 := NB280_285.out; obtain ⟨hcz21_0, hcz21_1, hfz21_0, hfz21_1⟩ := cz2_ BK285))
 (try simp only [Act.put, List.setIfInBounds_toArray, List.set_cons_zero, List.set_cons_succ])
 go_cut [19] (fun v19 wc => ∃ (kq : Nat) (x19_4 : Bool), v19 = .bool x19_4 ∧ Aside0 (impl_After.j0 kq x19_4 a1_0 a1_1 a1_2 t281 t284 = some (r1, r2)) ∧ Aside0 (kq ≤ k) ∧ Aside0 (Kd.R (Kd.int .i64) 3 wc w.heap.size (fun _ => True) (.slice Ao16 t281.length co16) t281) ∧ Aside0 (wc.heap[gb277]? = some (.cells #[(.slice A0_0 l0_0.length c0_0), .int .i64 a0_1] 44 (0, 0))) ∧ Aside0 (wc.heap[gb278]? = some (.cells #[.int .i64 a1_0, .int .i64 a1_1, .int .i64 a1_2] 47 (0, 0))) ∧ Aside0 (wc.heap[gb279]? = some (.cells #[.int .i64 a2_0, (.slice A2_1 l2_1.length c2_1)] 49 (0, 0))) ∧ Aside0 (wc.heap[gb280]? = some (.cells #[(.slice none 0 0), .int .i64 0] 44 (0, 0))) ∧ Aside0 (wc.heap[gb285]? = some (.cells #[(.slice Ao16 t281.length co16), .int .i64 t284] 44 (0, 0))) ∧ Aside0 (Below w.heap.size w wc))
 case first =>
  have H := HC5.out
  clear HC5
  replace H := bs_ H
  obtain ⟨t286, A22, H⟩ := H
  by_cases c23 : t286 = true
  ·
   subst c23
   replace H := it_ H
   replace H' := A_ H; clear H
   have hnb24 := NB277_278.out
   have hnc24 := NB278_277.out
   have hnb25 := NB277_279.out
   have hnc25 := NB279_277.out
   have hnb26 := NB277_280.out
   have hnc26 := NB280_277.out
   have hnb27 := NB277_285.out
   have hnc27 := NB285_277.out
   obtain ⟨hcz28_0, hcz28_1, hfz28_0, hfz28_1⟩ := cz2_ BK277
   have hnb29 := NB278_279.out
   have hnc29 := NB279_278.out
   have hnb30 := NB278_280.out
   have hnc30 := NB280_278.out
   have hnb31 := NB278_285.out
   have hnc31 := NB285_278.out
   obtain ⟨hcz32_0, hcz32_1, hcz32_2, hfz32_0, hfz32_1, hfz32_2⟩ := cz3_ BK278
   have hnb33 := NB279_280.out
   have hnc33 := NB280_279.out
   have hnb34 := NB279_285.out
   have hnc34 := NB285_279.out
   obtain ⟨hcz35_0, hcz35_1, hfz35_0, hfz35_1⟩ := cz2_ BK279
   go_wp2_with (first | ((with_reducible refine gate_callee (f := 28) rfl ?_); refine goesL_ (some 13) rfl rfl Try.func28 (by kernel_rfl) rfl #[.agg #[.slice A0_0 l0_0.length c0_0, .int .i64 a0_1], .agg #[.int .i64 a1_0, .int .i64 a1_1, .int .i64 a1_2], .agg #[.int .i64 a2_0, .slice A2_1 l2_1.length c2_1]] rfl al_ ?_; (with_reducible refine (impl_Allowed.calls k _ _ l0_0 a0_1 a1_0 a1_1 a1_2 a2_0 _ _ l2_1 true _ ?side1 ?side2 ?side3 ?side4 A22.out).mono ?_); (case side1 => exact Kd.C_below HR0_0.out (hb_ HB)); (case side2 => exact HC0_0.out); (case side3 => exact Kd.C_below HR2_1.out (hb_ HB)); (case side4 => exact HC2_1.out); rintro e w36 ⟨rfl, hb⟩; refine ⟨_, rfl, ?_⟩; replace HO283 := A_ (Kd.R_below (by (with_reducible repeat (first | apply Kd.R_alloc | apply Kd.R_drewN | apply Kd.R_drew)); exact (Kd.R_mono (Kd.R_far (p := ⟨gb285, 1, none⟩) (Kd.R_far (p := ⟨gb285, 0, none⟩) (Kd.R_types HO283.out BK285.out (by decide)) (fun _ hk => hk.2) (.slice Ao16 t281.length co16)) (fun _ hk => hk.2) (.int .i64 t284)) (fun _ h_ => h_.1))) hb); replace BK277 := bb_ BK277 hb; replace BK278 := bb_ BK278 hb; replace BK279 := bb_ BK279 hb; replace BK280 := bb_ BK280 hb; replace BK285 := bq_ (o' := .cells #[.slice Ao16 t281.length co16, .int .i64 t284] 44 (0, 0)) BK285 hb; replace HB := hs_ HB hb; (try clear hb); (try clear hb2); (try clear hk); (try clear hi); obtain ⟨hcz37_0, hcz37_1, hfz37_0, hfz37_1⟩ := cz2_ BK279))
   go_meet
   case rel => exact ⟨_, ((a2_0 != 0)), rt_, H', ⟨by first | omega | exact Nat.le_refl _⟩, ⟨rb_ HO283.out⟩, ⟨bk_ BK277⟩, ⟨bk_ BK278⟩, ⟨bk_ BK279⟩, ⟨bk_ BK280⟩, ⟨bk_ BK285⟩, ⟨hb_ HB⟩⟩
  obtain rfl := Bool.eq_false_iff.mpr c23
  replace H := iF_ H
  replace H' := A_ H; clear H
  have hnb38 := NB277_278.out
  have hnc38 := NB278_277.out
  have hnb39 := NB277_279.out
  have hnc39 := NB279_277.out
  have hnb40 := NB277_280.out
  have hnc40 := NB280_277.out
  have hnb41 := NB277_285.out
  have hnc41 := NB285_277.out
  obtain ⟨hcz42_0, hcz42_1, hfz42_0, hfz42_1⟩ := cz2_ BK277
  have hnb43 := NB278_279.out
  have hnc43 := NB279_278.out
  have hnb44 := NB278_280.out
  have hnc44 := NB280_278.out
  have hnb45 := NB278_285.out
  have hnc45 := NB285_278.out
  obtain ⟨hcz46_0, hcz46_1, hcz46_2, hfz46_0, hfz46_1, hfz46_2⟩ := cz3_ BK278
  have hnb47 := NB279_280.out
  have hnc47 := NB280_279.out
  have hnb48 := NB279_285.out
  have hnc48 := NB285_279.out
  obtain ⟨hcz49_0, hcz49_1, hfz49_0, hfz49_1⟩ := cz2_ BK279
  go_wp2_with (first | ((with_reducible refine gate_callee (f := 28) rfl ?_); refine goesL_ (some 13) rfl rfl Try.func28 (by kernel_rfl) rfl #[.agg #[.slice A0_0 l0_0.length c0_0, .int .i64 a0_1], .agg #[.int .i64 a1_0, .int .i64 a1_1, .int .i64 a1_2], .agg #[.int .i64 a2_0, .slice A2_1 l2_1.length c2_1]] rfl al_ ?_; (with_reducible refine (impl_Allowed.calls k _ _ l0_0 a0_1 a1_0 a1_1 a1_2 a2_0 _ _ l2_1 false _ ?side1 ?side2 ?side3 ?side4 A22.out).mono ?_); (case side1 => exact Kd.C_below HR0_0.out (hb_ HB)); (case side2 => exact HC0_0.out); (case side3 => exact Kd.C_below HR2_1.out (hb_ HB)); (case side4 => exact HC2_1.out); rintro e w50 ⟨rfl, hb⟩; refine ⟨_, rfl, ?_⟩; replace HO283 := A_ (Kd.R_below (by (with_reducible repeat (first | apply Kd.R_alloc | apply Kd.R_drewN | apply Kd.R_drew)); exact (Kd.R_mono (Kd.R_far (p := ⟨gb285, 1, none⟩) (Kd.R_far (p := ⟨gb285, 0, none⟩) (Kd.R_types HO283.out BK285.out (by decide)) (fun _ hk => hk.2) (.slice Ao16 t281.length co16)) (fun _ hk => hk.2) (.int .i64 t284)) (fun _ h_ => h_.1))) hb); replace BK277 := bb_ BK277 hb; replace BK278 := bb_ BK278 hb; replace BK279 := bb_ BK279 hb; replace BK280 := bb_ BK280 hb; replace BK285 := bq_ (o' := .cells #[.slice Ao16 t281.length co16, .int .i64 t284] 44 (0, 0)) BK285 hb; replace HB := hs_ HB hb; (try clear hb); (try clear hb2); (try clear hk); (try clear hi)))
  go_meet
  case rel => exact ⟨_, (true), rt_, H', ⟨by first | omega | exact Nat.le_refl _⟩, ⟨rb_ HO283.out⟩, ⟨bk_ BK277⟩, ⟨bk_ BK278⟩, ⟨bk_ BK279⟩, ⟨bk_ BK280⟩, ⟨bk_ BK285⟩, ⟨hb_ HB⟩⟩
 case rest =>
  clear HC5
  try clear c23
  obtain ⟨kq, x19_4, rfl, HA, HJ4, HO_286000, BK277, BK278, BK279, BK280, BK285, HB⟩ := hcut
  cases kq with
  | zero => exact absurd HA.out (by simp [impl_After.j0])
  | succ kj4 =>
   have H := HA.out
   clear HA
   simp only [impl_After.j0] at H
   by_cases c51 : x19_4 = true
   ·
    subst c51
    replace H := it_ H
    simp only [Option.some.injEq, Prod.mk.injEq] at H
    obtain ⟨rfl, rfl⟩ := H
    have hnb52 := NB285_277.out
    have hnc52 := NB277_285.out
    have hnb53 := NB285_278.out
    have hnc53 := NB278_285.out
    have hnb54 := NB285_279.out
    have hnc54 := NB279_285.out
    have hnb55 := NB285_280.out
    have hnc55 := NB280_285.out
    obtain ⟨hcz56_0, hcz56_1, hfz56_0, hfz56_1⟩ := cz2_ BK285
    have hnb57 := NB280_277.out
    have hnc57 := NB277_280.out
    have hnb58 := NB280_278.out
    have hnc58 := NB278_280.out
    have hnb59 := NB280_279.out
    have hnc59 := NB279_280.out
    obtain ⟨hcz60_0, hcz60_1, hfz60_0, hfz60_1⟩ := cz2_ BK280
    go_wp2
    refine bodyPost_ret (results_cell_row rfl _ _ gb280 44 #[.slice Ao16 t281.length co16, .int .i64 t284] (0, 0) _ rfl (bp_ BK280) Try.underlying44 rfl (by kernel_rfl)) rfl ?_
    exact ⟨_, rs_, by (with_reducible repeat (first | apply Kd.R_alloc | apply Kd.R_drewN | apply Kd.R_drew)); exact Kd.R_mono (Kd.R_far (p := ⟨gb280, 1, none⟩) (Kd.R_far (p := ⟨gb280, 0, none⟩) (Kd.R_types HO_286000.out BK280.out (by decide)) (fun _ hk => hk.2) (.slice Ao16 t281.length co16)) (fun _ hk => hk.2) (.int .i64 t284)) (fun _ hk => trivial), hb_ HB⟩
   obtain rfl := Bool.eq_false_iff.mpr c51
   replace H := iF_ H
   have HC61 := A_ H
   clear H
   have hnb62 := NB278_277.out
   have hnc62 := NB277_278.out
   have hnb63 := NB278_279.out
   have hnc63 := NB279_278.out
   have hnb64 := NB278_280.out
   have hnc64 := NB280_278.out
   have hnb65 := NB278_285.out
   have hnc65 := NB285_278.out
   obtain ⟨hcz66_0, hcz66_1, hcz66_2, hfz66_0, hfz66_1, hfz66_2⟩ := cz3_ BK278
   go_upto_if 23 with (fail)
   go_cut [23] (fun v23 wc => ∃ (kq : Nat) (x23_60 : Bool), v23 = .bool x23_60 ∧ Aside0 (impl_After.j1 kq a1_0 x23_60 a1_0 a1_1 a1_2 t281 t284 = some (r1, r2)) ∧ Aside0 (kq ≤ kj4) ∧ Aside0 (Kd.R (Kd.int .i64) 3 wc w.heap.size (fun _ => True) (.slice Ao16 t281.length co16) t281) ∧ Aside0 (wc.heap[gb277]? = some (.cells #[(.slice A0_0 l0_0.length c0_0), .int .i64 a0_1] 44 (0, 0))) ∧ Aside0 (wc.heap[gb278]? = some (.cells #[.int .i64 a1_0, .int .i64 a1_1, .int .i64 a1_2] 47 (0, 0))) ∧ Aside0 (wc.heap[gb279]? = some (.cells #[.int .i64 a2_0, (.slice A2_1 l2_1.length c2_1)] 49 (0, 0))) ∧ Aside0 (wc.heap[gb280]? = some (.cells #[(.slice none 0 0), .int .i64 0] 44 (0, 0))) ∧ Aside0 (wc.heap[gb285]? = some (.cells #[(.slice Ao16 t281.length co16), .int .i64 t284] 44 (0, 0))) ∧ Aside0 (Below w.heap.size w wc))
   case first =>
    have H := HC61.out
    clear HC61
    by_cases c67 : a1_0 = 1
    ·
     rw [if_pos c67] at H
     have c67b0 : (a1_0 == 1) = true := beq_iff_eq.mpr c67
     have c67b1 : (a1_0 != 1) = false := bne_eq_false_iff_eq.mpr c67
     clear c67
     (first | rw [c67b0] | (simp only [i64_w, i32_w]; rw [c67b0]) | skip)
     replace H' := A_ H; clear H
     go_wp2
     go_meet
     case rel => exact ⟨_, ((a1_0 == 1)), rt_, H', ⟨by have := HJ4.out; first | omega | exact Nat.le_refl _⟩, ⟨rb_ HO_286000.out⟩, ⟨bk_ BK277⟩, ⟨bk_ BK278⟩, ⟨bk_ BK279⟩, ⟨bk_ BK280⟩, ⟨bk_ BK285⟩, ⟨hb_ HB⟩⟩
    rw [if_neg c67] at H
    have c67b0 : (a1_0 == 1) = false := beq_eq_false_iff_ne.mpr c67
    have c67b1 : (a1_0 != 1) = true := bne_iff_ne.mpr c67
    (first | rw [c67b0] | (simp only [i64_w, i32_w]; rw [c67b0]) | skip)
    replace H' := A_ H; clear H
    go_wp2
    go_meet
    case rel => exact ⟨_, ((a1_0 == 2)), rt_, H', ⟨by have := HJ4.out; first | omega | exact Nat.le_refl _⟩, ⟨rb_ HO_286000.out⟩, ⟨bk_ BK277⟩, ⟨bk_ BK278⟩, ⟨bk_ BK279⟩, ⟨bk_ BK280⟩, ⟨bk_ BK285⟩, ⟨hb_ HB⟩⟩
   case rest =>
    clear HC61
    try clear c23
    try clear c51
    try clear c67
    try clear c67b0
    try clear c67b1
    obtain ⟨kq, x23_60, rfl, HA, HJ60, HO_286000, BK277, BK278, BK279, BK280, BK285, HB⟩ := hcut
    cases kq with
    | zero => exact absurd HA.out (by simp [impl_After.j1])
    | succ kj60 =>
     have H := HA.out
     clear HA
     simp only [impl_After.j1] at H
     by_cases c68 : x23_60 = true
     ·
      subst c68
      replace H := it_ H
      replace H := ix_ H
      obtain ⟨c69b0, H⟩ := H
      replace H := ix_ H
      obtain ⟨c70b0, H⟩ := H
      obtain ⟨y287, hy287⟩ : ∃ y_ : List Int, y_ = (t281.set (a1_1 : Int).toNat a1_2) := ⟨_, rfl⟩
      replace H : (some (y287, t284)) = some (r1, r2) := by first | (rw [hy287]; with_reducible exact H) | (have H2_ := (Option.bind_some _ _).symm.trans H; rw [hy287]; with_reducible exact H2_) | (have H2_ := (Option.bind_some _ _).symm.trans H; with_reducible exact H2_) | with_reducible exact H | (rw [hy287]; exact H) | exact H
      have Ny287 := A_ hy287
      clear hy287
      simp only [Option.some.injEq, Prod.mk.injEq] at H
      obtain ⟨rfl, rfl⟩ := H
      have hnb72 := NB285_277.out
      have hnc72 := NB277_285.out
      have hnb73 := NB285_278.out
      have hnc73 := NB278_285.out
      have hnb74 := NB285_279.out
      have hnc74 := NB279_285.out
      have hnb75 := NB285_280.out
      have hnc75 := NB280_285.out
      obtain ⟨hcz76_0, hcz76_1, hfz76_0, hfz76_1⟩ := cz2_ BK285
      have hnb77 := NB278_277.out
      have hnc77 := NB277_278.out
      have hnb78 := NB278_279.out
      have hnc78 := NB279_278.out
      have hnb79 := NB278_280.out
      have hnc79 := NB280_278.out
      obtain ⟨hcz80_0, hcz80_1, hcz80_2, hfz80_0, hfz80_1, hfz80_2⟩ := cz3_ BK278
      have p71 : 0 ≤ (a1_1 : Int) := od_
      have q71 : (a1_1 : Int) < ((t281.length : Int) : Int) := od_
      obtain ⟨go71, co71, eo71, gb71, gl71, cl71, HG71⟩ := Kd.R_form HO_286000.out (by omega)
      (first | cases eo71 | (injection eo71 with ea_ en_ ec_; (first | subst ea_ | (injection ea_ with ea_; subst ea_)); subst ec_; clear en_))
      have GB71 := A_ gb71
      have GG71 := A_ HG71
      clear gb71 gl71 HG71
      obtain ⟨hx71_0, hf71_0⟩ := Kd.R_celln 0 HO_286000.out (a1_1 : Int) p71 q71
      replace p71 := eq_true p71
      replace q71 := eq_true q71
      have HP81 := Kd.R_putg HO_286000.out (a1_1 : Int) a1_2
      go_wp2_with (first | ((with_reducible refine gate_store (t := 3) (p := 32) rfl ?_); refine store_event (t := 3) (p := 32) (v := ?vo_w82) (w1 := (wc.setCell ⟨go71, (a1_1 : Int).toNat, none⟩ (.int .i64 a1_2))) ?hg ?ho ?hn ?hr ?_; (case ho => rfl); (case hg => rfl); (case hn => rfl); (case hr => first | (go_simp; done) | (go_simp; rfl)); intro w82 hw; have hg : wc.grownBy w82 (some go71) := (by rw [hw]; exact HP81.2); have hp_ : Kd.R (Kd.int .i64) 3 w82 w.heap.size (fun _ => True) (.slice (some ⟨go71, 0, none⟩) t281.length co16) y287 := (by rw [hw, Ny287.out]; exact HP81.1); clear HP81; have n0_ := A_ hp_; have n1_ := A_ (blk_grown (g := gb277) (o := .cells #[.slice A0_0 l0_0.length c0_0, .int .i64 a0_1] 44 (0, 0)) (bk_ BK277) hg (Kd.R_ne HO_286000.out BK277.out (by decide))); have n2_ := A_ (blk_grown (g := gb278) (o := .cells #[.int .i64 a1_0, .int .i64 a1_1, .int .i64 a1_2] 47 (0, 0)) (bk_ BK278) hg (Kd.R_ne HO_286000.out BK278.out (by decide))); have n3_ := A_ (blk_grown (g := gb279) (o := .cells #[.int .i64 a2_0, .slice A2_1 l2_1.length c2_1] 49 (0, 0)) (bk_ BK279) hg (Kd.R_ne HO_286000.out BK279.out (by decide))); have n4_ := A_ (blk_grown (g := gb280) (o := .cells #[.slice none 0 0, .int .i64 0] 44 (0, 0)) (bk_ BK280) hg (Kd.R_ne HO_286000.out BK280.out (by decide))); have n5_ := A_ (blk_grown (g := gb285) (o := .cells #[.slice (some ⟨go71, 0, none⟩) t281.length co16, .int .i64 t284] 44 (0, 0)) (bk_ BK285) hg (Kd.R_ne HO_286000.out BK285.out (by decide))); have n6_ := A_ ((by rw [hw]; exact below_set (HB.out) GB71.out : Below w.heap.size w w82)); clear HO_286000; clear BK277; clear BK278; clear BK279; clear BK280; clear BK285; clear HB; have HO_286000 := n0_; have BK277 := n1_; have BK278 := n2_; have BK279 := n3_; have BK280 := n4_; have BK285 := n5_; have HB := n6_; clear n0_ n1_ n2_ n3_ n4_ n5_ n6_; clear hg hw hp_; obtain ⟨hcz83_0, hcz83_1, hfz83_0, hfz83_1⟩ := cz2_ BK285; have hnb84 := NB280_277.out; have hnc84 := NB277_280.out; have hnb85 := NB280_279.out; have hnc85 := NB279_280.out; obtain ⟨hcz86_0, hcz86_1, hfz86_0, hfz86_1⟩ := cz2_ BK280))
      refine bodyPost_ret (results_cell_row rfl _ _ gb280 44 #[.slice (some ⟨go71, 0, none⟩) t281.length co16, .int .i64 t284] (0, 0) _ rfl (bp_ BK280) Try.underlying44 rfl (by kernel_rfl)) rfl ?_
      exact ⟨_, rs_, by (with_reducible repeat (first | apply Kd.R_alloc | apply Kd.R_drewN | apply Kd.R_drew)); exact Kd.R_mono (Kd.R_far (p := ⟨gb280, 1, none⟩) (Kd.R_far (p := ⟨gb280, 0, none⟩) (Kd.R_types HO_286000.out BK280.out (by decide)) (fun _ hk => hk.2) (.slice (some ⟨go71, 0, none⟩) t281.length co16)) (fun _ hk => hk.2) (.int .i64 t284)) (fun _ hk => trivial), hb_ HB⟩
     obtain rfl := Bool.eq_false_iff.mpr c68
     replace H := iF_ H
     by_cases c87 : a1_0 = 3
     ·
      rw [if_pos c87] at H
      have c87b0 : (a1_0 == 3) = true := beq_iff_eq.mpr c87
      have c87b1 : (a1_0 != 3) = false := bne_eq_false_iff_eq.mpr c87
      clear c87
      replace H := ix_ H
      obtain ⟨c88b0, H⟩ := H
      replace H := ix_ H
      obtain ⟨c89b0, H⟩ := H
      obtain ⟨y288, hy288⟩ : ∃ y_ : List Int, y_ = (t281.set (a1_1 : Int).toNat 0) := ⟨_, rfl⟩
      replace H : (some (y288, t284)) = some (r1, r2) := by first | (rw [hy288]; with_reducible exact H) | (have H2_ := (Option.bind_some _ _).symm.trans H; rw [hy288]; with_reducible exact H2_) | (have H2_ := (Option.bind_some _ _).symm.trans H; with_reducible exact H2_) | with_reducible exact H | (rw [hy288]; exact H) | exact H
      have Ny288 := A_ hy288
      clear hy288
      simp only [Option.some.injEq, Prod.mk.injEq] at H
      obtain ⟨rfl, rfl⟩ := H
      have hnb91 := NB285_277.out
      have hnc91 := NB277_285.out
      have hnb92 := NB285_278.out
      have hnc92 := NB278_285.out
      have hnb93 := NB285_279.out
      have hnc93 := NB279_285.out
      have hnb94 := NB285_280.out
      have hnc94 := NB280_285.out
      obtain ⟨hcz95_0, hcz95_1, hfz95_0, hfz95_1⟩ := cz2_ BK285
      have hnb96 := NB278_277.out
      have hnc96 := NB277_278.out
      have hnb97 := NB278_279.out
      have hnc97 := NB279_278.out
      have hnb98 := NB278_280.out
      have hnc98 := NB280_278.out
      obtain ⟨hcz99_0, hcz99_1, hcz99_2, hfz99_0, hfz99_1, hfz99_2⟩ := cz3_ BK278
      have p90 : 0 ≤ (a1_1 : Int) := od_
      have q90 : (a1_1 : Int) < ((t281.length : Int) : Int) := od_
      obtain ⟨go90, co90, eo90, gb90, gl90, cl90, HG90⟩ := Kd.R_form HO_286000.out (by omega)
      (first | cases eo90 | (injection eo90 with ea_ en_ ec_; (first | subst ea_ | (injection ea_ with ea_; subst ea_)); subst ec_; clear en_))
      have GB90 := A_ gb90
      have GG90 := A_ HG90
      clear gb90 gl90 HG90
      obtain ⟨hx90_0, hf90_0⟩ := Kd.R_celln 0 HO_286000.out (a1_1 : Int) p90 q90
      replace p90 := eq_true p90
      replace q90 := eq_true q90
      have HP100 := Kd.R_putg HO_286000.out (a1_1 : Int) 0
      go_wp2_with (first | ((with_reducible refine gate_store (t := 3) (p := 39) rfl ?_); refine store_event (t := 3) (p := 39) (v := ?vo_w101) (w1 := (wc.setCell ⟨go90, (a1_1 : Int).toNat, none⟩ (.int .i64 0))) ?hg ?ho ?hn ?hr ?_; (case ho => rfl); (case hg => rfl); (case hn => rfl); (case hr => first | (go_simp; done) | (go_simp; rfl)); intro w101 hw; have hg : wc.grownBy w101 (some go90) := (by rw [hw]; exact HP100.2); have hp_ : Kd.R (Kd.int .i64) 3 w101 w.heap.size (fun _ => True) (.slice (some ⟨go90, 0, none⟩) t281.length co16) y288 := (by rw [hw, Ny288.out]; exact HP100.1); clear HP100; have n0_ := A_ hp_; have n1_ := A_ (blk_grown (g := gb277) (o := .cells #[.slice A0_0 l0_0.length c0_0, .int .i64 a0_1] 44 (0, 0)) (bk_ BK277) hg (Kd.R_ne HO_286000.out BK277.out (by decide))); have n2_ := A_ (blk_grown (g := gb278) (o := .cells #[.int .i64 a1_0, .int .i64 a1_1, .int .i64 a1_2] 47 (0, 0)) (bk_ BK278) hg (Kd.R_ne HO_286000.out BK278.out (by decide))); have n3_ := A_ (blk_grown (g := gb279) (o := .cells #[.int .i64 a2_0, .slice A2_1 l2_1.length c2_1] 49 (0, 0)) (bk_ BK279) hg (Kd.R_ne HO_286000.out BK279.out (by decide))); have n4_ := A_ (blk_grown (g := gb280) (o := .cells #[.slice none 0 0, .int .i64 0] 44 (0, 0)) (bk_ BK280) hg (Kd.R_ne HO_286000.out BK280.out (by decide))); have n5_ := A_ (blk_grown (g := gb285) (o := .cells #[.slice (some ⟨go90, 0, none⟩) t281.length co16, .int .i64 t284] 44 (0, 0)) (bk_ BK285) hg (Kd.R_ne HO_286000.out BK285.out (by decide))); have n6_ := A_ ((by rw [hw]; exact below_set (HB.out) GB90.out : Below w.heap.size w w101)); clear HO_286000; clear BK277; clear BK278; clear BK279; clear BK280; clear BK285; clear HB; have HO_286000 := n0_; have BK277 := n1_; have BK278 := n2_; have BK279 := n3_; have BK280 := n4_; have BK285 := n5_; have HB := n6_; clear n0_ n1_ n2_ n3_ n4_ n5_ n6_; clear hg hw hp_; obtain ⟨hcz102_0, hcz102_1, hfz102_0, hfz102_1⟩ := cz2_ BK285; have hnb103 := NB280_277.out; have hnc103 := NB277_280.out; have hnb104 := NB280_279.out; have hnc104 := NB279_280.out; obtain ⟨hcz105_0, hcz105_1, hfz105_0, hfz105_1⟩ := cz2_ BK280))
      refine bodyPost_ret (results_cell_row rfl _ _ gb280 44 #[.slice (some ⟨go90, 0, none⟩) t281.length co16, .int .i64 t284] (0, 0) _ rfl (bp_ BK280) Try.underlying44 rfl (by kernel_rfl)) rfl ?_
      exact ⟨_, rs_, by (with_reducible repeat (first | apply Kd.R_alloc | apply Kd.R_drewN | apply Kd.R_drew)); exact Kd.R_mono (Kd.R_far (p := ⟨gb280, 1, none⟩) (Kd.R_far (p := ⟨gb280, 0, none⟩) (Kd.R_types HO_286000.out BK280.out (by decide)) (fun _ hk => hk.2) (.slice (some ⟨go90, 0, none⟩) t281.length co16)) (fun _ hk => hk.2) (.int .i64 t284)) (fun _ hk => trivial), hb_ HB⟩
     rw [if_neg c87] at H
     have c87b0 : (a1_0 == 3) = false := beq_eq_false_iff_ne.mpr c87
     have c87b1 : (a1_0 != 3) = true := bne_iff_ne.mpr c87
     by_cases c106 : a1_0 = 8
     ·
      rw [if_pos c106] at H
      have c106b0 : (a1_0 == 8) = true := beq_iff_eq.mpr c106
      have c106b1 : (a1_0 != 8) = false := bne_eq_false_iff_eq.mpr c106
      clear c106
      simp only [Option.some.injEq, Prod.mk.injEq] at H
      obtain ⟨rfl, rfl⟩ := H
      have hnb107 := NB285_277.out
      have hnc107 := NB277_285.out
      have hnb108 := NB285_278.out
      have hnc108 := NB278_285.out
      have hnb109 := NB285_279.out
      have hnc109 := NB279_285.out
      have hnb110 := NB285_280.out
      have hnc110 := NB280_285.out
      obtain ⟨hcz111_0, hcz111_1, hfz111_0, hfz111_1⟩ := cz2_ BK285
      have hnb112 := NB280_277.out
      have hnc112 := NB277_280.out
      have hnb113 := NB280_278.out
      have hnc113 := NB278_280.out
      have hnb114 := NB280_279.out
      have hnc114 := NB279_280.out
      obtain ⟨hcz115_0, hcz115_1, hfz115_0, hfz115_1⟩ := cz2_ BK280
      go_wp2
      refine bodyPost_ret (results_cell_row rfl _ _ gb280 44 #[.slice Ao16 t281.length co16, .int .i64 (wrap64 (t284 + 1))] (0, 0) _ rfl (bp_ BK280) Try.underlying44 rfl (by kernel_rfl)) rfl ?_
      exact ⟨_, rs_, by (with_reducible repeat (first | apply Kd.R_alloc | apply Kd.R_drewN | apply Kd.R_drew)); exact Kd.R_mono (Kd.R_far (p := ⟨gb280, 1, none⟩) (Kd.R_far (p := ⟨gb280, 0, none⟩) (Kd.R_far (p := ⟨gb285, 1, none⟩) (Kd.R_types (Kd.R_types HO_286000.out BK285.out (by decide)) BK280.out (by decide)) (fun _ hk => hk.1.2) (.int .i64 (wrap64 (t284 + 1)))) (fun _ hk => hk.2) (.slice Ao16 t281.length co16)) (fun _ hk => hk.2) (.int .i64 (wrap64 (t284 + 1)))) (fun _ hk => trivial), hb_ HB⟩
     rw [if_neg c106] at H
     have c106b0 : (a1_0 == 8) = false := beq_eq_false_iff_ne.mpr c106
     have c106b1 : (a1_0 != 8) = true := bne_iff_ne.mpr c106
     by_cases c116 : a1_0 = 9
     ·
      rw [if_pos c116] at H
      have c116b0 : (a1_0 == 9) = true := beq_iff_eq.mpr c116
      have c116b1 : (a1_0 != 9) = false := bne_eq_false_iff_eq.mpr c116
      clear c116
      simp only [Option.some.injEq, Prod.mk.injEq] at H
      obtain ⟨rfl, rfl⟩ := H
      have hnb117 := NB285_277.out
      have hnc117 := NB277_285.out
      have hnb118 := NB285_278.out
      have hnc118 := NB278_285.out
      have hnb119 := NB285_279.out
      have hnc119 := NB279_285.out
      have hnb120 := NB285_280.out
      have hnc120 := NB280_285.out
      obtain ⟨hcz121_0, hcz121_1, hfz121_0, hfz121_1⟩ := cz2_ BK285
      have hnb122 := NB280_277.out
      have hnc122 := NB277_280.out
      have hnb123 := NB280_278.out
      have hnc123 := NB278_280.out
      have hnb124 := NB280_279.out
      have hnc124 := NB279_280.out
      obtain ⟨hcz125_0, hcz125_1, hfz125_0, hfz125_1⟩ := cz2_ BK280
      go_wp2
      refine bodyPost_ret (results_cell_row rfl _ _ gb280 44 #[.slice Ao16 t281.length co16, .int .i64 (wrap64 (t284 + 1))] (0, 0) _ rfl (bp_ BK280) Try.underlying44 rfl (by kernel_rfl)) rfl ?_
      exact ⟨_, rs_, by (with_reducible repeat (first | apply Kd.R_alloc | apply Kd.R_drewN | apply Kd.R_drew)); exact Kd.R_mono (Kd.R_far (p := ⟨gb280, 1, none⟩) (Kd.R_far (p := ⟨gb280, 0, none⟩) (Kd.R_far (p := ⟨gb285, 1, none⟩) (Kd.R_types (Kd.R_types HO_286000.out BK285.out (by decide)) BK280.out (by decide)) (fun _ hk => hk.1.2) (.int .i64 (wrap64 (t284 + 1)))) (fun _ hk => hk.2) (.slice Ao16 t281.length co16)) (fun _ hk => hk.2) (.int .i64 (wrap64 (t284 + 1)))) (fun _ hk => trivial), hb_ HB⟩
     rw [if_neg c116] at H
     have c116b0 : (a1_0 == 9) = false := beq_eq_false_iff_ne.mpr c116
     have c116b1 : (a1_0 != 9) = true := bne_iff_ne.mpr c116
     simp only [Option.some.injEq, Prod.mk.injEq] at H
     obtain ⟨rfl, rfl⟩ := H
     have hnb126 := NB285_277.out
     have hnc126 := NB277_285.out
     have hnb127 := NB285_278.out
     have hnc127 := NB278_285.out
     have hnb128 := NB285_279.out
     have hnc128 := NB279_285.out
     have hnb129 := NB285_280.out
     have hnc129 := NB280_285.out
     obtain ⟨hcz130_0, hcz130_1, hfz130_0, hfz130_1⟩ := cz2_ BK285
     have hnb131 := NB280_277.out
     have hnc131 := NB277_280.out
     have hnb132 := NB280_278.out
     have hnc132 := NB278_280.out
     have hnb133 := NB280_279.out
     have hnc133 := NB279_280.out
     obtain ⟨hcz134_0, hcz134_1, hfz134_0, hfz134_1⟩ := cz2_ BK280
     go_wp2
     refine bodyPost_ret (results_cell_row rfl _ _ gb280 44 #[.slice Ao16 t281.length co16, .int .i64 t284] (0, 0) _ rfl (bp_ BK280) Try.underlying44 rfl (by kernel_rfl)) rfl ?_
     exact ⟨_, rs_, by (with_reducible repeat (first | apply Kd.R_alloc | apply Kd.R_drewN | apply Kd.R_drew)); exact Kd.R_mono (Kd.R_far (p := ⟨gb280, 1, none⟩) (Kd.R_far (p := ⟨gb280, 0, none⟩) (Kd.R_types HO_286000.out BK280.out (by decide)) (fun _ hk => hk.2) (.slice Ao16 t281.length co16)) (fun _ hk => hk.2) (.int .i64 t284)) (fun _ hk => trivial), hb_ HB⟩

/-! ### laws_big: function 26 -/
def laws_big.f (l0 : List Int) : Option (Bool) := some (decide ((l0.length : Int) > 1048576))
set_option maxHeartbeats 8000000 in
set_option maxRecDepth 100000 in
theorem laws_big.calls (A0 : Option Addr) (c0 : Nat) (l0 : List Int) (r : Bool) (w : World) (hr0 : Kd.C (Kd.int .u8) w A0 l0.length l0) (hc0 : l0.length ≤ c0) (h : laws_big.f l0 = some r) :
    Calls Try.prog 26 #[.slice A0 l0.length c0] w fun e w' => e = .returned (.bool r) ∧ Drawn0 w w' := by
 have HR0 := A_ hr0
 have HC0 := A_ hc0
 clear hr0 hc0
 have H : (some (decide ((l0.length : Int) > 1048576))) = some r := h
 clear h
 obtain rfl := Option.some.inj H
 go_enter Try.func26, Try.ntmps26
 go_wp2
 go_ret
 exact ⟨rt_, by repeat (first | exact Drawn0.refl _ | apply Drawn0.step)⟩

/-- A state of type 147 at block g of W; what its slices lead to came in by w0. -/
def IsS147 (w0 W : World) (g : Nat) (f0 : List Int) (f1 : Int) (f2 : Int) : Prop := ∃ A0 c0, W.heap[g]? = some (.cells #[.slice A0 f0.length c0, .int .i64 f1, .int .i64 f2] 147 (0, 0)) ∧ w0.heap.size ≤ g ∧ Kd.C (Kd.int .u8) w0 A0 f0.length f0
theorem IsS147.grown {w0 W : World} {g : Nat} {f0 : List Int} {f1 : Int} {f2 : Int} {W1 : World} {row : Option Nat} (h : IsS147 w0 W g f0 f1 f2) (hw : W.grownBy W1 row) (hne : some g ≠ row) : IsS147 w0 W1 g f0 f1 f2 := by
 obtain ⟨A0, c0, hb, hg, hr0⟩ := h
 exact ⟨A0, c0, blk_grown hb hw hne, hg, hr0⟩
theorem IsS147.own_neN {w0 W : World} {g : Nat} {f0 : List Int} {f1 : Int} {f2 : Int} {α : Type} {d : Kd α} {e : Nat} {base : Nat} {ok : Nat → Prop} {v : Value} {xs : List α} (h : IsS147 w0 W g f0 f1 f2) (ho : Kd.N d e W base ok v xs) (ht : e ≠ 147) : some g ≠ v.ownBlock := by
 obtain ⟨A0, c0, hb, hg, hr0⟩ := h
 exact Kd.N_ne ho hb ht
theorem IsS147.fresh {w0 W : World} {g : Nat} {f0 : List Int} {f1 : Int} {f2 : Int} (h : IsS147 w0 W g f0 f1 f2) : ∀ k, W.heap.size ≤ k → k ≠ g := by
 obtain ⟨A0, c0, hb, hg, hr0⟩ := h
 exact Kd.freshB hb
theorem IsS147.kept {w0 W : World} {g : Nat} {f0 : List Int} {f1 : Int} {f2 : Int} {W1 : World} {S : Nat → Prop} (h : IsS147 w0 W g f0 f1 f2) (hk : Kept W W1 S) (hne : ¬ S g) : IsS147 w0 W1 g f0 f1 f2 := by
 obtain ⟨A0, c0, hb, hg, hr0⟩ := h
 exact ⟨A0, c0, blk_kept hb hk hne, hg, hr0⟩
theorem IsS147.below {w0 W : World} {g : Nat} {f0 : List Int} {f1 : Int} {f2 : Int} {W1 : World} (h : IsS147 w0 W g f0 f1 f2) (hw : Below W.heap.size W W1) : IsS147 w0 W1 g f0 f1 f2 := h.grown (grown_of_below hw none) (by simp)
theorem IsS147.alloc {w0 W : World} {g : Nat} {f0 : List Int} {f1 : Int} {f2 : Int} (h : IsS147 w0 W g f0 f1 f2) (o : Obj) : IsS147 w0 (W.alloc o) g f0 f1 f2 := h.below (below_alloc (Below.refl _ _) o)
theorem IsS147.drewN {w0 W : World} {g : Nat} {f0 : List Int} {f1 : Int} {f2 : Int} (h : IsS147 w0 W g f0 f1 f2) (m : Nat) : IsS147 w0 (W.drewN m) g f0 f1 f2 := h
theorem IsS147.drew {w0 W : World} {g : Nat} {f0 : List Int} {f1 : Int} {f2 : Int} (h : IsS147 w0 W g f0 f1 f2) : IsS147 w0 W.drew g f0 f1 f2 := h
theorem IsS147.at_ {w0 W : World} {g : Nat} {f0 : List Int} {f1 : Int} {f2 : Int} {w' : World} {m : Nat} (hq : W.drewN m = w') (h : IsS147 w0 W g f0 f1 f2) : IsS147 w0 w' g f0 f1 f2 := by subst hq; exact IsS147.drewN h m
theorem IsS147.apart {w0 W : World} {g : Nat} {f0 : List Int} {f1 : Int} {f2 : Int} {α : Type} {d : Kd α} {e : Nat} {base : Nat} {ok : Nat → Prop} {v : Value} {xs : List α} (h : IsS147 w0 W g f0 f1 f2) (ho : d.R e W base ok v xs) (ht : ∀ q, q ∈ e :: d.E → q ≠ 147) : d.R e W base (fun k => ok k ∧ k ≠ g) v xs := by
 obtain ⟨A0, c0, hb, hg, hr0⟩ := h
 exact Kd.R_types ho hb ht
theorem IsS147.own_ne {w0 W : World} {g : Nat} {f0 : List Int} {f1 : Int} {f2 : Int} {α : Type} {d : Kd α} {e : Nat} {base : Nat} {ok : Nat → Prop} {v : Value} {xs : List α} (h : IsS147 w0 W g f0 f1 f2) (ho : d.R e W base ok v xs) (ht : e ≠ 147) : some g ≠ v.ownBlock := by
 obtain ⟨A0, c0, hb, hg, hr0⟩ := h
 exact Kd.R_ne ho hb ht
theorem IsS147.apartQ {w0 W : World} {g : Nat} {f0 : List Int} {f1 : Int} {f2 : Int} {α : Type} {d : Kd α} {e : Nat} {base : Nat} {ok : Nat → Prop} {v : Value} {xs : List α} (h : IsS147 w0 W g f0 f1 f2) (ho : d.Q e W base ok v xs) (ht : ∀ q, q ∈ e :: d.E → q ≠ 147) : d.Q e W base (fun k => ok k ∧ k ≠ g) v xs := by
 obtain ⟨A0, c0, hb, hg, hr0⟩ := h
 exact Kd.Q_types ho hb ht
theorem IsS147.own_neQ {w0 W : World} {g : Nat} {f0 : List Int} {f1 : Int} {f2 : Int} {α : Type} {d : Kd α} {e : Nat} {base : Nat} {ok : Nat → Prop} {v : Value} {xs : List α} (h : IsS147 w0 W g f0 f1 f2) (ho : d.Q e W base ok v xs) (ht : e ≠ 147) : some g ≠ v.ownBlock := by
 obtain ⟨A0, c0, hb, hg, hr0⟩ := h
 exact Kd.Q_ne ho hb ht
theorem IsS147.apartS {w0 W : World} {g : Nat} {f0 : List Int} {f1 : Int} {f2 : Int} {α : Type} {d : Kd α} {e : Nat} {base : Nat} {ok : Nat → Prop} {v : Value} {xs : List α} (h : IsS147 w0 W g f0 f1 f2) (ho : d.S e W base ok v xs) (ht : ∀ q, q ∈ e :: d.E → q ≠ 147) : d.S e W base (fun k => ok k ∧ k ≠ g) v xs := by
 obtain ⟨A0, c0, hb, hg, hr0⟩ := h
 exact Kd.S_types ho hb ht
theorem IsS147.own_neS {w0 W : World} {g : Nat} {f0 : List Int} {f1 : Int} {f2 : Int} {α : Type} {d : Kd α} {e : Nat} {base : Nat} {ok : Nat → Prop} {v : Value} {xs : List α} (h : IsS147 w0 W g f0 f1 f2) (ho : d.S e W base ok v xs) (ht : e ≠ 147) : some g ≠ v.ownBlock := by
 obtain ⟨A0, c0, hb, hg, hr0⟩ := h
 exact Kd.S_ne ho hb ht
theorem IsS147.lt {w0 W : World} {g : Nat} {f0 : List Int} {f1 : Int} {f2 : Int} (h : IsS147 w0 W g f0 f1 f2) : g < W.heap.size := by
 obtain ⟨A0, c0, hb, hg, hr0⟩ := h
 exact blk_lt hb
theorem IsS147.ge {w0 W : World} {g : Nat} {f0 : List Int} {f1 : Int} {f2 : Int} (h : IsS147 w0 W g f0 f1 f2) : w0.heap.size ≤ g := by
 obtain ⟨A0, c0, hb, hg, hr0⟩ := h
 exact hg
theorem IsS147.ne_blk {w0 W : World} {g : Nat} {f0 : List Int} {f1 : Int} {f2 : Int} {a : Nat} {cs : Array Value} {t : TypeId} {fr : Nat × Nat} (h : IsS147 w0 W g f0 f1 f2) (hb2 : W.heap[a]? = some (.cells cs t fr)) (ht : t ≠ 147) : g ≠ a := by
 obtain ⟨A0, c0, hb, hg, hr0⟩ := h
 rintro rfl
 rw [hb] at hb2
 injection hb2 with hb2
 injection hb2 with _ ht2
 exact ht ht2.symm
theorem IsS147.far {w0 W : World} {g : Nat} {f0 : List Int} {f1 : Int} {f2 : Int} {p : Addr} (h : IsS147 w0 W g f0 f1 f2) (hne : g ≠ p.block) (u : Value) : IsS147 w0 (W.setCell p u) g f0 f1 f2 := by
 obtain ⟨A0, c0, hb, hg, hr0⟩ := h
 exact ⟨A0, c0, blk_far hb hne u, hg, hr0⟩
theorem cellS147_0 {W : World} {g : Nat} {A0 : Option Addr} {c0 : Nat} {f0 : List Int} {f1 : Int} {f2 : Int} (h : W.heap[g]? = some (.cells #[.slice A0 f0.length c0, .int .i64 f1, .int .i64 f2] 147 (0, 0))) : W.cell? ⟨g, 0, none⟩ = some (.slice A0 f0.length c0) := (blk_cell h 0).trans rfl
theorem cellS147_1 {W : World} {g : Nat} {A0 : Option Addr} {c0 : Nat} {f0 : List Int} {f1 : Int} {f2 : Int} (h : W.heap[g]? = some (.cells #[.slice A0 f0.length c0, .int .i64 f1, .int .i64 f2] 147 (0, 0))) : W.cell? ⟨g, 1, none⟩ = some (.int .i64 f1) := (blk_cell h 1).trans rfl
theorem IsS147.set_1 {w0 W : World} {g : Nat} {f0 : List Int} {f1 : Int} {f2 : Int} (h : IsS147 w0 W g f0 f1 f2) (x : Int) : IsS147 w0 (W.setCell ⟨g, 1, none⟩ (.int .i64 x)) g f0 x f2 := by
 obtain ⟨A0, c0, hb, hg, hr0⟩ := h
 exact ⟨A0, c0, by simpa using blk_set hb 1 (.int .i64 x), hg, hr0⟩
theorem cellS147_2 {W : World} {g : Nat} {A0 : Option Addr} {c0 : Nat} {f0 : List Int} {f1 : Int} {f2 : Int} (h : W.heap[g]? = some (.cells #[.slice A0 f0.length c0, .int .i64 f1, .int .i64 f2] 147 (0, 0))) : W.cell? ⟨g, 2, none⟩ = some (.int .i64 f2) := (blk_cell h 2).trans rfl
theorem IsS147.set_2 {w0 W : World} {g : Nat} {f0 : List Int} {f1 : Int} {f2 : Int} (h : IsS147 w0 W g f0 f1 f2) (x : Int) : IsS147 w0 (W.setCell ⟨g, 2, none⟩ (.int .i64 x)) g f0 f1 x := by
 obtain ⟨A0, c0, hb, hg, hr0⟩ := h
 exact ⟨A0, c0, by simpa using blk_set hb 2 (.int .i64 x), hg, hr0⟩
theorem IsS147.new (w0 W : World) (A0 : Option Addr) (c0 : Nat) (f0 : List Int) (f1 : Int) (f2 : Int) (hB : Below w0.heap.size w0 W) (hr0 : Kd.C (Kd.int .u8) w0 A0 f0.length f0) : IsS147 w0 (W.alloc (.cells #[.slice A0 f0.length c0, .int .i64 f1, .int .i64 f2] 147)) W.heap.size f0 f1 f2 := ⟨A0, c0, by simpa using heap_alloc_new W _, hB.size, hr0⟩

/-! ### spec_l1New: function 70 -/
def spec_l1New.l0 : Nat → List Int → Int → Int → Option (List Int × Int × Int)
 | 0, _, _, _ => none
 | k + 1, x0, x3, x4 => if x4 < (x0.length : Int) then (if x4 < 4000 then (if 0 ≤ x4 then (spec_l1New.l0 k x0 (Go.bits .and .i64 (wrap64 ((wrap64 ((wrap64 (x3 * 131)) + (wrap64 (rd x0 x4)))) + 7)) 1073741823) (wrap64 (x4 + 1))) else (none)) else (some (x0, 0, x3))) else (some (x0, 0, x3))
def spec_l1New.f (k : Nat) (l0 : List Int) : Option (List Int × Int × Int) := spec_l1New.l0 k l0 (wrap64 (27323 + (l0.length : Int))) 0
theorem spec_l1New.mono_l : ∀ k, (∀ y0 y1 y2, LeO (spec_l1New.l0 k y0 y1 y2) (spec_l1New.l0 (k + 1) y0 y1 y2))
 | 0 => fun _ _ _ r h => by simp [spec_l1New.l0] at h
 | k + 1 => by
  have ih0 := spec_l1New.mono_l k
  ·
   intro y0 y1 y2
   unfold spec_l1New.l0
   repeat' first | (with_reducible first | apply ih0 | apply LeO.refl | apply LeO.none | apply LeO.ite | refine LeO.bind ?_ (fun _ => ?_)) | apply ih0 | apply LeO.none | apply LeO.ite | refine LeO.bind ?_ (fun _ => ?_)
theorem spec_l1New.mono : ∀ a0 k, LeO (spec_l1New.f k a0) (spec_l1New.f (k + 1) a0) := by
 intro a0 k
 have ih0 := spec_l1New.mono_l k
 unfold spec_l1New.f
 repeat' first | (with_reducible first | apply ih0 | apply LeO.refl | apply LeO.none | apply LeO.ite | refine LeO.bind ?_ (fun _ => ?_)) | apply ih0 | apply LeO.none | apply LeO.ite | refine LeO.bind ?_ (fun _ => ?_)
set_option maxHeartbeats 8000000 in
set_option maxRecDepth 100000 in
theorem spec_l1New.calls (k : Nat) (A0 : Option Addr) (c0 : Nat) (l0 : List Int) (r1 : List Int) (r2 : Int) (r3 : Int) (w0 w : World) (hB : Below w0.heap.size w0 w) (hr0 : Kd.C (Kd.int .u8) w0 A0 l0.length l0) (hc0 : l0.length ≤ c0) (h : spec_l1New.f k l0 = some (r1, r2, r3)) :
    Calls Try.prog 70 #[.slice A0 l0.length c0] w fun e w' => ∃ g_ : Nat, e = .returned (.pointer (some ⟨g_, 0, none⟩)) ∧ IsS147 w0 w' g_ r1 r2 r3 ∧ Below w0.heap.size w0 w' ∧ Below w.heap.size w w' := by
 have hu147 := Try.underlying147
 have HR0 := A_ hr0
 have HC0 := A_ hc0
 clear hr0 hc0
 have HBW := A_ (Below.refl w.heap.size w)
 have HW0 := A_ hB.size
 have HB := A_ hB
 clear hB
 have H : (spec_l1New.l0 k l0 (wrap64 (27323 + (l0.length : Int))) 0) = some (r1, r2, r3) := h
 clear h
 replace H' := A_ H; clear H
 go_enter Try.func70, Try.ntmps70
 go_wp2
 go_loopg [3, 4] k (fun kq v3 v4 w' => ∃ (x3_1 : Int) (x4_1 : Int), v3 = .int .i64 x3_1 ∧ v4 = .int .i64 x4_1 ∧ Aside0 (spec_l1New.l0 kq l0 x3_1 x4_1 = some (r1, r2, r3)) ∧ Aside0 (kq ≤ k) ∧ Aside0 (Below w0.heap.size w0 w') ∧ Aside0 (Below w.heap.size w w'))
 case atStart => exact ⟨(wrap64 (27323 + (l0.length : Int))), (0), rt_, rt_, H', ⟨Nat.le_refl _⟩, ⟨hb_ HB⟩, ⟨hb_ HBW⟩⟩
 case round =>
  clear H'
  obtain ⟨x3_1, x4_1, rfl, rfl, HA, HK1, HB, HBW⟩ := hrel
  cases gk with
  | zero => exact absurd HA.out (by simp [spec_l1New.l0])
  | succ k1 =>
   have H := HA.out
   clear HA
   simp only [spec_l1New.l0] at H
   replace H := ic_ H
   rcases H with ⟨c2b0, H⟩ | ⟨c2b0, H⟩
   ·
    replace H := ic_ H
    rcases H with ⟨c3b0, H⟩ | ⟨c3b0, H⟩
    ·
     replace H := ix_ H
     obtain ⟨c4b0, H⟩ := H
     replace H' := A_ H; clear H
     have p289 : 0 ≤ (x4_1 : Int) := od_
     have q289 : x4_1 < (l0.length : Int) := od_
     obtain ⟨ad289, e289, hx289_0⟩ := Kd.at_int HR0.out x4_1 p289 q289
     cases e289
     replace hx289_0 := pw_cell_below HB.out hx289_0
     replace p289 := eq_true p289
     replace q289 := eq_true q289
     go_wp2
     go_roundg k1
     case measure => have := HK1.out; omega
     case rel => exact ⟨(Go.bits .and .i64 (wrap64 ((wrap64 ((wrap64 (x3_1 * 131)) + (wrap64 (rd l0 x4_1)))) + 7)) 1073741823), (wrap64 (x4_1 + 1)), rt_, rt_, H', ⟨by have := HK1.out; omega⟩, ⟨hb_ HB⟩, ⟨hb_ HBW⟩⟩
    simp only [Option.some.injEq, Prod.mk.injEq] at H
    obtain ⟨rfl, rfl, rfl⟩ := H
    go_wp2_with (first | ((with_reducible refine gate_dst (N := 31) rfl ?_); refine box_event rfl (N := 31) rfl (cs := #[.slice A0 l0.length c0, .int .i64 0, .int .i64 x3_1]) (t := 147) hr_ ?_; intro gb290 hg w5 hbox hb; have BK290 := A_ hbox; have GW290 := gs_ HBW hg; have GE290 := A_ ((Nat.le_trans HW0.out (by rw [hg]; exact (below_size (hb_ HBW)) : w.heap.size ≤ gb290) : w0.heap.size ≤ gb290)); replace HBW := A_ (below_step HBW.out hb); replace HB := hs_ HB hb; clear hb hbox hg))
    go_ret
    exact ⟨_, rfl, (show IsS147 w0 _ gb290 l0 0 x3_1 from ⟨_, _, bk_ BK290, GE290.out, HR0.out⟩), hb_ HB, hb_ HBW⟩
   simp only [Option.some.injEq, Prod.mk.injEq] at H
   obtain ⟨rfl, rfl, rfl⟩ := H
   go_wp2_with (first | ((with_reducible refine gate_dst (N := 31) rfl ?_); refine box_event rfl (N := 31) rfl (cs := #[.slice A0 l0.length c0, .int .i64 0, .int .i64 x3_1]) (t := 147) hr_ ?_; intro gb291 hg w6 hbox hb; have BK291 := A_ hbox; have GW291 := gs_ HBW hg; have GE291 := A_ ((Nat.le_trans HW0.out (by rw [hg]; exact (below_size (hb_ HBW)) : w.heap.size ≤ gb291) : w0.heap.size ≤ gb291)); replace HBW := A_ (below_step HBW.out hb); replace HB := hs_ HB hb; clear hb hbox hg))
   go_ret
   exact ⟨_, rfl, (show IsS147 w0 _ gb291 l0 0 x3_1 from ⟨_, _, bk_ BK291, GE291.out, HR0.out⟩), hb_ HB, hb_ HBW⟩

end Go.Proofs.Ytmkhghbalnadlaa.PFnAllowed
