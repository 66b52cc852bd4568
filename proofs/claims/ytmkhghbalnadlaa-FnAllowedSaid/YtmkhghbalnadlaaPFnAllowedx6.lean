/- Contracts of functions of the program: each says that the call does what a plain Lean function tells. Made by programs of this session and of the kit. No condition beyond the hypotheses that each theorem names. -/
import Derived.Test.YtmkhghbalnadlaaPFnAllowedx0
import Derived.Test.YtmkhghbalnadlaaPFnAllowedx5
namespace Go.Proofs.Ytmkhghbalnadlaa.PFnAllowed
open Go.RowKit Go.Proofs.YtmkhghbalnadlaaW.PrintWords Go.Proofs.YtmkhghbalnadlaaW.PrintLast Go.Proofs.YtmkhghbalnadlaaW.PrintMore
attribute [local go_sem] max2_int min2_int max_two min_two max_three min_three max_four min_four   -- for this text's walks alone
set_option linter.unusedVariables false
set_option linter.unusedSimpArgs false

/-! ### spec_After: function 16 -/
mutual
def spec_After.j0 : Nat → Bool → List Int → Int → Int → Int → Int → List Int → Int → Option (List Int × Int)
 | 0, _, _, _, _, _, _, _, _ => none
 | k + 1, x19, x186000, x186001, x187000, x187001, x187002, x194000, x194001 => if x19 = true then (some (x194000, x194001)) else (if x187000 = 1 then (spec_After.j1 k x187000 (x187000 == 1) x186000 x186001 x187000 x187001 x187002 x194000 x194001) else (spec_After.j1 k x187000 (x187000 == 2) x186000 x186001 x187000 x187001 x187002 x194000 x194001))
def spec_After.j1 : Nat → Int → Bool → List Int → Int → Int → Int → Int → List Int → Int → Option (List Int × Int)
 | 0, _, _, _, _, _, _, _, _, _ => none
 | k + 1, x22, x23, x186000, x186001, x187000, x187001, x187002, x194000, x194001 => if x23 = true then (if 0 ≤ x187001 then (if x187001 < (x194000.length : Int) then (some ((x194000.set (x187001 : Int).toNat x187002), x194001)) else (none)) else (none)) else (if x22 = 3 then (if 0 ≤ x187001 then (if x187001 < (x194000.length : Int) then (some ((x194000.set (x187001 : Int).toNat 0), x194001)) else (none)) else (none)) else (if x22 = 8 then (some (x194000, wrap64 (x186001 + 1))) else (if x22 = 9 then (some (x194000, wrap64 (x186001 + 1))) else (some (x194000, x194001)))))
end
def spec_After.f (k : Nat) (l0_0 : List Int) (a0_1 : Int) (a1_0 : Int) (a1_1 : Int) (a1_2 : Int) (a2_0 : Int) (l2_1 : List Int) : Option (List Int × Int) := (spec_l3Copy.f l0_0 a0_1).bind fun bt189 => ((spec_Allowed.f k l0_0 a0_1 a1_0 a1_1 a1_2 a2_0 l2_1).bind fun t194 => (if t194 = true then (spec_After.j0 k (a2_0 != 0) l0_0 a0_1 a1_0 a1_1 a1_2 bt189.1 bt189.2) else (spec_After.j0 k true l0_0 a0_1 a1_0 a1_1 a1_2 bt189.1 bt189.2)))
theorem spec_After.mono_l : ∀ k, (∀ y0 y1 y2 y3 y4 y5 y6 y7, LeO (spec_After.j0 k y0 y1 y2 y3 y4 y5 y6 y7) (spec_After.j0 (k + 1) y0 y1 y2 y3 y4 y5 y6 y7)) ∧ (∀ y0 y1 y2 y3 y4 y5 y6 y7 y8, LeO (spec_After.j1 k y0 y1 y2 y3 y4 y5 y6 y7 y8) (spec_After.j1 (k + 1) y0 y1 y2 y3 y4 y5 y6 y7 y8))
 | 0 => ⟨fun _ _ _ _ _ _ _ _ r h => by simp [spec_After.j0] at h, fun _ _ _ _ _ _ _ _ _ r h => by simp [spec_After.j1] at h⟩
 | k + 1 => by
  obtain ⟨ih0, ih1⟩ := spec_After.mono_l k
  refine ⟨?_, ?_⟩
  ·
   intro y0 y1 y2 y3 y4 y5 y6 y7
   unfold spec_After.j0
   repeat' first | (with_reducible first | apply ih0 | apply ih1 | apply spec_Allowed.mono | apply LeO.refl | apply LeO.none | apply LeO.ite | refine LeO.bind ?_ (fun _ => ?_)) | apply ih0 | apply ih1 | apply spec_Allowed.mono | apply LeO.none | apply LeO.ite | refine LeO.bind ?_ (fun _ => ?_)
  intro y0 y1 y2 y3 y4 y5 y6 y7 y8
  unfold spec_After.j1
  repeat' first | (with_reducible first | apply ih0 | apply ih1 | apply spec_Allowed.mono | apply LeO.refl | apply LeO.none | apply LeO.ite | refine LeO.bind ?_ (fun _ => ?_)) | apply ih0 | apply ih1 | apply spec_Allowed.mono | apply LeO.none | apply LeO.ite | refine LeO.bind ?_ (fun _ => ?_)
theorem spec_After.mono : ∀ a0 a1 a2 a3 a4 a5 a6 k, LeO (spec_After.f k a0 a1 a2 a3 a4 a5 a6) (spec_After.f (k + 1) a0 a1 a2 a3 a4 a5 a6) := by
 intro a0 a1 a2 a3 a4 a5 a6 k
 obtain ⟨ih0, ih1⟩ := spec_After.mono_l k
 unfold spec_After.f
 repeat' first | (with_reducible first | apply ih0 | apply ih1 | apply spec_Allowed.mono | apply LeO.refl | apply LeO.none | apply LeO.ite | refine LeO.bind ?_ (fun _ => ?_)) | apply ih0 | apply ih1 | apply spec_Allowed.mono | apply LeO.none | apply LeO.ite | refine LeO.bind ?_ (fun _ => ?_)
set_option maxHeartbeats 8000000 in
set_option maxRecDepth 100000 in
theorem spec_After.calls (k : Nat) (A0_0 : Option Addr) (c0_0 : Nat) (l0_0 : List Int) (a0_1 : Int) (a1_0 : Int) (a1_1 : Int) (a1_2 : Int) (a2_0 : Int) (A2_1 : Option Addr) (c2_1 : Nat) (l2_1 : List Int) (r1 : List Int) (r2 : Int) (w : World) (hr0_0 : Kd.C (Kd.int .i64) w A0_0 l0_0.length l0_0) (hc0_0 : l0_0.length ≤ c0_0) (hr2_1 : Kd.C (Kd.int .i64) w A2_1 l2_1.length l2_1) (hc2_1 : l2_1.length ≤ c2_1) (h : spec_After.f k l0_0 a0_1 a1_0 a1_1 a1_2 a2_0 l2_1 = some (r1, r2)) :
    Calls Try.prog 16 #[.agg #[.slice A0_0 l0_0.length c0_0, .int .i64 a0_1], .agg #[.int .i64 a1_0, .int .i64 a1_1, .int .i64 a1_2], .agg #[.int .i64 a2_0, .slice A2_1 l2_1.length c2_1]] w fun e w' => ∃ v0_ : Value, e = .returned (.agg #[v0_, .int .i64 r2]) ∧ Kd.R (Kd.int .i64) 3 w' w.heap.size (fun _ => True) v0_ r1 ∧ Below w.heap.size w w' := by
 have hu44 := Try.underlying44
 have hu47 := Try.underlying47
 have hu49 := Try.underlying49
 have HR0_0 := A_ hr0_0
 have HC0_0 := A_ hc0_0
 clear hr0_0 hc0_0
 have HR2_1 := A_ hr2_1
 have HC2_1 := A_ hc2_1
 clear hr2_1 hc2_1
 have HB := A_ (Below.refl w.heap.size w)
 have H : ((spec_l3Copy.f l0_0 a0_1).bind fun bt189 => ((spec_Allowed.f k l0_0 a0_1 a1_0 a1_1 a1_2 a2_0 l2_1).bind fun t194 => (if t194 = true then (spec_After.j0 k (a2_0 != 0) l0_0 a0_1 a1_0 a1_1 a1_2 bt189.1 bt189.2) else (spec_After.j0 k true l0_0 a0_1 a1_0 a1_1 a1_2 bt189.1 bt189.2)))) = some (r1, r2) := h
 clear h
 replace H := bs_ H
 obtain ⟨⟨t189, t192⟩, A4, H⟩ := H
 dsimp only at H
 have HC5 := A_ H
 clear H
 go_enter Try.func16, Try.ntmps16
 go_upto_region 2 with (first | ((with_reducible refine gate_dst (N := 3) rfl ?_); refine Y5_ ?_; clear HB; intro gb185 w6 BK185 GW185 HB) | ((with_reducible refine gate_dst (N := 4) rfl ?_); refine bx_ HB rfl (N := 4) rfl (cs := #[.int .i64 a1_0, .int .i64 a1_1, .int .i64 a1_2]) (t := 47) hr_ ?_; clear HB; intro gb186 w7 hg hb BK186 GW186 HB; have NB185_186 := ng_ BK185 hg; have NB186_185 := ns_ (ng_ BK185 hg); replace BK185 := bb_ BK185 hb; clear hb hg) | ((with_reducible refine gate_dst (N := 5) rfl ?_); refine bx_ HB rfl (N := 5) rfl (cs := #[.int .i64 a2_0, .slice A2_1 l2_1.length c2_1]) (t := 49) hr_ ?_; clear HB; intro gb187 w8 hg hb BK187 GW187 HB; have NB185_187 := ng_ BK185 hg; have NB187_185 := ns_ (ng_ BK185 hg); have NB186_187 := ng_ BK186 hg; have NB187_186 := ns_ (ng_ BK186 hg); replace BK185 := bb_ BK185 hb; replace BK186 := bb_ BK186 hb; clear hb hg) | ((with_reducible refine gate_dst (N := 6) rfl ?_); refine bx_ HB rfl (N := 6) rfl (cs := #[.slice none 0 0, .int .i64 0]) (t := 44) hr_ ?_; clear HB; intro gb188 w9 hg hb BK188 GW188 HB; have NB185_188 := ng_ BK185 hg; have NB188_185 := ns_ (ng_ BK185 hg); have NB186_188 := ng_ BK186 hg; have NB188_186 := ns_ (ng_ BK186 hg); have NB187_188 := ng_ BK187 hg; have NB188_187 := ns_ (ng_ BK187 hg); replace BK185 := bb_ BK185 hb; replace BK186 := bb_ BK186 hb; replace BK187 := bb_ BK187 hb; clear hb hg; have hnb10 := NB185_186.out; have hnc10 := NB186_185.out; have hnb11 := NB185_187.out; have hnc11 := NB187_185.out; have hnb12 := NB185_188.out; have hnc12 := NB188_185.out; obtain ⟨hcz13_0, hcz13_1, hfz13_0, hfz13_1⟩ := cz2_ BK185) | ((with_reducible refine gate_callee (f := 64) rfl ?_); refine goesL_ (some 9) rfl rfl Try.func64 (by kernel_rfl) rfl #[.agg #[.slice A0_0 l0_0.length c0_0, .int .i64 a0_1]] rfl al_ ?_; (with_reducible refine (spec_l3Copy.calls _ _ l0_0 a0_1 t189 t192 _ ?side1 ?side2 A4.out).mono ?_); (case side1 => exact cb_ (Kd.C_below HR0_0.out HB.out)); (case side2 => exact HC0_0.out); rintro e w14 ⟨v190, rfl, ho0, hb⟩; refine ⟨_, rfl, ?_⟩; have HO191 := A_ (Kd.R_lower ho0 (below_size (hb_ HB))); replace BK185 := bb_ BK185 hb; replace BK186 := bb_ BK186 hb; replace BK187 := bb_ BK187 hb; replace BK188 := bb_ BK188 hb; replace HB := hs_ HB hb; (try clear hb); (try clear hb2); (try clear hk); (try clear hi); (try clear ho0)) | ((with_reducible refine gate_dst (N := 7) rfl ?_); refine bx_ HB rfl (N := 7) rfl (cs := #[.slice none 0 0, .int .i64 0]) (t := 44) hr_ ?_; clear HB; intro gb193 w15 hg hb BK193 GW193 HB; have NB185_193 := ng_ BK185 hg; have NB193_185 := ns_ (ng_ BK185 hg); have NB186_193 := ng_ BK186 hg; have NB193_186 := ns_ (ng_ BK186 hg); have NB187_193 := ng_ BK187 hg; have NB193_187 := ns_ (ng_ BK187 hg); have NB188_193 := ng_ BK188 hg; have NB193_188 := ns_ (ng_ BK188 hg); replace HO191 := A_ (Kd.R_below (rb_ HO191.out) hb); replace BK185 := bb_ BK185 hb; replace BK186 := bb_ BK186 hb; replace BK187 := bb_ BK187 hb; replace BK188 := bb_ BK188 hb; clear hb hg; obtain ⟨Ao16, co16, eo16⟩ := Kd.R_slice HO191.out; subst eo16; have hnb17 := NB193_185.out; have hnc17 := NB185_193.out; have hnb18 := NB193_186.out; have hnc18 := NB186_193.out; have hnb19 := NB193_187.out; have hnc19 := NB187_193.out; have hnb20 := NB193_188.out; have hnc20 := NB188_193.out; obtain ⟨hcz21_0, hcz21_1, hfz21_0, hfz21_1⟩ := cz2_ BK193))
 (try simp only [Act.put, List.setIfInBounds_toArray, List.set_cons_zero, List.set_cons_succ])
 go_cut [19] (fun v19 wc => ∃ (kq : Nat) (x19_4 : Bool), v19 = .bool x19_4 ∧ Aside0 (spec_After.j0 kq x19_4 l0_0 a0_1 a1_0 a1_1 a1_2 t189 t192 = some (r1, r2)) ∧ Aside0 (kq ≤ k) ∧ Aside0 (Kd.R (Kd.int .i64) 3 wc w.heap.size (fun _ => True) (.slice Ao16 t189.length co16) t189) ∧ Aside0 (wc.heap[gb185]? = some (.cells #[(.slice A0_0 l0_0.length c0_0), .int .i64 a0_1] 44 (0, 0))) ∧ Aside0 (wc.heap[gb186]? = some (.cells #[.int .i64 a1_0, .int .i64 a1_1, .int .i64 a1_2] 47 (0, 0))) ∧ Aside0 (wc.heap[gb187]? = some (.cells #[.int .i64 a2_0, (.slice A2_1 l2_1.length c2_1)] 49 (0, 0))) ∧ Aside0 (wc.heap[gb188]? = some (.cells #[(.slice none 0 0), .int .i64 0] 44 (0, 0))) ∧ Aside0 (wc.heap[gb193]? = some (.cells #[(.slice Ao16 t189.length co16), .int .i64 t192] 44 (0, 0))) ∧ Aside0 (Below w.heap.size w wc))
 case first =>
  have H := HC5.out
  clear HC5
  replace H := bs_ H
  obtain ⟨t194, A22, H⟩ := H
  by_cases c23 : t194 = true
  ·
   subst c23
   replace H := it_ H
   replace H' := A_ H; clear H
   have hnb24 := NB185_186.out
   have hnc24 := NB186_185.out
   have hnb25 := NB185_187.out
   have hnc25 := NB187_185.out
   have hnb26 := NB185_188.out
   have hnc26 := NB188_185.out
   have hnb27 := NB185_193.out
   have hnc27 := NB193_185.out
   obtain ⟨hcz28_0, hcz28_1, hfz28_0, hfz28_1⟩ := cz2_ BK185
   have hnb29 := NB186_187.out
   have hnc29 := NB187_186.out
   have hnb30 := NB186_188.out
   have hnc30 := NB188_186.out
   have hnb31 := NB186_193.out
   have hnc31 := NB193_186.out
   obtain ⟨hcz32_0, hcz32_1, hcz32_2, hfz32_0, hfz32_1, hfz32_2⟩ := cz3_ BK186
   have hnb33 := NB187_188.out
   have hnc33 := NB188_187.out
   have hnb34 := NB187_193.out
   have hnc34 := NB193_187.out
   obtain ⟨hcz35_0, hcz35_1, hfz35_0, hfz35_1⟩ := cz2_ BK187
   go_wp2_with (first | ((with_reducible refine gate_callee (f := 31) rfl ?_); refine goesL_ (some 13) rfl rfl Try.func31 (by kernel_rfl) rfl #[.agg #[.slice A0_0 l0_0.length c0_0, .int .i64 a0_1], .agg #[.int .i64 a1_0, .int .i64 a1_1, .int .i64 a1_2], .agg #[.int .i64 a2_0, .slice A2_1 l2_1.length c2_1]] rfl al_ ?_; (with_reducible refine (spec_Allowed.calls k _ _ l0_0 a0_1 a1_0 a1_1 a1_2 a2_0 _ _ l2_1 true _ ?side1 ?side2 ?side3 ?side4 A22.out).mono ?_); (case side1 => exact Kd.C_below HR0_0.out (hb_ HB)); (case side2 => exact HC0_0.out); (case side3 => exact Kd.C_below HR2_1.out (hb_ HB)); (case side4 => exact HC2_1.out); rintro e w36 ⟨rfl, hb⟩; refine ⟨_, rfl, ?_⟩; replace HO191 := A_ (Kd.R_below (by (with_reducible repeat (first | apply Kd.R_alloc | apply Kd.R_drewN | apply Kd.R_drew)); exact (Kd.R_mono (Kd.R_far (p := ⟨gb193, 1, none⟩) (Kd.R_far (p := ⟨gb193, 0, none⟩) (Kd.R_types HO191.out BK193.out (by decide)) (fun _ hk => hk.2) (.slice Ao16 t189.length co16)) (fun _ hk => hk.2) (.int .i64 t192)) (fun _ h_ => h_.1))) hb); replace BK185 := bb_ BK185 hb; replace BK186 := bb_ BK186 hb; replace BK187 := bb_ BK187 hb; replace BK188 := bb_ BK188 hb; replace BK193 := bq_ (o' := .cells #[.slice Ao16 t189.length co16, .int .i64 t192] 44 (0, 0)) BK193 hb; replace HB := hs_ HB hb; (try clear hb); (try clear hb2); (try clear hk); (try clear hi); obtain ⟨hcz37_0, hcz37_1, hfz37_0, hfz37_1⟩ := cz2_ BK187))
   go_meet
   case rel => exact ⟨_, ((a2_0 != 0)), rt_, H', ⟨by first | omega | exact Nat.le_refl _⟩, ⟨rb_ HO191.out⟩, ⟨bk_ BK185⟩, ⟨bk_ BK186⟩, ⟨bk_ BK187⟩, ⟨bk_ BK188⟩, ⟨bk_ BK193⟩, ⟨hb_ HB⟩⟩
  obtain rfl := Bool.eq_false_iff.mpr c23
  replace H := iF_ H
  replace H' := A_ H; clear H
  have hnb38 := NB185_186.out
  have hnc38 := NB186_185.out
  have hnb39 := NB185_187.out
  have hnc39 := NB187_185.out
  have hnb40 := NB185_188.out
  have hnc40 := NB188_185.out
  have hnb41 := NB185_193.out
  have hnc41 := NB193_185.out
  obtain ⟨hcz42_0, hcz42_1, hfz42_0, hfz42_1⟩ := cz2_ BK185
  have hnb43 := NB186_187.out
  have hnc43 := NB187_186.out
  have hnb44 := NB186_188.out
  have hnc44 := NB188_186.out
  have hnb45 := NB186_193.out
  have hnc45 := NB193_186.out
  obtain ⟨hcz46_0, hcz46_1, hcz46_2, hfz46_0, hfz46_1, hfz46_2⟩ := cz3_ BK186
  have hnb47 := NB187_188.out
  have hnc47 := NB188_187.out
  have hnb48 := NB187_193.out
  have hnc48 := NB193_187.out
  obtain ⟨hcz49_0, hcz49_1, hfz49_0, hfz49_1⟩ := cz2_ BK187
  go_wp2_with (first | ((with_reducible refine gate_callee (f := 31) rfl ?_); refine goesL_ (some 13) rfl rfl Try.func31 (by kernel_rfl) rfl #[.agg #[.slice A0_0 l0_0.length c0_0, .int .i64 a0_1], .agg #[.int .i64 a1_0, .int .i64 a1_1, .int .i64 a1_2], .agg #[.int .i64 a2_0, .slice A2_1 l2_1.length c2_1]] rfl al_ ?_; (with_reducible refine (spec_Allowed.calls k _ _ l0_0 a0_1 a1_0 a1_1 a1_2 a2_0 _ _ l2_1 false _ ?side1 ?side2 ?side3 ?side4 A22.out).mono ?_); (case side1 => exact Kd.C_below HR0_0.out (hb_ HB)); (case side2 => exact HC0_0.out); (case side3 => exact Kd.C_below HR2_1.out (hb_ HB)); (case side4 => exact HC2_1.out); rintro e w50 ⟨rfl, hb⟩; refine ⟨_, rfl, ?_⟩; replace HO191 := A_ (Kd.R_below (by (with_reducible repeat (first | apply Kd.R_alloc | apply Kd.R_drewN | apply Kd.R_drew)); exact (Kd.R_mono (Kd.R_far (p := ⟨gb193, 1, none⟩) (Kd.R_far (p := ⟨gb193, 0, none⟩) (Kd.R_types HO191.out BK193.out (by decide)) (fun _ hk => hk.2) (.slice Ao16 t189.length co16)) (fun _ hk => hk.2) (.int .i64 t192)) (fun _ h_ => h_.1))) hb); replace BK185 := bb_ BK185 hb; replace BK186 := bb_ BK186 hb; replace BK187 := bb_ BK187 hb; replace BK188 := bb_ BK188 hb; replace BK193 := bq_ (o' := .cells #[.slice Ao16 t189.length co16, .int .i64 t192] 44 (0, 0)) BK193 hb; replace HB := hs_ HB hb; (try clear hb); (try clear hb2); (try clear hk); (try clear hi)))
  go_meet
  case rel => exact ⟨_, (true), rt_, H', ⟨by first | omega | exact Nat.le_refl _⟩, ⟨rb_ HO191.out⟩, ⟨bk_ BK185⟩, ⟨bk_ BK186⟩, ⟨bk_ BK187⟩, ⟨bk_ BK188⟩, ⟨bk_ BK193⟩, ⟨hb_ HB⟩⟩
 case rest =>
  clear HC5
  try clear c23
  obtain ⟨kq, x19_4, rfl, HA, HJ4, HO_194000, BK185, BK186, BK187, BK188, BK193, HB⟩ := hcut
  cases kq with
  | zero => exact absurd HA.out (by simp [spec_After.j0])
  | succ kj4 =>
   have H := HA.out
   clear HA
   simp only [spec_After.j0] at H
   by_cases c51 : x19_4 = true
   ·
    subst c51
    replace H := it_ H
    simp only [Option.some.injEq, Prod.mk.injEq] at H
    obtain ⟨rfl, rfl⟩ := H
    have hnb52 := NB193_185.out
    have hnc52 := NB185_193.out
    have hnb53 := NB193_186.out
    have hnc53 := NB186_193.out
    have hnb54 := NB193_187.out
    have hnc54 := NB187_193.out
    have hnb55 := NB193_188.out
    have hnc55 := NB188_193.out
    obtain ⟨hcz56_0, hcz56_1, hfz56_0, hfz56_1⟩ := cz2_ BK193
    have hnb57 := NB188_185.out
    have hnc57 := NB185_188.out
    have hnb58 := NB188_186.out
    have hnc58 := NB186_188.out
    have hnb59 := NB188_187.out
    have hnc59 := NB187_188.out
    obtain ⟨hcz60_0, hcz60_1, hfz60_0, hfz60_1⟩ := cz2_ BK188
    go_wp2
    refine bodyPost_ret (results_cell_row rfl _ _ gb188 44 #[.slice Ao16 t189.length co16, .int .i64 t192] (0, 0) _ rfl (bp_ BK188) Try.underlying44 rfl (by kernel_rfl)) rfl ?_
    exact ⟨_, rs_, by (with_reducible repeat (first | apply Kd.R_alloc | apply Kd.R_drewN | apply Kd.R_drew)); exact Kd.R_mono (Kd.R_far (p := ⟨gb188, 1, none⟩) (Kd.R_far (p := ⟨gb188, 0, none⟩) (Kd.R_types HO_194000.out BK188.out (by decide)) (fun _ hk => hk.2) (.slice Ao16 t189.length co16)) (fun _ hk => hk.2) (.int .i64 t192)) (fun _ hk => trivial), hb_ HB⟩
   obtain rfl := Bool.eq_false_iff.mpr c51
   replace H := iF_ H
   have HC61 := A_ H
   clear H
   have hnb62 := NB186_185.out
   have hnc62 := NB185_186.out
   have hnb63 := NB186_187.out
   have hnc63 := NB187_186.out
   have hnb64 := NB186_188.out
   have hnc64 := NB188_186.out
   have hnb65 := NB186_193.out
   have hnc65 := NB193_186.out
   obtain ⟨hcz66_0, hcz66_1, hcz66_2, hfz66_0, hfz66_1, hfz66_2⟩ := cz3_ BK186
   go_upto_if 23 with (fail)
   go_cut [23] (fun v23 wc => ∃ (kq : Nat) (x23_60 : Bool), v23 = .bool x23_60 ∧ Aside0 (spec_After.j1 kq a1_0 x23_60 l0_0 a0_1 a1_0 a1_1 a1_2 t189 t192 = some (r1, r2)) ∧ Aside0 (kq ≤ kj4) ∧ Aside0 (Kd.R (Kd.int .i64) 3 wc w.heap.size (fun _ => True) (.slice Ao16 t189.length co16) t189) ∧ Aside0 (wc.heap[gb185]? = some (.cells #[(.slice A0_0 l0_0.length c0_0), .int .i64 a0_1] 44 (0, 0))) ∧ Aside0 (wc.heap[gb186]? = some (.cells #[.int .i64 a1_0, .int .i64 a1_1, .int .i64 a1_2] 47 (0, 0))) ∧ Aside0 (wc.heap[gb187]? = some (.cells #[.int .i64 a2_0, (.slice A2_1 l2_1.length c2_1)] 49 (0, 0))) ∧ Aside0 (wc.heap[gb188]? = some (.cells #[(.slice none 0 0), .int .i64 0] 44 (0, 0))) ∧ Aside0 (wc.heap[gb193]? = some (.cells #[(.slice Ao16 t189.length co16), .int .i64 t192] 44 (0, 0))) ∧ Aside0 (Below w.heap.size w wc))
   case first =>
    have H := HC61.out
    clear HC61
    by_cases c67 : a1_0 = 1
    ·
     rw [if_pos c67] at H
     have c67b0 : (a1_0 == 1) = true := beq_iff_eq.mpr c67
     have c67b1 : (a1_0 != 1) = false := bne_eq_false_iff_eq.mpr c67
     clear c67
     (first | rw [c67b0] | (simp only [i64_w, i32_w]; rw [c67b0]) | skip)
     replace H' := A_ H; clear H
     go_wp2
     go_meet
     case rel => exact ⟨_, ((a1_0 == 1)), rt_, H', ⟨by have := HJ4.out; first | omega | exact Nat.le_refl _⟩, ⟨rb_ HO_194000.out⟩, ⟨bk_ BK185⟩, ⟨bk_ BK186⟩, ⟨bk_ BK187⟩, ⟨bk_ BK188⟩, ⟨bk_ BK193⟩, ⟨hb_ HB⟩⟩
    rw [if_neg c67] at H
    have c67b0 : (a1_0 == 1) = false := beq_eq_false_iff_ne.mpr c67
    have c67b1 : (a1_0 != 1) = true := bne_iff_ne.mpr c67
    (first | rw [c67b0] | (simp only [i64_w, i32_w]; rw [c67b0]) | skip)
    replace H' := A_ H; clear H
    go_wp2
    go_meet
    case rel => exact ⟨_, ((a1_0 == 2)), rt_, H', ⟨by have := HJ4.out; first | omega | exact Nat.le_refl _⟩, ⟨rb_ HO_194000.out⟩, ⟨bk_ BK185⟩, ⟨bk_ BK186⟩, ⟨bk_ BK187⟩, ⟨bk_ BK188⟩, ⟨bk_ BK193⟩, ⟨hb_ HB⟩⟩
   case rest =>
    clear HC61
    try clear c23
    try clear c51
    try clear c67
    try clear c67b0
    try clear c67b1
    obtain ⟨kq, x23_60, rfl, HA, HJ60, HO_194000, BK185, BK186, BK187, BK188, BK193, HB⟩ := hcut
    cases kq with
    | zero => exact absurd HA.out (by simp [spec_After.j1])
    | succ kj60 =>
     have H := HA.out
     clear HA
     simp only [spec_After.j1] at H
     by_cases c68 : x23_60 = true
     ·
      subst c68
      replace H := it_ H
      replace H := ix_ H
      obtain ⟨c69b0, H⟩ := H
      replace H := ix_ H
      obtain ⟨c70b0, H⟩ := H
      obtain ⟨y195, hy195⟩ : ∃ y_ : List Int, y_ = (t189.set (a1_1 : Int).toNat a1_2) := ⟨_, rfl⟩
      replace H : (some (y195, t192)) = some (r1, r2) := by first | (rw [hy195]; with_reducible exact H) | (have H2_ := (Option.bind_some _ _).symm.trans H; rw [hy195]; with_reducible exact H2_) | (have H2_ := (Option.bind_some _ _).symm.trans H; with_reducible exact H2_) | with_reducible exact H | (rw [hy195]; exact H) | exact H
      have Ny195 := A_ hy195
      clear hy195
      simp only [Option.some.injEq, Prod.mk.injEq] at H
      obtain ⟨rfl, rfl⟩ := H
      have hnb72 := NB193_185.out
      have hnc72 := NB185_193.out
      have hnb73 := NB193_186.out
      have hnc73 := NB186_193.out
      have hnb74 := NB193_187.out
      have hnc74 := NB187_193.out
      have hnb75 := NB193_188.out
      have hnc75 := NB188_193.out
      obtain ⟨hcz76_0, hcz76_1, hfz76_0, hfz76_1⟩ := cz2_ BK193
      have hnb77 := NB186_185.out
      have hnc77 := NB185_186.out
      have hnb78 := NB186_187.out
      have hnc78 := NB187_186.out
      have hnb79 := NB186_188.out
      have hnc79 := NB188_186.out
      obtain ⟨hcz80_0, hcz80_1, hcz80_2, hfz80_0, hfz80_1, hfz80_2⟩ := cz3_ BK186
      have p71 : 0 ≤ (a1_1 : Int) := od_
      have q71 : (a1_1 : Int) < ((t189.length : Int) : Int) := od_
      obtain ⟨go71, co71, eo71, gb71, gl71, cl71, HG71⟩ := Kd.R_form HO_194000.out (by omega)
      (first | cases eo71 | (injection eo71 with ea_ en_ ec_; (first | subst ea_ | (injection ea_ with ea_; subst ea_)); subst ec_; clear en_))
      have GB71 := A_ gb71
      have GG71 := A_ HG71
      clear gb71 gl71 HG71
      obtain ⟨hx71_0, hf71_0⟩ := Kd.R_celln 0 HO_194000.out (a1_1 : Int) p71 q71
      replace p71 := eq_true p71
      replace q71 := eq_true q71
      have HP81 := Kd.R_putg HO_194000.out (a1_1 : Int) a1_2
      go_wp2_with (first | ((with_reducible refine gate_store (t := 3) (p := 32) rfl ?_); refine store_event (t := 3) (p := 32) (v := ?vo_w82) (w1 := (wc.setCell ⟨go71, (a1_1 : Int).toNat, none⟩ (.int .i64 a1_2))) ?hg ?ho ?hn ?hr ?_; (case ho => rfl); (case hg => rfl); (case hn => rfl); (case hr => first | (go_simp; done) | (go_simp; rfl)); intro w82 hw; have hg : wc.grownBy w82 (some go71) := (by rw [hw]; exact HP81.2); have hp_ : Kd.R (Kd.int .i64) 3 w82 w.heap.size (fun _ => True) (.slice (some ⟨go71, 0, none⟩) t189.length co16) y195 := (by rw [hw, Ny195.out]; exact HP81.1); clear HP81; have n0_ := A_ hp_; have n1_ := A_ (blk_grown (g := gb185) (o := .cells #[.slice A0_0 l0_0.length c0_0, .int .i64 a0_1] 44 (0, 0)) (bk_ BK185) hg (Kd.R_ne HO_194000.out BK185.out (by decide))); have n2_ := A_ (blk_grown (g := gb186) (o := .cells #[.int .i64 a1_0, .int .i64 a1_1, .int .i64 a1_2] 47 (0, 0)) (bk_ BK186) hg (Kd.R_ne HO_194000.out BK186.out (by decide))); have n3_ := A_ (blk_grown (g := gb187) (o := .cells #[.int .i64 a2_0, .slice A2_1 l2_1.length c2_1] 49 (0, 0)) (bk_ BK187) hg (Kd.R_ne HO_194000.out BK187.out (by decide))); have n4_ := A_ (blk_grown (g := gb188) (o := .cells #[.slice none 0 0, .int .i64 0] 44 (0, 0)) (bk_ BK188) hg (Kd.R_ne HO_194000.out BK188.out (by decide))); have n5_ := A_ (blk_grown (g := gb193) (o := .cells #[.slice (some ⟨go71, 0, none⟩) t189.length co16, .int .i64 t192] 44 (0, 0)) (bk_ BK193) hg (Kd.R_ne HO_194000.out BK193.out (by decide))); have n6_ := A_ ((by rw [hw]; exact below_set (HB.out) GB71.out : Below w.heap.size w w82)); clear HO_194000; clear BK185; clear BK186; clear BK187; clear BK188; clear BK193; clear HB; have HO_194000 := n0_; have BK185 := n1_; have BK186 := n2_; have BK187 := n3_; have BK188 := n4_; have BK193 := n5_; have HB := n6_; clear n0_ n1_ n2_ n3_ n4_ n5_ n6_; clear hg hw hp_; obtain ⟨hcz83_0, hcz83_1, hfz83_0, hfz83_1⟩ := cz2_ BK193; have hnb84 := NB188_185.out; have hnc84 := NB185_188.out; have hnb85 := NB188_187.out; have hnc85 := NB187_188.out; obtain ⟨hcz86_0, hcz86_1, hfz86_0, hfz86_1⟩ := cz2_ BK188))
      refine bodyPost_ret (results_cell_row rfl _ _ gb188 44 #[.slice (some ⟨go71, 0, none⟩) t189.length co16, .int .i64 t192] (0, 0) _ rfl (bp_ BK188) Try.underlying44 rfl (by kernel_rfl)) rfl ?_
      exact ⟨_, rs_, by (with_reducible repeat (first | apply Kd.R_alloc | apply Kd.R_drewN | apply Kd.R_drew)); exact Kd.R_mono (Kd.R_far (p := ⟨gb188, 1, none⟩) (Kd.R_far (p := ⟨gb188, 0, none⟩) (Kd.R_types HO_194000.out BK188.out (by decide)) (fun _ hk => hk.2) (.slice (some ⟨go71, 0, none⟩) t189.length co16)) (fun _ hk => hk.2) (.int .i64 t192)) (fun _ hk => trivial), hb_ HB⟩
     obtain rfl := Bool.eq_false_iff.mpr c68
     replace H := iF_ H
     by_cases c87 : a1_0 = 3
     ·
      rw [if_pos c87] at H
      have c87b0 : (a1_0 == 3) = true := beq_iff_eq.mpr c87
      have c87b1 : (a1_0 != 3) = false := bne_eq_false_iff_eq.mpr c87
      clear c87
      replace H := ix_ H
      obtain ⟨c88b0, H⟩ := H
      replace H := ix_ H
      obtain ⟨c89b0, H⟩ := H
      obtain ⟨y196, hy196⟩ : ∃ y_ : List Int, y_ = (t189.set (a1_1 : Int).toNat 0) := ⟨_, rfl⟩
      replace H : (some (y196, t192)) = some (r1, r2) := by first | (rw [hy196]; with_reducible exact H) | (have H2_ := (Option.bind_some _ _).symm.trans H; rw [hy196]; with_reducible exact H2_) | (have H2_ := (Option.bind_some _ _).symm.trans H; with_reducible exact H2_) | with_reducible exact H | (rw [hy196]; exact H) | exact H
      have Ny196 := A_ hy196
      clear hy196
      simp only [Option.some.injEq, Prod.mk.injEq] at H
      obtain ⟨rfl, rfl⟩ := H
      have hnb91 := NB193_185.out
      have hnc91 := NB185_193.out
      have hnb92 := NB193_186.out
      have hnc92 := NB186_193.out
      have hnb93 := NB193_187.out
      have hnc93 := NB187_193.out
      have hnb94 := NB193_188.out
      have hnc94 := NB188_193.out
      obtain ⟨hcz95_0, hcz95_1, hfz95_0, hfz95_1⟩ := cz2_ BK193
      have hnb96 := NB186_185.out
      have hnc96 := NB185_186.out
      have hnb97 := NB186_187.out
      have hnc97 := NB187_186.out
      have hnb98 := NB186_188.out
      have hnc98 := NB188_186.out
      obtain ⟨hcz99_0, hcz99_1, hcz99_2, hfz99_0, hfz99_1, hfz99_2⟩ := cz3_ BK186
      have p90 : 0 ≤ (a1_1 : Int) := od_
      have q90 : (a1_1 : Int) < ((t189.length : Int) : Int) := od_
      obtain ⟨go90, co90, eo90, gb90, gl90, cl90, HG90⟩ := Kd.R_form HO_194000.out (by omega)
      (first | cases eo90 | (injection eo90 with ea_ en_ ec_; (first | subst ea_ | (injection ea_ with ea_; subst ea_)); subst ec_; clear en_))
      have GB90 := A_ gb90
      have GG90 := A_ HG90
      clear gb90 gl90 HG90
      obtain ⟨hx90_0, hf90_0⟩ := Kd.R_celln 0 HO_194000.out (a1_1 : Int) p90 q90
      replace p90 := eq_true p90
      replace q90 := eq_true q90
      have HP100 := Kd.R_putg HO_194000.out (a1_1 : Int) 0
      go_wp2_with (first | ((with_reducible refine gate_store (t := 3) (p := 39) rfl ?_); refine store_event (t := 3) (p := 39) (v := ?vo_w101) (w1 := (wc.setCell ⟨go90, (a1_1 : Int).toNat, none⟩ (.int .i64 0))) ?hg ?ho ?hn ?hr ?_; (case ho => rfl); (case hg => rfl); (case hn => rfl); (case hr => first | (go_simp; done) | (go_simp; rfl)); intro w101 hw; have hg : wc.grownBy w101 (some go90) := (by rw [hw]; exact HP100.2); have hp_ : Kd.R (Kd.int .i64) 3 w101 w.heap.size (fun _ => True) (.slice (some ⟨go90, 0, none⟩) t189.length co16) y196 := (by rw [hw, Ny196.out]; exact HP100.1); clear HP100; have n0_ := A_ hp_; have n1_ := A_ (blk_grown (g := gb185) (o := .cells #[.slice A0_0 l0_0.length c0_0, .int .i64 a0_1] 44 (0, 0)) (bk_ BK185) hg (Kd.R_ne HO_194000.out BK185.out (by decide))); have n2_ := A_ (blk_grown (g := gb186) (o := .cells #[.int .i64 a1_0, .int .i64 a1_1, .int .i64 a1_2] 47 (0, 0)) (bk_ BK186) hg (Kd.R_ne HO_194000.out BK186.out (by decide))); have n3_ := A_ (blk_grown (g := gb187) (o := .cells #[.int .i64 a2_0, .slice A2_1 l2_1.length c2_1] 49 (0, 0)) (bk_ BK187) hg (Kd.R_ne HO_194000.out BK187.out (by decide))); have n4_ := A_ (blk_grown (g := gb188) (o := .cells #[.slice none 0 0, .int .i64 0] 44 (0, 0)) (bk_ BK188) hg (Kd.R_ne HO_194000.out BK188.out (by decide))); have n5_ := A_ (blk_grown (g := gb193) (o := .cells #[.slice (some ⟨go90, 0, none⟩) t189.length co16, .int .i64 t192] 44 (0, 0)) (bk_ BK193) hg (Kd.R_ne HO_194000.out BK193.out (by decide))); have n6_ := A_ ((by rw [hw]; exact below_set (HB.out) GB90.out : Below w.heap.size w w101)); clear HO_194000; clear BK185; clear BK186; clear BK187; clear BK188; clear BK193; clear HB; have HO_194000 := n0_; have BK185 := n1_; have BK186 := n2_; have BK187 := n3_; have BK188 := n4_; have BK193 := n5_; have HB := n6_; clear n0_ n1_ n2_ n3_ n4_ n5_ n6_; clear hg hw hp_; obtain ⟨hcz102_0, hcz102_1, hfz102_0, hfz102_1⟩ := cz2_ BK193; have hnb103 := NB188_185.out; have hnc103 := NB185_188.out; have hnb104 := NB188_187.out; have hnc104 := NB187_188.out; obtain ⟨hcz105_0, hcz105_1, hfz105_0, hfz105_1⟩ := cz2_ BK188))
      refine bodyPost_ret (results_cell_row rfl _ _ gb188 44 #[.slice (some ⟨go90, 0, none⟩) t189.length co16, .int .i64 t192] (0, 0) _ rfl (bp_ BK188) Try.underlying44 rfl (by kernel_rfl)) rfl ?_
      exact ⟨_, rs_, by (with_reducible repeat (first | apply Kd.R_alloc | apply Kd.R_drewN | apply Kd.R_drew)); exact Kd.R_mono (Kd.R_far (p := ⟨gb188, 1, none⟩) (Kd.R_far (p := ⟨gb188, 0, none⟩) (Kd.R_types HO_194000.out BK188.out (by decide)) (fun _ hk => hk.2) (.slice (some ⟨go90, 0, none⟩) t189.length co16)) (fun _ hk => hk.2) (.int .i64 t192)) (fun _ hk => trivial), hb_ HB⟩
     rw [if_neg c87] at H
     have c87b0 : (a1_0 == 3) = false := beq_eq_false_iff_ne.mpr c87
     have c87b1 : (a1_0 != 3) = true := bne_iff_ne.mpr c87
     by_cases c106 : a1_0 = 8
     ·
      rw [if_pos c106] at H
      have c106b0 : (a1_0 == 8) = true := beq_iff_eq.mpr c106
      have c106b1 : (a1_0 != 8) = false := bne_eq_false_iff_eq.mpr c106
      clear c106
      simp only [Option.some.injEq, Prod.mk.injEq] at H
      obtain ⟨rfl, rfl⟩ := H
      have hnb107 := NB185_186.out
      have hnc107 := NB186_185.out
      have hnb108 := NB185_187.out
      have hnc108 := NB187_185.out
      have hnb109 := NB185_188.out
      have hnc109 := NB188_185.out
      have hnb110 := NB185_193.out
      have hnc110 := NB193_185.out
      obtain ⟨hcz111_0, hcz111_1, hfz111_0, hfz111_1⟩ := cz2_ BK185
      have hnb112 := NB193_186.out
      have hnc112 := NB186_193.out
      have hnb113 := NB193_187.out
      have hnc113 := NB187_193.out
      have hnb114 := NB193_188.out
      have hnc114 := NB188_193.out
      obtain ⟨hcz115_0, hcz115_1, hfz115_0, hfz115_1⟩ := cz2_ BK193
      have hnb116 := NB188_186.out
      have hnc116 := NB186_188.out
      have hnb117 := NB188_187.out
      have hnc117 := NB187_188.out
      obtain ⟨hcz118_0, hcz118_1, hfz118_0, hfz118_1⟩ := cz2_ BK188
      go_wp2
      refine bodyPost_ret (results_cell_row rfl _ _ gb188 44 #[.slice Ao16 t189.length co16, .int .i64 (wrap64 (a0_1 + 1))] (0, 0) _ rfl (bp_ BK188) Try.underlying44 rfl (by kernel_rfl)) rfl ?_
      exact ⟨_, rs_, by (with_reducible repeat (first | apply Kd.R_alloc | apply Kd.R_drewN | apply Kd.R_drew)); exact Kd.R_mono (Kd.R_far (p := ⟨gb188, 1, none⟩) (Kd.R_far (p := ⟨gb188, 0, none⟩) (Kd.R_far (p := ⟨gb193, 1, none⟩) (Kd.R_types (Kd.R_types HO_194000.out BK193.out (by decide)) BK188.out (by decide)) (fun _ hk => hk.1.2) (.int .i64 (wrap64 (a0_1 + 1)))) (fun _ hk => hk.2) (.slice Ao16 t189.length co16)) (fun _ hk => hk.2) (.int .i64 (wrap64 (a0_1 + 1)))) (fun _ hk => trivial), hb_ HB⟩
     rw [if_neg c106] at H
     have c106b0 : (a1_0 == 8) = false := beq_eq_false_iff_ne.mpr c106
     have c106b1 : (a1_0 != 8) = true := bne_iff_ne.mpr c106
     by_cases c119 : a1_0 = 9
     ·
      rw [if_pos c119] at H
      have c119b0 : (a1_0 == 9) = true := beq_iff_eq.mpr c119
      have c119b1 : (a1_0 != 9) = false := bne_eq_false_iff_eq.mpr c119
      clear c119
      simp only [Option.some.injEq, Prod.mk.injEq] at H
      obtain ⟨rfl, rfl⟩ := H
      have hnb120 := NB185_186.out
      have hnc120 := NB186_185.out
      have hnb121 := NB185_187.out
      have hnc121 := NB187_185.out
      have hnb122 := NB185_188.out
      have hnc122 := NB188_185.out
      have hnb123 := NB185_193.out
      have hnc123 := NB193_185.out
      obtain ⟨hcz124_0, hcz124_1, hfz124_0, hfz124_1⟩ := cz2_ BK185
      have hnb125 := NB193_186.out
      have hnc125 := NB186_193.out
      have hnb126 := NB193_187.out
      have hnc126 := NB187_193.out
      have hnb127 := NB193_188.out
      have hnc127 := NB188_193.out
      obtain ⟨hcz128_0, hcz128_1, hfz128_0, hfz128_1⟩ := cz2_ BK193
      have hnb129 := NB188_186.out
      have hnc129 := NB186_188.out
      have hnb130 := NB188_187.out
      have hnc130 := NB187_188.out
      obtain ⟨hcz131_0, hcz131_1, hfz131_0, hfz131_1⟩ := cz2_ BK188
      go_wp2
      refine bodyPost_ret (results_cell_row rfl _ _ gb188 44 #[.slice Ao16 t189.length co16, .int .i64 (wrap64 (a0_1 + 1))] (0, 0) _ rfl (bp_ BK188) Try.underlying44 rfl (by kernel_rfl)) rfl ?_
      exact ⟨_, rs_, by (with_reducible repeat (first | apply Kd.R_alloc | apply Kd.R_drewN | apply Kd.R_drew)); exact Kd.R_mono (Kd.R_far (p := ⟨gb188, 1, none⟩) (Kd.R_far (p := ⟨gb188, 0, none⟩) (Kd.R_far (p := ⟨gb193, 1, none⟩) (Kd.R_types (Kd.R_types HO_194000.out BK193.out (by decide)) BK188.out (by decide)) (fun _ hk => hk.1.2) (.int .i64 (wrap64 (a0_1 + 1)))) (fun _ hk => hk.2) (.slice Ao16 t189.length co16)) (fun _ hk => hk.2) (.int .i64 (wrap64 (a0_1 + 1)))) (fun _ hk => trivial), hb_ HB⟩
     rw [if_neg c119] at H
     have c119b0 : (a1_0 == 9) = false := beq_eq_false_iff_ne.mpr c119
     have c119b1 : (a1_0 != 9) = true := bne_iff_ne.mpr c119
     simp only [Option.some.injEq, Prod.mk.injEq] at H
     obtain ⟨rfl, rfl⟩ := H
     have hnb132 := NB193_185.out
     have hnc132 := NB185_193.out
     have hnb133 := NB193_186.out
     have hnc133 := NB186_193.out
     have hnb134 := NB193_187.out
     have hnc134 := NB187_193.out
     have hnb135 := NB193_188.out
     have hnc135 := NB188_193.out
     obtain ⟨hcz136_0, hcz136_1, hfz136_0, hfz136_1⟩ := cz2_ BK193
     have hnb137 := NB188_185.out
     have hnc137 := NB185_188.out
     have hnb138 := NB188_186.out
     have hnc138 := NB186_188.out
     have hnb139 := NB188_187.out
     have hnc139 := NB187_188.out
     obtain ⟨hcz140_0, hcz140_1, hfz140_0, hfz140_1⟩ := cz2_ BK188
     go_wp2
     refine bodyPost_ret (results_cell_row rfl _ _ gb188 44 #[.slice Ao16 t189.length co16, .int .i64 t192] (0, 0) _ rfl (bp_ BK188) Try.underlying44 rfl (by kernel_rfl)) rfl ?_
     exact ⟨_, rs_, by (with_reducible repeat (first | apply Kd.R_alloc | apply Kd.R_drewN | apply Kd.R_drew)); exact Kd.R_mono (Kd.R_far (p := ⟨gb188, 1, none⟩) (Kd.R_far (p := ⟨gb188, 0, none⟩) (Kd.R_types HO_194000.out BK188.out (by decide)) (fun _ hk => hk.2) (.slice Ao16 t189.length co16)) (fun _ hk => hk.2) (.int .i64 t192)) (fun _ hk => trivial), hb_ HB⟩

/-! ### impl_from: function 93 -/
def impl_from.f (a0 : Int) (a1 : Int) (a2 : Int) : Option (Bool) := if a0 ≥ a1 then (some (decide (a0 ≤ a2))) else (some false)
set_option maxHeartbeats 8000000 in
set_option maxRecDepth 100000 in
theorem impl_from.calls (a0 : Int) (a1 : Int) (a2 : Int) (r : Bool) (w : World) (h : impl_from.f a0 a1 a2 = some r) :
    Calls Try.prog 93 #[.int .i64 a0, .int .i64 a1, .int .i64 a2] w fun e w' => e = .returned (.bool r) ∧ Drawn0 w w' := by
 have H : (if a0 ≥ a1 then (some (decide (a0 ≤ a2))) else (some false)) = some r := h
 clear h
 replace H := ic_ H
 rcases H with ⟨c4b0, H⟩ | ⟨c4b0, H⟩
 ·
  obtain rfl := Option.some.inj H
  go_enter Try.func93, Try.ntmps93
  go_wp2
  go_ret
  exact ⟨rt_, by repeat (first | exact Drawn0.refl _ | apply Drawn0.step)⟩
 obtain rfl := Option.some.inj H
 go_enter Try.func93, Try.ntmps93
 go_wp2
 go_ret
 exact ⟨rt_, by repeat (first | exact Drawn0.refl _ | apply Drawn0.step)⟩

/-! ### impl_KeyOk: function 84 -/
def impl_KeyOk.f (a0 : Int) : Option (Bool) := (impl_from.f a0 0 3).bind fun t197 => (some t197)
set_option maxHeartbeats 8000000 in
set_option maxRecDepth 100000 in
theorem impl_KeyOk.calls (a0 : Int) (r : Bool) (w : World) (h : impl_KeyOk.f a0 = some r) :
    Calls Try.prog 84 #[.int .i64 a0] w fun e w' => e = .returned (.bool r) ∧ Drawn0 w w' := by
 have H : ((impl_from.f a0 0 3).bind fun t197 => (some t197)) = some r := h
 clear h
 replace H := bs_ H
 obtain ⟨t197, A2, H⟩ := H
 obtain rfl := Option.some.inj H
 go_enter Try.func84, Try.ntmps84
 go_wp2_with (first | ((with_reducible refine gate_callee (f := 93) rfl ?_); refine goesL_ (some 4) rfl rfl Try.func93 (by kernel_rfl) rfl #[.int .i64 a0, .int .i64 0, .int .i64 3] rfl al_ ?_; (with_reducible refine (impl_from.calls a0 0 3 t197 _ A2.out).mono ?_); rintro e w' ⟨rfl, ⟨nd, rfl⟩⟩; refine ⟨_, rfl, ?_⟩))
 go_ret
 exact ⟨rt_, by repeat (first | exact Drawn0.refl _ | apply Drawn0.step)⟩

/-! ### impl_ValOk: function 85 -/
def impl_ValOk.f (a0 : Int) : Option (Bool) := (impl_from.f a0 1 6).bind fun t198 => (some t198)
set_option maxHeartbeats 8000000 in
set_option maxRecDepth 100000 in
theorem impl_ValOk.calls (a0 : Int) (r : Bool) (w : World) (h : impl_ValOk.f a0 = some r) :
    Calls Try.prog 85 #[.int .i64 a0] w fun e w' => e = .returned (.bool r) ∧ Drawn0 w w' := by
 have H : ((impl_from.f a0 1 6).bind fun t198 => (some t198)) = some r := h
 clear h
 replace H := bs_ H
 obtain ⟨t198, A2, H⟩ := H
 obtain rfl := Option.some.inj H
 go_enter Try.func85, Try.ntmps85
 go_wp2_with (first | ((with_reducible refine gate_callee (f := 93) rfl ?_); refine goesL_ (some 4) rfl rfl Try.func93 (by kernel_rfl) rfl #[.int .i64 a0, .int .i64 1, .int .i64 6] rfl al_ ?_; (with_reducible refine (impl_from.calls a0 1 6 t198 _ A2.out).mono ?_); rintro e w' ⟨rfl, ⟨nd, rfl⟩⟩; refine ⟨_, rfl, ?_⟩))
 go_ret
 exact ⟨rt_, by repeat (first | exact Drawn0.refl _ | apply Drawn0.step)⟩

/-! ### impl_isClass: function 86 -/
def impl_isClass.f (a0 : Int) : Option (Bool) := (impl_from.f a0 0 2).bind fun t199 => (some t199)
set_option maxHeartbeats 8000000 in
set_option maxRecDepth 100000 in
theorem impl_isClass.calls (a0 : Int) (r : Bool) (w : World) (h : impl_isClass.f a0 = some r) :
    Calls Try.prog 86 #[.int .i64 a0] w fun e w' => e = .returned (.bool r) ∧ Drawn0 w w' := by
 have H : ((impl_from.f a0 0 2).bind fun t199 => (some t199)) = some r := h
 clear h
 replace H := bs_ H
 obtain ⟨t199, A2, H⟩ := H
 obtain rfl := Option.some.inj H
 go_enter Try.func86, Try.ntmps86
 go_wp2_with (first | ((with_reducible refine gate_callee (f := 93) rfl ?_); refine goesL_ (some 4) rfl rfl Try.func93 (by kernel_rfl) rfl #[.int .i64 a0, .int .i64 0, .int .i64 2] rfl al_ ?_; (with_reducible refine (impl_from.calls a0 0 2 t199 _ A2.out).mono ?_); rintro e w' ⟨rfl, ⟨nd, rfl⟩⟩; refine ⟨_, rfl, ?_⟩))
 go_ret
 exact ⟨rt_, by repeat (first | exact Drawn0.refl _ | apply Drawn0.step)⟩

end Go.Proofs.Ytmkhghbalnadlaa.PFnAllowed
