/- Contracts of functions of the program: each says that the call does what a plain Lean function tells. Made by programs of this session and of the kit. No condition beyond the hypotheses that each theorem names. -/
import Derived.Test.YtmkhghbalnadlaaPFnExactAfterx0
import Derived.Test.YtmkhghbalnadlaaPFnExactAfterx5
namespace Go.Proofs.Ytmkhghbalnadlaa.PFnExactAfter
open Go.RowKit Go.Proofs.YtmkhghbalnadlaaW.PrintWords Go.Proofs.YtmkhghbalnadlaaW.PrintLast Go.Proofs.YtmkhghbalnadlaaW.PrintMore
attribute [local go_sem] max2_int min2_int max_two min_two max_three min_three max_four min_four   -- for this text's walks alone
set_option linter.unusedVariables false
set_option linter.unusedSimpArgs false

/-! ### spec_After: function 16 -/
mutual
def spec_After.j0 : Nat → Bool → List Int → Int → Int → Int → Int → List Int → Int → Option (List Int × Int)
 | 0, _, _, _, _, _, _, _, _ => none
 | k + 1, x19, x190000, x190001, x191000, x191001, x191002, x198000, x198001 => if x19 = true then (some (x198000, x198001)) else (if x191000 = 1 then (spec_After.j1 k x191000 (x191000 == 1) x190000 x190001 x191000 x191001 x191002 x198000 x198001) else (spec_After.j1 k x191000 (x191000 == 2) x190000 x190001 x191000 x191001 x191002 x198000 x198001))
def spec_After.j1 : Nat → Int → Bool → List Int → Int → Int → Int → Int → List Int → Int → Option (List Int × Int)
 | 0, _, _, _, _, _, _, _, _, _ => none
 | k + 1, x22, x23, x190000, x190001, x191000, x191001, x191002, x198000, x198001 => if x23 = true then (if 0 ≤ x191001 then (if x191001 < (x198000.length : Int) then (some ((x198000.set (x191001 : Int).toNat x191002), x198001)) else (none)) else (none)) else (if x22 = 3 then (if 0 ≤ x191001 then (if x191001 < (x198000.length : Int) then (some ((x198000.set (x191001 : Int).toNat 0), x198001)) else (none)) else (none)) else (if x22 = 8 then (some (x198000, wrap64 (x190001 + 1))) else (if x22 = 9 then (some (x198000, wrap64 (x190001 + 1))) else (some (x198000, x198001)))))
end
def spec_After.f (k : Nat) (l0_0 : List Int) (a0_1 : Int) (a1_0 : Int) (a1_1 : Int) (a1_2 : Int) (a2_0 : Int) (l2_1 : List Int) : Option (List Int × Int) := (spec_l3Copy.f l0_0 a0_1).bind fun bt193 => ((spec_Allowed.f k l0_0 a0_1 a1_0 a1_1 a1_2 a2_0 l2_1).bind fun t198 => (if t198 = true then (spec_After.j0 k (a2_0 != 0) l0_0 a0_1 a1_0 a1_1 a1_2 bt193.1 bt193.2) else (spec_After.j0 k true l0_0 a0_1 a1_0 a1_1 a1_2 bt193.1 bt193.2)))
theorem spec_After.mono_l : ∀ k, (∀ y0 y1 y2 y3 y4 y5 y6 y7, LeO (spec_After.j0 k y0 y1 y2 y3 y4 y5 y6 y7) (spec_After.j0 (k + 1) y0 y1 y2 y3 y4 y5 y6 y7)) ∧ (∀ y0 y1 y2 y3 y4 y5 y6 y7 y8, LeO (spec_After.j1 k y0 y1 y2 y3 y4 y5 y6 y7 y8) (spec_After.j1 (k + 1) y0 y1 y2 y3 y4 y5 y6 y7 y8))
 | 0 => ⟨fun _ _ _ _ _ _ _ _ r h => by simp [spec_After.j0] at h, fun _ _ _ _ _ _ _ _ _ r h => by simp [spec_After.j1] at h⟩
 | k + 1 => by
  obtain ⟨ih0, ih1⟩ := spec_After.mono_l k
  refine ⟨?_, ?_⟩
  ·
   intro y0 y1 y2 y3 y4 y5 y6 y7
   unfold spec_After.j0
   repeat' first
   | (with_reducible exact ih0 _ _ _ _ _ _ _ _)
   | (with_reducible exact ih1 _ _ _ _ _ _ _ _ _)
   | (with_reducible exact spec_Allowed.mono _ _ _ _ _ _ _ _)
   | (with_reducible exact LeO.refl _)
   | (with_reducible exact LeO.none _)
   | (with_reducible refine LeO.ite ?_ ?_)
   | (with_reducible refine LeO.bind ?_ (fun _ => ?_))
   | exact ih0 _ _ _ _ _ _ _ _
   | exact ih1 _ _ _ _ _ _ _ _ _
   | exact spec_Allowed.mono _ _ _ _ _ _ _ _
   | exact LeO.none _
   | refine LeO.ite ?_ ?_
   | refine LeO.bind ?_ (fun _ => ?_)
  intro y0 y1 y2 y3 y4 y5 y6 y7 y8
  unfold spec_After.j1
  repeat' first
  | (with_reducible exact ih0 _ _ _ _ _ _ _ _)
  | (with_reducible exact ih1 _ _ _ _ _ _ _ _ _)
  | (with_reducible exact spec_Allowed.mono _ _ _ _ _ _ _ _)
  | (with_reducible exact LeO.refl _)
  | (with_reducible exact LeO.none _)
  | (with_reducible refine LeO.ite ?_ ?_)
  | (with_reducible refine LeO.bind ?_ (fun _ => ?_))
  | exact ih0 _ _ _ _ _ _ _ _
  | exact ih1 _ _ _ _ _ _ _ _ _
  | exact spec_Allowed.mono _ _ _ _ _ _ _ _
  | exact LeO.none _
  | refine LeO.ite ?_ ?_
  | refine LeO.bind ?_ (fun _ => ?_)
theorem spec_After.mono : ∀ a0 a1 a2 a3 a4 a5 a6 k, LeO (spec_After.f k a0 a1 a2 a3 a4 a5 a6) (spec_After.f (k + 1) a0 a1 a2 a3 a4 a5 a6) := by
 intro a0 a1 a2 a3 a4 a5 a6 k
 obtain ⟨ih0, ih1⟩ := spec_After.mono_l k
 unfold spec_After.f
 repeat' first
   | (with_reducible exact ih0 _ _ _ _ _ _ _ _)
   | (with_reducible exact ih1 _ _ _ _ _ _ _ _ _)
   | (with_reducible exact spec_Allowed.mono _ _ _ _ _ _ _ _)
   | (with_reducible exact LeO.refl _)
   | (with_reducible exact LeO.none _)
   | (with_reducible refine LeO.ite ?_ ?_)
   | (with_reducible refine LeO.bind ?_ (fun _ => ?_))
   | exact ih0 _ _ _ _ _ _ _ _
   | exact ih1 _ _ _ _ _ _ _ _ _
   | exact spec_Allowed.mono _ _ _ _ _ _ _ _
   | exact LeO.none _
   | refine LeO.ite ?_ ?_
   | refine LeO.bind ?_ (fun _ => ?_)
set_option maxHeartbeats 8000000 in
set_option maxRecDepth 100000 in
theorem spec_After.calls (k : Nat) (A0_0 : Option Addr) (c0_0 : Nat) (l0_0 : List Int) (a0_1 : Int) (a1_0 : Int) (a1_1 : Int) (a1_2 : Int) (a2_0 : Int) (A2_1 : Option Addr) (c2_1 : Nat) (l2_1 : List Int) (r1 : List Int) (r2 : Int) (w : World) (hr0_0 : Kd.C (Kd.int .i64) w A0_0 l0_0.length l0_0) (hc0_0 : l0_0.length ≤ c0_0) (hr2_1 : Kd.C (Kd.int .i64) w A2_1 l2_1.length l2_1) (hc2_1 : l2_1.length ≤ c2_1) (h : spec_After.f k l0_0 a0_1 a1_0 a1_1 a1_2 a2_0 l2_1 = some (r1, r2)) :
    Calls Try.prog 16 #[.agg #[.slice A0_0 l0_0.length c0_0, .int .i64 a0_1], .agg #[.int .i64 a1_0, .int .i64 a1_1, .int .i64 a1_2], .agg #[.int .i64 a2_0, .slice A2_1 l2_1.length c2_1]] w fun e w' => ∃ v0_ : Value, e = .returned (.agg #[v0_, .int .i64 r2]) ∧ Kd.R (Kd.int .i64) 3 w' w.heap.size (fun _ => True) v0_ r1 ∧ Below w.heap.size w w' := by
 have hu44 := Try.underlying44
 have hu47 := Try.underlying47
 have hu49 := Try.underlying49
 have HR0_0 := A_ hr0_0
 have HC0_0 := A_ hc0_0
 clear hr0_0 hc0_0
 have HR2_1 := A_ hr2_1
 have HC2_1 := A_ hc2_1
 clear hr2_1 hc2_1
 have HB := A_ (Below.refl w.heap.size w)
 have H : ((spec_l3Copy.f l0_0 a0_1).bind fun bt193 => ((spec_Allowed.f k l0_0 a0_1 a1_0 a1_1 a1_2 a2_0 l2_1).bind fun t198 => (if t198 = true then (spec_After.j0 k (a2_0 != 0) l0_0 a0_1 a1_0 a1_1 a1_2 bt193.1 bt193.2) else (spec_After.j0 k true l0_0 a0_1 a1_0 a1_1 a1_2 bt193.1 bt193.2)))) = some (r1, r2) := h
 clear h
 replace H := bs_ H
 obtain ⟨⟨t193, t196⟩, A4, H⟩ := H
 dsimp only at H
 have HC5 := A_ H
 clear H
 go_enter Try.func16, Try.ntmps16
 go_upto_region 2 with (first | (refine Y7_ ?_; clear HB; intro gb189 w6 BK189 GW189 HB) | ((with_reducible refine gate_dst (N := 4) rfl ?_); refine bx_ HB rfl (N := 4) rfl (cs := #[.int .i64 a1_0, .int .i64 a1_1, .int .i64 a1_2]) (t := 47) hr_ ?_; clear HB; intro gb190 w7 hg hb BK190 GW190 HB; have NB189_190 := ng_ BK189 hg; have NB190_189 := ns_ (ng_ BK189 hg); replace BK189 := bb_ BK189 hb; clear hb hg) | ((with_reducible refine gate_dst (N := 5) rfl ?_); refine bx_ HB rfl (N := 5) rfl (cs := #[.int .i64 a2_0, .slice A2_1 l2_1.length c2_1]) (t := 49) hr_ ?_; clear HB; intro gb191 w8 hg hb BK191 GW191 HB; have NB189_191 := ng_ BK189 hg; have NB191_189 := ns_ (ng_ BK189 hg); have NB190_191 := ng_ BK190 hg; have NB191_190 := ns_ (ng_ BK190 hg); replace BK189 := bb_ BK189 hb; replace BK190 := bb_ BK190 hb; clear hb hg) | ((with_reducible refine gate_dst (N := 6) rfl ?_); refine bx_ HB rfl (N := 6) rfl (cs := #[.slice none 0 0, .int .i64 0]) (t := 44) hr_ ?_; clear HB; intro gb192 w9 hg hb BK192 GW192 HB; have NB189_192 := ng_ BK189 hg; have NB192_189 := ns_ (ng_ BK189 hg); have NB190_192 := ng_ BK190 hg; have NB192_190 := ns_ (ng_ BK190 hg); have NB191_192 := ng_ BK191 hg; have NB192_191 := ns_ (ng_ BK191 hg); replace BK189 := bb_ BK189 hb; replace BK190 := bb_ BK190 hb; replace BK191 := bb_ BK191 hb; clear hb hg; have hnb10 := NB189_190.out; have hnc10 := NB190_189.out; have hnb11 := NB189_191.out; have hnc11 := NB191_189.out; have hnb12 := NB189_192.out; have hnc12 := NB192_189.out; obtain ⟨hcz13_0, hcz13_1, hfz13_0, hfz13_1⟩ := cz2_ BK189) | ((with_reducible refine gate_callee (f := 64) rfl ?_); refine goesL_ (some 9) rfl rfl Try.func64 (by kernel_rfl) rfl #[.agg #[.slice A0_0 l0_0.length c0_0, .int .i64 a0_1]] rfl al_ ?_; (with_reducible refine (spec_l3Copy.calls _ _ l0_0 a0_1 t193 t196 _ ?side1 ?side2 A4.out).mono ?_); (case side1 => exact cb_ (Kd.C_below HR0_0.out HB.out)); (case side2 => exact HC0_0.out); rintro e w14 ⟨v194, rfl, ho0, hb⟩; refine ⟨_, rfl, ?_⟩; have HO195 := A_ (Kd.R_lower ho0 (below_size (hb_ HB))); replace BK189 := bb_ BK189 hb; replace BK190 := bb_ BK190 hb; replace BK191 := bb_ BK191 hb; replace BK192 := bb_ BK192 hb; replace HB := hs_ HB hb; (try clear hb); (try clear hb2); (try clear hk); (try clear hi); (try clear ho0)) | ((with_reducible refine gate_dst (N := 7) rfl ?_); refine bx_ HB rfl (N := 7) rfl (cs := #[.slice none 0 0, .int .i64 0]) (t := 44) hr_ ?_; clear HB; intro gb197 w15 hg hb BK197 GW197 HB; have NB189_197 := ng_ BK189 hg; have NB197_189 := ns_ (ng_ BK189 hg); have NB190_197 := ng_ BK190 hg; have NB197_190 := ns_ (ng_ BK190 hg); have NB191_197 := ng_ BK191 hg; have NB197_191 := ns_ (ng_ BK191 hg); have NB192_197 := ng_ BK192 hg; have NB197_192 := ns_ (ng_ BK192 hg); replace HO195 := A_ (Kd.R_below (rb_ HO195.out) hb); replace BK189 := bb_ BK189 hb; replace BK190 := bb_ BK190 hb; replace BK191 := bb_ BK191 hb; replace BK192 := bb_ BK192 hb; clear hb hg; obtain ⟨Ao16, co16, eo16⟩ := Kd.R_slice HO195.out; subst eo16; have hnb17 := NB197_189.out; have hnc17 := NB189_197.out; have hnb18 := NB197_190.out; have hnc18 := NB190_197.out; have hnb19 := NB197_191.out; have hnc19 := NB191_197.out; have hnb20 := NB197_192.out; have hnc20 := NB192_197.out; obtain ⟨hcz21_0, hcz21_1, hfz21_0, hfz21_1⟩ := cz2_ BK197))
 (try simp only [Act.put, List.setIfInBounds_toArray, List.set_cons_zero, List.set_cons_succ])
 go_cut [19] (fun v19 wc => ∃ (kq : Nat) (x19_4 : Bool), v19 = .bool x19_4 ∧ Aside0 (spec_After.j0 kq x19_4 l0_0 a0_1 a1_0 a1_1 a1_2 t193 t196 = some (r1, r2)) ∧ Aside0 (kq ≤ k) ∧ Aside0 (Kd.R (Kd.int .i64) 3 wc w.heap.size (fun _ => True) (.slice Ao16 t193.length co16) t193) ∧ Aside0 (wc.heap[gb189]? = some (.cells #[(.slice A0_0 l0_0.length c0_0), .int .i64 a0_1] 44 (0, 0))) ∧ Aside0 (wc.heap[gb190]? = some (.cells #[.int .i64 a1_0, .int .i64 a1_1, .int .i64 a1_2] 47 (0, 0))) ∧ Aside0 (wc.heap[gb191]? = some (.cells #[.int .i64 a2_0, (.slice A2_1 l2_1.length c2_1)] 49 (0, 0))) ∧ Aside0 (wc.heap[gb192]? = some (.cells #[(.slice none 0 0), .int .i64 0] 44 (0, 0))) ∧ Aside0 (wc.heap[gb197]? = some (.cells #[(.slice Ao16 t193.length co16), .int .i64 t196] 44 (0, 0))) ∧ Aside0 (Below w.heap.size w wc))
 case first =>
  have H := HC5.out
  clear HC5
  replace H := bs_ H
  obtain ⟨t198, A22, H⟩ := H
  by_cases c23 : t198 = true
  ·
   subst c23
   replace H := it_ H
   replace H' := A_ H; clear H
   have hnb24 := NB189_190.out
   have hnc24 := NB190_189.out
   have hnb25 := NB189_191.out
   have hnc25 := NB191_189.out
   have hnb26 := NB189_192.out
   have hnc26 := NB192_189.out
   have hnb27 := NB189_197.out
   have hnc27 := NB197_189.out
   obtain ⟨hcz28_0, hcz28_1, hfz28_0, hfz28_1⟩ := cz2_ BK189
   have hnb29 := NB190_191.out
   have hnc29 := NB191_190.out
   have hnb30 := NB190_192.out
   have hnc30 := NB192_190.out
   have hnb31 := NB190_197.out
   have hnc31 := NB197_190.out
   obtain ⟨hcz32_0, hcz32_1, hcz32_2, hfz32_0, hfz32_1, hfz32_2⟩ := cz3_ BK190
   have hnb33 := NB191_192.out
   have hnc33 := NB192_191.out
   have hnb34 := NB191_197.out
   have hnc34 := NB197_191.out
   obtain ⟨hcz35_0, hcz35_1, hfz35_0, hfz35_1⟩ := cz2_ BK191
   go_wp2_with (first | ((with_reducible refine gate_callee (f := 31) rfl ?_); refine goesL_ (some 13) rfl rfl Try.func31 (by kernel_rfl) rfl #[.agg #[.slice A0_0 l0_0.length c0_0, .int .i64 a0_1], .agg #[.int .i64 a1_0, .int .i64 a1_1, .int .i64 a1_2], .agg #[.int .i64 a2_0, .slice A2_1 l2_1.length c2_1]] rfl al_ ?_; (with_reducible refine (spec_Allowed.calls k _ _ l0_0 a0_1 a1_0 a1_1 a1_2 a2_0 _ _ l2_1 true _ ?side1 ?side2 ?side3 ?side4 A22.out).mono ?_); (case side1 => exact Kd.C_below HR0_0.out (hb_ HB)); (case side2 => exact HC0_0.out); (case side3 => exact Kd.C_below HR2_1.out (hb_ HB)); (case side4 => exact HC2_1.out); rintro e w36 ⟨rfl, hb⟩; refine ⟨_, rfl, ?_⟩; replace HO195 := A_ (Kd.R_below (by (with_reducible repeat (first | apply Kd.R_alloc | apply Kd.R_drewN | apply Kd.R_drew)); exact (Kd.R_mono (Kd.R_far (p := ⟨gb197, 1, none⟩) (Kd.R_far (p := ⟨gb197, 0, none⟩) (Kd.R_types HO195.out BK197.out (by decide)) (fun _ hk => hk.2) (.slice Ao16 t193.length co16)) (fun _ hk => hk.2) (.int .i64 t196)) (fun _ h_ => h_.1))) hb); replace BK189 := bb_ BK189 hb; replace BK190 := bb_ BK190 hb; replace BK191 := bb_ BK191 hb; replace BK192 := bb_ BK192 hb; replace BK197 := bq_ (o' := .cells #[.slice Ao16 t193.length co16, .int .i64 t196] 44 (0, 0)) BK197 hb; replace HB := hs_ HB hb; (try clear hb); (try clear hb2); (try clear hk); (try clear hi); obtain ⟨hcz37_0, hcz37_1, hfz37_0, hfz37_1⟩ := cz2_ BK191))
   go_meet
   case rel => exact ⟨_, ((a2_0 != 0)), rt_, H', ⟨by first | omega | exact Nat.le_refl _⟩, ⟨rb_ HO195.out⟩, ⟨bk_ BK189⟩, ⟨bk_ BK190⟩, ⟨bk_ BK191⟩, ⟨bk_ BK192⟩, ⟨bk_ BK197⟩, ⟨hb_ HB⟩⟩
  obtain rfl := Bool.eq_false_iff.mpr c23
  replace H := iF_ H
  replace H' := A_ H; clear H
  have hnb38 := NB189_190.out
  have hnc38 := NB190_189.out
  have hnb39 := NB189_191.out
  have hnc39 := NB191_189.out
  have hnb40 := NB189_192.out
  have hnc40 := NB192_189.out
  have hnb41 := NB189_197.out
  have hnc41 := NB197_189.out
  obtain ⟨hcz42_0, hcz42_1, hfz42_0, hfz42_1⟩ := cz2_ BK189
  have hnb43 := NB190_191.out
  have hnc43 := NB191_190.out
  have hnb44 := NB190_192.out
  have hnc44 := NB192_190.out
  have hnb45 := NB190_197.out
  have hnc45 := NB197_190.out
  obtain ⟨hcz46_0, hcz46_1, hcz46_2, hfz46_0, hfz46_1, hfz46_2⟩ := cz3_ BK190
  have hnb47 := NB191_192.out
  have hnc47 := NB192_191.out
  have hnb48 := NB191_197.out
  have hnc48 := NB197_191.out
  obtain ⟨hcz49_0, hcz49_1, hfz49_0, hfz49_1⟩ := cz2_ BK191
  go_wp2_with (first | ((with_reducible refine gate_callee (f := 31) rfl ?_); refine goesL_ (some 13) rfl rfl Try.func31 (by kernel_rfl) rfl #[.agg #[.slice A0_0 l0_0.length c0_0, .int .i64 a0_1], .agg #[.int .i64 a1_0, .int .i64 a1_1, .int .i64 a1_2], .agg #[.int .i64 a2_0, .slice A2_1 l2_1.length c2_1]] rfl al_ ?_; (with_reducible refine (spec_Allowed.calls k _ _ l0_0 a0_1 a1_0 a1_1 a1_2 a2_0 _ _ l2_1 false _ ?side1 ?side2 ?side3 ?side4 A22.out).mono ?_); (case side1 => exact Kd.C_below HR0_0.out (hb_ HB)); (case side2 => exact HC0_0.out); (case side3 => exact Kd.C_below HR2_1.out (hb_ HB)); (case side4 => exact HC2_1.out); rintro e w50 ⟨rfl, hb⟩; refine ⟨_, rfl, ?_⟩; replace HO195 := A_ (Kd.R_below (by (with_reducible repeat (first | apply Kd.R_alloc | apply Kd.R_drewN | apply Kd.R_drew)); exact (Kd.R_mono (Kd.R_far (p := ⟨gb197, 1, none⟩) (Kd.R_far (p := ⟨gb197, 0, none⟩) (Kd.R_types HO195.out BK197.out (by decide)) (fun _ hk => hk.2) (.slice Ao16 t193.length co16)) (fun _ hk => hk.2) (.int .i64 t196)) (fun _ h_ => h_.1))) hb); replace BK189 := bb_ BK189 hb; replace BK190 := bb_ BK190 hb; replace BK191 := bb_ BK191 hb; replace BK192 := bb_ BK192 hb; replace BK197 := bq_ (o' := .cells #[.slice Ao16 t193.length co16, .int .i64 t196] 44 (0, 0)) BK197 hb; replace HB := hs_ HB hb; (try clear hb); (try clear hb2); (try clear hk); (try clear hi)))
  go_meet
  case rel => exact ⟨_, (true), rt_, H', ⟨by first | omega | exact Nat.le_refl _⟩, ⟨rb_ HO195.out⟩, ⟨bk_ BK189⟩, ⟨bk_ BK190⟩, ⟨bk_ BK191⟩, ⟨bk_ BK192⟩, ⟨bk_ BK197⟩, ⟨hb_ HB⟩⟩
 case rest =>
  clear HC5
  try clear c2
  try clear c3
  try clear c23
  try clear hcz13_0
  try clear hcz13_1
  try clear hcz21_0
  try clear hcz21_1
  try clear hcz28_0
  try clear hcz28_1
  try clear hcz32_0
  try clear hcz32_1
  try clear hcz32_2
  try clear hcz35_0
  try clear hcz35_1
  try clear hcz37_0
  try clear hcz37_1
  try clear hcz42_0
  try clear hcz42_1
  try clear hcz46_0
  try clear hcz46_1
  try clear hcz46_2
  try clear hcz49_0
  try clear hcz49_1
  try clear hfz13_0
  try clear hfz13_1
  try clear hfz21_0
  try clear hfz21_1
  try clear hfz28_0
  try clear hfz28_1
  try clear hfz32_0
  try clear hfz32_1
  try clear hfz32_2
  try clear hfz35_0
  try clear hfz35_1
  try clear hfz37_0
  try clear hfz37_1
  try clear hfz42_0
  try clear hfz42_1
  try clear hfz46_0
  try clear hfz46_1
  try clear hfz46_2
  try clear hfz49_0
  try clear hfz49_1
  obtain ⟨kq, x19_4, rfl, HA, HJ4, HO_198000, BK189, BK190, BK191, BK192, BK197, HB⟩ := hcut
  cases kq with
  | zero => exact absurd HA.out (by simp [spec_After.j0])
  | succ kj4 =>
   have H := HA.out
   clear HA
   simp only [spec_After.j0] at H
   by_cases c51 : x19_4 = true
   ·
    subst c51
    replace H := it_ H
    simp only [Option.some.injEq, Prod.mk.injEq] at H
    obtain ⟨rfl, rfl⟩ := H
    have hnb52 := NB197_189.out
    have hnc52 := NB189_197.out
    have hnb53 := NB197_190.out
    have hnc53 := NB190_197.out
    have hnb54 := NB197_191.out
    have hnc54 := NB191_197.out
    have hnb55 := NB197_192.out
    have hnc55 := NB192_197.out
    obtain ⟨hcz56_0, hcz56_1, hfz56_0, hfz56_1⟩ := cz2_ BK197
    have hnb57 := NB192_189.out
    have hnc57 := NB189_192.out
    have hnb58 := NB192_190.out
    have hnc58 := NB190_192.out
    have hnb59 := NB192_191.out
    have hnc59 := NB191_192.out
    obtain ⟨hcz60_0, hcz60_1, hfz60_0, hfz60_1⟩ := cz2_ BK192
    go_wp2
    refine bodyPost_ret (results_cell_row rfl _ _ gb192 44 #[.slice Ao16 t193.length co16, .int .i64 t196] (0, 0) _ rfl (bp_ BK192) Try.underlying44 rfl (by kernel_rfl)) rfl ?_
    exact ⟨_, rs_, by (with_reducible repeat (first | apply Kd.R_alloc | apply Kd.R_drewN | apply Kd.R_drew)); exact Kd.R_mono (Kd.R_far (p := ⟨gb192, 1, none⟩) (Kd.R_far (p := ⟨gb192, 0, none⟩) (Kd.R_types HO_198000.out BK192.out (by decide)) (fun _ hk => hk.2) (.slice Ao16 t193.length co16)) (fun _ hk => hk.2) (.int .i64 t196)) (fun _ hk => trivial), hb_ HB⟩
   obtain rfl := Bool.eq_false_iff.mpr c51
   replace H := iF_ H
   have HC61 := A_ H
   clear H
   have hnb62 := NB190_189.out
   have hnc62 := NB189_190.out
   have hnb63 := NB190_191.out
   have hnc63 := NB191_190.out
   have hnb64 := NB190_192.out
   have hnc64 := NB192_190.out
   have hnb65 := NB190_197.out
   have hnc65 := NB197_190.out
   obtain ⟨hcz66_0, hcz66_1, hcz66_2, hfz66_0, hfz66_1, hfz66_2⟩ := cz3_ BK190
   go_upto_if 23 with (fail)
   go_cut [23] (fun v23 wc => ∃ (kq : Nat) (x23_60 : Bool), v23 = .bool x23_60 ∧ Aside0 (spec_After.j1 kq a1_0 x23_60 l0_0 a0_1 a1_0 a1_1 a1_2 t193 t196 = some (r1, r2)) ∧ Aside0 (kq ≤ kj4) ∧ Aside0 (Kd.R (Kd.int .i64) 3 wc w.heap.size (fun _ => True) (.slice Ao16 t193.length co16) t193) ∧ Aside0 (wc.heap[gb189]? = some (.cells #[(.slice A0_0 l0_0.length c0_0), .int .i64 a0_1] 44 (0, 0))) ∧ Aside0 (wc.heap[gb190]? = some (.cells #[.int .i64 a1_0, .int .i64 a1_1, .int .i64 a1_2] 47 (0, 0))) ∧ Aside0 (wc.heap[gb191]? = some (.cells #[.int .i64 a2_0, (.slice A2_1 l2_1.length c2_1)] 49 (0, 0))) ∧ Aside0 (wc.heap[gb192]? = some (.cells #[(.slice none 0 0), .int .i64 0] 44 (0, 0))) ∧ Aside0 (wc.heap[gb197]? = some (.cells #[(.slice Ao16 t193.length co16), .int .i64 t196] 44 (0, 0))) ∧ Aside0 (Below w.heap.size w wc))
   case first =>
    have H := HC61.out
    clear HC61
    by_cases c67 : a1_0 = 1
    ·
     rw [if_pos c67] at H
     have c67b0 : (a1_0 == 1) = true := beq_iff_eq.mpr c67
     have c67b1 : (a1_0 != 1) = false := bne_eq_false_iff_eq.mpr c67
     clear c67
     (first | rw [c67b0] | (simp only [i64_w, i32_w]; rw [c67b0]) | skip)
     replace H' := A_ H; clear H
     go_wp2
     go_meet
     case rel => exact ⟨_, ((a1_0 == 1)), rt_, H', ⟨by have := HJ4.out; first | omega | exact Nat.le_refl _⟩, ⟨rb_ HO_198000.out⟩, ⟨bk_ BK189⟩, ⟨bk_ BK190⟩, ⟨bk_ BK191⟩, ⟨bk_ BK192⟩, ⟨bk_ BK197⟩, ⟨hb_ HB⟩⟩
    rw [if_neg c67] at H
    have c67b0 : (a1_0 == 1) = false := beq_eq_false_iff_ne.mpr c67
    have c67b1 : (a1_0 != 1) = true := bne_iff_ne.mpr c67
    (first | rw [c67b0] | (simp only [i64_w, i32_w]; rw [c67b0]) | skip)
    replace H' := A_ H; clear H
    go_wp2
    go_meet
    case rel => exact ⟨_, ((a1_0 == 2)), rt_, H', ⟨by have := HJ4.out; first | omega | exact Nat.le_refl _⟩, ⟨rb_ HO_198000.out⟩, ⟨bk_ BK189⟩, ⟨bk_ BK190⟩, ⟨bk_ BK191⟩, ⟨bk_ BK192⟩, ⟨bk_ BK197⟩, ⟨hb_ HB⟩⟩
   case rest =>
    clear HC61
    try clear c2
    try clear c3
    try clear c23
    try clear c51
    try clear c67
    try clear c67b0
    try clear c67b1
    try clear hcz13_0
    try clear hcz13_1
    try clear hcz21_0
    try clear hcz21_1
    try clear hcz28_0
    try clear hcz28_1
    try clear hcz32_0
    try clear hcz32_1
    try clear hcz32_2
    try clear hcz35_0
    try clear hcz35_1
    try clear hcz37_0
    try clear hcz37_1
    try clear hcz42_0
    try clear hcz42_1
    try clear hcz46_0
    try clear hcz46_1
    try clear hcz46_2
    try clear hcz49_0
    try clear hcz49_1
    try clear hcz56_0
    try clear hcz56_1
    try clear hcz60_0
    try clear hcz60_1
    try clear hcz66_0
    try clear hcz66_1
    try clear hcz66_2
    try clear hfz13_0
    try clear hfz13_1
    try clear hfz21_0
    try clear hfz21_1
    try clear hfz28_0
    try clear hfz28_1
    try clear hfz32_0
    try clear hfz32_1
    try clear hfz32_2
    try clear hfz35_0
    try clear hfz35_1
    try clear hfz37_0
    try clear hfz37_1
    try clear hfz42_0
    try clear hfz42_1
    try clear hfz46_0
    try clear hfz46_1
    try clear hfz46_2
    try clear hfz49_0
    try clear hfz49_1
    try clear hfz56_0
    try clear hfz56_1
    try clear hfz60_0
    try clear hfz60_1
    try clear hfz66_0
    try clear hfz66_1
    try clear hfz66_2
    obtain ⟨kq, x23_60, rfl, HA, HJ60, HO_198000, BK189, BK190, BK191, BK192, BK197, HB⟩ := hcut
    cases kq with
    | zero => exact absurd HA.out (by simp [spec_After.j1])
    | succ kj60 =>
     have H := HA.out
     clear HA
     simp only [spec_After.j1] at H
     by_cases c68 : x23_60 = true
     ·
      subst c68
      replace H := it_ H
      replace H := ic_ H
      rcases H with ⟨c69b0, H⟩ | ⟨_, H⟩
      ·
       replace H := ic_ H
       rcases H with ⟨c70b0, H⟩ | ⟨_, H⟩
       ·
        obtain ⟨y199, hy199⟩ : ∃ y_ : List Int, y_ = (t193.set (a1_1 : Int).toNat a1_2) := ⟨_, rfl⟩
        replace H : (some (y199, t196)) = some (r1, r2) := by first | (rw [hy199]; with_reducible exact H) | (have H2_ := (Option.bind_some _ _).symm.trans H; rw [hy199]; with_reducible exact H2_) | (have H2_ := (Option.bind_some _ _).symm.trans H; with_reducible exact H2_) | with_reducible exact H | (rw [hy199]; exact H) | exact H
        have Ny199 := A_ hy199
        clear hy199
        simp only [Option.some.injEq, Prod.mk.injEq] at H
        obtain ⟨rfl, rfl⟩ := H
        have hnb72 := NB197_189.out
        have hnc72 := NB189_197.out
        have hnb73 := NB197_190.out
        have hnc73 := NB190_197.out
        have hnb74 := NB197_191.out
        have hnc74 := NB191_197.out
        have hnb75 := NB197_192.out
        have hnc75 := NB192_197.out
        obtain ⟨hcz76_0, hcz76_1, hfz76_0, hfz76_1⟩ := cz2_ BK197
        have hnb77 := NB190_189.out
        have hnc77 := NB189_190.out
        have hnb78 := NB190_191.out
        have hnc78 := NB191_190.out
        have hnb79 := NB190_192.out
        have hnc79 := NB192_190.out
        obtain ⟨hcz80_0, hcz80_1, hcz80_2, hfz80_0, hfz80_1, hfz80_2⟩ := cz3_ BK190
        have p71 : 0 ≤ (a1_1 : Int) := od_
        have q71 : (a1_1 : Int) < ((t193.length : Int) : Int) := od_
        obtain ⟨go71, co71, eo71, gb71, gl71, cl71, HG71⟩ := Kd.R_form HO_198000.out (by omega)
        (first | cases eo71 | (injection eo71 with ea_ en_ ec_; (first | subst ea_ | (injection ea_ with ea_; subst ea_)); subst ec_; clear en_))
        have GB71 := A_ gb71
        have GG71 := A_ HG71
        clear gb71 gl71 HG71
        obtain ⟨hx71_0, hf71_0⟩ := Kd.R_celln 0 HO_198000.out (a1_1 : Int) p71 q71
        replace p71 := eq_true p71
        replace q71 := eq_true q71
        have HP81 := Kd.R_putg HO_198000.out (a1_1 : Int) a1_2
        go_wp2_with (first | ((with_reducible refine gate_store (t := 3) (p := 32) rfl ?_); refine store_event (t := 3) (p := 32) (v := ?vo_w82) (w1 := (wc.setCell ⟨go71, (a1_1 : Int).toNat, none⟩ (.int .i64 a1_2))) ?hg ?ho ?hn ?hr ?_; (case ho => rfl); (case hg => rfl); (case hn => rfl); (case hr => first | (go_simp; done) | (go_simp; rfl)); intro w82 hw; have hg : wc.grownBy w82 (some go71) := (by rw [hw]; exact HP81.2); have hp_ : Kd.R (Kd.int .i64) 3 w82 w.heap.size (fun _ => True) (.slice (some ⟨go71, 0, none⟩) t193.length co16) y199 := (by rw [hw, Ny199.out]; exact HP81.1); clear HP81; have n0_ := A_ hp_; have n1_ := A_ (blk_grown (g := gb189) (o := .cells #[.slice A0_0 l0_0.length c0_0, .int .i64 a0_1] 44 (0, 0)) (bk_ BK189) hg (Kd.R_ne HO_198000.out BK189.out (by decide))); have n2_ := A_ (blk_grown (g := gb190) (o := .cells #[.int .i64 a1_0, .int .i64 a1_1, .int .i64 a1_2] 47 (0, 0)) (bk_ BK190) hg (Kd.R_ne HO_198000.out BK190.out (by decide))); have n3_ := A_ (blk_grown (g := gb191) (o := .cells #[.int .i64 a2_0, .slice A2_1 l2_1.length c2_1] 49 (0, 0)) (bk_ BK191) hg (Kd.R_ne HO_198000.out BK191.out (by decide))); have n4_ := A_ (blk_grown (g := gb192) (o := .cells #[.slice none 0 0, .int .i64 0] 44 (0, 0)) (bk_ BK192) hg (Kd.R_ne HO_198000.out BK192.out (by decide))); have n5_ := A_ (blk_grown (g := gb197) (o := .cells #[.slice (some ⟨go71, 0, none⟩) t193.length co16, .int .i64 t196] 44 (0, 0)) (bk_ BK197) hg (Kd.R_ne HO_198000.out BK197.out (by decide))); have n6_ := A_ ((by rw [hw]; exact below_set (HB.out) GB71.out : Below w.heap.size w w82)); clear HO_198000; clear BK189; clear BK190; clear BK191; clear BK192; clear BK197; clear HB; have HO_198000 := n0_; have BK189 := n1_; have BK190 := n2_; have BK191 := n3_; have BK192 := n4_; have BK197 := n5_; have HB := n6_; clear n0_ n1_ n2_ n3_ n4_ n5_ n6_; clear hg hw hp_; obtain ⟨hcz83_0, hcz83_1, hfz83_0, hfz83_1⟩ := cz2_ BK197; have hnb84 := NB192_189.out; have hnc84 := NB189_192.out; have hnb85 := NB192_191.out; have hnc85 := NB191_192.out; obtain ⟨hcz86_0, hcz86_1, hfz86_0, hfz86_1⟩ := cz2_ BK192))
        refine bodyPost_ret (results_cell_row rfl _ _ gb192 44 #[.slice (some ⟨go71, 0, none⟩) t193.length co16, .int .i64 t196] (0, 0) _ rfl (bp_ BK192) Try.underlying44 rfl (by kernel_rfl)) rfl ?_
        exact ⟨_, rs_, by (with_reducible repeat (first | apply Kd.R_alloc | apply Kd.R_drewN | apply Kd.R_drew)); exact Kd.R_mono (Kd.R_far (p := ⟨gb192, 1, none⟩) (Kd.R_far (p := ⟨gb192, 0, none⟩) (Kd.R_types HO_198000.out BK192.out (by decide)) (fun _ hk => hk.2) (.slice (some ⟨go71, 0, none⟩) t193.length co16)) (fun _ hk => hk.2) (.int .i64 t196)) (fun _ hk => trivial), hb_ HB⟩
       exact absurd H (by simp)
      exact absurd H (by simp)
     obtain rfl := Bool.eq_false_iff.mpr c68
     replace H := iF_ H
     by_cases c87 : a1_0 = 3
     ·
      rw [if_pos c87] at H
      have c87b0 : (a1_0 == 3) = true := beq_iff_eq.mpr c87
      have c87b1 : (a1_0 != 3) = false := bne_eq_false_iff_eq.mpr c87
      clear c87
      replace H := ic_ H
      rcases H with ⟨c88b0, H⟩ | ⟨_, H⟩
      ·
       replace H := ic_ H
       rcases H with ⟨c89b0, H⟩ | ⟨_, H⟩
       ·
        obtain ⟨y200, hy200⟩ : ∃ y_ : List Int, y_ = (t193.set (a1_1 : Int).toNat 0) := ⟨_, rfl⟩
        replace H : (some (y200, t196)) = some (r1, r2) := by first | (rw [hy200]; with_reducible exact H) | (have H2_ := (Option.bind_some _ _).symm.trans H; rw [hy200]; with_reducible exact H2_) | (have H2_ := (Option.bind_some _ _).symm.trans H; with_reducible exact H2_) | with_reducible exact H | (rw [hy200]; exact H) | exact H
        have Ny200 := A_ hy200
        clear hy200
        simp only [Option.some.injEq, Prod.mk.injEq] at H
        obtain ⟨rfl, rfl⟩ := H
        have hnb91 := NB197_189.out
        have hnc91 := NB189_197.out
        have hnb92 := NB197_190.out
        have hnc92 := NB190_197.out
        have hnb93 := NB197_191.out
        have hnc93 := NB191_197.out
        have hnb94 := NB197_192.out
        have hnc94 := NB192_197.out
        obtain ⟨hcz95_0, hcz95_1, hfz95_0, hfz95_1⟩ := cz2_ BK197
        have hnb96 := NB190_189.out
        have hnc96 := NB189_190.out
        have hnb97 := NB190_191.out
        have hnc97 := NB191_190.out
        have hnb98 := NB190_192.out
        have hnc98 := NB192_190.out
        obtain ⟨hcz99_0, hcz99_1, hcz99_2, hfz99_0, hfz99_1, hfz99_2⟩ := cz3_ BK190
        have p90 : 0 ≤ (a1_1 : Int) := od_
        have q90 : (a1_1 : Int) < ((t193.length : Int) : Int) := od_
        obtain ⟨go90, co90, eo90, gb90, gl90, cl90, HG90⟩ := Kd.R_form HO_198000.out (by omega)
        (first | cases eo90 | (injection eo90 with ea_ en_ ec_; (first | subst ea_ | (injection ea_ with ea_; subst ea_)); subst ec_; clear en_))
        have GB90 := A_ gb90
        have GG90 := A_ HG90
        clear gb90 gl90 HG90
        obtain ⟨hx90_0, hf90_0⟩ := Kd.R_celln 0 HO_198000.out (a1_1 : Int) p90 q90
        replace p90 := eq_true p90
        replace q90 := eq_true q90
        have HP100 := Kd.R_putg HO_198000.out (a1_1 : Int) 0
        go_wp2_with (first | ((with_reducible refine gate_store (t := 3) (p := 39) rfl ?_); refine store_event (t := 3) (p := 39) (v := ?vo_w101) (w1 := (wc.setCell ⟨go90, (a1_1 : Int).toNat, none⟩ (.int .i64 0))) ?hg ?ho ?hn ?hr ?_; (case ho => rfl); (case hg => rfl); (case hn => rfl); (case hr => first | (go_simp; done) | (go_simp; rfl)); intro w101 hw; have hg : wc.grownBy w101 (some go90) := (by rw [hw]; exact HP100.2); have hp_ : Kd.R (Kd.int .i64) 3 w101 w.heap.size (fun _ => True) (.slice (some ⟨go90, 0, none⟩) t193.length co16) y200 := (by rw [hw, Ny200.out]; exact HP100.1); clear HP100; have n0_ := A_ hp_; have n1_ := A_ (blk_grown (g := gb189) (o := .cells #[.slice A0_0 l0_0.length c0_0, .int .i64 a0_1] 44 (0, 0)) (bk_ BK189) hg (Kd.R_ne HO_198000.out BK189.out (by decide))); have n2_ := A_ (blk_grown (g := gb190) (o := .cells #[.int .i64 a1_0, .int .i64 a1_1, .int .i64 a1_2] 47 (0, 0)) (bk_ BK190) hg (Kd.R_ne HO_198000.out BK190.out (by decide))); have n3_ := A_ (blk_grown (g := gb191) (o := .cells #[.int .i64 a2_0, .slice A2_1 l2_1.length c2_1] 49 (0, 0)) (bk_ BK191) hg (Kd.R_ne HO_198000.out BK191.out (by decide))); have n4_ := A_ (blk_grown (g := gb192) (o := .cells #[.slice none 0 0, .int .i64 0] 44 (0, 0)) (bk_ BK192) hg (Kd.R_ne HO_198000.out BK192.out (by decide))); have n5_ := A_ (blk_grown (g := gb197) (o := .cells #[.slice (some ⟨go90, 0, none⟩) t193.length co16, .int .i64 t196] 44 (0, 0)) (bk_ BK197) hg (Kd.R_ne HO_198000.out BK197.out (by decide))); have n6_ := A_ ((by rw [hw]; exact below_set (HB.out) GB90.out : Below w.heap.size w w101)); clear HO_198000; clear BK189; clear BK190; clear BK191; clear BK192; clear BK197; clear HB; have HO_198000 := n0_; have BK189 := n1_; have BK190 := n2_; have BK191 := n3_; have BK192 := n4_; have BK197 := n5_; have HB := n6_; clear n0_ n1_ n2_ n3_ n4_ n5_ n6_; clear hg hw hp_; obtain ⟨hcz102_0, hcz102_1, hfz102_0, hfz102_1⟩ := cz2_ BK197; have hnb103 := NB192_189.out; have hnc103 := NB189_192.out; have hnb104 := NB192_191.out; have hnc104 := NB191_192.out; obtain ⟨hcz105_0, hcz105_1, hfz105_0, hfz105_1⟩ := cz2_ BK192))
        refine bodyPost_ret (results_cell_row rfl _ _ gb192 44 #[.slice (some ⟨go90, 0, none⟩) t193.length co16, .int .i64 t196] (0, 0) _ rfl (bp_ BK192) Try.underlying44 rfl (by kernel_rfl)) rfl ?_
        exact ⟨_, rs_, by (with_reducible repeat (first | apply Kd.R_alloc | apply Kd.R_drewN | apply Kd.R_drew)); exact Kd.R_mono (Kd.R_far (p := ⟨gb192, 1, none⟩) (Kd.R_far (p := ⟨gb192, 0, none⟩) (Kd.R_types HO_198000.out BK192.out (by decide)) (fun _ hk => hk.2) (.slice (some ⟨go90, 0, none⟩) t193.length co16)) (fun _ hk => hk.2) (.int .i64 t196)) (fun _ hk => trivial), hb_ HB⟩
       exact absurd H (by simp)
      exact absurd H (by simp)
     rw [if_neg c87] at H
     have c87b0 : (a1_0 == 3) = false := beq_eq_false_iff_ne.mpr c87
     have c87b1 : (a1_0 != 3) = true := bne_iff_ne.mpr c87
     by_cases c106 : a1_0 = 8
     ·
      rw [if_pos c106] at H
      have c106b0 : (a1_0 == 8) = true := beq_iff_eq.mpr c106
      have c106b1 : (a1_0 != 8) = false := bne_eq_false_iff_eq.mpr c106
      clear c106
      simp only [Option.some.injEq, Prod.mk.injEq] at H
      obtain ⟨rfl, rfl⟩ := H
      have hnb107 := NB189_190.out
      have hnc107 := NB190_189.out
      have hnb108 := NB189_191.out
      have hnc108 := NB191_189.out
      have hnb109 := NB189_192.out
      have hnc109 := NB192_189.out
      have hnb110 := NB189_197.out
      have hnc110 := NB197_189.out
      obtain ⟨hcz111_0, hcz111_1, hfz111_0, hfz111_1⟩ := cz2_ BK189
      have hnb112 := NB197_190.out
      have hnc112 := NB190_197.out
      have hnb113 := NB197_191.out
      have hnc113 := NB191_197.out
      have hnb114 := NB197_192.out
      have hnc114 := NB192_197.out
      obtain ⟨hcz115_0, hcz115_1, hfz115_0, hfz115_1⟩ := cz2_ BK197
      have hnb116 := NB192_190.out
      have hnc116 := NB190_192.out
      have hnb117 := NB192_191.out
      have hnc117 := NB191_192.out
      obtain ⟨hcz118_0, hcz118_1, hfz118_0, hfz118_1⟩ := cz2_ BK192
      go_wp2
      refine bodyPost_ret (results_cell_row rfl _ _ gb192 44 #[.slice Ao16 t193.length co16, .int .i64 (wrap64 (a0_1 + 1))] (0, 0) _ rfl (bp_ BK192) Try.underlying44 rfl (by kernel_rfl)) rfl ?_
      exact ⟨_, rs_, by (with_reducible repeat (first | apply Kd.R_alloc | apply Kd.R_drewN | apply Kd.R_drew)); exact Kd.R_mono (Kd.R_far (p := ⟨gb192, 1, none⟩) (Kd.R_far (p := ⟨gb192, 0, none⟩) (Kd.R_far (p := ⟨gb197, 1, none⟩) (Kd.R_types (Kd.R_types HO_198000.out BK197.out (by decide)) BK192.out (by decide)) (fun _ hk => hk.1.2) (.int .i64 (wrap64 (a0_1 + 1)))) (fun _ hk => hk.2) (.slice Ao16 t193.length co16)) (fun _ hk => hk.2) (.int .i64 (wrap64 (a0_1 + 1)))) (fun _ hk => trivial), hb_ HB⟩
     rw [if_neg c106] at H
     have c106b0 : (a1_0 == 8) = false := beq_eq_false_iff_ne.mpr c106
     have c106b1 : (a1_0 != 8) = true := bne_iff_ne.mpr c106
     by_cases c119 : a1_0 = 9
     ·
      rw [if_pos c119] at H
      have c119b0 : (a1_0 == 9) = true := beq_iff_eq.mpr c119
      have c119b1 : (a1_0 != 9) = false := bne_eq_false_iff_eq.mpr c119
      clear c119
      simp only [Option.some.injEq, Prod.mk.injEq] at H
      obtain ⟨rfl, rfl⟩ := H
      have hnb120 := NB189_190.out
      have hnc120 := NB190_189.out
      have hnb121 := NB189_191.out
      have hnc121 := NB191_189.out
      have hnb122 := NB189_192.out
      have hnc122 := NB192_189.out
      have hnb123 := NB189_197.out
      have hnc123 := NB197_189.out
      obtain ⟨hcz124_0, hcz124_1, hfz124_0, hfz124_1⟩ := cz2_ BK189
      have hnb125 := NB197_190.out
      have hnc125 := NB190_197.out
      have hnb126 := NB197_191.out
      have hnc126 := NB191_197.out
      have hnb127 := NB197_192.out
      have hnc127 := NB192_197.out
      obtain ⟨hcz128_0, hcz128_1, hfz128_0, hfz128_1⟩ := cz2_ BK197
      have hnb129 := NB192_190.out
      have hnc129 := NB190_192.out
      have hnb130 := NB192_191.out
      have hnc130 := NB191_192.out
      obtain ⟨hcz131_0, hcz131_1, hfz131_0, hfz131_1⟩ := cz2_ BK192
      go_wp2
      refine bodyPost_ret (results_cell_row rfl _ _ gb192 44 #[.slice Ao16 t193.length co16, .int .i64 (wrap64 (a0_1 + 1))] (0, 0) _ rfl (bp_ BK192) Try.underlying44 rfl (by kernel_rfl)) rfl ?_
      exact ⟨_, rs_, by (with_reducible repeat (first | apply Kd.R_alloc | apply Kd.R_drewN | apply Kd.R_drew)); exact Kd.R_mono (Kd.R_far (p := ⟨gb192, 1, none⟩) (Kd.R_far (p := ⟨gb192, 0, none⟩) (Kd.R_far (p := ⟨gb197, 1, none⟩) (Kd.R_types (Kd.R_types HO_198000.out BK197.out (by decide)) BK192.out (by decide)) (fun _ hk => hk.1.2) (.int .i64 (wrap64 (a0_1 + 1)))) (fun _ hk => hk.2) (.slice Ao16 t193.length co16)) (fun _ hk => hk.2) (.int .i64 (wrap64 (a0_1 + 1)))) (fun _ hk => trivial), hb_ HB⟩
     rw [if_neg c119] at H
     have c119b0 : (a1_0 == 9) = false := beq_eq_false_iff_ne.mpr c119
     have c119b1 : (a1_0 != 9) = true := bne_iff_ne.mpr c119
     simp only [Option.some.injEq, Prod.mk.injEq] at H
     obtain ⟨rfl, rfl⟩ := H
     have hnb132 := NB197_189.out
     have hnc132 := NB189_197.out
     have hnb133 := NB197_190.out
     have hnc133 := NB190_197.out
     have hnb134 := NB197_191.out
     have hnc134 := NB191_197.out
     have hnb135 := NB197_192.out
     have hnc135 := NB192_197.out
     obtain ⟨hcz136_0, hcz136_1, hfz136_0, hfz136_1⟩ := cz2_ BK197
     have hnb137 := NB192_189.out
     have hnc137 := NB189_192.out
     have hnb138 := NB192_190.out
     have hnc138 := NB190_192.out
     have hnb139 := NB192_191.out
     have hnc139 := NB191_192.out
     obtain ⟨hcz140_0, hcz140_1, hfz140_0, hfz140_1⟩ := cz2_ BK192
     go_wp2
     refine bodyPost_ret (results_cell_row rfl _ _ gb192 44 #[.slice Ao16 t193.length co16, .int .i64 t196] (0, 0) _ rfl (bp_ BK192) Try.underlying44 rfl (by kernel_rfl)) rfl ?_
     exact ⟨_, rs_, by (with_reducible repeat (first | apply Kd.R_alloc | apply Kd.R_drewN | apply Kd.R_drew)); exact Kd.R_mono (Kd.R_far (p := ⟨gb192, 1, none⟩) (Kd.R_far (p := ⟨gb192, 0, none⟩) (Kd.R_types HO_198000.out BK192.out (by decide)) (fun _ hk => hk.2) (.slice Ao16 t193.length co16)) (fun _ hk => hk.2) (.int .i64 t196)) (fun _ hk => trivial), hb_ HB⟩

/-! ### laws_toIntS: function 65 -/
def laws_toIntS.l0 : Nat → List Int → List Int → Int → Option (List Int)
 | 0, _, _, _ => none
 | k + 1, x0, x3, x4 => if x4 < (x0.length : Int) then (if 0 ≤ x4 then (if x4 < (x3.length : Int) then (laws_toIntS.l0 k x0 (x3.set (x4 : Int).toNat (rd x0 x4)) (wrap64 (x4 + 1))) else (none)) else (none)) else (some x3)
def laws_toIntS.f (k : Nat) (l0 : List Int) : Option (List Int) := if 0 ≤ (l0.length : Int) then (if ((l0.length : Int) : Int).toNat ≤ 35184372088832 then (laws_toIntS.l0 k l0 (List.replicate ((l0.length : Int) : Int).toNat 0) 0) else (none)) else (none)
theorem laws_toIntS.mono_l : ∀ k, (∀ y0 y1 y2, LeO (laws_toIntS.l0 k y0 y1 y2) (laws_toIntS.l0 (k + 1) y0 y1 y2))
 | 0 => fun _ _ _ r h => by simp [laws_toIntS.l0] at h
 | k + 1 => by
  have ih0 := laws_toIntS.mono_l k
  ·
   intro y0 y1 y2
   unfold laws_toIntS.l0
   repeat' first
   | (with_reducible exact ih0 _ _ _)
   | (with_reducible exact LeO.refl _)
   | (with_reducible exact LeO.none _)
   | (with_reducible refine LeO.ite ?_ ?_)
   | (with_reducible refine LeO.bind ?_ (fun _ => ?_))
   | exact ih0 _ _ _
   | exact LeO.none _
   | refine LeO.ite ?_ ?_
   | refine LeO.bind ?_ (fun _ => ?_)
theorem laws_toIntS.mono : ∀ a0 k, LeO (laws_toIntS.f k a0) (laws_toIntS.f (k + 1) a0) := by
 intro a0 k
 have ih0 := laws_toIntS.mono_l k
 unfold laws_toIntS.f
 repeat' first
   | (with_reducible exact ih0 _ _ _)
   | (with_reducible exact LeO.refl _)
   | (with_reducible exact LeO.none _)
   | (with_reducible refine LeO.ite ?_ ?_)
   | (with_reducible refine LeO.bind ?_ (fun _ => ?_))
   | exact ih0 _ _ _
   | exact LeO.none _
   | refine LeO.ite ?_ ?_
   | refine LeO.bind ?_ (fun _ => ?_)
set_option maxHeartbeats 8000000 in
set_option maxRecDepth 100000 in
theorem laws_toIntS.calls (k : Nat) (A0 : Option Addr) (c0 : Nat) (l0 : List Int) (r : List Int) (w : World) (hr0 : Kd.C (Kd.int .i64) w A0 l0.length l0) (hc0 : l0.length ≤ c0) (h : laws_toIntS.f k l0 = some r) :
    Calls Try.prog 65 #[.slice A0 l0.length c0] w fun e w' => ∃ v0_ : Value, e = .returned (v0_) ∧ Kd.R (Kd.int .i64) 3 w' w.heap.size (fun _ => True) v0_ r ∧ Below w.heap.size w w' := by
 have HR0 := A_ hr0
 have HC0 := A_ hc0
 clear hr0 hc0
 have HB := A_ (Below.refl w.heap.size w)
 have H : (if 0 ≤ (l0.length : Int) then (if ((l0.length : Int) : Int).toNat ≤ 35184372088832 then (laws_toIntS.l0 k l0 (List.replicate ((l0.length : Int) : Int).toNat 0) 0) else (none)) else (none)) = some r := h
 clear h
 by_cases c2 : 0 ≤ (l0.length : Int)
 ·
  rw [if_pos c2] at H
  have c2b0 := eq_true c2
  have c2b1 : decide (0 ≤ (l0.length : Int)) = true := decide_eq_true c2
  clear c2
  by_cases c3 : ((l0.length : Int) : Int).toNat ≤ 35184372088832
  ·
   rw [if_pos c3] at H
   have c3b0 := eq_true c3
   have c3b1 : decide (((l0.length : Int) : Int).toNat ≤ 35184372088832) = true := decide_eq_true c3
   clear c3
   obtain ⟨y201, hy201⟩ : ∃ y_ : List Int, y_ = (List.replicate ((l0.length : Int) : Int).toNat 0) := ⟨_, rfl⟩
   replace H : (laws_toIntS.l0 k l0 y201 0) = some r := by first | (rw [hy201]; with_reducible exact H) | (have H2_ := (Option.bind_some _ _).symm.trans H; rw [hy201]; with_reducible exact H2_) | (have H2_ := (Option.bind_some _ _).symm.trans H; with_reducible exact H2_) | with_reducible exact H | (rw [hy201]; exact H) | exact H
   have Ny201 := A_ hy201
   clear hy201
   replace H' := A_ H; clear H
   go_enter Try.func65, Try.ntmps65
   go_wp2_with (first | ((with_reducible refine gate_dst (N := 7) rfl ?_); refine Kd.R_make (Kd.int .i64) _ 3 rfl (N := 7) rfl 35 _ _ rfl (l0.length : Int) rfl rfl Try.underlying35 (.int .i64 0) 8 info3 rfl (by decide) (by omega) 0 (ok := fun _ => True) (okp := fun _ => True) rfl (fun _ hk => hk) trivial (od_) (Nat.le_trans (Nat.mul_le_mul_right _ (od_ : (l0.length : Int).toNat ≤ 35184372088832)) (by omega)) (Below.refl _ _) (Nat.le_refl _) ?_; intro v202 w4 ho5 hb hg_ hnew_; clear hg_ hnew_; (first | rw [← Ny201.out] at ho5 | (simp only [Int.reduceToNat] at ho5; rw [← Ny201.out] at ho5)); have HO203 := A_ (Kd.R_lower ho5 (below_size (hb_ HB))); replace HB := hs_ HB hb; clear hb ho5))
   go_loopg [4] k (fun kq v4 w' => ∃ (x3_1 : List Int) (x4_1 : Int), v4 = .int .i64 x4_1 ∧ Aside0 (laws_toIntS.l0 kq l0 x3_1 x4_1 = some r) ∧ Aside0 (kq ≤ k) ∧ Aside0 (Kd.R (Kd.int .i64) 3 w' w.heap.size (fun _ => True) v202 x3_1) ∧ Aside0 (Below w.heap.size w w'))
   case atStart => exact ⟨(y201), (0), rt_, H', ⟨Nat.le_refl _⟩, ⟨rb_ HO203.out⟩, ⟨hb_ HB⟩⟩
   case round =>
    clear H'
    try clear c2
    try clear c2b0
    try clear c2b1
    try clear c3
    try clear c3b0
    try clear c3b1
    obtain ⟨x3_1, x4_1, rfl, HA, HK1, HO_3, HB⟩ := hrel
    cases gk with
    | zero => exact absurd HA.out (by simp [laws_toIntS.l0])
    | succ k1 =>
     have H := HA.out
     clear HA
     simp only [laws_toIntS.l0] at H
     replace H := ic_ H
     rcases H with ⟨c6b0, H⟩ | ⟨c6b0, H⟩
     ·
      replace H := ic_ H
      rcases H with ⟨c7b0, H⟩ | ⟨_, H⟩
      ·
       replace H := ic_ H
       rcases H with ⟨c8b0, H⟩ | ⟨_, H⟩
       ·
        obtain ⟨y205, hy205⟩ : ∃ y_ : List Int, y_ = (x3_1.set (x4_1 : Int).toNat (rd l0 x4_1)) := ⟨_, rfl⟩
        replace H : (laws_toIntS.l0 k1 l0 y205 (wrap64 (x4_1 + 1))) = some r := by first | (rw [hy205]; with_reducible exact H) | (have H2_ := (Option.bind_some _ _).symm.trans H; rw [hy205]; with_reducible exact H2_) | (have H2_ := (Option.bind_some _ _).symm.trans H; with_reducible exact H2_) | with_reducible exact H | (rw [hy205]; exact H) | exact H
        have Ny205 := A_ hy205
        clear hy205
        replace H' := A_ H; clear H
        have p204 : 0 ≤ (x4_1 : Int) := od_
        have q204 : x4_1 < (l0.length : Int) := od_
        obtain ⟨ad204, e204, hx204_0⟩ := Kd.at_int HR0.out x4_1 p204 q204
        cases e204
        replace hx204_0 := hx_ HB hx204_0
        replace p204 := eq_true p204
        replace q204 := eq_true q204
        have p9 : 0 ≤ (x4_1 : Int) := od_
        have q9 : (x4_1 : Int) < ((x3_1.length : Int) : Int) := od_
        obtain ⟨go9, co9, eo9, gb9, gl9, cl9, HG9⟩ := Kd.R_form HO_3.out (by omega)
        (first | cases eo9 | (injection eo9 with ea_ en_ ec_; (first | subst ea_ | (injection ea_ with ea_; subst ea_)); subst ec_; clear en_))
        have GB9 := A_ gb9
        have GG9 := A_ HG9
        clear gb9 gl9 HG9
        obtain ⟨hx9_0, hf9_0⟩ := Kd.R_celln 0 HO_3.out (x4_1 : Int) p9 q9
        replace p9 := eq_true p9
        replace q9 := eq_true q9
        have HP10 := Kd.R_putg HO_3.out (x4_1 : Int) (rd l0 x4_1)
        go_wp2_with (first | ((with_reducible refine gate_store (t := 3) (p := 20) rfl ?_); refine store_event (t := 3) (p := 20) (v := ?vo_w11) (w1 := (wr.setCell ⟨go9, (x4_1 : Int).toNat, none⟩ (.int .i64 (rd l0 x4_1)))) ?hg ?ho ?hn ?hr ?_; (case ho => rfl); (case hg => rfl); (case hn => rfl); (case hr => first | (go_simp; done) | (go_simp; rfl)); intro w11 hw; have hg : wr.grownBy w11 (some go9) := (by rw [hw]; exact HP10.2); have hp_ : Kd.R (Kd.int .i64) 3 w11 w.heap.size (fun _ => True) (.slice (some ⟨go9, 0, none⟩) x3_1.length co9) y205 := (by rw [hw, Ny205.out]; exact HP10.1); clear HP10; replace HO_3 := A_ hp_; replace HB := A_ ((by rw [hw]; exact below_set (HB.out) GB9.out : Below w.heap.size w w11)); clear hg hw hp_))
        go_roundg k1
        case measure => have := HK1.out; omega
        case rel => exact ⟨(y205), (wrap64 (x4_1 + 1)), rt_, H', ⟨by have := HK1.out; omega⟩, ⟨rb_ HO_3.out⟩, ⟨hb_ HB⟩⟩
       exact absurd H (by simp)
      exact absurd H (by simp)
     obtain rfl := Option.some.inj H
     go_wp2
     go_ret
     exact ⟨_, rs_, rb_ HO_3.out, hb_ HB⟩
  rw [if_neg c3] at H
  exact absurd H (by simp)
 rw [if_neg c2] at H
 exact absurd H (by simp)

/-! ### laws_toRows: function 17 -/
def laws_toRows.f (k : Nat) (l0_0 : List Int) (a0_1 : Int) : Option (List Int × Int) := (laws_toIntS.f k l0_0).bind fun t209 => (some (t209, a0_1))
theorem laws_toRows.mono : ∀ a0 a1 k, LeO (laws_toRows.f k a0 a1) (laws_toRows.f (k + 1) a0 a1) := by
 intro a0 a1 k
 unfold laws_toRows.f
 repeat' first
   | (with_reducible exact laws_toIntS.mono _ _)
   | (with_reducible exact LeO.refl _)
   | (with_reducible exact LeO.none _)
   | (with_reducible refine LeO.ite ?_ ?_)
   | (with_reducible refine LeO.bind ?_ (fun _ => ?_))
   | exact laws_toIntS.mono _ _
   | exact LeO.none _
   | refine LeO.ite ?_ ?_
   | refine LeO.bind ?_ (fun _ => ?_)
set_option maxHeartbeats 8000000 in
set_option maxRecDepth 100000 in
theorem laws_toRows.calls (k : Nat) (A0_0 : Option Addr) (c0_0 : Nat) (l0_0 : List Int) (a0_1 : Int) (r1 : List Int) (r2 : Int) (w : World) (hr0_0 : Kd.C (Kd.int .i64) w A0_0 l0_0.length l0_0) (hc0_0 : l0_0.length ≤ c0_0) (h : laws_toRows.f k l0_0 a0_1 = some (r1, r2)) :
    Calls Try.prog 17 #[.agg #[.slice A0_0 l0_0.length c0_0, .int .i64 a0_1]] w fun e w' => ∃ v0_ : Value, e = .returned (.agg #[v0_, .int .i64 r2]) ∧ Kd.R (Kd.int .i64) 3 w' w.heap.size (fun _ => True) v0_ r1 ∧ Below w.heap.size w w' := by
 have hu37 := Try.underlying37
 have hu44 := Try.underlying44
 have HR0_0 := A_ hr0_0
 have HC0_0 := A_ hc0_0
 clear hr0_0 hc0_0
 have HB := A_ (Below.refl w.heap.size w)
 have H : ((laws_toIntS.f k l0_0).bind fun t209 => (some (t209, a0_1))) = some (r1, r2) := h
 clear h
 replace H := bs_ H
 obtain ⟨t209, A2, H⟩ := H
 simp only [Option.some.injEq, Prod.mk.injEq] at H
 obtain ⟨rfl, rfl⟩ := H
 go_enter Try.func17, Try.ntmps17
 go_wp2_with (first | ((with_reducible refine gate_dst (N := 1) rfl ?_); refine bx_ HB rfl (N := 1) rfl (cs := #[.slice A0_0 l0_0.length c0_0, .int .i64 a0_1]) (t := 37) hr_ ?_; clear HB; intro gb206 w3 hg hb BK206 GW206 HB; clear hb hg) | ((with_reducible refine gate_dst (N := 2) rfl ?_); refine bx_ HB rfl (N := 2) rfl (cs := #[.slice none 0 0, .int .i64 0]) (t := 44) hr_ ?_; clear HB; intro gb207 w4 hg hb BK207 GW207 HB; have NB206_207 := ng_ BK206 hg; have NB207_206 := ns_ (ng_ BK206 hg); replace BK206 := bb_ BK206 hb; clear hb hg) | ((with_reducible refine gate_dst (N := 3) rfl ?_); refine bx_ HB rfl (N := 3) rfl (cs := #[.slice none 0 0, .int .i64 0]) (t := 44) hr_ ?_; clear HB; intro gb208 w5 hg hb BK208 GW208 HB; have NB206_208 := ng_ BK206 hg; have NB208_206 := ns_ (ng_ BK206 hg); have NB207_208 := ng_ BK207 hg; have NB208_207 := ns_ (ng_ BK207 hg); replace BK206 := bb_ BK206 hb; replace BK207 := bb_ BK207 hb; clear hb hg; have hnb6 := NB206_207.out; have hnc6 := NB207_206.out; have hnb7 := NB206_208.out; have hnc7 := NB208_206.out; obtain ⟨hcz8_0, hcz8_1, hfz8_0, hfz8_1⟩ := cz2_ BK206) | ((with_reducible refine gate_callee (f := 65) rfl ?_); refine goesL_ (some 6) rfl rfl Try.func65 (by kernel_rfl) rfl #[.slice A0_0 l0_0.length c0_0] rfl al_ ?_; (with_reducible refine (laws_toIntS.calls k _ _ l0_0 t209 _ ?side1 ?side2 A2.out).mono ?_); (case side1 => exact cb_ (Kd.C_below HR0_0.out HB.out)); (case side2 => exact HC0_0.out); rintro e w9 ⟨v210, rfl, ho0, hb⟩; refine ⟨_, rfl, ?_⟩; have HO211 := A_ (Kd.R_lower ho0 (below_size (hb_ HB))); replace BK206 := bb_ BK206 hb; replace BK207 := bb_ BK207 hb; replace BK208 := bb_ BK208 hb; replace HB := hs_ HB hb; (try clear hb); (try clear hb2); (try clear hk); (try clear hi); (try clear ho0); obtain ⟨Ao10, co10, eo10⟩ := Kd.R_slice HO211.out; subst eo10; have hnb11 := NB208_207.out; have hnc11 := NB207_208.out; obtain ⟨hcz12_0, hcz12_1, hfz12_0, hfz12_1⟩ := cz2_ BK208; obtain ⟨hcz13_0, hcz13_1, hfz13_0, hfz13_1⟩ := cz2_ BK206; obtain ⟨hcz14_0, hcz14_1, hfz14_0, hfz14_1⟩ := cz2_ BK207))
 refine bodyPost_ret (results_cell_row rfl _ _ gb207 44 #[.slice Ao10 t209.length co10, .int .i64 a0_1] (0, 0) _ rfl (bp_ BK207) Try.underlying44 rfl (by kernel_rfl)) rfl ?_
 exact ⟨_, rs_, by (with_reducible repeat (first | apply Kd.R_alloc | apply Kd.R_drewN | apply Kd.R_drew)); exact Kd.R_mono (Kd.R_far (p := ⟨gb207, 1, none⟩) (Kd.R_far (p := ⟨gb207, 0, none⟩) (Kd.R_far (p := ⟨gb208, 1, none⟩) (Kd.R_far (p := ⟨gb208, 0, none⟩) (Kd.R_types (Kd.R_types HO211.out BK208.out (by decide)) BK207.out (by decide)) (fun _ hk => hk.1.2) (.slice Ao10 t209.length co10)) (fun _ hk => hk.1.2) (.int .i64 a0_1)) (fun _ hk => hk.2) (.slice Ao10 t209.length co10)) (fun _ hk => hk.2) (.int .i64 a0_1)) (fun _ hk => trivial), hb_ HB⟩

/-! ### laws_toOp: function 18 -/
def laws_toOp.f (a0_0 : Int) (a0_1 : Int) (a0_2 : Int) : Option (Int × Int × Int) := some (a0_0, a0_1, a0_2)
set_option maxHeartbeats 8000000 in
set_option maxRecDepth 100000 in
theorem laws_toOp.calls (a0_0 : Int) (a0_1 : Int) (a0_2 : Int) (r1 : Int) (r2 : Int) (r3 : Int) (w : World) (h : laws_toOp.f a0_0 a0_1 a0_2 = some (r1, r2, r3)) :
    Calls Try.prog 18 #[.agg #[.int .i64 a0_0, .int .i64 a0_1, .int .i64 a0_2]] w fun e w' => e = .returned (.agg #[.int .i64 r1, .int .i64 r2, .int .i64 r3]) ∧ Below w.heap.size w w' := by
 have hu39 := Try.underlying39
 have hu47 := Try.underlying47
 have HB := A_ (Below.refl w.heap.size w)
 have H : (some (a0_0, a0_1, a0_2)) = some (r1, r2, r3) := h
 clear h
 simp only [Option.some.injEq, Prod.mk.injEq] at H
 obtain ⟨rfl, rfl, rfl⟩ := H
 go_enter Try.func18, Try.ntmps18
 go_wp2_with (first | ((with_reducible refine gate_dst (N := 1) rfl ?_); refine bx_ HB rfl (N := 1) rfl (cs := #[.int .i64 a0_0, .int .i64 a0_1, .int .i64 a0_2]) (t := 39) hr_ ?_; clear HB; intro gb212 w2 hg hb BK212 GW212 HB; clear hb hg) | ((with_reducible refine gate_dst (N := 2) rfl ?_); refine bx_ HB rfl (N := 2) rfl (cs := #[.int .i64 0, .int .i64 0, .int .i64 0]) (t := 47) hr_ ?_; clear HB; intro gb213 w3 hg hb BK213 GW213 HB; have NB212_213 := ng_ BK212 hg; have NB213_212 := ns_ (ng_ BK212 hg); replace BK212 := bb_ BK212 hb; clear hb hg) | ((with_reducible refine gate_dst (N := 3) rfl ?_); refine bx_ HB rfl (N := 3) rfl (cs := #[.int .i64 0, .int .i64 0, .int .i64 0]) (t := 47) hr_ ?_; clear HB; intro gb214 w4 hg hb BK214 GW214 HB; have NB212_214 := ng_ BK212 hg; have NB214_212 := ns_ (ng_ BK212 hg); have NB213_214 := ng_ BK213 hg; have NB214_213 := ns_ (ng_ BK213 hg); replace BK212 := bb_ BK212 hb; replace BK213 := bb_ BK213 hb; clear hb hg; have hnb5 := NB212_213.out; have hnc5 := NB213_212.out; have hnb6 := NB212_214.out; have hnc6 := NB214_212.out; obtain ⟨hcz7_0, hcz7_1, hcz7_2, hfz7_0, hfz7_1, hfz7_2⟩ := cz3_ BK212; have hnb8 := NB214_213.out; have hnc8 := NB213_214.out; obtain ⟨hcz9_0, hcz9_1, hcz9_2, hfz9_0, hfz9_1, hfz9_2⟩ := cz3_ BK214; obtain ⟨hcz10_0, hcz10_1, hcz10_2, hfz10_0, hfz10_1, hfz10_2⟩ := cz3_ BK213))
 refine bodyPost_ret (results_cell_row rfl _ _ gb213 47 #[.int .i64 a0_0, .int .i64 a0_1, .int .i64 a0_2] (0, 0) _ rfl (bp_ BK213) Try.underlying47 rfl (by kernel_rfl)) rfl ?_
 exact ⟨rs_, hb_ HB⟩

end Go.Proofs.Ytmkhghbalnadlaa.PFnExactAfter
