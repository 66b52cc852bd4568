/- Contracts of functions of the program: each says that the call does what a plain Lean function tells. Made by programs of this session and of the kit. No condition beyond the hypotheses that each theorem names. -/
import Derived.Test.YtmkhghbalnadlaaPFnAllowedx0
import Derived.Test.YtmkhghbalnadlaaPFnAllowedx8
namespace Go.Proofs.Ytmkhghbalnadlaa.PFnAllowed
open Go.RowKit Go.Proofs.YtmkhghbalnadlaaW.PrintWords Go.Proofs.YtmkhghbalnadlaaW.PrintLast Go.Proofs.YtmkhghbalnadlaaW.PrintMore
attribute [local go_sem] max2_int min2_int max_two min_two max_three min_three max_four min_four   -- for this text's walks alone
set_option linter.unusedVariables false
set_option linter.unusedSimpArgs false

/-! ### impl_refusal: function 74 -/
mutual
def impl_refusal.j0 : Nat → Int → Int → Bool → List Int → Int → Int → Int → Int → Option (Bool)
 | 0, _, _, _, _, _, _, _, _ => none
 | k + 1, x2, x7, x42, x218000, x218001, x219000, x219001, x219002 => if x42 = true then (if 0 ≤ x219001 then (if x219001 < (x218000.length : Int) then (some ((rd x218000 x219001) == 0)) else (none)) else (none)) else (if x2 = 3 then (if x7 < 0 then (if x219000 = 5 then (some true) else (if x219000 = 10 then ((impl_made.f x218000 x218001).bind fun t222 => (some t222)) else (some false))) else (some false)) else (if x2 = 4 then (impl_refusal.j1 k x2 (x219000 == 8) x218000 x218001 x219000 x219001 x219002) else (impl_refusal.j1 k x2 false x218000 x218001 x219000 x219001 x219002)))
def impl_refusal.j1 : Nat → Int → Bool → List Int → Int → Int → Int → Int → Option (Bool)
 | 0, _, _, _, _, _, _, _ => none
 | k + 1, x2, x86, x218000, x218001, x219000, x219001, x219002 => if x86 = true then (some (x218001 != 0)) else (if x2 = 4 then (impl_refusal.j2 k x2 (x219000 == 9) x218000 x218001 x219000 x219001 x219002) else (impl_refusal.j2 k x2 false x218000 x218001 x219000 x219001 x219002))
def impl_refusal.j2 : Nat → Int → Bool → List Int → Int → Int → Int → Int → Option (Bool)
 | 0, _, _, _, _, _, _, _ => none
 | k + 1, x2, x97, x218000, x218001, x219000, x219001, x219002 => if x97 = true then (if x218001 = 0 then (some true) else ((impl_made.f x218000 x218001).bind fun t223 => (some t223))) else (if x2 = 4 then (if x219000 = 10 then ((impl_made.f x218000 x218001).bind fun t224 => (some (!t224))) else (some false)) else (some false))
end
def impl_refusal.f (k : Nat) (l0_0 : List Int) (a0_1 : Int) (a1_0 : Int) (a1_1 : Int) (a1_2 : Int) (a2 : Int) : Option (Bool) := (impl_KeyOf.f k l0_0 a0_1 a1_2).bind fun t219 => (if a2 = 1 then (if a1_0 = 1 then (if 0 ≤ a1_1 then (if a1_1 < (l0_0.length : Int) then (some ((rd l0_0 a1_1) != 0)) else (none)) else (none)) else (some false)) else (if a2 = 2 then (if a1_0 = 1 then (some (decide (t219 ≥ 0))) else (if a1_0 = 2 then (some (decide (t219 ≥ 0))) else (some false))) else (if a2 = 3 then (if a1_0 = 2 then (impl_refusal.j0 k a2 t219 true l0_0 a0_1 a1_0 a1_1 a1_2) else (if a1_0 = 3 then (impl_refusal.j0 k a2 t219 true l0_0 a0_1 a1_0 a1_1 a1_2) else (impl_refusal.j0 k a2 t219 (a1_0 == 4) l0_0 a0_1 a1_0 a1_1 a1_2))) else (impl_refusal.j0 k a2 t219 false l0_0 a0_1 a1_0 a1_1 a1_2))))
theorem impl_refusal.mono_l : ∀ k, (∀ y0 y1 y2 y3 y4 y5 y6 y7, LeO (impl_refusal.j0 k y0 y1 y2 y3 y4 y5 y6 y7) (impl_refusal.j0 (k + 1) y0 y1 y2 y3 y4 y5 y6 y7)) ∧ (∀ y0 y1 y2 y3 y4 y5 y6, LeO (impl_refusal.j1 k y0 y1 y2 y3 y4 y5 y6) (impl_refusal.j1 (k + 1) y0 y1 y2 y3 y4 y5 y6)) ∧ (∀ y0 y1 y2 y3 y4 y5 y6, LeO (impl_refusal.j2 k y0 y1 y2 y3 y4 y5 y6) (impl_refusal.j2 (k + 1) y0 y1 y2 y3 y4 y5 y6))
 | 0 => ⟨fun _ _ _ _ _ _ _ _ r h => by simp [impl_refusal.j0] at h, fun _ _ _ _ _ _ _ r h => by simp [impl_refusal.j1] at h, fun _ _ _ _ _ _ _ r h => by simp [impl_refusal.j2] at h⟩
 | k + 1 => by
  obtain ⟨ih0, ih1, ih2⟩ := impl_refusal.mono_l k
  refine ⟨?_, ?_, ?_⟩
  ·
   intro y0 y1 y2 y3 y4 y5 y6 y7
   unfold impl_refusal.j0
   repeat' first | (with_reducible first | apply ih0 | apply ih1 | apply ih2 | apply impl_KeyOf.mono | apply LeO.refl | apply LeO.none | apply LeO.ite | refine LeO.bind ?_ (fun _ => ?_)) | apply ih0 | apply ih1 | apply ih2 | apply impl_KeyOf.mono | apply LeO.none | apply LeO.ite | refine LeO.bind ?_ (fun _ => ?_)
  ·
   intro y0 y1 y2 y3 y4 y5 y6
   unfold impl_refusal.j1
   repeat' first | (with_reducible first | apply ih0 | apply ih1 | apply ih2 | apply impl_KeyOf.mono | apply LeO.refl | apply LeO.none | apply LeO.ite | refine LeO.bind ?_ (fun _ => ?_)) | apply ih0 | apply ih1 | apply ih2 | apply impl_KeyOf.mono | apply LeO.none | apply LeO.ite | refine LeO.bind ?_ (fun _ => ?_)
  intro y0 y1 y2 y3 y4 y5 y6
  unfold impl_refusal.j2
  repeat' first | (with_reducible first | apply ih0 | apply ih1 | apply ih2 | apply impl_KeyOf.mono | apply LeO.refl | apply LeO.none | apply LeO.ite | refine LeO.bind ?_ (fun _ => ?_)) | apply ih0 | apply ih1 | apply ih2 | apply impl_KeyOf.mono | apply LeO.none | apply LeO.ite | refine LeO.bind ?_ (fun _ => ?_)
theorem impl_refusal.mono : ∀ a0 a1 a2 a3 a4 a5 k, LeO (impl_refusal.f k a0 a1 a2 a3 a4 a5) (impl_refusal.f (k + 1) a0 a1 a2 a3 a4 a5) := by
 intro a0 a1 a2 a3 a4 a5 k
 obtain ⟨ih0, ih1, ih2⟩ := impl_refusal.mono_l k
 unfold impl_refusal.f
 repeat' first | (with_reducible first | apply ih0 | apply ih1 | apply ih2 | apply impl_KeyOf.mono | apply LeO.refl | apply LeO.none | apply LeO.ite | refine LeO.bind ?_ (fun _ => ?_)) | apply ih0 | apply ih1 | apply ih2 | apply impl_KeyOf.mono | apply LeO.none | apply LeO.ite | refine LeO.bind ?_ (fun _ => ?_)
set_option maxHeartbeats 8000000 in
set_option maxRecDepth 100000 in
theorem impl_refusal.calls (k : Nat) (A0_0 : Option Addr) (c0_0 : Nat) (l0_0 : List Int) (a0_1 : Int) (a1_0 : Int) (a1_1 : Int) (a1_2 : Int) (a2 : Int) (r : Bool) (w : World) (hr0_0 : Kd.C (Kd.int .i64) w A0_0 l0_0.length l0_0) (hc0_0 : l0_0.length ≤ c0_0) (h : impl_refusal.f k l0_0 a0_1 a1_0 a1_1 a1_2 a2 = some r) :
    Calls Try.prog 74 #[.agg #[.slice A0_0 l0_0.length c0_0, .int .i64 a0_1], .agg #[.int .i64 a1_0, .int .i64 a1_1, .int .i64 a1_2], .int .i64 a2] w fun e w' => e = .returned (.bool r) ∧ Below w.heap.size w w' := by
 have hu44 := Try.underlying44
 have hu47 := Try.underlying47
 have HR0_0 := A_ hr0_0
 have HC0_0 := A_ hc0_0
 clear hr0_0 hc0_0
 have HB := A_ (Below.refl w.heap.size w)
 have H : ((impl_KeyOf.f k l0_0 a0_1 a1_2).bind fun t219 => (if a2 = 1 then (if a1_0 = 1 then (if 0 ≤ a1_1 then (if a1_1 < (l0_0.length : Int) then (some ((rd l0_0 a1_1) != 0)) else (none)) else (none)) else (some false)) else (if a2 = 2 then (if a1_0 = 1 then (some (decide (t219 ≥ 0))) else (if a1_0 = 2 then (some (decide (t219 ≥ 0))) else (some false))) else (if a2 = 3 then (if a1_0 = 2 then (impl_refusal.j0 k a2 t219 true l0_0 a0_1 a1_0 a1_1 a1_2) else (if a1_0 = 3 then (impl_refusal.j0 k a2 t219 true l0_0 a0_1 a1_0 a1_1 a1_2) else (impl_refusal.j0 k a2 t219 (a1_0 == 4) l0_0 a0_1 a1_0 a1_1 a1_2))) else (impl_refusal.j0 k a2 t219 false l0_0 a0_1 a1_0 a1_1 a1_2))))) = some r := h
 clear h
 replace H := bs_ H
 obtain ⟨t219, A4, H⟩ := H
 by_cases c5 : a2 = 1
 ·
  rw [if_pos c5] at H
  have c5b0 : (a2 == 1) = true := beq_iff_eq.mpr c5
  have c5b1 : (a2 != 1) = false := bne_eq_false_iff_eq.mpr c5
  clear c5
  by_cases c6 : a1_0 = 1
  ·
   rw [if_pos c6] at H
   have c6b0 : (a1_0 == 1) = true := beq_iff_eq.mpr c6
   have c6b1 : (a1_0 != 1) = false := bne_eq_false_iff_eq.mpr c6
   clear c6
   replace H := ix_ H
   obtain ⟨c7b0, H⟩ := H
   replace H := ix_ H
   obtain ⟨c8b0, H⟩ := H
   obtain rfl := Option.some.inj H
   go_enter Try.func74, Try.ntmps74
   go_wp2_with (first | ((with_reducible refine gate_dst (N := 3) rfl ?_); refine Y5_ ?_; clear HB; intro gb217 w9 BK217 GW217 HB) | ((with_reducible refine gate_dst (N := 4) rfl ?_); refine Y11_ ?_; clear HB BK217; intro gb218 w10 BK218 GW218 HB NB217_218 NB218_217 BK217 hnb11 hnc11 hcz12_0 hcz12_1 hfz12_0 hfz12_1 hcz13_0 hcz13_1 hcz13_2 hfz13_0 hfz13_1 hfz13_2) | ((with_reducible refine gate_callee (f := 129) rfl ?_); refine goesL_ (some 11) rfl rfl Try.func129 (by kernel_rfl) rfl #[.agg #[.slice A0_0 l0_0.length c0_0, .int .i64 a0_1], .int .i64 a1_2] rfl al_ ?_; (with_reducible refine (impl_KeyOf.calls k _ _ l0_0 a0_1 a1_2 t219 _ ?side1 ?side2 A4.out).mono ?_); (case side1 => exact cb_ (Kd.C_below HR0_0.out HB.out)); (case side2 => exact HC0_0.out); rintro e w14 ⟨rfl, hb⟩; refine ⟨_, rfl, ?_⟩; replace BK217 := bb_ BK217 hb; replace BK218 := bb_ BK218 hb; replace HB := hs_ HB hb; (try clear hb); (try clear hb2); (try clear hk); (try clear hi); obtain ⟨hcz15_0, hcz15_1, hcz15_2, hfz15_0, hfz15_1, hfz15_2⟩ := cz3_ BK218; obtain ⟨hcz16_0, hcz16_1, hfz16_0, hfz16_1⟩ := cz2_ BK217; have p220 : 0 ≤ (a1_1 : Int) := od_; have q220 : a1_1 < (l0_0.length : Int) := od_; obtain ⟨ad220, e220, hx220_0⟩ := Kd.at_int HR0_0.out a1_1 p220 q220; cases e220; replace hx220_0 := hx_ HB hx220_0; replace p220 := eq_true p220; replace q220 := eq_true q220))
   go_ret
   exact ⟨rs_, hb_ HB⟩
  rw [if_neg c6] at H
  have c6b0 : (a1_0 == 1) = false := beq_eq_false_iff_ne.mpr c6
  have c6b1 : (a1_0 != 1) = true := bne_iff_ne.mpr c6
  obtain rfl := Option.some.inj H
  go_enter Try.func74, Try.ntmps74
  go_wp2_with (first | ((with_reducible refine gate_dst (N := 3) rfl ?_); refine Y5_ ?_; clear HB; intro gb217 w17 BK217 GW217 HB) | ((with_reducible refine gate_dst (N := 4) rfl ?_); refine Y11_ ?_; clear HB BK217; intro gb218 w18 BK218 GW218 HB NB217_218 NB218_217 BK217 hnb19 hnc19 hcz20_0 hcz20_1 hfz20_0 hfz20_1 hcz21_0 hcz21_1 hcz21_2 hfz21_0 hfz21_1 hfz21_2) | ((with_reducible refine gate_callee (f := 129) rfl ?_); refine Y12_ ?_; clear BK217 BK218 HB; intro w22 BK217 BK218 HB hcz23_0 hcz23_1 hcz23_2 hfz23_0 hfz23_1 hfz23_2))
  go_ret
  exact ⟨rs_, hb_ HB⟩
 rw [if_neg c5] at H
 have c5b0 : (a2 == 1) = false := beq_eq_false_iff_ne.mpr c5
 have c5b1 : (a2 != 1) = true := bne_iff_ne.mpr c5
 by_cases c24 : a2 = 2
 ·
  rw [if_pos c24] at H
  have c24b0 : (a2 == 2) = true := beq_iff_eq.mpr c24
  have c24b1 : (a2 != 2) = false := bne_eq_false_iff_eq.mpr c24
  clear c24
  by_cases c25 : a1_0 = 1
  ·
   rw [if_pos c25] at H
   have c25b0 : (a1_0 == 1) = true := beq_iff_eq.mpr c25
   have c25b1 : (a1_0 != 1) = false := bne_eq_false_iff_eq.mpr c25
   clear c25
   obtain rfl := Option.some.inj H
   go_enter Try.func74, Try.ntmps74
   go_wp2_with (first | ((with_reducible refine gate_dst (N := 3) rfl ?_); refine Y5_ ?_; clear HB; intro gb217 w26 BK217 GW217 HB) | ((with_reducible refine gate_dst (N := 4) rfl ?_); refine Y11_ ?_; clear HB BK217; intro gb218 w27 BK218 GW218 HB NB217_218 NB218_217 BK217 hnb28 hnc28 hcz29_0 hcz29_1 hfz29_0 hfz29_1 hcz30_0 hcz30_1 hcz30_2 hfz30_0 hfz30_1 hfz30_2) | ((with_reducible refine gate_callee (f := 129) rfl ?_); refine Y12_ ?_; clear BK217 BK218 HB; intro w31 BK217 BK218 HB hcz32_0 hcz32_1 hcz32_2 hfz32_0 hfz32_1 hfz32_2))
   go_ret
   exact ⟨rs_, hb_ HB⟩
  rw [if_neg c25] at H
  have c25b0 : (a1_0 == 1) = false := beq_eq_false_iff_ne.mpr c25
  have c25b1 : (a1_0 != 1) = true := bne_iff_ne.mpr c25
  by_cases c33 : a1_0 = 2
  ·
   rw [if_pos c33] at H
   have c33b0 : (a1_0 == 2) = true := beq_iff_eq.mpr c33
   have c33b1 : (a1_0 != 2) = false := bne_eq_false_iff_eq.mpr c33
   clear c33
   obtain rfl := Option.some.inj H
   go_enter Try.func74, Try.ntmps74
   go_wp2_with (first | ((with_reducible refine gate_dst (N := 3) rfl ?_); refine Y5_ ?_; clear HB; intro gb217 w34 BK217 GW217 HB) | ((with_reducible refine gate_dst (N := 4) rfl ?_); refine Y11_ ?_; clear HB BK217; intro gb218 w35 BK218 GW218 HB NB217_218 NB218_217 BK217 hnb36 hnc36 hcz37_0 hcz37_1 hfz37_0 hfz37_1 hcz38_0 hcz38_1 hcz38_2 hfz38_0 hfz38_1 hfz38_2) | ((with_reducible refine gate_callee (f := 129) rfl ?_); refine Y12_ ?_; clear BK217 BK218 HB; intro w39 BK217 BK218 HB hcz40_0 hcz40_1 hcz40_2 hfz40_0 hfz40_1 hfz40_2))
   go_ret
   exact ⟨rs_, hb_ HB⟩
  rw [if_neg c33] at H
  have c33b0 : (a1_0 == 2) = false := beq_eq_false_iff_ne.mpr c33
  have c33b1 : (a1_0 != 2) = true := bne_iff_ne.mpr c33
  obtain rfl := Option.some.inj H
  go_enter Try.func74, Try.ntmps74
  go_wp2_with (first | ((with_reducible refine gate_dst (N := 3) rfl ?_); refine Y5_ ?_; clear HB; intro gb217 w41 BK217 GW217 HB) | ((with_reducible refine gate_dst (N := 4) rfl ?_); refine Y11_ ?_; clear HB BK217; intro gb218 w42 BK218 GW218 HB NB217_218 NB218_217 BK217 hnb43 hnc43 hcz44_0 hcz44_1 hfz44_0 hfz44_1 hcz45_0 hcz45_1 hcz45_2 hfz45_0 hfz45_1 hfz45_2) | ((with_reducible refine gate_callee (f := 129) rfl ?_); refine Y12_ ?_; clear BK217 BK218 HB; intro w46 BK217 BK218 HB hcz47_0 hcz47_1 hcz47_2 hfz47_0 hfz47_1 hfz47_2))
  go_ret
  exact ⟨rs_, hb_ HB⟩
 rw [if_neg c24] at H
 have c24b0 : (a2 == 2) = false := beq_eq_false_iff_ne.mpr c24
 have c24b1 : (a2 != 2) = true := bne_iff_ne.mpr c24
 have HC48 := A_ H
 clear H
 go_enter Try.func74, Try.ntmps74
 go_upto_region 6 with (first | ((with_reducible refine gate_dst (N := 3) rfl ?_); refine Y5_ ?_; clear HB; intro gb217 w49 BK217 GW217 HB) | ((with_reducible refine gate_dst (N := 4) rfl ?_); refine Y11_ ?_; clear HB BK217; intro gb218 w50 BK218 GW218 HB NB217_218 NB218_217 BK217 hnb51 hnc51 hcz52_0 hcz52_1 hfz52_0 hfz52_1 hcz53_0 hcz53_1 hcz53_2 hfz53_0 hfz53_1 hfz53_2) | ((with_reducible refine gate_callee (f := 129) rfl ?_); refine goesL_ (some 11) rfl rfl Try.func129 (by kernel_rfl) rfl #[.agg #[.slice A0_0 l0_0.length c0_0, .int .i64 a0_1], .int .i64 a1_2] rfl al_ ?_; (with_reducible refine (impl_KeyOf.calls k _ _ l0_0 a0_1 a1_2 t219 _ ?side1 ?side2 A4.out).mono ?_); (case side1 => exact cb_ (Kd.C_below HR0_0.out HB.out)); (case side2 => exact HC0_0.out); rintro e w54 ⟨rfl, hb⟩; refine ⟨_, rfl, ?_⟩; replace BK217 := bb_ BK217 hb; replace BK218 := bb_ BK218 hb; replace HB := hs_ HB hb; (try clear hb); (try clear hb2); (try clear hk); (try clear hi)))
 (try simp only [Act.put, List.setIfInBounds_toArray, List.set_cons_zero, List.set_cons_succ])
 go_cut [42] (fun v42 wc => ∃ (kq : Nat) (x42_47 : Bool), v42 = .bool x42_47 ∧ Aside0 (impl_refusal.j0 kq a2 t219 x42_47 l0_0 a0_1 a1_0 a1_1 a1_2 = some r) ∧ Aside0 (kq ≤ k) ∧ Aside0 (wc.heap[gb217]? = some (.cells #[(.slice A0_0 l0_0.length c0_0), .int .i64 a0_1] 44 (0, 0))) ∧ Aside0 (wc.heap[gb218]? = some (.cells #[.int .i64 a1_0, .int .i64 a1_1, .int .i64 a1_2] 47 (0, 0))) ∧ Aside0 (Below w.heap.size w wc))
 case first =>
  have H := HC48.out
  clear HC48
  by_cases c55 : a2 = 3
  ·
   rw [if_pos c55] at H
   have c55b0 : (a2 == 3) = true := beq_iff_eq.mpr c55
   have c55b1 : (a2 != 3) = false := bne_eq_false_iff_eq.mpr c55
   clear c55
   (first | rw [c55b0] | (simp only [i64_w, i32_w]; rw [c55b0]) | skip)
   by_cases c56 : a1_0 = 2
   ·
    rw [if_pos c56] at H
    have c56b0 : (a1_0 == 2) = true := beq_iff_eq.mpr c56
    have c56b1 : (a1_0 != 2) = false := bne_eq_false_iff_eq.mpr c56
    clear c56
    replace H' := A_ H; clear H
    have hnb57 := NB218_217.out
    have hnc57 := NB217_218.out
    obtain ⟨hcz58_0, hcz58_1, hcz58_2, hfz58_0, hfz58_1, hfz58_2⟩ := cz3_ BK218
    go_wp2
    go_meet
    case rel => exact ⟨_, (true), rt_, H', ⟨by first | omega | exact Nat.le_refl _⟩, ⟨bk_ BK217⟩, ⟨bk_ BK218⟩, ⟨hb_ HB⟩⟩
   rw [if_neg c56] at H
   have c56b0 : (a1_0 == 2) = false := beq_eq_false_iff_ne.mpr c56
   have c56b1 : (a1_0 != 2) = true := bne_iff_ne.mpr c56
   by_cases c59 : a1_0 = 3
   ·
    rw [if_pos c59] at H
    have c59b0 : (a1_0 == 3) = true := beq_iff_eq.mpr c59
    have c59b1 : (a1_0 != 3) = false := bne_eq_false_iff_eq.mpr c59
    clear c59
    replace H' := A_ H; clear H
    have hnb60 := NB218_217.out
    have hnc60 := NB217_218.out
    obtain ⟨hcz61_0, hcz61_1, hcz61_2, hfz61_0, hfz61_1, hfz61_2⟩ := cz3_ BK218
    go_wp2
    go_meet
    case rel => exact ⟨_, (true), rt_, H', ⟨by first | omega | exact Nat.le_refl _⟩, ⟨bk_ BK217⟩, ⟨bk_ BK218⟩, ⟨hb_ HB⟩⟩
   rw [if_neg c59] at H
   have c59b0 : (a1_0 == 3) = false := beq_eq_false_iff_ne.mpr c59
   have c59b1 : (a1_0 != 3) = true := bne_iff_ne.mpr c59
   replace H' := A_ H; clear H
   have hnb62 := NB218_217.out
   have hnc62 := NB217_218.out
   obtain ⟨hcz63_0, hcz63_1, hcz63_2, hfz63_0, hfz63_1, hfz63_2⟩ := cz3_ BK218
   go_wp2
   go_meet
   case rel => exact ⟨_, ((a1_0 == 4)), rt_, H', ⟨by first | omega | exact Nat.le_refl _⟩, ⟨bk_ BK217⟩, ⟨bk_ BK218⟩, ⟨hb_ HB⟩⟩
  rw [if_neg c55] at H
  have c55b0 : (a2 == 3) = false := beq_eq_false_iff_ne.mpr c55
  have c55b1 : (a2 != 3) = true := bne_iff_ne.mpr c55
  (first | rw [c55b0] | (simp only [i64_w, i32_w]; rw [c55b0]) | skip)
  replace H' := A_ H; clear H
  go_wp2
  go_meet
  case rel => exact ⟨_, (false), rt_, H', ⟨by first | omega | exact Nat.le_refl _⟩, ⟨bk_ BK217⟩, ⟨bk_ BK218⟩, ⟨hb_ HB⟩⟩
 case rest =>
  clear HC48
  try clear c5
  try clear c5b0
  try clear c5b1
  try clear c6
  try clear c6b0
  try clear c6b1
  try clear c7b0
  try clear c8b0
  try clear c24
  try clear c24b0
  try clear c24b1
  try clear c25
  try clear c25b0
  try clear c25b1
  try clear c33
  try clear c33b0
  try clear c33b1
  try clear c55
  try clear c55b0
  try clear c55b1
  try clear c56
  try clear c56b0
  try clear c56b1
  try clear c59
  try clear c59b0
  try clear c59b1
  try clear hx220_0
  try clear p220
  try clear q220
  obtain ⟨kq, x42_47, rfl, HA, HJ47, BK217, BK218, HB⟩ := hcut
  cases kq with
  | zero => exact absurd HA.out (by simp [impl_refusal.j0])
  | succ kj47 =>
   have H := HA.out
   clear HA
   simp only [impl_refusal.j0] at H
   by_cases c64 : x42_47 = true
   ·
    subst c64
    replace H := it_ H
    replace H := ix_ H
    obtain ⟨c65b0, H⟩ := H
    replace H := ix_ H
    obtain ⟨c66b0, H⟩ := H
    obtain rfl := Option.some.inj H
    have hnb67 := NB217_218.out
    have hnc67 := NB218_217.out
    obtain ⟨hcz68_0, hcz68_1, hfz68_0, hfz68_1⟩ := cz2_ BK217
    obtain ⟨hcz69_0, hcz69_1, hcz69_2, hfz69_0, hfz69_1, hfz69_2⟩ := cz3_ BK218
    obtain ⟨ad221, p221, q221, rfl, hx221_0⟩ := ab_int HB HR0_0 a1_1
    go_wp2
    go_ret
    exact ⟨rs_, hb_ HB⟩
   obtain rfl := Bool.eq_false_iff.mpr c64
   replace H := iF_ H
   by_cases c70 : a2 = 3
   ·
    rw [if_pos c70] at H
    have c70b0 : (a2 == 3) = true := beq_iff_eq.mpr c70
    have c70b1 : (a2 != 3) = false := bne_eq_false_iff_eq.mpr c70
    clear c70
    replace H := ic_ H
    rcases H with ⟨c71b0, H⟩ | ⟨c71b0, H⟩
    ·
     by_cases c72 : a1_0 = 5
     ·
      rw [if_pos c72] at H
      have c72b0 : (a1_0 == 5) = true := beq_iff_eq.mpr c72
      have c72b1 : (a1_0 != 5) = false := bne_eq_false_iff_eq.mpr c72
      clear c72
      obtain rfl := Option.some.inj H
      have hnb73 := NB218_217.out
      have hnc73 := NB217_218.out
      obtain ⟨hcz74_0, hcz74_1, hcz74_2, hfz74_0, hfz74_1, hfz74_2⟩ := cz3_ BK218
      go_wp2
      go_ret
      exact ⟨rs_, hb_ HB⟩
     rw [if_neg c72] at H
     have c72b0 : (a1_0 == 5) = false := beq_eq_false_iff_ne.mpr c72
     have c72b1 : (a1_0 != 5) = true := bne_iff_ne.mpr c72
     by_cases c75 : a1_0 = 10
     ·
      rw [if_pos c75] at H
      have c75b0 : (a1_0 == 10) = true := beq_iff_eq.mpr c75
      have c75b1 : (a1_0 != 10) = false := bne_eq_false_iff_eq.mpr c75
      clear c75
      replace H := bs_ H
      obtain ⟨t222, A76, H⟩ := H
      obtain rfl := Option.some.inj H
      have hnb77 := NB218_217.out
      have hnc77 := NB217_218.out
      obtain ⟨hcz78_0, hcz78_1, hcz78_2, hfz78_0, hfz78_1, hfz78_2⟩ := cz3_ BK218
      obtain ⟨hcz79_0, hcz79_1, hfz79_0, hfz79_1⟩ := cz2_ BK217
      go_wp2_with (first | (go_at_call 130; (with_reducible refine (impl_made.calls _ _ l0_0 a0_1 t222 _ ?side1 ?side2 A76.out).mono ?_); (case side1 => exact cb_ (Kd.C_below HR0_0.out HB.out)); (case side2 => exact HC0_0.out); rintro e w80 ⟨rfl, hb⟩; replace BK217 := bb_ BK217 hb; replace BK218 := bb_ BK218 hb; replace HB := hs_ HB hb; (try clear hb); (try clear hb2); (try clear hk); (try clear hi)))
      go_ret
      exact ⟨rs_, hb_ HB⟩
     rw [if_neg c75] at H
     have c75b0 : (a1_0 == 10) = false := beq_eq_false_iff_ne.mpr c75
     have c75b1 : (a1_0 != 10) = true := bne_iff_ne.mpr c75
     obtain rfl := Option.some.inj H
     have hnb81 := NB218_217.out
     have hnc81 := NB217_218.out
     obtain ⟨hcz82_0, hcz82_1, hcz82_2, hfz82_0, hfz82_1, hfz82_2⟩ := cz3_ BK218
     go_wp2
     go_ret
     exact ⟨rs_, hb_ HB⟩
    obtain rfl := Option.some.inj H
    go_wp2
    go_ret
    exact ⟨rs_, hb_ HB⟩
   rw [if_neg c70] at H
   have c70b0 : (a2 == 3) = false := beq_eq_false_iff_ne.mpr c70
   have c70b1 : (a2 != 3) = true := bne_iff_ne.mpr c70
   have HC83 := A_ H
   clear H
   go_upto_region 10 with (fail)
   go_cut [86] (fun v86 wc => ∃ (kq : Nat) (x86_82 : Bool), v86 = .bool x86_82 ∧ Aside0 (impl_refusal.j1 kq a2 x86_82 l0_0 a0_1 a1_0 a1_1 a1_2 = some r) ∧ Aside0 (kq ≤ kj47) ∧ Aside0 (wc.heap[gb217]? = some (.cells #[(.slice A0_0 l0_0.length c0_0), .int .i64 a0_1] 44 (0, 0))) ∧ Aside0 (wc.heap[gb218]? = some (.cells #[.int .i64 a1_0, .int .i64 a1_1, .int .i64 a1_2] 47 (0, 0))) ∧ Aside0 (Below w.heap.size w wc))
   case first =>
    have H := HC83.out
    clear HC83
    by_cases c84 : a2 = 4
    ·
     rw [if_pos c84] at H
     have c84b0 : (a2 == 4) = true := beq_iff_eq.mpr c84
     have c84b1 : (a2 != 4) = false := bne_eq_false_iff_eq.mpr c84
     clear c84
     (first | rw [c84b0] | (simp only [i64_w, i32_w]; rw [c84b0]) | skip)
     replace H' := A_ H; clear H
     have hnb85 := NB218_217.out
     have hnc85 := NB217_218.out
     obtain ⟨hcz86_0, hcz86_1, hcz86_2, hfz86_0, hfz86_1, hfz86_2⟩ := cz3_ BK218
     go_wp2
     go_meet
     case rel => exact ⟨_, ((a1_0 == 8)), rt_, H', ⟨by have := HJ47.out; first | omega | exact Nat.le_refl _⟩, ⟨bk_ BK217⟩, ⟨bk_ BK218⟩, ⟨hb_ HB⟩⟩
    rw [if_neg c84] at H
    have c84b0 : (a2 == 4) = false := beq_eq_false_iff_ne.mpr c84
    have c84b1 : (a2 != 4) = true := bne_iff_ne.mpr c84
    (first | rw [c84b0] | (simp only [i64_w, i32_w]; rw [c84b0]) | skip)
    replace H' := A_ H; clear H
    go_wp2
    go_meet
    case rel => exact ⟨_, (false), rt_, H', ⟨by have := HJ47.out; first | omega | exact Nat.le_refl _⟩, ⟨bk_ BK217⟩, ⟨bk_ BK218⟩, ⟨hb_ HB⟩⟩
   case rest =>
    clear HC83
    try clear c5
    try clear c5b0
    try clear c5b1
    try clear c6
    try clear c6b0
    try clear c6b1
    try clear c7b0
    try clear c8b0
    try clear c24
    try clear c24b0
    try clear c24b1
    try clear c25
    try clear c25b0
    try clear c25b1
    try clear c33
    try clear c33b0
    try clear c33b1
    try clear c55
    try clear c55b0
    try clear c55b1
    try clear c56
    try clear c56b0
    try clear c56b1
    try clear c59
    try clear c59b0
    try clear c59b1
    try clear c64
    try clear c65b0
    try clear c66b0
    try clear c70
    try clear c70b0
    try clear c70b1
    try clear c71b0
    try clear c72
    try clear c72b0
    try clear c72b1
    try clear c75
    try clear c75b0
    try clear c75b1
    try clear c84
    try clear c84b0
    try clear c84b1
    try clear hx220_0
    try clear hx221_0
    try clear p220
    try clear p221
    try clear q220
    try clear q221
    obtain ⟨kq, x86_82, rfl, HA, HJ82, BK217, BK218, HB⟩ := hcut
    cases kq with
    | zero => exact absurd HA.out (by simp [impl_refusal.j1])
    | succ kj82 =>
     have H := HA.out
     clear HA
     simp only [impl_refusal.j1] at H
     by_cases c87 : x86_82 = true
     ·
      subst c87
      replace H := it_ H
      obtain rfl := Option.some.inj H
      have hnb88 := NB217_218.out
      have hnc88 := NB218_217.out
      obtain ⟨hcz89_0, hcz89_1, hfz89_0, hfz89_1⟩ := cz2_ BK217
      go_wp2
      go_ret
      exact ⟨rs_, hb_ HB⟩
     obtain rfl := Bool.eq_false_iff.mpr c87
     replace H := iF_ H
     have HC90 := A_ H
     clear H
     go_upto_region 12 with (fail)
     go_cut [97] (fun v97 wc => ∃ (kq : Nat) (x97_89 : Bool), v97 = .bool x97_89 ∧ Aside0 (impl_refusal.j2 kq a2 x97_89 l0_0 a0_1 a1_0 a1_1 a1_2 = some r) ∧ Aside0 (kq ≤ kj82) ∧ Aside0 (wc.heap[gb217]? = some (.cells #[(.slice A0_0 l0_0.length c0_0), .int .i64 a0_1] 44 (0, 0))) ∧ Aside0 (wc.heap[gb218]? = some (.cells #[.int .i64 a1_0, .int .i64 a1_1, .int .i64 a1_2] 47 (0, 0))) ∧ Aside0 (Below w.heap.size w wc))
     case first =>
      have H := HC90.out
      clear HC90
      by_cases c91 : a2 = 4
      ·
       rw [if_pos c91] at H
       have c91b0 : (a2 == 4) = true := beq_iff_eq.mpr c91
       have c91b1 : (a2 != 4) = false := bne_eq_false_iff_eq.mpr c91
       clear c91
       (first | rw [c91b0] | (simp only [i64_w, i32_w]; rw [c91b0]) | skip)
       replace H' := A_ H; clear H
       have hnb92 := NB218_217.out
       have hnc92 := NB217_218.out
       obtain ⟨hcz93_0, hcz93_1, hcz93_2, hfz93_0, hfz93_1, hfz93_2⟩ := cz3_ BK218
       go_wp2
       go_meet
       case rel => exact ⟨_, ((a1_0 == 9)), rt_, H', ⟨by have := HJ47.out; have := HJ82.out; first | omega | exact Nat.le_refl _⟩, ⟨bk_ BK217⟩, ⟨bk_ BK218⟩, ⟨hb_ HB⟩⟩
      rw [if_neg c91] at H
      have c91b0 : (a2 == 4) = false := beq_eq_false_iff_ne.mpr c91
      have c91b1 : (a2 != 4) = true := bne_iff_ne.mpr c91
      (first | rw [c91b0] | (simp only [i64_w, i32_w]; rw [c91b0]) | skip)
      replace H' := A_ H; clear H
      go_wp2
      go_meet
      case rel => exact ⟨_, (false), rt_, H', ⟨by have := HJ47.out; have := HJ82.out; first | omega | exact Nat.le_refl _⟩, ⟨bk_ BK217⟩, ⟨bk_ BK218⟩, ⟨hb_ HB⟩⟩
     case rest =>
      clear HC90
      try clear c5
      try clear c5b0
      try clear c5b1
      try clear c6
      try clear c6b0
      try clear c6b1
      try clear c7b0
      try clear c8b0
      try clear c24
      try clear c24b0
      try clear c24b1
      try clear c25
      try clear c25b0
      try clear c25b1
      try clear c33
      try clear c33b0
      try clear c33b1
      try clear c55
      try clear c55b0
      try clear c55b1
      try clear c56
      try clear c56b0
      try clear c56b1
      try clear c59
      try clear c59b0
      try clear c59b1
      try clear c64
      try clear c65b0
      try clear c66b0
      try clear c70
      try clear c70b0
      try clear c70b1
      try clear c71b0
      try clear c72
      try clear c72b0
      try clear c72b1
      try clear c75
      try clear c75b0
      try clear c75b1
      try clear c84
      try clear c84b0
      try clear c84b1
      try clear c87
      try clear c91
      try clear c91b0
      try clear c91b1
      try clear hx220_0
      try clear hx221_0
      try clear p220
      try clear p221
      try clear q220
      try clear q221
      obtain ⟨kq, x97_89, rfl, HA, HJ89, BK217, BK218, HB⟩ := hcut
      cases kq with
      | zero => exact absurd HA.out (by simp [impl_refusal.j2])
      | succ kj89 =>
       have H := HA.out
       clear HA
       simp only [impl_refusal.j2] at H
       by_cases c94 : x97_89 = true
       ·
        subst c94
        replace H := it_ H
        by_cases c95 : a0_1 = 0
        ·
         rw [if_pos c95] at H
         have c95b0 : (a0_1 == 0) = true := beq_iff_eq.mpr c95
         have c95b1 : (a0_1 != 0) = false := bne_eq_false_iff_eq.mpr c95
         clear c95
         obtain rfl := Option.some.inj H
         have hnb96 := NB217_218.out
         have hnc96 := NB218_217.out
         obtain ⟨hcz97_0, hcz97_1, hfz97_0, hfz97_1⟩ := cz2_ BK217
         go_wp2
         go_ret
         exact ⟨rs_, hb_ HB⟩
        rw [if_neg c95] at H
        have c95b0 : (a0_1 == 0) = false := beq_eq_false_iff_ne.mpr c95
        have c95b1 : (a0_1 != 0) = true := bne_iff_ne.mpr c95
        replace H := bs_ H
        obtain ⟨t223, A98, H⟩ := H
        obtain rfl := Option.some.inj H
        have hnb99 := NB217_218.out
        have hnc99 := NB218_217.out
        obtain ⟨hcz100_0, hcz100_1, hfz100_0, hfz100_1⟩ := cz2_ BK217
        go_wp2_with (first | (go_at_call 130; (with_reducible refine (impl_made.calls _ _ l0_0 a0_1 t223 _ ?side1 ?side2 A98.out).mono ?_); (case side1 => exact cb_ (Kd.C_below HR0_0.out HB.out)); (case side2 => exact HC0_0.out); rintro e w101 ⟨rfl, hb⟩; replace BK217 := bb_ BK217 hb; replace BK218 := bb_ BK218 hb; replace HB := hs_ HB hb; (try clear hb); (try clear hb2); (try clear hk); (try clear hi)))
        go_ret
        exact ⟨rs_, hb_ HB⟩
       obtain rfl := Bool.eq_false_iff.mpr c94
       replace H := iF_ H
       by_cases c102 : a2 = 4
       ·
        rw [if_pos c102] at H
        have c102b0 : (a2 == 4) = true := beq_iff_eq.mpr c102
        have c102b1 : (a2 != 4) = false := bne_eq_false_iff_eq.mpr c102
        clear c102
        by_cases c103 : a1_0 = 10
        ·
         rw [if_pos c103] at H
         have c103b0 : (a1_0 == 10) = true := beq_iff_eq.mpr c103
         have c103b1 : (a1_0 != 10) = false := bne_eq_false_iff_eq.mpr c103
         clear c103
         replace H := bs_ H
         obtain ⟨t224, A104, H⟩ := H
         obtain rfl := Option.some.inj H
         have hnb105 := NB218_217.out
         have hnc105 := NB217_218.out
         obtain ⟨hcz106_0, hcz106_1, hcz106_2, hfz106_0, hfz106_1, hfz106_2⟩ := cz3_ BK218
         obtain ⟨hcz107_0, hcz107_1, hfz107_0, hfz107_1⟩ := cz2_ BK217
         go_wp2_with (first | ((with_reducible refine gate_callee (f := 130) rfl ?_); refine goesL_ (some 121) rfl rfl Try.func130 (by kernel_rfl) rfl #[.agg #[.slice A0_0 l0_0.length c0_0, .int .i64 a0_1]] rfl al_ ?_; (with_reducible refine (impl_made.calls _ _ l0_0 a0_1 t224 _ ?side1 ?side2 A104.out).mono ?_); (case side1 => exact cb_ (Kd.C_below HR0_0.out HB.out)); (case side2 => exact HC0_0.out); rintro e w108 ⟨rfl, hb⟩; refine ⟨_, rfl, ?_⟩; replace BK217 := bb_ BK217 hb; replace BK218 := bb_ BK218 hb; replace HB := hs_ HB hb; (try clear hb); (try clear hb2); (try clear hk); (try clear hi)))
         go_ret
         exact ⟨rs_, hb_ HB⟩
        rw [if_neg c103] at H
        have c103b0 : (a1_0 == 10) = false := beq_eq_false_iff_ne.mpr c103
        have c103b1 : (a1_0 != 10) = true := bne_iff_ne.mpr c103
        obtain rfl := Option.some.inj H
        have hnb109 := NB218_217.out
        have hnc109 := NB217_218.out
        obtain ⟨hcz110_0, hcz110_1, hcz110_2, hfz110_0, hfz110_1, hfz110_2⟩ := cz3_ BK218
        go_wp2
        go_ret
        exact ⟨rs_, hb_ HB⟩
       rw [if_neg c102] at H
       have c102b0 : (a2 == 4) = false := beq_eq_false_iff_ne.mpr c102
       have c102b1 : (a2 != 4) = true := bne_iff_ne.mpr c102
       obtain rfl := Option.some.inj H
       go_wp2
       go_ret
       exact ⟨rs_, hb_ HB⟩

end Go.Proofs.Ytmkhghbalnadlaa.PFnAllowed
