/- Contracts of functions of the program: each says that the call does what a plain Lean function tells. Made by programs of this session and of the kit. No condition beyond the hypotheses that each theorem names. -/
import Derived.Test.YtmkhghbalnadlaaPFnAllowedx0
import Derived.Test.YtmkhghbalnadlaaPFnAllowedx1
import Derived.Test.YtmkhghbalnadlaaPFnAllowedx5
import Derived.Test.YtmkhghbalnadlaaPFnAllowedx6
import Derived.Test.YtmkhghbalnadlaaPFnAllowedx7
import Derived.Test.YtmkhghbalnadlaaPFnAllowedx8
import Derived.Test.YtmkhghbalnadlaaPFnAllowedx12
import Derived.Test.YtmkhghbalnadlaaPFnAllowedx13
import Derived.Test.YtmkhghbalnadlaaPFnAllowedx16
import Derived.Test.YtmkhghbalnadlaaPFnAllowedx17
import Derived.Test.YtmkhghbalnadlaaPFnAllowedx18
namespace Go.Proofs.Ytmkhghbalnadlaa.PFnAllowed
open Go.RowKit Go.Proofs.YtmkhghbalnadlaaW.PrintWords Go.Proofs.YtmkhghbalnadlaaW.PrintLast Go.Proofs.YtmkhghbalnadlaaW.PrintMore
attribute [local go_sem] max2_int min2_int max_two min_two max_three min_three max_four min_four   -- for this text's walks alone
set_option linter.unusedVariables false
set_option linter.unusedSimpArgs false

/-! ### laws_FnAllowed: function 5 -/
mutual
def laws_FnAllowed.j0 : Nat → Bool → Bool → List Int → Int → Int → List Int → List Int → Int → Option (Bool)
 | 0, _, _, _, _, _, _, _, _ => none
 | k + 1, x6, x75, x530000, x530001, x532000, x532001, x538000, x538001 => if x75 = true then (none) else (if x6 = true then (laws_FnAllowed.j1 k (x532000 != 0) x530000 x530001 x538000 x538001) else (laws_FnAllowed.j1 k true x530000 x530001 x538000 x538001))
def laws_FnAllowed.j1 : Nat → Bool → List Int → Int → List Int → Int → Option (Bool)
 | 0, _, _, _, _, _ => none
 | k + 1, x82, x530000, x530001, x538000, x538001 => if x82 = true then ((laws_sameInts.f k x538000 x530000).bind fun t563 => (if t563 = true then (some (x538001 == x530001)) else (some false))) else ((impl_RowsOk.f k x538000 x538001).bind fun t564 => (some t564))
end
def laws_FnAllowed.f (k : Nat) (l0 : List Int) : Option (Bool) := (laws_big.f l0).bind fun t517 => (if t517 = true then (some true) else ((spec_DrawAllowed.f k l0).bind fun bt518 => ((impl_Allowed.f k bt518.1 bt518.2.1 bt518.2.2.1 bt518.2.2.2.1 bt518.2.2.2.2.1 bt518.2.2.2.2.2.1 bt518.2.2.2.2.2.2).bind fun t532 => ((impl_After.f k bt518.1 bt518.2.1 bt518.2.2.1 bt518.2.2.2.1 bt518.2.2.2.2.1 bt518.2.2.2.2.2.1 bt518.2.2.2.2.2.2).bind fun bt533 => ((spec_After.f k bt518.1 bt518.2.1 bt518.2.2.1 bt518.2.2.2.1 bt518.2.2.2.2.1 bt518.2.2.2.2.2.1 bt518.2.2.2.2.2.2).bind fun bt538 => ((spec_DrawResSame.f k l0).bind fun bt543 => ((spec_DrawOpOk.f k l0).bind fun bt553 => ((spec_Allowed.f k bt518.1 bt518.2.1 bt518.2.2.1 bt518.2.2.2.1 bt518.2.2.2.2.1 bt518.2.2.2.2.2.1 bt518.2.2.2.2.2.2).bind fun t557 => (if (t532 != t557) = true then (laws_FnAllowed.j0 k t532 true bt518.1 bt518.2.1 bt518.2.2.2.2.2.1 bt518.2.2.2.2.2.2 bt533.1 bt533.2) else ((laws_sameInts.f k bt533.1 bt538.1).bind fun t558 => (if t558 = true then (if bt533.2 = bt538.2 then ((impl_ResSame.f k bt543.1 bt543.2.1 bt543.2.2.1 bt543.2.2.2).bind fun t559 => ((spec_ResSame.f k bt543.1 bt543.2.1 bt543.2.2.1 bt543.2.2.2).bind fun t560 => (if (t559 != t560) = true then (laws_FnAllowed.j0 k t532 true bt518.1 bt518.2.1 bt518.2.2.2.2.2.1 bt518.2.2.2.2.2.2 bt533.1 bt533.2) else ((impl_OpOk.f k bt553.1 bt553.2.1 bt553.2.2).bind fun t561 => ((spec_OpOk.f k bt553.1 bt553.2.1 bt553.2.2).bind fun t562 => (laws_FnAllowed.j0 k t532 (t561 != t562) bt518.1 bt518.2.1 bt518.2.2.2.2.2.1 bt518.2.2.2.2.2.2 bt533.1 bt533.2)))))) else (laws_FnAllowed.j0 k t532 true bt518.1 bt518.2.1 bt518.2.2.2.2.2.1 bt518.2.2.2.2.2.2 bt533.1 bt533.2)) else (laws_FnAllowed.j0 k t532 true bt518.1 bt518.2.1 bt518.2.2.2.2.2.1 bt518.2.2.2.2.2.2 bt533.1 bt533.2))))))))))))
theorem laws_FnAllowed.mono_l : ∀ k, (∀ y0 y1 y2 y3 y4 y5 y6 y7, LeO (laws_FnAllowed.j0 k y0 y1 y2 y3 y4 y5 y6 y7) (laws_FnAllowed.j0 (k + 1) y0 y1 y2 y3 y4 y5 y6 y7)) ∧ (∀ y0 y1 y2 y3 y4, LeO (laws_FnAllowed.j1 k y0 y1 y2 y3 y4) (laws_FnAllowed.j1 (k + 1) y0 y1 y2 y3 y4))
 | 0 => ⟨fun _ _ _ _ _ _ _ _ r h => by simp [laws_FnAllowed.j0] at h, fun _ _ _ _ _ r h => by simp [laws_FnAllowed.j1] at h⟩
 | k + 1 => by
  obtain ⟨ih0, ih1⟩ := laws_FnAllowed.mono_l k
  refine ⟨?_, ?_⟩
  ·
   intro y0 y1 y2 y3 y4 y5 y6 y7
   unfold laws_FnAllowed.j0
   repeat' first | (with_reducible first | apply ih0 | apply ih1 | apply impl_After.mono | apply impl_Allowed.mono | apply impl_OpOk.mono | apply impl_ResSame.mono | apply impl_RowsOk.mono | apply laws_sameInts.mono | apply spec_After.mono | apply spec_Allowed.mono | apply spec_DrawAllowed.mono | apply spec_DrawOpOk.mono | apply spec_DrawResSame.mono | apply spec_OpOk.mono | apply spec_ResSame.mono | apply LeO.refl | apply LeO.none | apply LeO.ite | refine LeO.bind ?_ (fun _ => ?_)) | apply ih0 | apply ih1 | apply impl_After.mono | apply impl_Allowed.mono | apply impl_OpOk.mono | apply impl_ResSame.mono | apply impl_RowsOk.mono | apply laws_sameInts.mono | apply spec_After.mono | apply spec_Allowed.mono | apply spec_DrawAllowed.mono | apply spec_DrawOpOk.mono | apply spec_DrawResSame.mono | apply spec_OpOk.mono | apply spec_ResSame.mono | apply LeO.none | apply LeO.ite | refine LeO.bind ?_ (fun _ => ?_)
  intro y0 y1 y2 y3 y4
  unfold laws_FnAllowed.j1
  repeat' first | (with_reducible first | apply ih0 | apply ih1 | apply impl_After.mono | apply impl_Allowed.mono | apply impl_OpOk.mono | apply impl_ResSame.mono | apply impl_RowsOk.mono | apply laws_sameInts.mono | apply spec_After.mono | apply spec_Allowed.mono | apply spec_DrawAllowed.mono | apply spec_DrawOpOk.mono | apply spec_DrawResSame.mono | apply spec_OpOk.mono | apply spec_ResSame.mono | apply LeO.refl | apply LeO.none | apply LeO.ite | refine LeO.bind ?_ (fun _ => ?_)) | apply ih0 | apply ih1 | apply impl_After.mono | apply impl_Allowed.mono | apply impl_OpOk.mono | apply impl_ResSame.mono | apply impl_RowsOk.mono | apply laws_sameInts.mono | apply spec_After.mono | apply spec_Allowed.mono | apply spec_DrawAllowed.mono | apply spec_DrawOpOk.mono | apply spec_DrawResSame.mono | apply spec_OpOk.mono | apply spec_ResSame.mono | apply LeO.none | apply LeO.ite | refine LeO.bind ?_ (fun _ => ?_)
theorem laws_FnAllowed.mono : ∀ a0 k, LeO (laws_FnAllowed.f k a0) (laws_FnAllowed.f (k + 1) a0) := by
 intro a0 k
 obtain ⟨ih0, ih1⟩ := laws_FnAllowed.mono_l k
 unfold laws_FnAllowed.f
 repeat' first | (with_reducible first | apply ih0 | apply ih1 | apply impl_After.mono | apply impl_Allowed.mono | apply impl_OpOk.mono | apply impl_ResSame.mono | apply impl_RowsOk.mono | apply laws_sameInts.mono | apply spec_After.mono | apply spec_Allowed.mono | apply spec_DrawAllowed.mono | apply spec_DrawOpOk.mono | apply spec_DrawResSame.mono | apply spec_OpOk.mono | apply spec_ResSame.mono | apply LeO.refl | apply LeO.none | apply LeO.ite | refine LeO.bind ?_ (fun _ => ?_)) | apply ih0 | apply ih1 | apply impl_After.mono | apply impl_Allowed.mono | apply impl_OpOk.mono | apply impl_ResSame.mono | apply impl_RowsOk.mono | apply laws_sameInts.mono | apply spec_After.mono | apply spec_Allowed.mono | apply spec_DrawAllowed.mono | apply spec_DrawOpOk.mono | apply spec_DrawResSame.mono | apply spec_OpOk.mono | apply spec_ResSame.mono | apply LeO.none | apply LeO.ite | refine LeO.bind ?_ (fun _ => ?_)
def laws_FnAllowed.T9 : Bool × List (List Nat × List Nat) := (true, [([], []), ([], []), ([], []), ([], []), ([1, 2, 3], [1, 2, 3]), ([0, 4], [0, 4]), ([5, 4], [5]), ([6], [6]), ([7, 6], [6, 7]), ([6], [6]), ([9, 6], [6, 9]), ([8, 10, 6, 6], [6, 8, 10]), ([11, 6], [6, 11]), ([6, 12], [6, 12]), ([13, 11], [13]), ([14], [14]), ([15, 14], [14, 15]), ([14], [14]), ([17, 14], [14, 17]), ([16, 18, 14], [14, 16, 18]), ([14, 19], [14, 19]), ([20, 14], [20]), ([21], [21]), ([21], [21]), ([22, 23, 21, 21], [21, 22, 23]), ([21], [21]), ([21], [21]), ([25, 26, 24, 21], [21, 25, 26]), ([24, 27, 21], [21, 24, 27]), ([21, 28], [21, 28]), ([29, 27], [29]), ([30], [30]), ([31, 30, 30], [30, 31]), ([30], [30]), ([33, 32, 30], [30, 33]), ([32, 34, 30], [30, 32, 34]), ([30, 35], [30, 35])])
def laws_FnAllowed.B9 : List Nat := [0, 0, 0, 0, 14, 31, 63, 127, 255, 127, 639, 2047, 4095, 8191, 16383, 32767, 65535, 32767, 163839, 524287, 1048575, 2097151, 4194303, 4194303, 16777215, 4194303, 4194303, 134217727, 268435455, 536870911, 1073741823, 2147483647, 4294967295, 2147483647, 17179869183, 34359738367, 68719476735]
theorem laws_FnAllowed.tab9 : rtab .any (opsOf Try.f5 9) = laws_FnAllowed.T9 := by kernel_rfl
theorem laws_FnAllowed.bits9 : waitsOk laws_FnAllowed.T9.2 laws_FnAllowed.B9 = true := by kernel_rfl
set_option maxHeartbeats 8000000 in
set_option maxRecDepth 100000 in
theorem laws_FnAllowed.calls (k : Nat) (A0 : Option Addr) (c0 : Nat) (l0 : List Int) (r : Bool) (w : World) (hr0 : Kd.C (Kd.int .u8) w A0 l0.length l0) (hc0 : l0.length ≤ c0) (h : laws_FnAllowed.f k l0 = some r) :
    Calls Try.prog 5 #[.slice A0 l0.length c0] w fun e w' => e = .returned (.bool r) ∧ Below w.heap.size w w' := by
 have hu44 := Try.underlying44
 have hu47 := Try.underlying47
 have hu49 := Try.underlying49
 have HR0 := A_ hr0
 have HC0 := A_ hc0
 clear hr0 hc0
 have HB := A_ (Below.refl w.heap.size w)
 have H : ((laws_big.f l0).bind fun t517 => (if t517 = true then (some true) else ((spec_DrawAllowed.f k l0).bind fun bt518 => ((impl_Allowed.f k bt518.1 bt518.2.1 bt518.2.2.1 bt518.2.2.2.1 bt518.2.2.2.2.1 bt518.2.2.2.2.2.1 bt518.2.2.2.2.2.2).bind fun t532 => ((impl_After.f k bt518.1 bt518.2.1 bt518.2.2.1 bt518.2.2.2.1 bt518.2.2.2.2.1 bt518.2.2.2.2.2.1 bt518.2.2.2.2.2.2).bind fun bt533 => ((spec_After.f k bt518.1 bt518.2.1 bt518.2.2.1 bt518.2.2.2.1 bt518.2.2.2.2.1 bt518.2.2.2.2.2.1 bt518.2.2.2.2.2.2).bind fun bt538 => ((spec_DrawResSame.f k l0).bind fun bt543 => ((spec_DrawOpOk.f k l0).bind fun bt553 => ((spec_Allowed.f k bt518.1 bt518.2.1 bt518.2.2.1 bt518.2.2.2.1 bt518.2.2.2.2.1 bt518.2.2.2.2.2.1 bt518.2.2.2.2.2.2).bind fun t557 => (if (t532 != t557) = true then (laws_FnAllowed.j0 k t532 true bt518.1 bt518.2.1 bt518.2.2.2.2.2.1 bt518.2.2.2.2.2.2 bt533.1 bt533.2) else ((laws_sameInts.f k bt533.1 bt538.1).bind fun t558 => (if t558 = true then (if bt533.2 = bt538.2 then ((impl_ResSame.f k bt543.1 bt543.2.1 bt543.2.2.1 bt543.2.2.2).bind fun t559 => ((spec_ResSame.f k bt543.1 bt543.2.1 bt543.2.2.1 bt543.2.2.2).bind fun t560 => (if (t559 != t560) = true then (laws_FnAllowed.j0 k t532 true bt518.1 bt518.2.1 bt518.2.2.2.2.2.1 bt518.2.2.2.2.2.2 bt533.1 bt533.2) else ((impl_OpOk.f k bt553.1 bt553.2.1 bt553.2.2).bind fun t561 => ((spec_OpOk.f k bt553.1 bt553.2.1 bt553.2.2).bind fun t562 => (laws_FnAllowed.j0 k t532 (t561 != t562) bt518.1 bt518.2.1 bt518.2.2.2.2.2.1 bt518.2.2.2.2.2.2 bt533.1 bt533.2)))))) else (laws_FnAllowed.j0 k t532 true bt518.1 bt518.2.1 bt518.2.2.2.2.2.1 bt518.2.2.2.2.2.2 bt533.1 bt533.2)) else (laws_FnAllowed.j0 k t532 true bt518.1 bt518.2.1 bt518.2.2.2.2.2.1 bt518.2.2.2.2.2.2 bt533.1 bt533.2))))))))))))) = some r := h
 clear h
 replace H := bs_ H
 obtain ⟨t517, A2, H⟩ := H
 by_cases c3 : t517 = true
 ·
  subst c3
  replace H := it_ H
  obtain rfl := Option.some.inj H
  go_enter Try.func5, Try.ntmps5
  go_wp2_with (first | ((with_reducible refine gate_callee (f := 26) rfl ?_); refine goesL_ (some 13) rfl rfl Try.func26 (by kernel_rfl) rfl #[.slice A0 l0.length c0] rfl al_ ?_; (with_reducible refine (laws_big.calls _ _ l0 true _ ?side1 ?side2 A2.out).mono ?_); (case side1 => exact cb_ HR0.out); (case side2 => exact HC0.out); rintro e w' ⟨rfl, ⟨nd, rfl⟩⟩; refine ⟨_, rfl, ?_⟩))
  go_ret
  exact ⟨rs_, hb_ HB⟩
 obtain rfl := Bool.eq_false_iff.mpr c3
 replace H := iF_ H
 replace H := bs_ H
 obtain ⟨⟨t518, t521, t522, t523, t524, t525, t526⟩, A4, H⟩ := H
 dsimp only at H
 replace H := bs_ H
 obtain ⟨t532, A5, H⟩ := H
 replace H := bs_ H
 obtain ⟨⟨t533, t536⟩, A6, H⟩ := H
 dsimp only at H
 replace H := bs_ H
 obtain ⟨⟨t538, t541⟩, A7, H⟩ := H
 dsimp only at H
 replace H := bs_ H
 obtain ⟨⟨t543, t544, t547, t548⟩, A8, H⟩ := H
 dsimp only at H
 replace H := bs_ H
 obtain ⟨⟨t553, t554, t555⟩, A9, H⟩ := H
 dsimp only at H
 have HC10 := A_ H
 clear H
 go_enter Try.func5, Try.ntmps5
 go_upto_region 9 with (first | ((with_reducible refine gate_callee (f := 26) rfl ?_); refine goesL_ (some 13) rfl rfl Try.func26 (by kernel_rfl) rfl #[.slice A0 l0.length c0] rfl al_ ?_; (with_reducible refine (laws_big.calls _ _ l0 false _ ?side1 ?side2 A2.out).mono ?_); (case side1 => exact cb_ HR0.out); (case side2 => exact HC0.out); rintro e w' ⟨rfl, ⟨nd, rfl⟩⟩; refine ⟨_, rfl, ?_⟩) | ((with_reducible refine gate_callee (f := 27) rfl ?_); refine goesL_ (some 16) rfl rfl Try.func27 (by kernel_rfl) rfl #[.slice A0 l0.length c0] rfl al_ ?_; (with_reducible refine (spec_DrawAllowed.calls k _ _ l0 t518 t521 t522 t523 t524 t525 t526 _ ?side1 ?side2 A4.out).mono ?_); (case side1 => exact cb_ HR0.out); (case side2 => exact HC0.out); rintro e w11 ⟨v519, v527, rfl, ho0, ho1, hb⟩; refine ⟨_, rfl, ?_⟩; have HO520 := A_ (Kd.R_lower ho0 (below_size (hb_ HB))); have HO528 := A_ (Kd.R_lower ho1 (below_size (hb_ HB))); replace HB := hs_ HB hb; (try clear hb); (try clear hb2); (try clear hk); (try clear hi); (try clear ho0); (try clear ho1)) | ((with_reducible refine gate_dst (N := 3) rfl ?_); refine bx_ HB rfl (N := 3) rfl (cs := #[.slice none 0 0, .int .i64 0]) (t := 44) hr_ ?_; clear HB; intro gb529 w12 hg hb BK529 GW529 HB; replace HO520 := A_ (Kd.R_below (rb_ HO520.out) hb); replace HO528 := A_ (Kd.R_below (rb_ HO528.out) hb); clear hb hg) | ((with_reducible refine gate_dst (N := 4) rfl ?_); refine bx_ HB rfl (N := 4) rfl (cs := #[.int .i64 0, .int .i64 0, .int .i64 0]) (t := 47) hr_ ?_; clear HB; intro gb530 w13 hg hb BK530 GW530 HB; have NB529_530 := ng_ BK529 hg; have NB530_529 := ns_ (ng_ BK529 hg); replace HO520 := A_ (Kd.R_below (rb_ HO520.out) hb); replace HO528 := A_ (Kd.R_below (rb_ HO528.out) hb); replace BK529 := bb_ BK529 hb; clear hb hg) | ((with_reducible refine gate_dst (N := 5) rfl ?_); refine bx_ HB rfl (N := 5) rfl (cs := #[.int .i64 0, .slice none 0 0]) (t := 49) hr_ ?_; clear HB; intro gb531 w14 hg hb BK531 GW531 HB; have NB529_531 := ng_ BK529 hg; have NB531_529 := ns_ (ng_ BK529 hg); have NB530_531 := ng_ BK530 hg; have NB531_530 := ns_ (ng_ BK530 hg); replace HO520 := A_ (Kd.R_below (rb_ HO520.out) hb); replace HO528 := A_ (Kd.R_below (rb_ HO528.out) hb); replace BK529 := bb_ BK529 hb; replace BK530 := bb_ BK530 hb; clear hb hg; obtain ⟨Ao15, co15, eo15⟩ := Kd.R_slice HO520.out; subst eo15; have hnb16 := NB529_530.out; have hnc16 := NB530_529.out; have hnb17 := NB529_531.out; have hnc17 := NB531_529.out; obtain ⟨hcz18_0, hcz18_1, hfz18_0, hfz18_1⟩ := cz2_ BK529; have hnb19 := NB530_531.out; have hnc19 := NB531_530.out; obtain ⟨hcz20_0, hcz20_1, hcz20_2, hfz20_0, hfz20_1, hfz20_2⟩ := cz3_ BK530; obtain ⟨hcz21_0, hcz21_1, hfz21_0, hfz21_1⟩ := cz2_ BK531; obtain ⟨Ao22, co22, eo22⟩ := Kd.R_slice HO528.out; subst eo22) | ((with_reducible refine gate_callee (f := 28) rfl ?_); refine goesL_ (some 23) rfl rfl Try.func28 (by kernel_rfl) rfl #[.agg #[.slice Ao15 t518.length co15, .int .i64 t521], .agg #[.int .i64 t522, .int .i64 t523, .int .i64 t524], .agg #[.int .i64 t525, .slice Ao22 t526.length co22]] rfl al_ ?_; (with_reducible refine (impl_Allowed.calls k _ _ t518 t521 t522 t523 t524 t525 _ _ t526 t532 _ ?side1 ?side2 ?side3 ?side4 A5.out).mono ?_); (case side1 => refine (Kd.R_reads' (e := 3) (base := w.heap.size) (ok := fun k_ => some k_ ≠ (.slice Ao22 t526.length co22 : Value).ownBlock) (n := t518.length) (c := co15) ?_).2.2; exact (by (with_reducible repeat (first | apply Kd.R_alloc | apply Kd.R_drewN | apply Kd.R_drew)); exact (Kd.R_mono (Kd.R_mono (Kd.R_mono (Kd.R_far (p := ⟨gb531, 1, none⟩) (Kd.R_far (p := ⟨gb531, 0, none⟩) (Kd.R_far (p := ⟨gb530, 2, none⟩) (Kd.R_far (p := ⟨gb530, 1, none⟩) (Kd.R_far (p := ⟨gb530, 0, none⟩) (Kd.R_far (p := ⟨gb529, 1, none⟩) (Kd.R_far (p := ⟨gb529, 0, none⟩) (Kd.R_types (Kd.R_types (Kd.R_types HO520.out BK529.out (by decide)) BK530.out (by decide)) BK531.out (by decide)) (fun _ hk => hk.1.1.2) (.slice Ao15 t518.length co15)) (fun _ hk => hk.1.1.2) (.int .i64 t521)) (fun _ hk => hk.1.2) (.int .i64 t522)) (fun _ hk => hk.1.2) (.int .i64 t523)) (fun _ hk => hk.1.2) (.int .i64 t524)) (fun _ hk => hk.2) (.int .i64 t525)) (fun _ hk => hk.2) (.slice Ao22 t526.length co22)) (fun _ h_ => h_.1)) (fun _ h_ => h_.1)) (fun _ h_ => h_.1)))); (case side2 => exact (Kd.R_reads' HO520.out).2.1); (case side3 => refine (Kd.R_reads' (e := 3) (base := w.heap.size) (ok := fun k_ => some k_ ≠ (.slice Ao15 t518.length co15 : Value).ownBlock) (n := t526.length) (c := co22) ?_).2.2; exact (by (with_reducible repeat (first | apply Kd.R_alloc | apply Kd.R_drewN | apply Kd.R_drew)); exact (Kd.R_mono (Kd.R_mono (Kd.R_mono (Kd.R_far (p := ⟨gb531, 1, none⟩) (Kd.R_far (p := ⟨gb531, 0, none⟩) (Kd.R_far (p := ⟨gb530, 2, none⟩) (Kd.R_far (p := ⟨gb530, 1, none⟩) (Kd.R_far (p := ⟨gb530, 0, none⟩) (Kd.R_far (p := ⟨gb529, 1, none⟩) (Kd.R_far (p := ⟨gb529, 0, none⟩) (Kd.R_types (Kd.R_types (Kd.R_types HO528.out BK529.out (by decide)) BK530.out (by decide)) BK531.out (by decide)) (fun _ hk => hk.1.1.2) (.slice Ao15 t518.length co15)) (fun _ hk => hk.1.1.2) (.int .i64 t521)) (fun _ hk => hk.1.2) (.int .i64 t522)) (fun _ hk => hk.1.2) (.int .i64 t523)) (fun _ hk => hk.1.2) (.int .i64 t524)) (fun _ hk => hk.2) (.int .i64 t525)) (fun _ hk => hk.2) (.slice Ao22 t526.length co22)) (fun _ h_ => h_.1)) (fun _ h_ => h_.1)) (fun _ h_ => h_.1)))); (case side4 => exact (Kd.R_reads' HO528.out).2.1); rintro e w23 ⟨rfl, hb⟩; refine ⟨_, rfl, ?_⟩; replace HO520 := A_ (Kd.R_below (by (with_reducible repeat (first | apply Kd.R_alloc | apply Kd.R_drewN | apply Kd.R_drew)); exact (Kd.R_mono (Kd.R_mono (Kd.R_mono (Kd.R_far (p := ⟨gb531, 1, none⟩) (Kd.R_far (p := ⟨gb531, 0, none⟩) (Kd.R_far (p := ⟨gb530, 2, none⟩) (Kd.R_far (p := ⟨gb530, 1, none⟩) (Kd.R_far (p := ⟨gb530, 0, none⟩) (Kd.R_far (p := ⟨gb529, 1, none⟩) (Kd.R_far (p := ⟨gb529, 0, none⟩) (Kd.R_types (Kd.R_types (Kd.R_types HO520.out BK529.out (by decide)) BK530.out (by decide)) BK531.out (by decide)) (fun _ hk => hk.1.1.2) (.slice Ao15 t518.length co15)) (fun _ hk => hk.1.1.2) (.int .i64 t521)) (fun _ hk => hk.1.2) (.int .i64 t522)) (fun _ hk => hk.1.2) (.int .i64 t523)) (fun _ hk => hk.1.2) (.int .i64 t524)) (fun _ hk => hk.2) (.int .i64 t525)) (fun _ hk => hk.2) (.slice Ao22 t526.length co22)) (fun _ h_ => h_.1)) (fun _ h_ => h_.1)) (fun _ h_ => h_.1))) hb); replace HO528 := A_ (Kd.R_below (by (with_reducible repeat (first | apply Kd.R_alloc | apply Kd.R_drewN | apply Kd.R_drew)); exact (Kd.R_mono (Kd.R_mono (Kd.R_mono (Kd.R_far (p := ⟨gb531, 1, none⟩) (Kd.R_far (p := ⟨gb531, 0, none⟩) (Kd.R_far (p := ⟨gb530, 2, none⟩) (Kd.R_far (p := ⟨gb530, 1, none⟩) (Kd.R_far (p := ⟨gb530, 0, none⟩) (Kd.R_far (p := ⟨gb529, 1, none⟩) (Kd.R_far (p := ⟨gb529, 0, none⟩) (Kd.R_types (Kd.R_types (Kd.R_types HO528.out BK529.out (by decide)) BK530.out (by decide)) BK531.out (by decide)) (fun _ hk => hk.1.1.2) (.slice Ao15 t518.length co15)) (fun _ hk => hk.1.1.2) (.int .i64 t521)) (fun _ hk => hk.1.2) (.int .i64 t522)) (fun _ hk => hk.1.2) (.int .i64 t523)) (fun _ hk => hk.1.2) (.int .i64 t524)) (fun _ hk => hk.2) (.int .i64 t525)) (fun _ hk => hk.2) (.slice Ao22 t526.length co22)) (fun _ h_ => h_.1)) (fun _ h_ => h_.1)) (fun _ h_ => h_.1))) hb); replace BK529 := bq_ (o' := .cells #[.slice Ao15 t518.length co15, .int .i64 t521] 44 (0, 0)) BK529 hb; replace BK530 := bq_ (o' := .cells #[.int .i64 t522, .int .i64 t523, .int .i64 t524] 47 (0, 0)) BK530 hb; replace BK531 := bq_ (o' := .cells #[.int .i64 t525, .slice Ao22 t526.length co22] 49 (0, 0)) BK531 hb; replace HB := hs_ HB hb; (try clear hb); (try clear hb2); (try clear hk); (try clear hi); obtain ⟨hcz24_0, hcz24_1, hfz24_0, hfz24_1⟩ := cz2_ BK529; obtain ⟨hcz25_0, hcz25_1, hcz25_2, hfz25_0, hfz25_1, hfz25_2⟩ := cz3_ BK530; obtain ⟨hcz26_0, hcz26_1, hfz26_0, hfz26_1⟩ := cz2_ BK531) | ((with_reducible refine gate_callee (f := 20) rfl ?_); refine goesL_ (some 27) rfl rfl Try.func20 (by kernel_rfl) rfl #[.agg #[.slice Ao15 t518.length co15, .int .i64 t521], .agg #[.int .i64 t522, .int .i64 t523, .int .i64 t524], .agg #[.int .i64 t525, .slice Ao22 t526.length co22]] rfl al_ ?_; (with_reducible refine (impl_After.calls k _ _ t518 t521 t522 t523 t524 t525 _ _ t526 t533 t536 _ ?side1 ?side2 ?side3 ?side4 A6.out).mono ?_); (case side1 => repeat (first | exact (Kd.R_reads' HO520.out).2.2 | (with_reducible refine Kd.C_alloc ?_ _) | (with_reducible refine Kd.C_drewN ?_ _) | (with_reducible refine Kd.C_drew ?_))); (case side2 => exact (Kd.R_reads' HO520.out).2.1); (case side3 => repeat (first | exact (Kd.R_reads' HO528.out).2.2 | (with_reducible refine Kd.C_alloc ?_ _) | (with_reducible refine Kd.C_drewN ?_ _) | (with_reducible refine Kd.C_drew ?_))); (case side4 => exact (Kd.R_reads' HO528.out).2.1); rintro e w27 ⟨v534, rfl, ho0, hb⟩; refine ⟨_, rfl, ?_⟩; have HO535 := A_ (Kd.R_lower (Kd.R_new' (Kd.R_new' ho0 (Kd.R_lt (rb_ HO520.out))) (Kd.R_lt (rb_ HO528.out))) (below_size (hb_ HB))); replace HO520 := A_ (Kd.R_elder' (rb_ HO520.out) (Kd.R_base ho0) hb); replace HO528 := A_ (Kd.R_elder' (rb_ HO528.out) (Kd.R_base ho0) hb); replace BK529 := bb_ BK529 hb; replace BK530 := bb_ BK530 hb; replace BK531 := bb_ BK531 hb; replace HB := hs_ HB hb; (try clear hb); (try clear hb2); (try clear hk); (try clear hi); (try clear ho0)) | ((with_reducible refine gate_dst (N := 7) rfl ?_); refine bx_ HB rfl (N := 7) rfl (cs := #[.slice none 0 0, .int .i64 0]) (t := 44) hr_ ?_; clear HB; intro gb537 w28 hg hb BK537 GW537 HB; have NB529_537 := ng_ BK529 hg; have NB537_529 := ns_ (ng_ BK529 hg); have NB530_537 := ng_ BK530 hg; have NB537_530 := ns_ (ng_ BK530 hg); have NB531_537 := ng_ BK531 hg; have NB537_531 := ns_ (ng_ BK531 hg); replace HO520 := A_ (Kd.R_below (rb_ HO520.out) hb); replace HO528 := A_ (Kd.R_below (rb_ HO528.out) hb); replace HO535 := A_ (Kd.R_below (rb_ HO535.out) hb); replace BK529 := bb_ BK529 hb; replace BK530 := bb_ BK530 hb; replace BK531 := bb_ BK531 hb; clear hb hg; obtain ⟨Ao29, co29, eo29⟩ := Kd.R_slice HO535.out; subst eo29; have hnb30 := NB537_529.out; have hnc30 := NB529_537.out; have hnb31 := NB537_530.out; have hnc31 := NB530_537.out; have hnb32 := NB537_531.out; have hnc32 := NB531_537.out; obtain ⟨hcz33_0, hcz33_1, hfz33_0, hfz33_1⟩ := cz2_ BK537; obtain ⟨hcz34_0, hcz34_1, hfz34_0, hfz34_1⟩ := cz2_ BK529; obtain ⟨hcz35_0, hcz35_1, hcz35_2, hfz35_0, hfz35_1, hfz35_2⟩ := cz3_ BK530; obtain ⟨hcz36_0, hcz36_1, hfz36_0, hfz36_1⟩ := cz2_ BK531) | ((with_reducible refine gate_callee (f := 16) rfl ?_); refine goesL_ (some 31) rfl rfl Try.func16 (by kernel_rfl) rfl #[.agg #[.slice Ao15 t518.length co15, .int .i64 t521], .agg #[.int .i64 t522, .int .i64 t523, .int .i64 t524], .agg #[.int .i64 t525, .slice Ao22 t526.length co22]] rfl al_ ?_; (with_reducible refine (spec_After.calls k _ _ t518 t521 t522 t523 t524 t525 _ _ t526 t538 t541 _ ?side1 ?side2 ?side3 ?side4 A7.out).mono ?_); (case side1 => refine (Kd.R_reads' (e := 3) (base := w.heap.size) (ok := fun k_ => (some k_ ≠ (.slice Ao22 t526.length co22 : Value).ownBlock ∧ some k_ ≠ (.slice Ao29 t533.length co29 : Value).ownBlock)) (n := t518.length) (c := co15) ?_).2.2; exact (by (with_reducible repeat (first | apply Kd.R_alloc | apply Kd.R_drewN | apply Kd.R_drew)); exact (Kd.R_mono (Kd.R_far (p := ⟨gb537, 1, none⟩) (Kd.R_far (p := ⟨gb537, 0, none⟩) (Kd.R_types HO520.out BK537.out (by decide)) (fun _ hk => hk.2) (.slice Ao29 t533.length co29)) (fun _ hk => hk.2) (.int .i64 t536)) (fun _ h_ => h_.1)))); (case side2 => exact (Kd.R_reads' HO520.out).2.1); (case side3 => refine (Kd.R_reads' (e := 3) (base := w.heap.size) (ok := fun k_ => (some k_ ≠ (.slice Ao15 t518.length co15 : Value).ownBlock ∧ some k_ ≠ (.slice Ao29 t533.length co29 : Value).ownBlock)) (n := t526.length) (c := co22) ?_).2.2; exact (by (with_reducible repeat (first | apply Kd.R_alloc | apply Kd.R_drewN | apply Kd.R_drew)); exact (Kd.R_mono (Kd.R_far (p := ⟨gb537, 1, none⟩) (Kd.R_far (p := ⟨gb537, 0, none⟩) (Kd.R_types HO528.out BK537.out (by decide)) (fun _ hk => hk.2) (.slice Ao29 t533.length co29)) (fun _ hk => hk.2) (.int .i64 t536)) (fun _ h_ => h_.1)))); (case side4 => exact (Kd.R_reads' HO528.out).2.1); rintro e w37 ⟨v539, rfl, ho0, hb⟩; refine ⟨_, rfl, ?_⟩; have HO540 := A_ (Kd.R_lower (Kd.R_new' (Kd.R_new' (Kd.R_new' ho0 (Kd.R_lt (by (with_reducible repeat (first | apply Kd.R_alloc | apply Kd.R_drewN | apply Kd.R_drew)); exact (Kd.R_mono (Kd.R_far (p := ⟨gb537, 1, none⟩) (Kd.R_far (p := ⟨gb537, 0, none⟩) (Kd.R_types HO520.out BK537.out (by decide)) (fun _ hk => hk.2) (.slice Ao29 t533.length co29)) (fun _ hk => hk.2) (.int .i64 t536)) (fun _ h_ => h_.1))))) (Kd.R_lt (by (with_reducible repeat (first | apply Kd.R_alloc | apply Kd.R_drewN | apply Kd.R_drew)); exact (Kd.R_mono (Kd.R_far (p := ⟨gb537, 1, none⟩) (Kd.R_far (p := ⟨gb537, 0, none⟩) (Kd.R_types HO528.out BK537.out (by decide)) (fun _ hk => hk.2) (.slice Ao29 t533.length co29)) (fun _ hk => hk.2) (.int .i64 t536)) (fun _ h_ => h_.1))))) (Kd.R_lt (by (with_reducible repeat (first | apply Kd.R_alloc | apply Kd.R_drewN | apply Kd.R_drew)); exact (Kd.R_mono (Kd.R_far (p := ⟨gb537, 1, none⟩) (Kd.R_far (p := ⟨gb537, 0, none⟩) (Kd.R_types HO535.out BK537.out (by decide)) (fun _ hk => hk.2) (.slice Ao29 t533.length co29)) (fun _ hk => hk.2) (.int .i64 t536)) (fun _ h_ => h_.1))))) (below_size (hb_ HB))); replace HO520 := A_ (Kd.R_elder' (by (with_reducible repeat (first | apply Kd.R_alloc | apply Kd.R_drewN | apply Kd.R_drew)); exact (Kd.R_mono (Kd.R_far (p := ⟨gb537, 1, none⟩) (Kd.R_far (p := ⟨gb537, 0, none⟩) (Kd.R_types HO520.out BK537.out (by decide)) (fun _ hk => hk.2) (.slice Ao29 t533.length co29)) (fun _ hk => hk.2) (.int .i64 t536)) (fun _ h_ => h_.1))) (Kd.R_base ho0) hb); replace HO528 := A_ (Kd.R_elder' (by (with_reducible repeat (first | apply Kd.R_alloc | apply Kd.R_drewN | apply Kd.R_drew)); exact (Kd.R_mono (Kd.R_far (p := ⟨gb537, 1, none⟩) (Kd.R_far (p := ⟨gb537, 0, none⟩) (Kd.R_types HO528.out BK537.out (by decide)) (fun _ hk => hk.2) (.slice Ao29 t533.length co29)) (fun _ hk => hk.2) (.int .i64 t536)) (fun _ h_ => h_.1))) (Kd.R_base ho0) hb); replace HO535 := A_ (Kd.R_elder' (by (with_reducible repeat (first | apply Kd.R_alloc | apply Kd.R_drewN | apply Kd.R_drew)); exact (Kd.R_mono (Kd.R_far (p := ⟨gb537, 1, none⟩) (Kd.R_far (p := ⟨gb537, 0, none⟩) (Kd.R_types HO535.out BK537.out (by decide)) (fun _ hk => hk.2) (.slice Ao29 t533.length co29)) (fun _ hk => hk.2) (.int .i64 t536)) (fun _ h_ => h_.1))) (Kd.R_base ho0) hb); replace BK529 := bb_ BK529 hb; replace BK530 := bb_ BK530 hb; replace BK531 := bb_ BK531 hb; replace BK537 := bq_ (o' := .cells #[.slice Ao29 t533.length co29, .int .i64 t536] 44 (0, 0)) BK537 hb; replace HB := hs_ HB hb; (try clear hb); (try clear hb2); (try clear hk); (try clear hi); (try clear ho0)) | ((with_reducible refine gate_dst (N := 8) rfl ?_); refine bx_ HB rfl (N := 8) rfl (cs := #[.slice none 0 0, .int .i64 0]) (t := 44) hr_ ?_; clear HB; intro gb542 w38 hg hb BK542 GW542 HB; have NB529_542 := ng_ BK529 hg; have NB542_529 := ns_ (ng_ BK529 hg); have NB530_542 := ng_ BK530 hg; have NB542_530 := ns_ (ng_ BK530 hg); have NB531_542 := ng_ BK531 hg; have NB542_531 := ns_ (ng_ BK531 hg); have NB537_542 := ng_ BK537 hg; have NB542_537 := ns_ (ng_ BK537 hg); replace HO520 := A_ (Kd.R_below (rb_ HO520.out) hb); replace HO528 := A_ (Kd.R_below (rb_ HO528.out) hb); replace HO535 := A_ (Kd.R_below (rb_ HO535.out) hb); replace HO540 := A_ (Kd.R_below (rb_ HO540.out) hb); replace BK529 := bb_ BK529 hb; replace BK530 := bb_ BK530 hb; replace BK531 := bb_ BK531 hb; replace BK537 := bb_ BK537 hb; clear hb hg; obtain ⟨Ao39, co39, eo39⟩ := Kd.R_slice HO540.out; subst eo39; have hnb40 := NB542_529.out; have hnc40 := NB529_542.out; have hnb41 := NB542_530.out; have hnc41 := NB530_542.out; have hnb42 := NB542_531.out; have hnc42 := NB531_542.out; have hnb43 := NB542_537.out; have hnc43 := NB537_542.out; obtain ⟨hcz44_0, hcz44_1, hfz44_0, hfz44_1⟩ := cz2_ BK542) | ((with_reducible refine gate_callee (f := 29) rfl ?_); refine goesL_ (some 34) rfl rfl Try.func29 (by kernel_rfl) rfl #[.slice A0 l0.length c0] rfl al_ ?_; (with_reducible refine (spec_DrawResSame.calls k _ _ l0 t543 t544 t547 t548 _ ?side1 ?side2 A8.out).mono ?_); (case side1 => exact Kd.C_below HR0.out (hb_ HB)); (case side2 => exact HC0.out); rintro e w45 ⟨v545, v549, rfl, ho0, ho1, hb⟩; refine ⟨_, rfl, ?_⟩; have HO546 := A_ (Kd.R_lower (Kd.R_new' (Kd.R_new' (Kd.R_new' (Kd.R_new' ho0 (Kd.R_lt (by (with_reducible repeat (first | apply Kd.R_alloc | apply Kd.R_drewN | apply Kd.R_drew)); exact (Kd.R_mono (Kd.R_far (p := ⟨gb542, 1, none⟩) (Kd.R_far (p := ⟨gb542, 0, none⟩) (Kd.R_types HO520.out BK542.out (by decide)) (fun _ hk => hk.2) (.slice Ao39 t538.length co39)) (fun _ hk => hk.2) (.int .i64 t541)) (fun _ h_ => h_.1))))) (Kd.R_lt (by (with_reducible repeat (first | apply Kd.R_alloc | apply Kd.R_drewN | apply Kd.R_drew)); exact (Kd.R_mono (Kd.R_far (p := ⟨gb542, 1, none⟩) (Kd.R_far (p := ⟨gb542, 0, none⟩) (Kd.R_types HO528.out BK542.out (by decide)) (fun _ hk => hk.2) (.slice Ao39 t538.length co39)) (fun _ hk => hk.2) (.int .i64 t541)) (fun _ h_ => h_.1))))) (Kd.R_lt (by (with_reducible repeat (first | apply Kd.R_alloc | apply Kd.R_drewN | apply Kd.R_drew)); exact (Kd.R_mono (Kd.R_far (p := ⟨gb542, 1, none⟩) (Kd.R_far (p := ⟨gb542, 0, none⟩) (Kd.R_types HO535.out BK542.out (by decide)) (fun _ hk => hk.2) (.slice Ao39 t538.length co39)) (fun _ hk => hk.2) (.int .i64 t541)) (fun _ h_ => h_.1))))) (Kd.R_lt (by (with_reducible repeat (first | apply Kd.R_alloc | apply Kd.R_drewN | apply Kd.R_drew)); exact (Kd.R_mono (Kd.R_far (p := ⟨gb542, 1, none⟩) (Kd.R_far (p := ⟨gb542, 0, none⟩) (Kd.R_types HO540.out BK542.out (by decide)) (fun _ hk => hk.2) (.slice Ao39 t538.length co39)) (fun _ hk => hk.2) (.int .i64 t541)) (fun _ h_ => h_.1))))) (below_size (hb_ HB))); have HO550 := A_ (Kd.R_lower (Kd.R_new' (Kd.R_new' (Kd.R_new' (Kd.R_new' ho1 (Kd.R_lt (by (with_reducible repeat (first | apply Kd.R_alloc | apply Kd.R_drewN | apply Kd.R_drew)); exact (Kd.R_mono (Kd.R_far (p := ⟨gb542, 1, none⟩) (Kd.R_far (p := ⟨gb542, 0, none⟩) (Kd.R_types HO520.out BK542.out (by decide)) (fun _ hk => hk.2) (.slice Ao39 t538.length co39)) (fun _ hk => hk.2) (.int .i64 t541)) (fun _ h_ => h_.1))))) (Kd.R_lt (by (with_reducible repeat (first | apply Kd.R_alloc | apply Kd.R_drewN | apply Kd.R_drew)); exact (Kd.R_mono (Kd.R_far (p := ⟨gb542, 1, none⟩) (Kd.R_far (p := ⟨gb542, 0, none⟩) (Kd.R_types HO528.out BK542.out (by decide)) (fun _ hk => hk.2) (.slice Ao39 t538.length co39)) (fun _ hk => hk.2) (.int .i64 t541)) (fun _ h_ => h_.1))))) (Kd.R_lt (by (with_reducible repeat (first | apply Kd.R_alloc | apply Kd.R_drewN | apply Kd.R_drew)); exact (Kd.R_mono (Kd.R_far (p := ⟨gb542, 1, none⟩) (Kd.R_far (p := ⟨gb542, 0, none⟩) (Kd.R_types HO535.out BK542.out (by decide)) (fun _ hk => hk.2) (.slice Ao39 t538.length co39)) (fun _ hk => hk.2) (.int .i64 t541)) (fun _ h_ => h_.1))))) (Kd.R_lt (by (with_reducible repeat (first | apply Kd.R_alloc | apply Kd.R_drewN | apply Kd.R_drew)); exact (Kd.R_mono (Kd.R_far (p := ⟨gb542, 1, none⟩) (Kd.R_far (p := ⟨gb542, 0, none⟩) (Kd.R_types HO540.out BK542.out (by decide)) (fun _ hk => hk.2) (.slice Ao39 t538.length co39)) (fun _ hk => hk.2) (.int .i64 t541)) (fun _ h_ => h_.1))))) (below_size (hb_ HB))); replace HO520 := A_ (Kd.R_mono (Kd.R_told (Kd.R_told (Kd.R_old (by (with_reducible repeat (first | apply Kd.R_alloc | apply Kd.R_drewN | apply Kd.R_drew)); exact (Kd.R_mono (Kd.R_far (p := ⟨gb542, 1, none⟩) (Kd.R_far (p := ⟨gb542, 0, none⟩) (Kd.R_types HO520.out BK542.out (by decide)) (fun _ hk => hk.2) (.slice Ao39 t538.length co39)) (fun _ hk => hk.2) (.int .i64 t541)) (fun _ h_ => h_.1))) hb) (Kd.R_base ho0)) (Kd.R_base ho1)) (fun _ h_ => h_.1)); replace HO528 := A_ (Kd.R_mono (Kd.R_told (Kd.R_told (Kd.R_old (by (with_reducible repeat (first | apply Kd.R_alloc | apply Kd.R_drewN | apply Kd.R_drew)); exact (Kd.R_mono (Kd.R_far (p := ⟨gb542, 1, none⟩) (Kd.R_far (p := ⟨gb542, 0, none⟩) (Kd.R_types HO528.out BK542.out (by decide)) (fun _ hk => hk.2) (.slice Ao39 t538.length co39)) (fun _ hk => hk.2) (.int .i64 t541)) (fun _ h_ => h_.1))) hb) (Kd.R_base ho0)) (Kd.R_base ho1)) (fun _ h_ => h_.1)); replace HO535 := A_ (Kd.R_mono (Kd.R_told (Kd.R_told (Kd.R_old (by (with_reducible repeat (first | apply Kd.R_alloc | apply Kd.R_drewN | apply Kd.R_drew)); exact (Kd.R_mono (Kd.R_far (p := ⟨gb542, 1, none⟩) (Kd.R_far (p := ⟨gb542, 0, none⟩) (Kd.R_types HO535.out BK542.out (by decide)) (fun _ hk => hk.2) (.slice Ao39 t538.length co39)) (fun _ hk => hk.2) (.int .i64 t541)) (fun _ h_ => h_.1))) hb) (Kd.R_base ho0)) (Kd.R_base ho1)) (fun _ h_ => h_.1)); replace HO540 := A_ (Kd.R_mono (Kd.R_told (Kd.R_told (Kd.R_old (by (with_reducible repeat (first | apply Kd.R_alloc | apply Kd.R_drewN | apply Kd.R_drew)); exact (Kd.R_mono (Kd.R_far (p := ⟨gb542, 1, none⟩) (Kd.R_far (p := ⟨gb542, 0, none⟩) (Kd.R_types HO540.out BK542.out (by decide)) (fun _ hk => hk.2) (.slice Ao39 t538.length co39)) (fun _ hk => hk.2) (.int .i64 t541)) (fun _ h_ => h_.1))) hb) (Kd.R_base ho0)) (Kd.R_base ho1)) (fun _ h_ => h_.1)); replace BK529 := bb_ BK529 hb; replace BK530 := bb_ BK530 hb; replace BK531 := bb_ BK531 hb; replace BK537 := bb_ BK537 hb; replace BK542 := bq_ (o' := .cells #[.slice Ao39 t538.length co39, .int .i64 t541] 44 (0, 0)) BK542 hb; replace HB := hs_ HB hb; (try clear hb); (try clear hb2); (try clear hk); (try clear hi); (try clear ho0); (try clear ho1)) | ((with_reducible refine gate_dst (N := 9) rfl ?_); refine bx_ HB rfl (N := 9) rfl (cs := #[.int .i64 0, .slice none 0 0]) (t := 49) hr_ ?_; clear HB; intro gb551 w46 hg hb BK551 GW551 HB; have NB529_551 := ng_ BK529 hg; have NB551_529 := ns_ (ng_ BK529 hg); have NB530_551 := ng_ BK530 hg; have NB551_530 := ns_ (ng_ BK530 hg); have NB531_551 := ng_ BK531 hg; have NB551_531 := ns_ (ng_ BK531 hg); have NB537_551 := ng_ BK537 hg; have NB551_537 := ns_ (ng_ BK537 hg); have NB542_551 := ng_ BK542 hg; have NB551_542 := ns_ (ng_ BK542 hg); replace HO520 := A_ (Kd.R_below (rb_ HO520.out) hb); replace HO528 := A_ (Kd.R_below (rb_ HO528.out) hb); replace HO535 := A_ (Kd.R_below (rb_ HO535.out) hb); replace HO540 := A_ (Kd.R_below (rb_ HO540.out) hb); replace HO546 := A_ (Kd.R_below (rb_ HO546.out) hb); replace HO550 := A_ (Kd.R_below (rb_ HO550.out) hb); replace BK529 := bb_ BK529 hb; replace BK530 := bb_ BK530 hb; replace BK531 := bb_ BK531 hb; replace BK537 := bb_ BK537 hb; replace BK542 := bb_ BK542 hb; clear hb hg) | ((with_reducible refine gate_dst (N := 10) rfl ?_); refine bx_ HB rfl (N := 10) rfl (cs := #[.int .i64 0, .slice none 0 0]) (t := 49) hr_ ?_; clear HB; intro gb552 w47 hg hb BK552 GW552 HB; have NB529_552 := ng_ BK529 hg; have NB552_529 := ns_ (ng_ BK529 hg); have NB530_552 := ng_ BK530 hg; have NB552_530 := ns_ (ng_ BK530 hg); have NB531_552 := ng_ BK531 hg; have NB552_531 := ns_ (ng_ BK531 hg); have NB537_552 := ng_ BK537 hg; have NB552_537 := ns_ (ng_ BK537 hg); have NB542_552 := ng_ BK542 hg; have NB552_542 := ns_ (ng_ BK542 hg); have NB551_552 := ng_ BK551 hg; have NB552_551 := ns_ (ng_ BK551 hg); replace HO520 := A_ (Kd.R_below (rb_ HO520.out) hb); replace HO528 := A_ (Kd.R_below (rb_ HO528.out) hb); replace HO535 := A_ (Kd.R_below (rb_ HO535.out) hb); replace HO540 := A_ (Kd.R_below (rb_ HO540.out) hb); replace HO546 := A_ (Kd.R_below (rb_ HO546.out) hb); replace HO550 := A_ (Kd.R_below (rb_ HO550.out) hb); replace BK529 := bb_ BK529 hb; replace BK530 := bb_ BK530 hb; replace BK531 := bb_ BK531 hb; replace BK537 := bb_ BK537 hb; replace BK542 := bb_ BK542 hb; replace BK551 := bb_ BK551 hb; clear hb hg; have hnb48 := NB551_529.out; have hnc48 := NB529_551.out; have hnb49 := NB551_530.out; have hnc49 := NB530_551.out; have hnb50 := NB551_531.out; have hnc50 := NB531_551.out; have hnb51 := NB551_537.out; have hnc51 := NB537_551.out; have hnb52 := NB551_542.out; have hnc52 := NB542_551.out; have hnb53 := NB551_552.out; have hnc53 := NB552_551.out; obtain ⟨hcz54_0, hcz54_1, hfz54_0, hfz54_1⟩ := cz2_ BK551; obtain ⟨Ao55, co55, eo55⟩ := Kd.R_slice HO546.out; subst eo55; have hnb56 := NB552_529.out; have hnc56 := NB529_552.out; have hnb57 := NB552_530.out; have hnc57 := NB530_552.out; have hnb58 := NB552_531.out; have hnc58 := NB531_552.out; have hnb59 := NB552_537.out; have hnc59 := NB537_552.out; have hnb60 := NB552_542.out; have hnc60 := NB542_552.out; obtain ⟨hcz61_0, hcz61_1, hfz61_0, hfz61_1⟩ := cz2_ BK552; obtain ⟨Ao62, co62, eo62⟩ := Kd.R_slice HO550.out; subst eo62) | ((with_reducible refine gate_callee (f := 30) rfl ?_); refine goesL_ (some 38) rfl rfl Try.func30 (by kernel_rfl) rfl #[.slice A0 l0.length c0] rfl al_ ?_; (with_reducible refine (spec_DrawOpOk.calls k _ _ l0 t553 t554 t555 _ ?side1 ?side2 A9.out).mono ?_); (case side1 => exact Kd.C_below HR0.out (hb_ HB)); (case side2 => exact HC0.out); rintro e w63 ⟨rfl, hb⟩; refine ⟨_, rfl, ?_⟩; replace HO520 := A_ (Kd.R_below (by (with_reducible repeat (first | apply Kd.R_alloc | apply Kd.R_drewN | apply Kd.R_drew)); exact (Kd.R_mono (Kd.R_mono (Kd.R_far (p := ⟨gb552, 1, none⟩) (Kd.R_far (p := ⟨gb552, 0, none⟩) (Kd.R_far (p := ⟨gb551, 1, none⟩) (Kd.R_far (p := ⟨gb551, 0, none⟩) (Kd.R_types (Kd.R_types HO520.out BK551.out (by decide)) BK552.out (by decide)) (fun _ hk => hk.1.2) (.int .i64 t543)) (fun _ hk => hk.1.2) (.slice Ao55 t544.length co55)) (fun _ hk => hk.2) (.int .i64 t547)) (fun _ hk => hk.2) (.slice Ao62 t548.length co62)) (fun _ h_ => h_.1)) (fun _ h_ => h_.1))) hb); replace HO528 := A_ (Kd.R_below (by (with_reducible repeat (first | apply Kd.R_alloc | apply Kd.R_drewN | apply Kd.R_drew)); exact (Kd.R_mono (Kd.R_mono (Kd.R_far (p := ⟨gb552, 1, none⟩) (Kd.R_far (p := ⟨gb552, 0, none⟩) (Kd.R_far (p := ⟨gb551, 1, none⟩) (Kd.R_far (p := ⟨gb551, 0, none⟩) (Kd.R_types (Kd.R_types HO528.out BK551.out (by decide)) BK552.out (by decide)) (fun _ hk => hk.1.2) (.int .i64 t543)) (fun _ hk => hk.1.2) (.slice Ao55 t544.length co55)) (fun _ hk => hk.2) (.int .i64 t547)) (fun _ hk => hk.2) (.slice Ao62 t548.length co62)) (fun _ h_ => h_.1)) (fun _ h_ => h_.1))) hb); replace HO535 := A_ (Kd.R_below (by (with_reducible repeat (first | apply Kd.R_alloc | apply Kd.R_drewN | apply Kd.R_drew)); exact (Kd.R_mono (Kd.R_mono (Kd.R_far (p := ⟨gb552, 1, none⟩) (Kd.R_far (p := ⟨gb552, 0, none⟩) (Kd.R_far (p := ⟨gb551, 1, none⟩) (Kd.R_far (p := ⟨gb551, 0, none⟩) (Kd.R_types (Kd.R_types HO535.out BK551.out (by decide)) BK552.out (by decide)) (fun _ hk => hk.1.2) (.int .i64 t543)) (fun _ hk => hk.1.2) (.slice Ao55 t544.length co55)) (fun _ hk => hk.2) (.int .i64 t547)) (fun _ hk => hk.2) (.slice Ao62 t548.length co62)) (fun _ h_ => h_.1)) (fun _ h_ => h_.1))) hb); replace HO540 := A_ (Kd.R_below (by (with_reducible repeat (first | apply Kd.R_alloc | apply Kd.R_drewN | apply Kd.R_drew)); exact (Kd.R_mono (Kd.R_mono (Kd.R_far (p := ⟨gb552, 1, none⟩) (Kd.R_far (p := ⟨gb552, 0, none⟩) (Kd.R_far (p := ⟨gb551, 1, none⟩) (Kd.R_far (p := ⟨gb551, 0, none⟩) (Kd.R_types (Kd.R_types HO540.out BK551.out (by decide)) BK552.out (by decide)) (fun _ hk => hk.1.2) (.int .i64 t543)) (fun _ hk => hk.1.2) (.slice Ao55 t544.length co55)) (fun _ hk => hk.2) (.int .i64 t547)) (fun _ hk => hk.2) (.slice Ao62 t548.length co62)) (fun _ h_ => h_.1)) (fun _ h_ => h_.1))) hb); replace HO546 := A_ (Kd.R_below (by (with_reducible repeat (first | apply Kd.R_alloc | apply Kd.R_drewN | apply Kd.R_drew)); exact (Kd.R_mono (Kd.R_mono (Kd.R_far (p := ⟨gb552, 1, none⟩) (Kd.R_far (p := ⟨gb552, 0, none⟩) (Kd.R_far (p := ⟨gb551, 1, none⟩) (Kd.R_far (p := ⟨gb551, 0, none⟩) (Kd.R_types (Kd.R_types HO546.out BK551.out (by decide)) BK552.out (by decide)) (fun _ hk => hk.1.2) (.int .i64 t543)) (fun _ hk => hk.1.2) (.slice Ao55 t544.length co55)) (fun _ hk => hk.2) (.int .i64 t547)) (fun _ hk => hk.2) (.slice Ao62 t548.length co62)) (fun _ h_ => h_.1)) (fun _ h_ => h_.1))) hb); replace HO550 := A_ (Kd.R_below (by (with_reducible repeat (first | apply Kd.R_alloc | apply Kd.R_drewN | apply Kd.R_drew)); exact (Kd.R_mono (Kd.R_mono (Kd.R_far (p := ⟨gb552, 1, none⟩) (Kd.R_far (p := ⟨gb552, 0, none⟩) (Kd.R_far (p := ⟨gb551, 1, none⟩) (Kd.R_far (p := ⟨gb551, 0, none⟩) (Kd.R_types (Kd.R_types HO550.out BK551.out (by decide)) BK552.out (by decide)) (fun _ hk => hk.1.2) (.int .i64 t543)) (fun _ hk => hk.1.2) (.slice Ao55 t544.length co55)) (fun _ hk => hk.2) (.int .i64 t547)) (fun _ hk => hk.2) (.slice Ao62 t548.length co62)) (fun _ h_ => h_.1)) (fun _ h_ => h_.1))) hb); replace BK529 := bb_ BK529 hb; replace BK530 := bb_ BK530 hb; replace BK531 := bb_ BK531 hb; replace BK537 := bb_ BK537 hb; replace BK542 := bb_ BK542 hb; replace BK551 := bq_ (o' := .cells #[.int .i64 t543, .slice Ao55 t544.length co55] 49 (0, 0)) BK551 hb; replace BK552 := bq_ (o' := .cells #[.int .i64 t547, .slice Ao62 t548.length co62] 49 (0, 0)) BK552 hb; replace HB := hs_ HB hb; (try clear hb); (try clear hb2); (try clear hk); (try clear hi)) | ((with_reducible refine gate_dst (N := 11) rfl ?_); refine bx_ HB rfl (N := 11) rfl (cs := #[.int .i64 0, .int .i64 0, .int .i64 0]) (t := 47) hr_ ?_; clear HB; intro gb556 w64 hg hb BK556 GW556 HB; have NB529_556 := ng_ BK529 hg; have NB556_529 := ns_ (ng_ BK529 hg); have NB530_556 := ng_ BK530 hg; have NB556_530 := ns_ (ng_ BK530 hg); have NB531_556 := ng_ BK531 hg; have NB556_531 := ns_ (ng_ BK531 hg); have NB537_556 := ng_ BK537 hg; have NB556_537 := ns_ (ng_ BK537 hg); have NB542_556 := ng_ BK542 hg; have NB556_542 := ns_ (ng_ BK542 hg); have NB551_556 := ng_ BK551 hg; have NB556_551 := ns_ (ng_ BK551 hg); have NB552_556 := ng_ BK552 hg; have NB556_552 := ns_ (ng_ BK552 hg); replace HO520 := A_ (Kd.R_below (rb_ HO520.out) hb); replace HO528 := A_ (Kd.R_below (rb_ HO528.out) hb); replace HO535 := A_ (Kd.R_below (rb_ HO535.out) hb); replace HO540 := A_ (Kd.R_below (rb_ HO540.out) hb); replace HO546 := A_ (Kd.R_below (rb_ HO546.out) hb); replace HO550 := A_ (Kd.R_below (rb_ HO550.out) hb); replace BK529 := bb_ BK529 hb; replace BK530 := bb_ BK530 hb; replace BK531 := bb_ BK531 hb; replace BK537 := bb_ BK537 hb; replace BK542 := bb_ BK542 hb; replace BK551 := bb_ BK551 hb; replace BK552 := bb_ BK552 hb; clear hb hg; have hnb65 := NB556_529.out; have hnc65 := NB529_556.out; have hnb66 := NB556_530.out; have hnc66 := NB530_556.out; have hnb67 := NB556_531.out; have hnc67 := NB531_556.out; have hnb68 := NB556_537.out; have hnc68 := NB537_556.out; have hnb69 := NB556_542.out; have hnc69 := NB542_556.out; have hnb70 := NB556_551.out; have hnc70 := NB551_556.out; have hnb71 := NB556_552.out; have hnc71 := NB552_556.out; obtain ⟨hcz72_0, hcz72_1, hcz72_2, hfz72_0, hfz72_1, hfz72_2⟩ := cz3_ BK556))
 (try simp only [Act.put, List.setIfInBounds_toArray, List.set_cons_zero, List.set_cons_succ])
 go_cut [75] (fun v75 wc => ∃ (kq : Nat) (x75_9 : Bool), v75 = .bool x75_9 ∧ Aside0 (laws_FnAllowed.j0 kq t532 x75_9 t518 t521 t525 t526 t533 t536 = some r) ∧ Aside0 (kq ≤ k) ∧ Aside0 (Kd.R (Kd.int .i64) 3 wc w.heap.size (fun k_ => some k_ ≠ ((.slice Ao22 t526.length co22) : Value).ownBlock ∧ some k_ ≠ ((.slice Ao29 t533.length co29) : Value).ownBlock ∧ some k_ ≠ ((.slice Ao39 t538.length co39) : Value).ownBlock ∧ some k_ ≠ ((.slice Ao55 t544.length co55) : Value).ownBlock ∧ some k_ ≠ ((.slice Ao62 t548.length co62) : Value).ownBlock) (.slice Ao15 t518.length co15) t518) ∧ Aside0 (Kd.R (Kd.int .i64) 3 wc w.heap.size (fun k_ => some k_ ≠ ((.slice Ao15 t518.length co15) : Value).ownBlock ∧ some k_ ≠ ((.slice Ao29 t533.length co29) : Value).ownBlock ∧ some k_ ≠ ((.slice Ao39 t538.length co39) : Value).ownBlock ∧ some k_ ≠ ((.slice Ao55 t544.length co55) : Value).ownBlock ∧ some k_ ≠ ((.slice Ao62 t548.length co62) : Value).ownBlock) (.slice Ao22 t526.length co22) t526) ∧ Aside0 (Kd.R (Kd.int .i64) 3 wc w.heap.size (fun k_ => some k_ ≠ ((.slice Ao15 t518.length co15) : Value).ownBlock ∧ some k_ ≠ ((.slice Ao22 t526.length co22) : Value).ownBlock ∧ some k_ ≠ ((.slice Ao39 t538.length co39) : Value).ownBlock ∧ some k_ ≠ ((.slice Ao55 t544.length co55) : Value).ownBlock ∧ some k_ ≠ ((.slice Ao62 t548.length co62) : Value).ownBlock) (.slice Ao29 t533.length co29) t533) ∧ Aside0 (Kd.R (Kd.int .i64) 3 wc w.heap.size (fun k_ => some k_ ≠ ((.slice Ao15 t518.length co15) : Value).ownBlock ∧ some k_ ≠ ((.slice Ao22 t526.length co22) : Value).ownBlock ∧ some k_ ≠ ((.slice Ao29 t533.length co29) : Value).ownBlock ∧ some k_ ≠ ((.slice Ao55 t544.length co55) : Value).ownBlock ∧ some k_ ≠ ((.slice Ao62 t548.length co62) : Value).ownBlock) (.slice Ao39 t538.length co39) t538) ∧ Aside0 (Kd.R (Kd.int .i64) 3 wc w.heap.size (fun k_ => some k_ ≠ ((.slice Ao15 t518.length co15) : Value).ownBlock ∧ some k_ ≠ ((.slice Ao22 t526.length co22) : Value).ownBlock ∧ some k_ ≠ ((.slice Ao29 t533.length co29) : Value).ownBlock ∧ some k_ ≠ ((.slice Ao39 t538.length co39) : Value).ownBlock ∧ some k_ ≠ ((.slice Ao62 t548.length co62) : Value).ownBlock) (.slice Ao55 t544.length co55) t544) ∧ Aside0 (Kd.R (Kd.int .i64) 3 wc w.heap.size (fun k_ => some k_ ≠ ((.slice Ao15 t518.length co15) : Value).ownBlock ∧ some k_ ≠ ((.slice Ao22 t526.length co22) : Value).ownBlock ∧ some k_ ≠ ((.slice Ao29 t533.length co29) : Value).ownBlock ∧ some k_ ≠ ((.slice Ao39 t538.length co39) : Value).ownBlock ∧ some k_ ≠ ((.slice Ao55 t544.length co55) : Value).ownBlock) (.slice Ao62 t548.length co62) t548) ∧ Aside0 (wc.heap[gb529]? = some (.cells #[(.slice Ao15 t518.length co15), .int .i64 t521] 44 (0, 0))) ∧ Aside0 (wc.heap[gb530]? = some (.cells #[.int .i64 t522, .int .i64 t523, .int .i64 t524] 47 (0, 0))) ∧ Aside0 (wc.heap[gb531]? = some (.cells #[.int .i64 t525, (.slice Ao22 t526.length co22)] 49 (0, 0))) ∧ Aside0 (wc.heap[gb537]? = some (.cells #[(.slice Ao29 t533.length co29), .int .i64 t536] 44 (0, 0))) ∧ Aside0 (wc.heap[gb542]? = some (.cells #[(.slice Ao39 t538.length co39), .int .i64 t541] 44 (0, 0))) ∧ Aside0 (wc.heap[gb551]? = some (.cells #[.int .i64 t543, (.slice Ao55 t544.length co55)] 49 (0, 0))) ∧ Aside0 (wc.heap[gb552]? = some (.cells #[.int .i64 t547, (.slice Ao62 t548.length co62)] 49 (0, 0))) ∧ Aside0 (wc.heap[gb556]? = some (.cells #[.int .i64 t553, .int .i64 t554, .int .i64 t555] 47 (0, 0))) ∧ Aside0 (Below w.heap.size w wc))
 case first =>
  have H := HC10.out
  clear HC10
  replace H := bs_ H
  obtain ⟨t557, A73, H⟩ := H
  by_cases c74 : (t532 != t557) = true
  ·
   rw [if_pos c74] at H
   have c74b0 : (t532 != t557) = true := c74
   (try (have c74b1 : decide (t532 = t557) = false := by simpa using c74))
   (try (have c74b2 : (t532 == t557) = false := by simpa using c74))
   (try (have c74b3 : ¬ (t532 = t557) := by simpa using c74))
   clear c74
   (first | rw [c74b0] | (simp only [i64_w, i32_w]; rw [c74b0]) | skip)
   replace H' := A_ H; clear H
   try go_wp2
   have n0_ : Aside0 (Kd.R (Kd.int .i64) 3 (((w64.setCell ⟨gb556, 0, none⟩ (.int .i64 t553)).setCell ⟨gb556, 1, none⟩ (.int .i64 t554)).setCell ⟨gb556, 2, none⟩ (.int .i64 t555)) w.heap.size (fun k_ => some k_ ≠ (.slice Ao22 t526.length co22 : Value).ownBlock ∧ some k_ ≠ (.slice Ao29 t533.length co29 : Value).ownBlock ∧ some k_ ≠ (.slice Ao39 t538.length co39 : Value).ownBlock ∧ some k_ ≠ (.slice Ao55 t544.length co55 : Value).ownBlock ∧ some k_ ≠ (.slice Ao62 t548.length co62 : Value).ownBlock) (.slice Ao15 t518.length co15) t518) := ⟨by (with_reducible repeat (first | apply Kd.R_alloc | apply Kd.R_drewN | apply Kd.R_drew)); exact Kd.R_mono (Kd.R_far (p := ⟨gb556, 2, none⟩) (Kd.R_far (p := ⟨gb556, 1, none⟩) (Kd.R_far (p := ⟨gb556, 0, none⟩) (Kd.R_types HO520.out BK556.out (by decide)) (fun _ hk => hk.2) (.int .i64 t553)) (fun _ hk => hk.2) (.int .i64 t554)) (fun _ hk => hk.2) (.int .i64 t555)) (fun _ hk => ⟨hk.1.1.1.1.1, ⟨hk.1.1.1.1.2, ⟨hk.1.1.1.2, ⟨hk.1.1.2, hk.1.2⟩⟩⟩⟩)⟩
   have n1_ : Aside0 (Kd.R (Kd.int .i64) 3 (((w64.setCell ⟨gb556, 0, none⟩ (.int .i64 t553)).setCell ⟨gb556, 1, none⟩ (.int .i64 t554)).setCell ⟨gb556, 2, none⟩ (.int .i64 t555)) w.heap.size (fun k_ => some k_ ≠ (.slice Ao15 t518.length co15 : Value).ownBlock ∧ some k_ ≠ (.slice Ao29 t533.length co29 : Value).ownBlock ∧ some k_ ≠ (.slice Ao39 t538.length co39 : Value).ownBlock ∧ some k_ ≠ (.slice Ao55 t544.length co55 : Value).ownBlock ∧ some k_ ≠ (.slice Ao62 t548.length co62 : Value).ownBlock) (.slice Ao22 t526.length co22) t526) := ⟨by (with_reducible repeat (first | apply Kd.R_alloc | apply Kd.R_drewN | apply Kd.R_drew)); exact Kd.R_mono (Kd.R_far (p := ⟨gb556, 2, none⟩) (Kd.R_far (p := ⟨gb556, 1, none⟩) (Kd.R_far (p := ⟨gb556, 0, none⟩) (Kd.R_types HO528.out BK556.out (by decide)) (fun _ hk => hk.2) (.int .i64 t553)) (fun _ hk => hk.2) (.int .i64 t554)) (fun _ hk => hk.2) (.int .i64 t555)) (fun _ hk => ⟨hk.1.1.1.1.1, ⟨hk.1.1.1.1.2, ⟨hk.1.1.1.2, ⟨hk.1.1.2, hk.1.2⟩⟩⟩⟩)⟩
   have n2_ : Aside0 (Kd.R (Kd.int .i64) 3 (((w64.setCell ⟨gb556, 0, none⟩ (.int .i64 t553)).setCell ⟨gb556, 1, none⟩ (.int .i64 t554)).setCell ⟨gb556, 2, none⟩ (.int .i64 t555)) w.heap.size (fun k_ => some k_ ≠ (.slice Ao15 t518.length co15 : Value).ownBlock ∧ some k_ ≠ (.slice Ao22 t526.length co22 : Value).ownBlock ∧ some k_ ≠ (.slice Ao39 t538.length co39 : Value).ownBlock ∧ some k_ ≠ (.slice Ao55 t544.length co55 : Value).ownBlock ∧ some k_ ≠ (.slice Ao62 t548.length co62 : Value).ownBlock) (.slice Ao29 t533.length co29) t533) := ⟨by (with_reducible repeat (first | apply Kd.R_alloc | apply Kd.R_drewN | apply Kd.R_drew)); exact Kd.R_mono (Kd.R_far (p := ⟨gb556, 2, none⟩) (Kd.R_far (p := ⟨gb556, 1, none⟩) (Kd.R_far (p := ⟨gb556, 0, none⟩) (Kd.R_types HO535.out BK556.out (by decide)) (fun _ hk => hk.2) (.int .i64 t553)) (fun _ hk => hk.2) (.int .i64 t554)) (fun _ hk => hk.2) (.int .i64 t555)) (fun _ hk => ⟨hk.1.1.1.1.1.2, ⟨hk.1.1.1.1.2, ⟨hk.1.1.1.2, ⟨hk.1.1.2, hk.1.2⟩⟩⟩⟩)⟩
   have n3_ : Aside0 (Kd.R (Kd.int .i64) 3 (((w64.setCell ⟨gb556, 0, none⟩ (.int .i64 t553)).setCell ⟨gb556, 1, none⟩ (.int .i64 t554)).setCell ⟨gb556, 2, none⟩ (.int .i64 t555)) w.heap.size (fun k_ => some k_ ≠ (.slice Ao15 t518.length co15 : Value).ownBlock ∧ some k_ ≠ (.slice Ao22 t526.length co22 : Value).ownBlock ∧ some k_ ≠ (.slice Ao29 t533.length co29 : Value).ownBlock ∧ some k_ ≠ (.slice Ao55 t544.length co55 : Value).ownBlock ∧ some k_ ≠ (.slice Ao62 t548.length co62 : Value).ownBlock) (.slice Ao39 t538.length co39) t538) := ⟨by (with_reducible repeat (first | apply Kd.R_alloc | apply Kd.R_drewN | apply Kd.R_drew)); exact Kd.R_mono (Kd.R_far (p := ⟨gb556, 2, none⟩) (Kd.R_far (p := ⟨gb556, 1, none⟩) (Kd.R_far (p := ⟨gb556, 0, none⟩) (Kd.R_types HO540.out BK556.out (by decide)) (fun _ hk => hk.2) (.int .i64 t553)) (fun _ hk => hk.2) (.int .i64 t554)) (fun _ hk => hk.2) (.int .i64 t555)) (fun _ hk => ⟨hk.1.1.1.1.1.2, ⟨hk.1.1.1.1.2, ⟨hk.1.1.1.2, ⟨hk.1.1.2, hk.1.2⟩⟩⟩⟩)⟩
   have n4_ : Aside0 (Kd.R (Kd.int .i64) 3 (((w64.setCell ⟨gb556, 0, none⟩ (.int .i64 t553)).setCell ⟨gb556, 1, none⟩ (.int .i64 t554)).setCell ⟨gb556, 2, none⟩ (.int .i64 t555)) w.heap.size (fun k_ => some k_ ≠ (.slice Ao15 t518.length co15 : Value).ownBlock ∧ some k_ ≠ (.slice Ao22 t526.length co22 : Value).ownBlock ∧ some k_ ≠ (.slice Ao29 t533.length co29 : Value).ownBlock ∧ some k_ ≠ (.slice Ao39 t538.length co39 : Value).ownBlock ∧ some k_ ≠ (.slice Ao62 t548.length co62 : Value).ownBlock) (.slice Ao55 t544.length co55) t544) := ⟨by (with_reducible repeat (first | apply Kd.R_alloc | apply Kd.R_drewN | apply Kd.R_drew)); exact Kd.R_mono (Kd.R_far (p := ⟨gb556, 2, none⟩) (Kd.R_far (p := ⟨gb556, 1, none⟩) (Kd.R_far (p := ⟨gb556, 0, none⟩) (Kd.R_types HO546.out BK556.out (by decide)) (fun _ hk => hk.2) (.int .i64 t553)) (fun _ hk => hk.2) (.int .i64 t554)) (fun _ hk => hk.2) (.int .i64 t555)) (fun _ hk => ⟨hk.1.1.1.1.2, ⟨hk.1.1.1.2, ⟨hk.1.1.2, ⟨hk.1.2, hk.1.1.1.1.1⟩⟩⟩⟩)⟩
   have n5_ : Aside0 (Kd.R (Kd.int .i64) 3 (((w64.setCell ⟨gb556, 0, none⟩ (.int .i64 t553)).setCell ⟨gb556, 1, none⟩ (.int .i64 t554)).setCell ⟨gb556, 2, none⟩ (.int .i64 t555)) w.heap.size (fun k_ => some k_ ≠ (.slice Ao15 t518.length co15 : Value).ownBlock ∧ some k_ ≠ (.slice Ao22 t526.length co22 : Value).ownBlock ∧ some k_ ≠ (.slice Ao29 t533.length co29 : Value).ownBlock ∧ some k_ ≠ (.slice Ao39 t538.length co39 : Value).ownBlock ∧ some k_ ≠ (.slice Ao55 t544.length co55 : Value).ownBlock) (.slice Ao62 t548.length co62) t548) := ⟨by (with_reducible repeat (first | apply Kd.R_alloc | apply Kd.R_drewN | apply Kd.R_drew)); exact Kd.R_mono (Kd.R_far (p := ⟨gb556, 2, none⟩) (Kd.R_far (p := ⟨gb556, 1, none⟩) (Kd.R_far (p := ⟨gb556, 0, none⟩) (Kd.R_types HO550.out BK556.out (by decide)) (fun _ hk => hk.2) (.int .i64 t553)) (fun _ hk => hk.2) (.int .i64 t554)) (fun _ hk => hk.2) (.int .i64 t555)) (fun _ hk => ⟨hk.1.1.1.1.2, ⟨hk.1.1.1.2, ⟨hk.1.1.2, ⟨hk.1.2, hk.1.1.1.1.1⟩⟩⟩⟩)⟩
   have n6_ : Aside0 ((((w64.setCell ⟨gb556, 0, none⟩ (.int .i64 t553)).setCell ⟨gb556, 1, none⟩ (.int .i64 t554)).setCell ⟨gb556, 2, none⟩ (.int .i64 t555)).heap[gb529]? = some (.cells #[.slice Ao15 t518.length co15, .int .i64 t521] 44 (0, 0))) := ⟨bk_ BK529⟩
   have n7_ : Aside0 ((((w64.setCell ⟨gb556, 0, none⟩ (.int .i64 t553)).setCell ⟨gb556, 1, none⟩ (.int .i64 t554)).setCell ⟨gb556, 2, none⟩ (.int .i64 t555)).heap[gb530]? = some (.cells #[.int .i64 t522, .int .i64 t523, .int .i64 t524] 47 (0, 0))) := ⟨bk_ BK530⟩
   have n8_ : Aside0 ((((w64.setCell ⟨gb556, 0, none⟩ (.int .i64 t553)).setCell ⟨gb556, 1, none⟩ (.int .i64 t554)).setCell ⟨gb556, 2, none⟩ (.int .i64 t555)).heap[gb531]? = some (.cells #[.int .i64 t525, .slice Ao22 t526.length co22] 49 (0, 0))) := ⟨bk_ BK531⟩
   have n9_ : Aside0 ((((w64.setCell ⟨gb556, 0, none⟩ (.int .i64 t553)).setCell ⟨gb556, 1, none⟩ (.int .i64 t554)).setCell ⟨gb556, 2, none⟩ (.int .i64 t555)).heap[gb537]? = some (.cells #[.slice Ao29 t533.length co29, .int .i64 t536] 44 (0, 0))) := ⟨bk_ BK537⟩
   have n10_ : Aside0 ((((w64.setCell ⟨gb556, 0, none⟩ (.int .i64 t553)).setCell ⟨gb556, 1, none⟩ (.int .i64 t554)).setCell ⟨gb556, 2, none⟩ (.int .i64 t555)).heap[gb542]? = some (.cells #[.slice Ao39 t538.length co39, .int .i64 t541] 44 (0, 0))) := ⟨bk_ BK542⟩
   have n11_ : Aside0 ((((w64.setCell ⟨gb556, 0, none⟩ (.int .i64 t553)).setCell ⟨gb556, 1, none⟩ (.int .i64 t554)).setCell ⟨gb556, 2, none⟩ (.int .i64 t555)).heap[gb551]? = some (.cells #[.int .i64 t543, .slice Ao55 t544.length co55] 49 (0, 0))) := ⟨bk_ BK551⟩
   have n12_ : Aside0 ((((w64.setCell ⟨gb556, 0, none⟩ (.int .i64 t553)).setCell ⟨gb556, 1, none⟩ (.int .i64 t554)).setCell ⟨gb556, 2, none⟩ (.int .i64 t555)).heap[gb552]? = some (.cells #[.int .i64 t547, .slice Ao62 t548.length co62] 49 (0, 0))) := ⟨bk_ BK552⟩
   have n13_ : Aside0 ((((w64.setCell ⟨gb556, 0, none⟩ (.int .i64 t553)).setCell ⟨gb556, 1, none⟩ (.int .i64 t554)).setCell ⟨gb556, 2, none⟩ (.int .i64 t555)).heap[gb556]? = some (.cells #[.int .i64 t553, .int .i64 t554, .int .i64 t555] 47 (0, 0))) := ⟨bp_ BK556⟩
   have n14_ : Aside0 (Below w.heap.size w (((w64.setCell ⟨gb556, 0, none⟩ (.int .i64 t553)).setCell ⟨gb556, 1, none⟩ (.int .i64 t554)).setCell ⟨gb556, 2, none⟩ (.int .i64 t555))) := ⟨hb_ HB⟩
   (try clear HO520)
   (try clear HO528)
   (try clear HO535)
   (try clear HO540)
   (try clear HO546)
   (try clear HO550)
   (try clear BK529)
   (try clear BK530)
   (try clear BK531)
   (try clear BK537)
   (try clear BK542)
   (try clear BK551)
   (try clear BK552)
   (try clear BK556)
   (try clear HB)
   generalize (((w64.setCell ⟨gb556, 0, none⟩ (.int .i64 t553)).setCell ⟨gb556, 1, none⟩ (.int .i64 t554)).setCell ⟨gb556, 2, none⟩ (.int .i64 t555)) = w75 at n0_ n1_ n2_ n3_ n4_ n5_ n6_ n7_ n8_ n9_ n10_ n11_ n12_ n13_ n14_ ⊢
   have HO520 := n0_
   have HO528 := n1_
   have HO535 := n2_
   have HO540 := n3_
   have HO546 := n4_
   have HO550 := n5_
   have BK529 := n6_
   have BK530 := n7_
   have BK531 := n8_
   have BK537 := n9_
   have BK542 := n10_
   have BK551 := n11_
   have BK552 := n12_
   have BK556 := n13_
   have HB := n14_
   clear n0_ n1_ n2_ n3_ n4_ n5_ n6_ n7_ n8_ n9_ n10_ n11_ n12_ n13_ n14_
   replace HO520 := A_ (Kd.R_drew HO520.out)
   replace HO528 := A_ (Kd.R_drew HO528.out)
   replace HO535 := A_ (Kd.R_drew HO535.out)
   replace HO540 := A_ (Kd.R_drew HO540.out)
   replace HO546 := A_ (Kd.R_drew HO546.out)
   replace HO550 := A_ (Kd.R_drew HO550.out)
   replace BK529 := A_ (blk_drew BK529.out)
   replace BK530 := A_ (blk_drew BK530.out)
   replace BK531 := A_ (blk_drew BK531.out)
   replace BK537 := A_ (blk_drew BK537.out)
   replace BK542 := A_ (blk_drew BK542.out)
   replace BK551 := A_ (blk_drew BK551.out)
   replace BK552 := A_ (blk_drew BK552.out)
   replace BK556 := A_ (blk_drew BK556.out)
   replace HB := A_ (below_drew1 HB.out)
   refine start_ (n := 37) (S := fun w' => w'.cell? ⟨gb529, 0, none⟩ = some (.slice Ao15 t518.length co15) ∧ w'.cell? ⟨gb529, 1, none⟩ = some (.int .i64 t521) ∧ w'.cell? ⟨gb530, 0, none⟩ = some (.int .i64 t522) ∧ w'.cell? ⟨gb530, 1, none⟩ = some (.int .i64 t523) ∧ w'.cell? ⟨gb530, 2, none⟩ = some (.int .i64 t524) ∧ w'.cell? ⟨gb531, 0, none⟩ = some (.int .i64 t525) ∧ w'.cell? ⟨gb531, 1, none⟩ = some (.slice Ao22 t526.length co22)) (ds := []) (bt_ 0 37) (by kernel_rfl) rfl rfl ⟨(blk_cell BK529.out 0).trans rfl, (blk_cell BK529.out 1).trans rfl, (blk_cell BK530.out 0).trans rfl, (blk_cell BK530.out 1).trans rfl, (blk_cell BK530.out 2).trans rfl, (blk_cell BK531.out 0).trans rfl, (blk_cell BK531.out 1).trans rfl⟩ (fun hHeld => ?_); refine with_tabW laws_FnAllowed.tab9 laws_FnAllowed.bits9 (fun HT_ HW_ => ?_)
   generalize w75.drew = w76 at HO520 HO528 HO535 HO540 HO546 HO550 BK529 BK530 BK531 BK537 BK542 BK551 BK552 BK556 HB hHeld ⊢
   refine pu_ 0 39 (bt_ 1 37) ?_
   refine tk7_ 1 40 (bt_ 3 37) hHeld ?_
   refine tk7_ 2 41 (bt_ 7 37) hHeld ?_
   refine tk7_ 3 42 (bt_ 15 37) hHeld ?_
   refine one_ (i := 4) (N := some 43) (bt_ 31 37) rfl rfl (one_of HT_.out (by kernel_rfl)) (by decide) (fun K hK => ?_)
   refine goes_ Try.func31 (by kernel_rfl) rfl #[.agg #[.slice Ao15 t518.length co15, .int .i64 t521], .agg #[.int .i64 t522, .int .i64 t523, .int .i64 t524], .agg #[.int .i64 t525, .slice Ao22 t526.length co22]] (by rfl) rfl rfl al_ ?_
   with_reducible refine (spec_Allowed.calls k _ _ t518 t521 t522 t523 t524 t525 _ _ t526 t557 _ ?side1 ?side2 ?side3 ?side4 A73.out).mono ?_
   (case side1 => repeat (first | exact (Kd.R_reads' HO520.out).2.2 | (with_reducible refine Kd.C_alloc ?_ _) | (with_reducible refine Kd.C_drewN ?_ _) | (with_reducible refine Kd.C_drew ?_)))
   (case side2 => exact (Kd.R_reads' HO520.out).2.1)
   (case side3 => repeat (first | exact (Kd.R_reads' HO528.out).2.2 | (with_reducible refine Kd.C_alloc ?_ _) | (with_reducible refine Kd.C_drewN ?_ _) | (with_reducible refine Kd.C_drew ?_)))
   (case side4 => exact (Kd.R_reads' HO528.out).2.1)
   rintro e w77 ⟨rfl, hb⟩
   refine ⟨_, rfl, ?_⟩
   replace HO520 := A_ (Kd.R_below (rb_ HO520.out) hb)
   replace HO528 := A_ (Kd.R_below (rb_ HO528.out) hb)
   replace HO535 := A_ (Kd.R_below (rb_ HO535.out) hb)
   replace HO540 := A_ (Kd.R_below (rb_ HO540.out) hb)
   replace HO546 := A_ (Kd.R_below (rb_ HO546.out) hb)
   replace HO550 := A_ (Kd.R_below (rb_ HO550.out) hb)
   replace BK529 := bb_ BK529 hb
   replace BK530 := bb_ BK530 hb
   replace BK531 := bb_ BK531 hb
   replace BK537 := bb_ BK537 hb
   replace BK542 := bb_ BK542 hb
   replace BK551 := bb_ BK551 hb
   replace BK552 := bb_ BK552 hb
   replace BK556 := bb_ BK556 hb
   replace HB := hs_ HB hb
   (try clear hb)
   (try clear hb2)
   (try clear hk)
   (try clear hi)
   refine hK.out _ _ ⟨(blk_cell BK529.out 0).trans rfl, (blk_cell BK529.out 1).trans rfl, (blk_cell BK530.out 0).trans rfl, (blk_cell BK530.out 1).trans rfl, (blk_cell BK530.out 2).trans rfl, (blk_cell BK531.out 0).trans rfl, (blk_cell BK531.out 1).trans rfl⟩ (fun hHeld => ?_)
   clear hK K
   refine norm_ (a' := ?_) ?_ ?_
   rotate_left
   ·
    show Act.put _ (some 43) _ = _
    simp only [Act.put, List.setIfInBounds_toArray, List.set_cons_zero, List.set_cons_succ, i64_w, i32_w]
    rfl
   refine pu_ 5 44 (bt_ 63 37) ?_
   refine pu_ 6 45 (bt_ 127 37) ?_
   refine pn_ 7 46 (bt_ 255 37) ?_
   refine pn_ 8 47 (bt_ 511 37) ?_
   refine pn_ 9 48 (bt_ 1023 37) ?_
   refine pn_ 10 49 (bt_ 2047 37) ?_
   refine pn_ 11 50 (bt_ 4095 37) ?_
   refine pn_ 12 51 (bt_ 8191 37) ?_
   refine pu_ 13 52 (bt_ 16383 37) ?_
   refine pu_ 14 53 (bt_ 32767 37) ?_
   refine pn_ 15 54 (bt_ 65535 37) ?_
   refine pn_ 16 55 (bt_ 131071 37) ?_
   refine pn_ 17 56 (bt_ 262143 37) ?_
   refine pn_ 18 57 (bt_ 524287 37) ?_
   refine pn_ 19 58 (bt_ 1048575 37) ?_
   refine pu_ 20 59 (bt_ 2097151 37) ?_
   refine pu_ 21 60 (bt_ 4194303 37) ?_
   refine pn_ 22 61 (bt_ 8388607 37) ?_
   refine pn_ 23 62 (bt_ 16777215 37) ?_
   refine pn_ 24 63 (bt_ 33554431 37) ?_
   refine pn_ 25 64 (bt_ 67108863 37) ?_
   refine pn_ 26 65 (bt_ 134217727 37) ?_
   refine pn_ 27 66 (bt_ 268435455 37) ?_
   refine pn_ 28 67 (bt_ 536870911 37) ?_
   refine pu_ 29 68 (bt_ 1073741823 37) ?_
   refine pu_ 30 69 (bt_ 2147483647 37) ?_
   refine pn_ 31 70 (bt_ 4294967295 37) ?_
   refine pn_ 32 71 (bt_ 8589934591 37) ?_
   refine pn_ 33 72 (bt_ 17179869183 37) ?_
   refine pn_ 34 73 (bt_ 34359738367 37) ?_
   refine pn_ 35 74 (bt_ 68719476735 37) ?_
   refine pu_ 36 75 (bt_ 137438953471 37) ?_
   refine done_ (done_of HT_.out (by kernel_rfl)) ?_
   try go_wp2
   go_meet
   case rel => exact ⟨_, (true), rt_, H', ⟨by first | omega | exact Nat.le_refl _⟩, ⟨rb_ HO520.out⟩, ⟨rb_ HO528.out⟩, ⟨rb_ HO535.out⟩, ⟨rb_ HO540.out⟩, ⟨rb_ HO546.out⟩, ⟨rb_ HO550.out⟩, ⟨bk_ BK529⟩, ⟨bk_ BK530⟩, ⟨bk_ BK531⟩, ⟨bk_ BK537⟩, ⟨bk_ BK542⟩, ⟨bk_ BK551⟩, ⟨bk_ BK552⟩, ⟨bk_ BK556⟩, ⟨hb_ HB⟩⟩
  rw [if_neg c74] at H
  have c74b0 : (t532 != t557) = false := by simpa using c74
  (try (have c74b1 : decide (t532 = t557) = true := by simpa using c74))
  (try (have c74b2 : (t532 == t557) = true := by simpa using c74))
  clear c74
  (first | rw [c74b0] | (simp only [i64_w, i32_w]; rw [c74b0]) | skip)
  replace H := bs_ H
  obtain ⟨t558, A78, H⟩ := H
  by_cases c79 : t558 = true
  ·
   subst c79
   replace H := it_ H
   by_cases c80 : t536 = t541
   ·
    rw [if_pos c80] at H
    have c80b0 : (t536 == t541) = true := beq_iff_eq.mpr c80
    have c80b1 : (t536 != t541) = false := bne_eq_false_iff_eq.mpr c80
    clear c80
    replace H := bs_ H
    obtain ⟨t559, A81, H⟩ := H
    replace H := bs_ H
    obtain ⟨t560, A82, H⟩ := H
    by_cases c83 : (t559 != t560) = true
    ·
     rw [if_pos c83] at H
     have c83b0 : (t559 != t560) = true := c83
     (try (have c83b1 : decide (t559 = t560) = false := by simpa using c83))
     (try (have c83b2 : (t559 == t560) = false := by simpa using c83))
     (try (have c83b3 : ¬ (t559 = t560) := by simpa using c83))
     clear c83
     replace H' := A_ H; clear H
     try go_wp2
     have n0_ : Aside0 (Kd.R (Kd.int .i64) 3 (((w64.setCell ⟨gb556, 0, none⟩ (.int .i64 t553)).setCell ⟨gb556, 1, none⟩ (.int .i64 t554)).setCell ⟨gb556, 2, none⟩ (.int .i64 t555)) w.heap.size (fun k_ => some k_ ≠ (.slice Ao22 t526.length co22 : Value).ownBlock ∧ some k_ ≠ (.slice Ao29 t533.length co29 : Value).ownBlock ∧ some k_ ≠ (.slice Ao39 t538.length co39 : Value).ownBlock ∧ some k_ ≠ (.slice Ao55 t544.length co55 : Value).ownBlock ∧ some k_ ≠ (.slice Ao62 t548.length co62 : Value).ownBlock) (.slice Ao15 t518.length co15) t518) := ⟨by (with_reducible repeat (first | apply Kd.R_alloc | apply Kd.R_drewN | apply Kd.R_drew)); exact Kd.R_mono (Kd.R_far (p := ⟨gb556, 2, none⟩) (Kd.R_far (p := ⟨gb556, 1, none⟩) (Kd.R_far (p := ⟨gb556, 0, none⟩) (Kd.R_types HO520.out BK556.out (by decide)) (fun _ hk => hk.2) (.int .i64 t553)) (fun _ hk => hk.2) (.int .i64 t554)) (fun _ hk => hk.2) (.int .i64 t555)) (fun _ hk => ⟨hk.1.1.1.1.1, ⟨hk.1.1.1.1.2, ⟨hk.1.1.1.2, ⟨hk.1.1.2, hk.1.2⟩⟩⟩⟩)⟩
     have n1_ : Aside0 (Kd.R (Kd.int .i64) 3 (((w64.setCell ⟨gb556, 0, none⟩ (.int .i64 t553)).setCell ⟨gb556, 1, none⟩ (.int .i64 t554)).setCell ⟨gb556, 2, none⟩ (.int .i64 t555)) w.heap.size (fun k_ => some k_ ≠ (.slice Ao15 t518.length co15 : Value).ownBlock ∧ some k_ ≠ (.slice Ao29 t533.length co29 : Value).ownBlock ∧ some k_ ≠ (.slice Ao39 t538.length co39 : Value).ownBlock ∧ some k_ ≠ (.slice Ao55 t544.length co55 : Value).ownBlock ∧ some k_ ≠ (.slice Ao62 t548.length co62 : Value).ownBlock) (.slice Ao22 t526.length co22) t526) := ⟨by (with_reducible repeat (first | apply Kd.R_alloc | apply Kd.R_drewN | apply Kd.R_drew)); exact Kd.R_mono (Kd.R_far (p := ⟨gb556, 2, none⟩) (Kd.R_far (p := ⟨gb556, 1, none⟩) (Kd.R_far (p := ⟨gb556, 0, none⟩) (Kd.R_types HO528.out BK556.out (by decide)) (fun _ hk => hk.2) (.int .i64 t553)) (fun _ hk => hk.2) (.int .i64 t554)) (fun _ hk => hk.2) (.int .i64 t555)) (fun _ hk => ⟨hk.1.1.1.1.1, ⟨hk.1.1.1.1.2, ⟨hk.1.1.1.2, ⟨hk.1.1.2, hk.1.2⟩⟩⟩⟩)⟩
     have n2_ : Aside0 (Kd.R (Kd.int .i64) 3 (((w64.setCell ⟨gb556, 0, none⟩ (.int .i64 t553)).setCell ⟨gb556, 1, none⟩ (.int .i64 t554)).setCell ⟨gb556, 2, none⟩ (.int .i64 t555)) w.heap.size (fun k_ => some k_ ≠ (.slice Ao15 t518.length co15 : Value).ownBlock ∧ some k_ ≠ (.slice Ao22 t526.length co22 : Value).ownBlock ∧ some k_ ≠ (.slice Ao39 t538.length co39 : Value).ownBlock ∧ some k_ ≠ (.slice Ao55 t544.length co55 : Value).ownBlock ∧ some k_ ≠ (.slice Ao62 t548.length co62 : Value).ownBlock) (.slice Ao29 t533.length co29) t533) := ⟨by (with_reducible repeat (first | apply Kd.R_alloc | apply Kd.R_drewN | apply Kd.R_drew)); exact Kd.R_mono (Kd.R_far (p := ⟨gb556, 2, none⟩) (Kd.R_far (p := ⟨gb556, 1, none⟩) (Kd.R_far (p := ⟨gb556, 0, none⟩) (Kd.R_types HO535.out BK556.out (by decide)) (fun _ hk => hk.2) (.int .i64 t553)) (fun _ hk => hk.2) (.int .i64 t554)) (fun _ hk => hk.2) (.int .i64 t555)) (fun _ hk => ⟨hk.1.1.1.1.1.2, ⟨hk.1.1.1.1.2, ⟨hk.1.1.1.2, ⟨hk.1.1.2, hk.1.2⟩⟩⟩⟩)⟩
     have n3_ : Aside0 (Kd.R (Kd.int .i64) 3 (((w64.setCell ⟨gb556, 0, none⟩ (.int .i64 t553)).setCell ⟨gb556, 1, none⟩ (.int .i64 t554)).setCell ⟨gb556, 2, none⟩ (.int .i64 t555)) w.heap.size (fun k_ => some k_ ≠ (.slice Ao15 t518.length co15 : Value).ownBlock ∧ some k_ ≠ (.slice Ao22 t526.length co22 : Value).ownBlock ∧ some k_ ≠ (.slice Ao29 t533.length co29 : Value).ownBlock ∧ some k_ ≠ (.slice Ao55 t544.length co55 : Value).ownBlock ∧ some k_ ≠ (.slice Ao62 t548.length co62 : Value).ownBlock) (.slice Ao39 t538.length co39) t538) := ⟨by (with_reducible repeat (first | apply Kd.R_alloc | apply Kd.R_drewN | apply Kd.R_drew)); exact Kd.R_mono (Kd.R_far (p := ⟨gb556, 2, none⟩) (Kd.R_far (p := ⟨gb556, 1, none⟩) (Kd.R_far (p := ⟨gb556, 0, none⟩) (Kd.R_types HO540.out BK556.out (by decide)) (fun _ hk => hk.2) (.int .i64 t553)) (fun _ hk => hk.2) (.int .i64 t554)) (fun _ hk => hk.2) (.int .i64 t555)) (fun _ hk => ⟨hk.1.1.1.1.1.2, ⟨hk.1.1.1.1.2, ⟨hk.1.1.1.2, ⟨hk.1.1.2, hk.1.2⟩⟩⟩⟩)⟩
     have n4_ : Aside0 (Kd.R (Kd.int .i64) 3 (((w64.setCell ⟨gb556, 0, none⟩ (.int .i64 t553)).setCell ⟨gb556, 1, none⟩ (.int .i64 t554)).setCell ⟨gb556, 2, none⟩ (.int .i64 t555)) w.heap.size (fun k_ => some k_ ≠ (.slice Ao15 t518.length co15 : Value).ownBlock ∧ some k_ ≠ (.slice Ao22 t526.length co22 : Value).ownBlock ∧ some k_ ≠ (.slice Ao29 t533.length co29 : Value).ownBlock ∧ some k_ ≠ (.slice Ao39 t538.length co39 : Value).ownBlock ∧ some k_ ≠ (.slice Ao62 t548.length co62 : Value).ownBlock) (.slice Ao55 t544.length co55) t544) := ⟨by (with_reducible repeat (first | apply Kd.R_alloc | apply Kd.R_drewN | apply Kd.R_drew)); exact Kd.R_mono (Kd.R_far (p := ⟨gb556, 2, none⟩) (Kd.R_far (p := ⟨gb556, 1, none⟩) (Kd.R_far (p := ⟨gb556, 0, none⟩) (Kd.R_types HO546.out BK556.out (by decide)) (fun _ hk => hk.2) (.int .i64 t553)) (fun _ hk => hk.2) (.int .i64 t554)) (fun _ hk => hk.2) (.int .i64 t555)) (fun _ hk => ⟨hk.1.1.1.1.2, ⟨hk.1.1.1.2, ⟨hk.1.1.2, ⟨hk.1.2, hk.1.1.1.1.1⟩⟩⟩⟩)⟩
     have n5_ : Aside0 (Kd.R (Kd.int .i64) 3 (((w64.setCell ⟨gb556, 0, none⟩ (.int .i64 t553)).setCell ⟨gb556, 1, none⟩ (.int .i64 t554)).setCell ⟨gb556, 2, none⟩ (.int .i64 t555)) w.heap.size (fun k_ => some k_ ≠ (.slice Ao15 t518.length co15 : Value).ownBlock ∧ some k_ ≠ (.slice Ao22 t526.length co22 : Value).ownBlock ∧ some k_ ≠ (.slice Ao29 t533.length co29 : Value).ownBlock ∧ some k_ ≠ (.slice Ao39 t538.length co39 : Value).ownBlock ∧ some k_ ≠ (.slice Ao55 t544.length co55 : Value).ownBlock) (.slice Ao62 t548.length co62) t548) := ⟨by (with_reducible repeat (first | apply Kd.R_alloc | apply Kd.R_drewN | apply Kd.R_drew)); exact Kd.R_mono (Kd.R_far (p := ⟨gb556, 2, none⟩) (Kd.R_far (p := ⟨gb556, 1, none⟩) (Kd.R_far (p := ⟨gb556, 0, none⟩) (Kd.R_types HO550.out BK556.out (by decide)) (fun _ hk => hk.2) (.int .i64 t553)) (fun _ hk => hk.2) (.int .i64 t554)) (fun _ hk => hk.2) (.int .i64 t555)) (fun _ hk => ⟨hk.1.1.1.1.2, ⟨hk.1.1.1.2, ⟨hk.1.1.2, ⟨hk.1.2, hk.1.1.1.1.1⟩⟩⟩⟩)⟩
     have n6_ : Aside0 ((((w64.setCell ⟨gb556, 0, none⟩ (.int .i64 t553)).setCell ⟨gb556, 1, none⟩ (.int .i64 t554)).setCell ⟨gb556, 2, none⟩ (.int .i64 t555)).heap[gb529]? = some (.cells #[.slice Ao15 t518.length co15, .int .i64 t521] 44 (0, 0))) := ⟨bk_ BK529⟩
     have n7_ : Aside0 ((((w64.setCell ⟨gb556, 0, none⟩ (.int .i64 t553)).setCell ⟨gb556, 1, none⟩ (.int .i64 t554)).setCell ⟨gb556, 2, none⟩ (.int .i64 t555)).heap[gb530]? = some (.cells #[.int .i64 t522, .int .i64 t523, .int .i64 t524] 47 (0, 0))) := ⟨bk_ BK530⟩
     have n8_ : Aside0 ((((w64.setCell ⟨gb556, 0, none⟩ (.int .i64 t553)).setCell ⟨gb556, 1, none⟩ (.int .i64 t554)).setCell ⟨gb556, 2, none⟩ (.int .i64 t555)).heap[gb531]? = some (.cells #[.int .i64 t525, .slice Ao22 t526.length co22] 49 (0, 0))) := ⟨bk_ BK531⟩
     have n9_ : Aside0 ((((w64.setCell ⟨gb556, 0, none⟩ (.int .i64 t553)).setCell ⟨gb556, 1, none⟩ (.int .i64 t554)).setCell ⟨gb556, 2, none⟩ (.int .i64 t555)).heap[gb537]? = some (.cells #[.slice Ao29 t533.length co29, .int .i64 t536] 44 (0, 0))) := ⟨bk_ BK537⟩
     have n10_ : Aside0 ((((w64.setCell ⟨gb556, 0, none⟩ (.int .i64 t553)).setCell ⟨gb556, 1, none⟩ (.int .i64 t554)).setCell ⟨gb556, 2, none⟩ (.int .i64 t555)).heap[gb542]? = some (.cells #[.slice Ao39 t538.length co39, .int .i64 t541] 44 (0, 0))) := ⟨bk_ BK542⟩
     have n11_ : Aside0 ((((w64.setCell ⟨gb556, 0, none⟩ (.int .i64 t553)).setCell ⟨gb556, 1, none⟩ (.int .i64 t554)).setCell ⟨gb556, 2, none⟩ (.int .i64 t555)).heap[gb551]? = some (.cells #[.int .i64 t543, .slice Ao55 t544.length co55] 49 (0, 0))) := ⟨bk_ BK551⟩
     have n12_ : Aside0 ((((w64.setCell ⟨gb556, 0, none⟩ (.int .i64 t553)).setCell ⟨gb556, 1, none⟩ (.int .i64 t554)).setCell ⟨gb556, 2, none⟩ (.int .i64 t555)).heap[gb552]? = some (.cells #[.int .i64 t547, .slice Ao62 t548.length co62] 49 (0, 0))) := ⟨bk_ BK552⟩
     have n13_ : Aside0 ((((w64.setCell ⟨gb556, 0, none⟩ (.int .i64 t553)).setCell ⟨gb556, 1, none⟩ (.int .i64 t554)).setCell ⟨gb556, 2, none⟩ (.int .i64 t555)).heap[gb556]? = some (.cells #[.int .i64 t553, .int .i64 t554, .int .i64 t555] 47 (0, 0))) := ⟨bp_ BK556⟩
     have n14_ : Aside0 (Below w.heap.size w (((w64.setCell ⟨gb556, 0, none⟩ (.int .i64 t553)).setCell ⟨gb556, 1, none⟩ (.int .i64 t554)).setCell ⟨gb556, 2, none⟩ (.int .i64 t555))) := ⟨hb_ HB⟩
     (try clear HO520)
     (try clear HO528)
     (try clear HO535)
     (try clear HO540)
     (try clear HO546)
     (try clear HO550)
     (try clear BK529)
     (try clear BK530)
     (try clear BK531)
     (try clear BK537)
     (try clear BK542)
     (try clear BK551)
     (try clear BK552)
     (try clear BK556)
     (try clear HB)
     generalize (((w64.setCell ⟨gb556, 0, none⟩ (.int .i64 t553)).setCell ⟨gb556, 1, none⟩ (.int .i64 t554)).setCell ⟨gb556, 2, none⟩ (.int .i64 t555)) = w84 at n0_ n1_ n2_ n3_ n4_ n5_ n6_ n7_ n8_ n9_ n10_ n11_ n12_ n13_ n14_ ⊢
     have HO520 := n0_
     have HO528 := n1_
     have HO535 := n2_
     have HO540 := n3_
     have HO546 := n4_
     have HO550 := n5_
     have BK529 := n6_
     have BK530 := n7_
     have BK531 := n8_
     have BK537 := n9_
     have BK542 := n10_
     have BK551 := n11_
     have BK552 := n12_
     have BK556 := n13_
     have HB := n14_
     clear n0_ n1_ n2_ n3_ n4_ n5_ n6_ n7_ n8_ n9_ n10_ n11_ n12_ n13_ n14_
     replace HO520 := A_ (Kd.R_drew HO520.out)
     replace HO528 := A_ (Kd.R_drew HO528.out)
     replace HO535 := A_ (Kd.R_drew HO535.out)
     replace HO540 := A_ (Kd.R_drew HO540.out)
     replace HO546 := A_ (Kd.R_drew HO546.out)
     replace HO550 := A_ (Kd.R_drew HO550.out)
     replace BK529 := A_ (blk_drew BK529.out)
     replace BK530 := A_ (blk_drew BK530.out)
     replace BK531 := A_ (blk_drew BK531.out)
     replace BK537 := A_ (blk_drew BK537.out)
     replace BK542 := A_ (blk_drew BK542.out)
     replace BK551 := A_ (blk_drew BK551.out)
     replace BK552 := A_ (blk_drew BK552.out)
     replace BK556 := A_ (blk_drew BK556.out)
     replace HB := A_ (below_drew1 HB.out)
     refine start_ (n := 37) (S := fun w' => w'.cell? ⟨gb529, 0, none⟩ = some (.slice Ao15 t518.length co15) ∧ w'.cell? ⟨gb529, 1, none⟩ = some (.int .i64 t521) ∧ w'.cell? ⟨gb530, 0, none⟩ = some (.int .i64 t522) ∧ w'.cell? ⟨gb530, 1, none⟩ = some (.int .i64 t523) ∧ w'.cell? ⟨gb530, 2, none⟩ = some (.int .i64 t524) ∧ w'.cell? ⟨gb531, 0, none⟩ = some (.int .i64 t525) ∧ w'.cell? ⟨gb531, 1, none⟩ = some (.slice Ao22 t526.length co22) ∧ w'.cell? ⟨gb537, 0, none⟩ = some (.slice Ao29 t533.length co29) ∧ w'.cell? ⟨gb537, 1, none⟩ = some (.int .i64 t536) ∧ w'.cell? ⟨gb542, 0, none⟩ = some (.slice Ao39 t538.length co39) ∧ w'.cell? ⟨gb542, 1, none⟩ = some (.int .i64 t541) ∧ w'.cell? ⟨gb551, 0, none⟩ = some (.int .i64 t543) ∧ w'.cell? ⟨gb551, 1, none⟩ = some (.slice Ao55 t544.length co55) ∧ w'.cell? ⟨gb552, 0, none⟩ = some (.int .i64 t547) ∧ w'.cell? ⟨gb552, 1, none⟩ = some (.slice Ao62 t548.length co62)) (ds := []) (bt_ 0 37) (by kernel_rfl) rfl rfl ⟨(blk_cell BK529.out 0).trans rfl, (blk_cell BK529.out 1).trans rfl, (blk_cell BK530.out 0).trans rfl, (blk_cell BK530.out 1).trans rfl, (blk_cell BK530.out 2).trans rfl, (blk_cell BK531.out 0).trans rfl, (blk_cell BK531.out 1).trans rfl, (blk_cell BK537.out 0).trans rfl, (blk_cell BK537.out 1).trans rfl, (blk_cell BK542.out 0).trans rfl, (blk_cell BK542.out 1).trans rfl, (blk_cell BK551.out 0).trans rfl, (blk_cell BK551.out 1).trans rfl, (blk_cell BK552.out 0).trans rfl, (blk_cell BK552.out 1).trans rfl⟩ (fun hHeld => ?_); refine with_tabW laws_FnAllowed.tab9 laws_FnAllowed.bits9 (fun HT_ HW_ => ?_)
     generalize w84.drew = w85 at HO520 HO528 HO535 HO540 HO546 HO550 BK529 BK530 BK531 BK537 BK542 BK551 BK552 BK556 HB hHeld ⊢
     refine pu_ 0 39 (bt_ 1 37) ?_
     refine tk15_ 1 40 (bt_ 3 37) hHeld ?_
     refine tk15_ 2 41 (bt_ 7 37) hHeld ?_
     refine tk15_ 3 42 (bt_ 15 37) hHeld ?_
     refine one_ (i := 4) (N := some 43) (bt_ 31 37) rfl rfl (one_of HT_.out (by kernel_rfl)) (by decide) (fun K hK => ?_)
     refine goes_ Try.func31 (by kernel_rfl) rfl #[.agg #[.slice Ao15 t518.length co15, .int .i64 t521], .agg #[.int .i64 t522, .int .i64 t523, .int .i64 t524], .agg #[.int .i64 t525, .slice Ao22 t526.length co22]] (by rfl) rfl rfl al_ ?_
     with_reducible refine (spec_Allowed.calls k _ _ t518 t521 t522 t523 t524 t525 _ _ t526 t557 _ ?side1 ?side2 ?side3 ?side4 A73.out).mono ?_
     (case side1 => repeat (first | exact (Kd.R_reads' HO520.out).2.2 | (with_reducible refine Kd.C_alloc ?_ _) | (with_reducible refine Kd.C_drewN ?_ _) | (with_reducible refine Kd.C_drew ?_)))
     (case side2 => exact (Kd.R_reads' HO520.out).2.1)
     (case side3 => repeat (first | exact (Kd.R_reads' HO528.out).2.2 | (with_reducible refine Kd.C_alloc ?_ _) | (with_reducible refine Kd.C_drewN ?_ _) | (with_reducible refine Kd.C_drew ?_)))
     (case side4 => exact (Kd.R_reads' HO528.out).2.1)
     rintro e w86 ⟨rfl, hb⟩
     refine ⟨_, rfl, ?_⟩
     replace HO520 := A_ (Kd.R_below (rb_ HO520.out) hb)
     replace HO528 := A_ (Kd.R_below (rb_ HO528.out) hb)
     replace HO535 := A_ (Kd.R_below (rb_ HO535.out) hb)
     replace HO540 := A_ (Kd.R_below (rb_ HO540.out) hb)
     replace HO546 := A_ (Kd.R_below (rb_ HO546.out) hb)
     replace HO550 := A_ (Kd.R_below (rb_ HO550.out) hb)
     replace BK529 := bb_ BK529 hb
     replace BK530 := bb_ BK530 hb
     replace BK531 := bb_ BK531 hb
     replace BK537 := bb_ BK537 hb
     replace BK542 := bb_ BK542 hb
     replace BK551 := bb_ BK551 hb
     replace BK552 := bb_ BK552 hb
     replace BK556 := bb_ BK556 hb
     replace HB := hs_ HB hb
     (try clear hb)
     (try clear hb2)
     (try clear hk)
     (try clear hi)
     refine hK.out _ _ ⟨(blk_cell BK529.out 0).trans rfl, (blk_cell BK529.out 1).trans rfl, (blk_cell BK530.out 0).trans rfl, (blk_cell BK530.out 1).trans rfl, (blk_cell BK530.out 2).trans rfl, (blk_cell BK531.out 0).trans rfl, (blk_cell BK531.out 1).trans rfl, (blk_cell BK537.out 0).trans rfl, (blk_cell BK537.out 1).trans rfl, (blk_cell BK542.out 0).trans rfl, (blk_cell BK542.out 1).trans rfl, (blk_cell BK551.out 0).trans rfl, (blk_cell BK551.out 1).trans rfl, (blk_cell BK552.out 0).trans rfl, (blk_cell BK552.out 1).trans rfl⟩ (fun hHeld => ?_)
     clear hK K
     refine norm_ (a' := ?_) ?_ ?_
     rotate_left
     ·
      show Act.put _ (some 43) _ = _
      simp only [Act.put, List.setIfInBounds_toArray, List.set_cons_zero, List.set_cons_succ, i64_w, i32_w]
      rfl
     refine pu_ 5 44 (bt_ 63 37) ?_
     refine pu_ 6 45 (bt_ 127 37) ?_
     refine pu_ 7 46 (bt_ 255 37) ?_
     refine pu_ 9 48 (bt_ 767 37) ?_
     refine tk15_ 8 47 (bt_ 1023 37) hHeld ?_
     refine tk15_ 10 49 (bt_ 2047 37) hHeld ?_
     refine one_ (i := 11) (N := some 50) (bt_ 4095 37) rfl rfl (one_of HT_.out (by kernel_rfl)) (by decide) (fun K hK => ?_)
     refine goes_ Try.func32 (by kernel_rfl) rfl #[.slice Ao29 t533.length co29, .slice Ao39 t538.length co39] (by rfl) rfl rfl al_ ?_
     with_reducible refine (laws_sameInts.calls k _ _ t533 _ _ t538 true _ ?side1 ?side2 ?side3 ?side4 A78.out).mono ?_
     (case side1 => repeat (first | exact (Kd.R_reads' HO535.out).2.2 | (with_reducible refine Kd.C_alloc ?_ _) | (with_reducible refine Kd.C_drewN ?_ _) | (with_reducible refine Kd.C_drew ?_)))
     (case side2 => exact (Kd.R_reads' HO535.out).2.1)
     (case side3 => repeat (first | exact (Kd.R_reads' HO540.out).2.2 | (with_reducible refine Kd.C_alloc ?_ _) | (with_reducible refine Kd.C_drewN ?_ _) | (with_reducible refine Kd.C_drew ?_)))
     (case side4 => exact (Kd.R_reads' HO540.out).2.1)
     rintro e w' ⟨rfl, ⟨nd, rfl⟩⟩
     refine ⟨_, rfl, ?_⟩
     refine hK.out _ _ ⟨(blk_cell BK529.out 0).trans rfl, (blk_cell BK529.out 1).trans rfl, (blk_cell BK530.out 0).trans rfl, (blk_cell BK530.out 1).trans rfl, (blk_cell BK530.out 2).trans rfl, (blk_cell BK531.out 0).trans rfl, (blk_cell BK531.out 1).trans rfl, (blk_cell BK537.out 0).trans rfl, (blk_cell BK537.out 1).trans rfl, (blk_cell BK542.out 0).trans rfl, (blk_cell BK542.out 1).trans rfl, (blk_cell BK551.out 0).trans rfl, (blk_cell BK551.out 1).trans rfl, (blk_cell BK552.out 0).trans rfl, (blk_cell BK552.out 1).trans rfl⟩ (fun hHeld => ?_)
     clear hK K
     refine norm_ (a' := ?_) ?_ ?_
     rotate_left
     ·
      show Act.put _ (some 50) _ = _
      simp only [Act.put, List.setIfInBounds_toArray, List.set_cons_zero, List.set_cons_succ, i64_w, i32_w]
      rfl
     refine pu_ 12 51 (bt_ 8191 37) ?_
     refine pu_ 13 52 (bt_ 16383 37) ?_
     refine pu_ 14 53 (bt_ 32767 37) ?_
     refine pu_ 15 54 (bt_ 65535 37) ?_
     refine pu_ 17 56 (bt_ 196607 37) ?_
     refine tk15_ 16 55 (bt_ 262143 37) hHeld ?_
     refine tk15_ 18 57 (bt_ 524287 37) hHeld ?_
     refine pu_ 19 58 (bt_ 1048575 37) ?_
     refine pu_ 20 59 (bt_ 2097151 37) ?_
     refine pu_ 21 60 (bt_ 4194303 37) ?_
     refine tk15_ 22 61 (bt_ 8388607 37) hHeld ?_
     refine tk15_ 23 62 (bt_ 16777215 37) hHeld ?_
     refine tk15_ 25 64 (bt_ 50331647 37) hHeld ?_
     refine tk15_ 26 65 (bt_ 117440511 37) hHeld ?_
     refine one_ (i := 24) (N := some 63) (bt_ 134217727 37) rfl rfl (one_of HT_.out (by kernel_rfl)) (by decide) (fun K hK => ?_)
     refine goes_ Try.func33 (by kernel_rfl) rfl #[.agg #[.int .i64 t543, .slice Ao55 t544.length co55], .agg #[.int .i64 t547, .slice Ao62 t548.length co62]] (by rfl) rfl rfl al_ ?_
     with_reducible refine (impl_ResSame.calls k t543 _ _ t544 t547 _ _ t548 t559 _ ?side1 ?side2 ?side3 ?side4 A81.out).mono ?_
     (case side1 => repeat (first | exact (Kd.R_reads' HO546.out).2.2 | (with_reducible refine Kd.C_alloc ?_ _) | (with_reducible refine Kd.C_drewN ?_ _) | (with_reducible refine Kd.C_drew ?_)))
     (case side2 => exact (Kd.R_reads' HO546.out).2.1)
     (case side3 => repeat (first | exact (Kd.R_reads' HO550.out).2.2 | (with_reducible refine Kd.C_alloc ?_ _) | (with_reducible refine Kd.C_drewN ?_ _) | (with_reducible refine Kd.C_drew ?_)))
     (case side4 => exact (Kd.R_reads' HO550.out).2.1)
     rintro e w87 ⟨rfl, hb⟩
     refine ⟨_, rfl, ?_⟩
     replace HO520 := A_ (Kd.R_below (rb_ HO520.out) hb)
     replace HO528 := A_ (Kd.R_below (rb_ HO528.out) hb)
     replace HO535 := A_ (Kd.R_below (rb_ HO535.out) hb)
     replace HO540 := A_ (Kd.R_below (rb_ HO540.out) hb)
     replace HO546 := A_ (Kd.R_below (rb_ HO546.out) hb)
     replace HO550 := A_ (Kd.R_below (rb_ HO550.out) hb)
     replace BK529 := bb_ BK529 hb
     replace BK530 := bb_ BK530 hb
     replace BK531 := bb_ BK531 hb
     replace BK537 := bb_ BK537 hb
     replace BK542 := bb_ BK542 hb
     replace BK551 := bb_ BK551 hb
     replace BK552 := bb_ BK552 hb
     replace BK556 := bb_ BK556 hb
     replace HB := hs_ HB hb
     (try clear hb)
     (try clear hb2)
     (try clear hk)
     (try clear hi)
     refine hK.out _ _ ⟨(blk_cell BK529.out 0).trans rfl, (blk_cell BK529.out 1).trans rfl, (blk_cell BK530.out 0).trans rfl, (blk_cell BK530.out 1).trans rfl, (blk_cell BK530.out 2).trans rfl, (blk_cell BK531.out 0).trans rfl, (blk_cell BK531.out 1).trans rfl, (blk_cell BK537.out 0).trans rfl, (blk_cell BK537.out 1).trans rfl, (blk_cell BK542.out 0).trans rfl, (blk_cell BK542.out 1).trans rfl, (blk_cell BK551.out 0).trans rfl, (blk_cell BK551.out 1).trans rfl, (blk_cell BK552.out 0).trans rfl, (blk_cell BK552.out 1).trans rfl⟩ (fun hHeld => ?_)
     clear hK K
     refine norm_ (a' := ?_) ?_ ?_
     rotate_left
     ·
      show Act.put _ (some 63) _ = _
      simp only [Act.put, List.setIfInBounds_toArray, List.set_cons_zero, List.set_cons_succ, i64_w, i32_w]
      rfl
     refine one_ (i := 27) (N := some 66) (bt_ 268435455 37) rfl rfl (one_of HT_.out (by kernel_rfl)) (by decide) (fun K hK => ?_)
     refine goes_ Try.func34 (by kernel_rfl) rfl #[.agg #[.int .i64 t543, .slice Ao55 t544.length co55], .agg #[.int .i64 t547, .slice Ao62 t548.length co62]] (by rfl) rfl rfl al_ ?_
     with_reducible refine (spec_ResSame.calls k t543 _ _ t544 t547 _ _ t548 t560 _ ?side1 ?side2 ?side3 ?side4 A82.out).mono ?_
     (case side1 => repeat (first | exact (Kd.R_reads' HO546.out).2.2 | (with_reducible refine Kd.C_alloc ?_ _) | (with_reducible refine Kd.C_drewN ?_ _) | (with_reducible refine Kd.C_drew ?_)))
     (case side2 => exact (Kd.R_reads' HO546.out).2.1)
     (case side3 => repeat (first | exact (Kd.R_reads' HO550.out).2.2 | (with_reducible refine Kd.C_alloc ?_ _) | (with_reducible refine Kd.C_drewN ?_ _) | (with_reducible refine Kd.C_drew ?_)))
     (case side4 => exact (Kd.R_reads' HO550.out).2.1)
     rintro e w88 ⟨rfl, hb⟩
     refine ⟨_, rfl, ?_⟩
     replace HO520 := A_ (Kd.R_below (rb_ HO520.out) hb)
     replace HO528 := A_ (Kd.R_below (rb_ HO528.out) hb)
     replace HO535 := A_ (Kd.R_below (rb_ HO535.out) hb)
     replace HO540 := A_ (Kd.R_below (rb_ HO540.out) hb)
     replace HO546 := A_ (Kd.R_below (rb_ HO546.out) hb)
     replace HO550 := A_ (Kd.R_below (rb_ HO550.out) hb)
     replace BK529 := bb_ BK529 hb
     replace BK530 := bb_ BK530 hb
     replace BK531 := bb_ BK531 hb
     replace BK537 := bb_ BK537 hb
     replace BK542 := bb_ BK542 hb
     replace BK551 := bb_ BK551 hb
     replace BK552 := bb_ BK552 hb
     replace BK556 := bb_ BK556 hb
     replace HB := hs_ HB hb
     (try clear hb)
     (try clear hb2)
     (try clear hk)
     (try clear hi)
     refine hK.out _ _ ⟨(blk_cell BK529.out 0).trans rfl, (blk_cell BK529.out 1).trans rfl, (blk_cell BK530.out 0).trans rfl, (blk_cell BK530.out 1).trans rfl, (blk_cell BK530.out 2).trans rfl, (blk_cell BK531.out 0).trans rfl, (blk_cell BK531.out 1).trans rfl, (blk_cell BK537.out 0).trans rfl, (blk_cell BK537.out 1).trans rfl, (blk_cell BK542.out 0).trans rfl, (blk_cell BK542.out 1).trans rfl, (blk_cell BK551.out 0).trans rfl, (blk_cell BK551.out 1).trans rfl, (blk_cell BK552.out 0).trans rfl, (blk_cell BK552.out 1).trans rfl⟩ (fun hHeld => ?_)
     clear hK K
     refine norm_ (a' := ?_) ?_ ?_
     rotate_left
     ·
      show Act.put _ (some 66) _ = _
      simp only [Act.put, List.setIfInBounds_toArray, List.set_cons_zero, List.set_cons_succ, i64_w, i32_w]
      rfl
     refine pu_ 28 67 (bt_ 536870911 37) ?_
     refine pu_ 29 68 (bt_ 1073741823 37) ?_
     refine pu_ 30 69 (bt_ 2147483647 37) ?_
     refine pn_ 31 70 (bt_ 4294967295 37) ?_
     refine pn_ 32 71 (bt_ 8589934591 37) ?_
     refine pn_ 33 72 (bt_ 17179869183 37) ?_
     refine pn_ 34 73 (bt_ 34359738367 37) ?_
     refine pn_ 35 74 (bt_ 68719476735 37) ?_
     refine pu_ 36 75 (bt_ 137438953471 37) ?_
     refine done_ (done_of HT_.out (by kernel_rfl)) ?_
     try go_wp2
     go_meet
     case rel => exact ⟨_, (true), rt_, H', ⟨by first | omega | exact Nat.le_refl _⟩, ⟨rb_ HO520.out⟩, ⟨rb_ HO528.out⟩, ⟨rb_ HO535.out⟩, ⟨rb_ HO540.out⟩, ⟨rb_ HO546.out⟩, ⟨rb_ HO550.out⟩, ⟨bk_ BK529⟩, ⟨bk_ BK530⟩, ⟨bk_ BK531⟩, ⟨bk_ BK537⟩, ⟨bk_ BK542⟩, ⟨bk_ BK551⟩, ⟨bk_ BK552⟩, ⟨bk_ BK556⟩, ⟨hb_ HB⟩⟩
    rw [if_neg c83] at H
    have c83b0 : (t559 != t560) = false := by simpa using c83
    (try (have c83b1 : decide (t559 = t560) = true := by simpa using c83))
    (try (have c83b2 : (t559 == t560) = true := by simpa using c83))
    clear c83
    replace H := bs_ H
    obtain ⟨t561, A89, H⟩ := H
    replace H := bs_ H
    obtain ⟨t562, A90, H⟩ := H
    replace H' := A_ H; clear H
    try go_wp2
    have n0_ : Aside0 (Kd.R (Kd.int .i64) 3 (((w64.setCell ⟨gb556, 0, none⟩ (.int .i64 t553)).setCell ⟨gb556, 1, none⟩ (.int .i64 t554)).setCell ⟨gb556, 2, none⟩ (.int .i64 t555)) w.heap.size (fun k_ => some k_ ≠ (.slice Ao22 t526.length co22 : Value).ownBlock ∧ some k_ ≠ (.slice Ao29 t533.length co29 : Value).ownBlock ∧ some k_ ≠ (.slice Ao39 t538.length co39 : Value).ownBlock ∧ some k_ ≠ (.slice Ao55 t544.length co55 : Value).ownBlock ∧ some k_ ≠ (.slice Ao62 t548.length co62 : Value).ownBlock) (.slice Ao15 t518.length co15) t518) := ⟨by (with_reducible repeat (first | apply Kd.R_alloc | apply Kd.R_drewN | apply Kd.R_drew)); exact Kd.R_mono (Kd.R_far (p := ⟨gb556, 2, none⟩) (Kd.R_far (p := ⟨gb556, 1, none⟩) (Kd.R_far (p := ⟨gb556, 0, none⟩) (Kd.R_types HO520.out BK556.out (by decide)) (fun _ hk => hk.2) (.int .i64 t553)) (fun _ hk => hk.2) (.int .i64 t554)) (fun _ hk => hk.2) (.int .i64 t555)) (fun _ hk => ⟨hk.1.1.1.1.1, ⟨hk.1.1.1.1.2, ⟨hk.1.1.1.2, ⟨hk.1.1.2, hk.1.2⟩⟩⟩⟩)⟩
    have n1_ : Aside0 (Kd.R (Kd.int .i64) 3 (((w64.setCell ⟨gb556, 0, none⟩ (.int .i64 t553)).setCell ⟨gb556, 1, none⟩ (.int .i64 t554)).setCell ⟨gb556, 2, none⟩ (.int .i64 t555)) w.heap.size (fun k_ => some k_ ≠ (.slice Ao15 t518.length co15 : Value).ownBlock ∧ some k_ ≠ (.slice Ao29 t533.length co29 : Value).ownBlock ∧ some k_ ≠ (.slice Ao39 t538.length co39 : Value).ownBlock ∧ some k_ ≠ (.slice Ao55 t544.length co55 : Value).ownBlock ∧ some k_ ≠ (.slice Ao62 t548.length co62 : Value).ownBlock) (.slice Ao22 t526.length co22) t526) := ⟨by (with_reducible repeat (first | apply Kd.R_alloc | apply Kd.R_drewN | apply Kd.R_drew)); exact Kd.R_mono (Kd.R_far (p := ⟨gb556, 2, none⟩) (Kd.R_far (p := ⟨gb556, 1, none⟩) (Kd.R_far (p := ⟨gb556, 0, none⟩) (Kd.R_types HO528.out BK556.out (by decide)) (fun _ hk => hk.2) (.int .i64 t553)) (fun _ hk => hk.2) (.int .i64 t554)) (fun _ hk => hk.2) (.int .i64 t555)) (fun _ hk => ⟨hk.1.1.1.1.1, ⟨hk.1.1.1.1.2, ⟨hk.1.1.1.2, ⟨hk.1.1.2, hk.1.2⟩⟩⟩⟩)⟩
    have n2_ : Aside0 (Kd.R (Kd.int .i64) 3 (((w64.setCell ⟨gb556, 0, none⟩ (.int .i64 t553)).setCell ⟨gb556, 1, none⟩ (.int .i64 t554)).setCell ⟨gb556, 2, none⟩ (.int .i64 t555)) w.heap.size (fun k_ => some k_ ≠ (.slice Ao15 t518.length co15 : Value).ownBlock ∧ some k_ ≠ (.slice Ao22 t526.length co22 : Value).ownBlock ∧ some k_ ≠ (.slice Ao39 t538.length co39 : Value).ownBlock ∧ some k_ ≠ (.slice Ao55 t544.length co55 : Value).ownBlock ∧ some k_ ≠ (.slice Ao62 t548.length co62 : Value).ownBlock) (.slice Ao29 t533.length co29) t533) := ⟨by (with_reducible repeat (first | apply Kd.R_alloc | apply Kd.R_drewN | apply Kd.R_drew)); exact Kd.R_mono (Kd.R_far (p := ⟨gb556, 2, none⟩) (Kd.R_far (p := ⟨gb556, 1, none⟩) (Kd.R_far (p := ⟨gb556, 0, none⟩) (Kd.R_types HO535.out BK556.out (by decide)) (fun _ hk => hk.2) (.int .i64 t553)) (fun _ hk => hk.2) (.int .i64 t554)) (fun _ hk => hk.2) (.int .i64 t555)) (fun _ hk => ⟨hk.1.1.1.1.1.2, ⟨hk.1.1.1.1.2, ⟨hk.1.1.1.2, ⟨hk.1.1.2, hk.1.2⟩⟩⟩⟩)⟩
    have n3_ : Aside0 (Kd.R (Kd.int .i64) 3 (((w64.setCell ⟨gb556, 0, none⟩ (.int .i64 t553)).setCell ⟨gb556, 1, none⟩ (.int .i64 t554)).setCell ⟨gb556, 2, none⟩ (.int .i64 t555)) w.heap.size (fun k_ => some k_ ≠ (.slice Ao15 t518.length co15 : Value).ownBlock ∧ some k_ ≠ (.slice Ao22 t526.length co22 : Value).ownBlock ∧ some k_ ≠ (.slice Ao29 t533.length co29 : Value).ownBlock ∧ some k_ ≠ (.slice Ao55 t544.length co55 : Value).ownBlock ∧ some k_ ≠ (.slice Ao62 t548.length co62 : Value).ownBlock) (.slice Ao39 t538.length co39) t538) := ⟨by (with_reducible repeat (first | apply Kd.R_alloc | apply Kd.R_drewN | apply Kd.R_drew)); exact Kd.R_mono (Kd.R_far (p := ⟨gb556, 2, none⟩) (Kd.R_far (p := ⟨gb556, 1, none⟩) (Kd.R_far (p := ⟨gb556, 0, none⟩) (Kd.R_types HO540.out BK556.out (by decide)) (fun _ hk => hk.2) (.int .i64 t553)) (fun _ hk => hk.2) (.int .i64 t554)) (fun _ hk => hk.2) (.int .i64 t555)) (fun _ hk => ⟨hk.1.1.1.1.1.2, ⟨hk.1.1.1.1.2, ⟨hk.1.1.1.2, ⟨hk.1.1.2, hk.1.2⟩⟩⟩⟩)⟩
    have n4_ : Aside0 (Kd.R (Kd.int .i64) 3 (((w64.setCell ⟨gb556, 0, none⟩ (.int .i64 t553)).setCell ⟨gb556, 1, none⟩ (.int .i64 t554)).setCell ⟨gb556, 2, none⟩ (.int .i64 t555)) w.heap.size (fun k_ => some k_ ≠ (.slice Ao15 t518.length co15 : Value).ownBlock ∧ some k_ ≠ (.slice Ao22 t526.length co22 : Value).ownBlock ∧ some k_ ≠ (.slice Ao29 t533.length co29 : Value).ownBlock ∧ some k_ ≠ (.slice Ao39 t538.length co39 : Value).ownBlock ∧ some k_ ≠ (.slice Ao62 t548.length co62 : Value).ownBlock) (.slice Ao55 t544.length co55) t544) := ⟨by (with_reducible repeat (first | apply Kd.R_alloc | apply Kd.R_drewN | apply Kd.R_drew)); exact Kd.R_mono (Kd.R_far (p := ⟨gb556, 2, none⟩) (Kd.R_far (p := ⟨gb556, 1, none⟩) (Kd.R_far (p := ⟨gb556, 0, none⟩) (Kd.R_types HO546.out BK556.out (by decide)) (fun _ hk => hk.2) (.int .i64 t553)) (fun _ hk => hk.2) (.int .i64 t554)) (fun _ hk => hk.2) (.int .i64 t555)) (fun _ hk => ⟨hk.1.1.1.1.2, ⟨hk.1.1.1.2, ⟨hk.1.1.2, ⟨hk.1.2, hk.1.1.1.1.1⟩⟩⟩⟩)⟩
    have n5_ : Aside0 (Kd.R (Kd.int .i64) 3 (((w64.setCell ⟨gb556, 0, none⟩ (.int .i64 t553)).setCell ⟨gb556, 1, none⟩ (.int .i64 t554)).setCell ⟨gb556, 2, none⟩ (.int .i64 t555)) w.heap.size (fun k_ => some k_ ≠ (.slice Ao15 t518.length co15 : Value).ownBlock ∧ some k_ ≠ (.slice Ao22 t526.length co22 : Value).ownBlock ∧ some k_ ≠ (.slice Ao29 t533.length co29 : Value).ownBlock ∧ some k_ ≠ (.slice Ao39 t538.length co39 : Value).ownBlock ∧ some k_ ≠ (.slice Ao55 t544.length co55 : Value).ownBlock) (.slice Ao62 t548.length co62) t548) := ⟨by (with_reducible repeat (first | apply Kd.R_alloc | apply Kd.R_drewN | apply Kd.R_drew)); exact Kd.R_mono (Kd.R_far (p := ⟨gb556, 2, none⟩) (Kd.R_far (p := ⟨gb556, 1, none⟩) (Kd.R_far (p := ⟨gb556, 0, none⟩) (Kd.R_types HO550.out BK556.out (by decide)) (fun _ hk => hk.2) (.int .i64 t553)) (fun _ hk => hk.2) (.int .i64 t554)) (fun _ hk => hk.2) (.int .i64 t555)) (fun _ hk => ⟨hk.1.1.1.1.2, ⟨hk.1.1.1.2, ⟨hk.1.1.2, ⟨hk.1.2, hk.1.1.1.1.1⟩⟩⟩⟩)⟩
    have n6_ : Aside0 ((((w64.setCell ⟨gb556, 0, none⟩ (.int .i64 t553)).setCell ⟨gb556, 1, none⟩ (.int .i64 t554)).setCell ⟨gb556, 2, none⟩ (.int .i64 t555)).heap[gb529]? = some (.cells #[.slice Ao15 t518.length co15, .int .i64 t521] 44 (0, 0))) := ⟨bk_ BK529⟩
    have n7_ : Aside0 ((((w64.setCell ⟨gb556, 0, none⟩ (.int .i64 t553)).setCell ⟨gb556, 1, none⟩ (.int .i64 t554)).setCell ⟨gb556, 2, none⟩ (.int .i64 t555)).heap[gb530]? = some (.cells #[.int .i64 t522, .int .i64 t523, .int .i64 t524] 47 (0, 0))) := ⟨bk_ BK530⟩
    have n8_ : Aside0 ((((w64.setCell ⟨gb556, 0, none⟩ (.int .i64 t553)).setCell ⟨gb556, 1, none⟩ (.int .i64 t554)).setCell ⟨gb556, 2, none⟩ (.int .i64 t555)).heap[gb531]? = some (.cells #[.int .i64 t525, .slice Ao22 t526.length co22] 49 (0, 0))) := ⟨bk_ BK531⟩
    have n9_ : Aside0 ((((w64.setCell ⟨gb556, 0, none⟩ (.int .i64 t553)).setCell ⟨gb556, 1, none⟩ (.int .i64 t554)).setCell ⟨gb556, 2, none⟩ (.int .i64 t555)).heap[gb537]? = some (.cells #[.slice Ao29 t533.length co29, .int .i64 t536] 44 (0, 0))) := ⟨bk_ BK537⟩
    have n10_ : Aside0 ((((w64.setCell ⟨gb556, 0, none⟩ (.int .i64 t553)).setCell ⟨gb556, 1, none⟩ (.int .i64 t554)).setCell ⟨gb556, 2, none⟩ (.int .i64 t555)).heap[gb542]? = some (.cells #[.slice Ao39 t538.length co39, .int .i64 t541] 44 (0, 0))) := ⟨bk_ BK542⟩
    have n11_ : Aside0 ((((w64.setCell ⟨gb556, 0, none⟩ (.int .i64 t553)).setCell ⟨gb556, 1, none⟩ (.int .i64 t554)).setCell ⟨gb556, 2, none⟩ (.int .i64 t555)).heap[gb551]? = some (.cells #[.int .i64 t543, .slice Ao55 t544.length co55] 49 (0, 0))) := ⟨bk_ BK551⟩
    have n12_ : Aside0 ((((w64.setCell ⟨gb556, 0, none⟩ (.int .i64 t553)).setCell ⟨gb556, 1, none⟩ (.int .i64 t554)).setCell ⟨gb556, 2, none⟩ (.int .i64 t555)).heap[gb552]? = some (.cells #[.int .i64 t547, .slice Ao62 t548.length co62] 49 (0, 0))) := ⟨bk_ BK552⟩
    have n13_ : Aside0 ((((w64.setCell ⟨gb556, 0, none⟩ (.int .i64 t553)).setCell ⟨gb556, 1, none⟩ (.int .i64 t554)).setCell ⟨gb556, 2, none⟩ (.int .i64 t555)).heap[gb556]? = some (.cells #[.int .i64 t553, .int .i64 t554, .int .i64 t555] 47 (0, 0))) := ⟨bp_ BK556⟩
    have n14_ : Aside0 (Below w.heap.size w (((w64.setCell ⟨gb556, 0, none⟩ (.int .i64 t553)).setCell ⟨gb556, 1, none⟩ (.int .i64 t554)).setCell ⟨gb556, 2, none⟩ (.int .i64 t555))) := ⟨hb_ HB⟩
    (try clear HO520)
    (try clear HO528)
    (try clear HO535)
    (try clear HO540)
    (try clear HO546)
    (try clear HO550)
    (try clear BK529)
    (try clear BK530)
    (try clear BK531)
    (try clear BK537)
    (try clear BK542)
    (try clear BK551)
    (try clear BK552)
    (try clear BK556)
    (try clear HB)
    generalize (((w64.setCell ⟨gb556, 0, none⟩ (.int .i64 t553)).setCell ⟨gb556, 1, none⟩ (.int .i64 t554)).setCell ⟨gb556, 2, none⟩ (.int .i64 t555)) = w91 at n0_ n1_ n2_ n3_ n4_ n5_ n6_ n7_ n8_ n9_ n10_ n11_ n12_ n13_ n14_ ⊢
    have HO520 := n0_
    have HO528 := n1_
    have HO535 := n2_
    have HO540 := n3_
    have HO546 := n4_
    have HO550 := n5_
    have BK529 := n6_
    have BK530 := n7_
    have BK531 := n8_
    have BK537 := n9_
    have BK542 := n10_
    have BK551 := n11_
    have BK552 := n12_
    have BK556 := n13_
    have HB := n14_
    clear n0_ n1_ n2_ n3_ n4_ n5_ n6_ n7_ n8_ n9_ n10_ n11_ n12_ n13_ n14_
    replace HO520 := A_ (Kd.R_drew HO520.out)
    replace HO528 := A_ (Kd.R_drew HO528.out)
    replace HO535 := A_ (Kd.R_drew HO535.out)
    replace HO540 := A_ (Kd.R_drew HO540.out)
    replace HO546 := A_ (Kd.R_drew HO546.out)
    replace HO550 := A_ (Kd.R_drew HO550.out)
    replace BK529 := A_ (blk_drew BK529.out)
    replace BK530 := A_ (blk_drew BK530.out)
    replace BK531 := A_ (blk_drew BK531.out)
    replace BK537 := A_ (blk_drew BK537.out)
    replace BK542 := A_ (blk_drew BK542.out)
    replace BK551 := A_ (blk_drew BK551.out)
    replace BK552 := A_ (blk_drew BK552.out)
    replace BK556 := A_ (blk_drew BK556.out)
    replace HB := A_ (below_drew1 HB.out)
    refine start_ (n := 37) (S := fun w' => w'.cell? ⟨gb529, 0, none⟩ = some (.slice Ao15 t518.length co15) ∧ w'.cell? ⟨gb529, 1, none⟩ = some (.int .i64 t521) ∧ w'.cell? ⟨gb530, 0, none⟩ = some (.int .i64 t522) ∧ w'.cell? ⟨gb530, 1, none⟩ = some (.int .i64 t523) ∧ w'.cell? ⟨gb530, 2, none⟩ = some (.int .i64 t524) ∧ w'.cell? ⟨gb531, 0, none⟩ = some (.int .i64 t525) ∧ w'.cell? ⟨gb531, 1, none⟩ = some (.slice Ao22 t526.length co22) ∧ w'.cell? ⟨gb537, 0, none⟩ = some (.slice Ao29 t533.length co29) ∧ w'.cell? ⟨gb537, 1, none⟩ = some (.int .i64 t536) ∧ w'.cell? ⟨gb542, 0, none⟩ = some (.slice Ao39 t538.length co39) ∧ w'.cell? ⟨gb542, 1, none⟩ = some (.int .i64 t541) ∧ w'.cell? ⟨gb551, 0, none⟩ = some (.int .i64 t543) ∧ w'.cell? ⟨gb551, 1, none⟩ = some (.slice Ao55 t544.length co55) ∧ w'.cell? ⟨gb552, 0, none⟩ = some (.int .i64 t547) ∧ w'.cell? ⟨gb552, 1, none⟩ = some (.slice Ao62 t548.length co62) ∧ w'.cell? ⟨gb556, 0, none⟩ = some (.int .i64 t553) ∧ w'.cell? ⟨gb556, 1, none⟩ = some (.int .i64 t554) ∧ w'.cell? ⟨gb556, 2, none⟩ = some (.int .i64 t555)) (ds := []) (bt_ 0 37) (by kernel_rfl) rfl rfl ⟨(blk_cell BK529.out 0).trans rfl, (blk_cell BK529.out 1).trans rfl, (blk_cell BK530.out 0).trans rfl, (blk_cell BK530.out 1).trans rfl, (blk_cell BK530.out 2).trans rfl, (blk_cell BK531.out 0).trans rfl, (blk_cell BK531.out 1).trans rfl, (blk_cell BK537.out 0).trans rfl, (blk_cell BK537.out 1).trans rfl, (blk_cell BK542.out 0).trans rfl, (blk_cell BK542.out 1).trans rfl, (blk_cell BK551.out 0).trans rfl, (blk_cell BK551.out 1).trans rfl, (blk_cell BK552.out 0).trans rfl, (blk_cell BK552.out 1).trans rfl, (blk_cell BK556.out 0).trans rfl, (blk_cell BK556.out 1).trans rfl, (blk_cell BK556.out 2).trans rfl⟩ (fun hHeld => ?_); refine with_tabW laws_FnAllowed.tab9 laws_FnAllowed.bits9 (fun HT_ HW_ => ?_)
    generalize w91.drew = w92 at HO520 HO528 HO535 HO540 HO546 HO550 BK529 BK530 BK531 BK537 BK542 BK551 BK552 BK556 HB hHeld ⊢
    refine pu_ 0 39 (bt_ 1 37) ?_
    refine tk18_ 1 40 (bt_ 3 37) hHeld ?_
    refine tk18_ 2 41 (bt_ 7 37) hHeld ?_
    refine tk18_ 3 42 (bt_ 15 37) hHeld ?_
    refine one_ (i := 4) (N := some 43) (bt_ 31 37) rfl rfl (one_of HT_.out (by kernel_rfl)) (by decide) (fun K hK => ?_)
    refine goes_ Try.func31 (by kernel_rfl) rfl #[.agg #[.slice Ao15 t518.length co15, .int .i64 t521], .agg #[.int .i64 t522, .int .i64 t523, .int .i64 t524], .agg #[.int .i64 t525, .slice Ao22 t526.length co22]] (by rfl) rfl rfl al_ ?_
    with_reducible refine (spec_Allowed.calls k _ _ t518 t521 t522 t523 t524 t525 _ _ t526 t557 _ ?side1 ?side2 ?side3 ?side4 A73.out).mono ?_
    (case side1 => repeat (first | exact (Kd.R_reads' HO520.out).2.2 | (with_reducible refine Kd.C_alloc ?_ _) | (with_reducible refine Kd.C_drewN ?_ _) | (with_reducible refine Kd.C_drew ?_)))
    (case side2 => exact (Kd.R_reads' HO520.out).2.1)
    (case side3 => repeat (first | exact (Kd.R_reads' HO528.out).2.2 | (with_reducible refine Kd.C_alloc ?_ _) | (with_reducible refine Kd.C_drewN ?_ _) | (with_reducible refine Kd.C_drew ?_)))
    (case side4 => exact (Kd.R_reads' HO528.out).2.1)
    rintro e w93 ⟨rfl, hb⟩
    refine ⟨_, rfl, ?_⟩
    replace HO520 := A_ (Kd.R_below (rb_ HO520.out) hb)
    replace HO528 := A_ (Kd.R_below (rb_ HO528.out) hb)
    replace HO535 := A_ (Kd.R_below (rb_ HO535.out) hb)
    replace HO540 := A_ (Kd.R_below (rb_ HO540.out) hb)
    replace HO546 := A_ (Kd.R_below (rb_ HO546.out) hb)
    replace HO550 := A_ (Kd.R_below (rb_ HO550.out) hb)
    replace BK529 := bb_ BK529 hb
    replace BK530 := bb_ BK530 hb
    replace BK531 := bb_ BK531 hb
    replace BK537 := bb_ BK537 hb
    replace BK542 := bb_ BK542 hb
    replace BK551 := bb_ BK551 hb
    replace BK552 := bb_ BK552 hb
    replace BK556 := bb_ BK556 hb
    replace HB := hs_ HB hb
    (try clear hb)
    (try clear hb2)
    (try clear hk)
    (try clear hi)
    refine hK.out _ _ ⟨(blk_cell BK529.out 0).trans rfl, (blk_cell BK529.out 1).trans rfl, (blk_cell BK530.out 0).trans rfl, (blk_cell BK530.out 1).trans rfl, (blk_cell BK530.out 2).trans rfl, (blk_cell BK531.out 0).trans rfl, (blk_cell BK531.out 1).trans rfl, (blk_cell BK537.out 0).trans rfl, (blk_cell BK537.out 1).trans rfl, (blk_cell BK542.out 0).trans rfl, (blk_cell BK542.out 1).trans rfl, (blk_cell BK551.out 0).trans rfl, (blk_cell BK551.out 1).trans rfl, (blk_cell BK552.out 0).trans rfl, (blk_cell BK552.out 1).trans rfl, (blk_cell BK556.out 0).trans rfl, (blk_cell BK556.out 1).trans rfl, (blk_cell BK556.out 2).trans rfl⟩ (fun hHeld => ?_)
    clear hK K
    refine norm_ (a' := ?_) ?_ ?_
    rotate_left
    ·
     show Act.put _ (some 43) _ = _
     simp only [Act.put, List.setIfInBounds_toArray, List.set_cons_zero, List.set_cons_succ, i64_w, i32_w]
     rfl
    refine pu_ 5 44 (bt_ 63 37) ?_
    refine pu_ 6 45 (bt_ 127 37) ?_
    refine pu_ 7 46 (bt_ 255 37) ?_
    refine pu_ 9 48 (bt_ 767 37) ?_
    refine tk18_ 8 47 (bt_ 1023 37) hHeld ?_
    refine tk18_ 10 49 (bt_ 2047 37) hHeld ?_
    refine one_ (i := 11) (N := some 50) (bt_ 4095 37) rfl rfl (one_of HT_.out (by kernel_rfl)) (by decide) (fun K hK => ?_)
    refine goes_ Try.func32 (by kernel_rfl) rfl #[.slice Ao29 t533.length co29, .slice Ao39 t538.length co39] (by rfl) rfl rfl al_ ?_
    with_reducible refine (laws_sameInts.calls k _ _ t533 _ _ t538 true _ ?side1 ?side2 ?side3 ?side4 A78.out).mono ?_
    (case side1 => repeat (first | exact (Kd.R_reads' HO535.out).2.2 | (with_reducible refine Kd.C_alloc ?_ _) | (with_reducible refine Kd.C_drewN ?_ _) | (with_reducible refine Kd.C_drew ?_)))
    (case side2 => exact (Kd.R_reads' HO535.out).2.1)
    (case side3 => repeat (first | exact (Kd.R_reads' HO540.out).2.2 | (with_reducible refine Kd.C_alloc ?_ _) | (with_reducible refine Kd.C_drewN ?_ _) | (with_reducible refine Kd.C_drew ?_)))
    (case side4 => exact (Kd.R_reads' HO540.out).2.1)
    rintro e w' ⟨rfl, ⟨nd, rfl⟩⟩
    refine ⟨_, rfl, ?_⟩
    refine hK.out _ _ ⟨(blk_cell BK529.out 0).trans rfl, (blk_cell BK529.out 1).trans rfl, (blk_cell BK530.out 0).trans rfl, (blk_cell BK530.out 1).trans rfl, (blk_cell BK530.out 2).trans rfl, (blk_cell BK531.out 0).trans rfl, (blk_cell BK531.out 1).trans rfl, (blk_cell BK537.out 0).trans rfl, (blk_cell BK537.out 1).trans rfl, (blk_cell BK542.out 0).trans rfl, (blk_cell BK542.out 1).trans rfl, (blk_cell BK551.out 0).trans rfl, (blk_cell BK551.out 1).trans rfl, (blk_cell BK552.out 0).trans rfl, (blk_cell BK552.out 1).trans rfl, (blk_cell BK556.out 0).trans rfl, (blk_cell BK556.out 1).trans rfl, (blk_cell BK556.out 2).trans rfl⟩ (fun hHeld => ?_)
    clear hK K
    refine norm_ (a' := ?_) ?_ ?_
    rotate_left
    ·
     show Act.put _ (some 50) _ = _
     simp only [Act.put, List.setIfInBounds_toArray, List.set_cons_zero, List.set_cons_succ, i64_w, i32_w]
     rfl
    refine pu_ 12 51 (bt_ 8191 37) ?_
    refine pu_ 13 52 (bt_ 16383 37) ?_
    refine pu_ 14 53 (bt_ 32767 37) ?_
    refine pu_ 15 54 (bt_ 65535 37) ?_
    refine pu_ 17 56 (bt_ 196607 37) ?_
    refine tk18_ 16 55 (bt_ 262143 37) hHeld ?_
    refine tk18_ 18 57 (bt_ 524287 37) hHeld ?_
    refine pu_ 19 58 (bt_ 1048575 37) ?_
    refine pu_ 20 59 (bt_ 2097151 37) ?_
    refine pu_ 21 60 (bt_ 4194303 37) ?_
    refine tk18_ 22 61 (bt_ 8388607 37) hHeld ?_
    refine tk18_ 23 62 (bt_ 16777215 37) hHeld ?_
    refine tk18_ 25 64 (bt_ 50331647 37) hHeld ?_
    refine tk18_ 26 65 (bt_ 117440511 37) hHeld ?_
    refine one_ (i := 24) (N := some 63) (bt_ 134217727 37) rfl rfl (one_of HT_.out (by kernel_rfl)) (by decide) (fun K hK => ?_)
    refine goes_ Try.func33 (by kernel_rfl) rfl #[.agg #[.int .i64 t543, .slice Ao55 t544.length co55], .agg #[.int .i64 t547, .slice Ao62 t548.length co62]] (by rfl) rfl rfl al_ ?_
    with_reducible refine (impl_ResSame.calls k t543 _ _ t544 t547 _ _ t548 t559 _ ?side1 ?side2 ?side3 ?side4 A81.out).mono ?_
    (case side1 => repeat (first | exact (Kd.R_reads' HO546.out).2.2 | (with_reducible refine Kd.C_alloc ?_ _) | (with_reducible refine Kd.C_drewN ?_ _) | (with_reducible refine Kd.C_drew ?_)))
    (case side2 => exact (Kd.R_reads' HO546.out).2.1)
    (case side3 => repeat (first | exact (Kd.R_reads' HO550.out).2.2 | (with_reducible refine Kd.C_alloc ?_ _) | (with_reducible refine Kd.C_drewN ?_ _) | (with_reducible refine Kd.C_drew ?_)))
    (case side4 => exact (Kd.R_reads' HO550.out).2.1)
    rintro e w94 ⟨rfl, hb⟩
    refine ⟨_, rfl, ?_⟩
    replace HO520 := A_ (Kd.R_below (rb_ HO520.out) hb)
    replace HO528 := A_ (Kd.R_below (rb_ HO528.out) hb)
    replace HO535 := A_ (Kd.R_below (rb_ HO535.out) hb)
    replace HO540 := A_ (Kd.R_below (rb_ HO540.out) hb)
    replace HO546 := A_ (Kd.R_below (rb_ HO546.out) hb)
    replace HO550 := A_ (Kd.R_below (rb_ HO550.out) hb)
    replace BK529 := bb_ BK529 hb
    replace BK530 := bb_ BK530 hb
    replace BK531 := bb_ BK531 hb
    replace BK537 := bb_ BK537 hb
    replace BK542 := bb_ BK542 hb
    replace BK551 := bb_ BK551 hb
    replace BK552 := bb_ BK552 hb
    replace BK556 := bb_ BK556 hb
    replace HB := hs_ HB hb
    (try clear hb)
    (try clear hb2)
    (try clear hk)
    (try clear hi)
    refine hK.out _ _ ⟨(blk_cell BK529.out 0).trans rfl, (blk_cell BK529.out 1).trans rfl, (blk_cell BK530.out 0).trans rfl, (blk_cell BK530.out 1).trans rfl, (blk_cell BK530.out 2).trans rfl, (blk_cell BK531.out 0).trans rfl, (blk_cell BK531.out 1).trans rfl, (blk_cell BK537.out 0).trans rfl, (blk_cell BK537.out 1).trans rfl, (blk_cell BK542.out 0).trans rfl, (blk_cell BK542.out 1).trans rfl, (blk_cell BK551.out 0).trans rfl, (blk_cell BK551.out 1).trans rfl, (blk_cell BK552.out 0).trans rfl, (blk_cell BK552.out 1).trans rfl, (blk_cell BK556.out 0).trans rfl, (blk_cell BK556.out 1).trans rfl, (blk_cell BK556.out 2).trans rfl⟩ (fun hHeld => ?_)
    clear hK K
    refine norm_ (a' := ?_) ?_ ?_
    rotate_left
    ·
     show Act.put _ (some 63) _ = _
     simp only [Act.put, List.setIfInBounds_toArray, List.set_cons_zero, List.set_cons_succ, i64_w, i32_w]
     rfl
    refine one_ (i := 27) (N := some 66) (bt_ 268435455 37) rfl rfl (one_of HT_.out (by kernel_rfl)) (by decide) (fun K hK => ?_)
    refine goes_ Try.func34 (by kernel_rfl) rfl #[.agg #[.int .i64 t543, .slice Ao55 t544.length co55], .agg #[.int .i64 t547, .slice Ao62 t548.length co62]] (by rfl) rfl rfl al_ ?_
    with_reducible refine (spec_ResSame.calls k t543 _ _ t544 t547 _ _ t548 t560 _ ?side1 ?side2 ?side3 ?side4 A82.out).mono ?_
    (case side1 => repeat (first | exact (Kd.R_reads' HO546.out).2.2 | (with_reducible refine Kd.C_alloc ?_ _) | (with_reducible refine Kd.C_drewN ?_ _) | (with_reducible refine Kd.C_drew ?_)))
    (case side2 => exact (Kd.R_reads' HO546.out).2.1)
    (case side3 => repeat (first | exact (Kd.R_reads' HO550.out).2.2 | (with_reducible refine Kd.C_alloc ?_ _) | (with_reducible refine Kd.C_drewN ?_ _) | (with_reducible refine Kd.C_drew ?_)))
    (case side4 => exact (Kd.R_reads' HO550.out).2.1)
    rintro e w95 ⟨rfl, hb⟩
    refine ⟨_, rfl, ?_⟩
    replace HO520 := A_ (Kd.R_below (rb_ HO520.out) hb)
    replace HO528 := A_ (Kd.R_below (rb_ HO528.out) hb)
    replace HO535 := A_ (Kd.R_below (rb_ HO535.out) hb)
    replace HO540 := A_ (Kd.R_below (rb_ HO540.out) hb)
    replace HO546 := A_ (Kd.R_below (rb_ HO546.out) hb)
    replace HO550 := A_ (Kd.R_below (rb_ HO550.out) hb)
    replace BK529 := bb_ BK529 hb
    replace BK530 := bb_ BK530 hb
    replace BK531 := bb_ BK531 hb
    replace BK537 := bb_ BK537 hb
    replace BK542 := bb_ BK542 hb
    replace BK551 := bb_ BK551 hb
    replace BK552 := bb_ BK552 hb
    replace BK556 := bb_ BK556 hb
    replace HB := hs_ HB hb
    (try clear hb)
    (try clear hb2)
    (try clear hk)
    (try clear hi)
    refine hK.out _ _ ⟨(blk_cell BK529.out 0).trans rfl, (blk_cell BK529.out 1).trans rfl, (blk_cell BK530.out 0).trans rfl, (blk_cell BK530.out 1).trans rfl, (blk_cell BK530.out 2).trans rfl, (blk_cell BK531.out 0).trans rfl, (blk_cell BK531.out 1).trans rfl, (blk_cell BK537.out 0).trans rfl, (blk_cell BK537.out 1).trans rfl, (blk_cell BK542.out 0).trans rfl, (blk_cell BK542.out 1).trans rfl, (blk_cell BK551.out 0).trans rfl, (blk_cell BK551.out 1).trans rfl, (blk_cell BK552.out 0).trans rfl, (blk_cell BK552.out 1).trans rfl, (blk_cell BK556.out 0).trans rfl, (blk_cell BK556.out 1).trans rfl, (blk_cell BK556.out 2).trans rfl⟩ (fun hHeld => ?_)
    clear hK K
    refine norm_ (a' := ?_) ?_ ?_
    rotate_left
    ·
     show Act.put _ (some 66) _ = _
     simp only [Act.put, List.setIfInBounds_toArray, List.set_cons_zero, List.set_cons_succ, i64_w, i32_w]
     rfl
    refine pu_ 28 67 (bt_ 536870911 37) ?_
    refine pu_ 29 68 (bt_ 1073741823 37) ?_
    refine pu_ 30 69 (bt_ 2147483647 37) ?_
    refine tk18_ 31 70 (bt_ 4294967295 37) hHeld ?_
    refine tk18_ 33 72 (bt_ 12884901887 37) hHeld ?_
    refine one_ (i := 32) (N := some 71) (bt_ 17179869183 37) rfl rfl (one_of HT_.out (by kernel_rfl)) (by decide) (fun K hK => ?_)
    refine goes_ Try.func35 (by kernel_rfl) rfl #[.agg #[.int .i64 t553, .int .i64 t554, .int .i64 t555]] (by rfl) rfl rfl al_ ?_
    with_reducible refine (impl_OpOk.calls k t553 t554 t555 t561 _ A89.out).mono ?_
    rintro e w96 ⟨rfl, hb⟩
    refine ⟨_, rfl, ?_⟩
    replace HO520 := A_ (Kd.R_below (rb_ HO520.out) hb)
    replace HO528 := A_ (Kd.R_below (rb_ HO528.out) hb)
    replace HO535 := A_ (Kd.R_below (rb_ HO535.out) hb)
    replace HO540 := A_ (Kd.R_below (rb_ HO540.out) hb)
    replace HO546 := A_ (Kd.R_below (rb_ HO546.out) hb)
    replace HO550 := A_ (Kd.R_below (rb_ HO550.out) hb)
    replace BK529 := bb_ BK529 hb
    replace BK530 := bb_ BK530 hb
    replace BK531 := bb_ BK531 hb
    replace BK537 := bb_ BK537 hb
    replace BK542 := bb_ BK542 hb
    replace BK551 := bb_ BK551 hb
    replace BK552 := bb_ BK552 hb
    replace BK556 := bb_ BK556 hb
    replace HB := hs_ HB hb
    (try clear hb)
    (try clear hb2)
    (try clear hk)
    (try clear hi)
    refine hK.out _ _ ⟨(blk_cell BK529.out 0).trans rfl, (blk_cell BK529.out 1).trans rfl, (blk_cell BK530.out 0).trans rfl, (blk_cell BK530.out 1).trans rfl, (blk_cell BK530.out 2).trans rfl, (blk_cell BK531.out 0).trans rfl, (blk_cell BK531.out 1).trans rfl, (blk_cell BK537.out 0).trans rfl, (blk_cell BK537.out 1).trans rfl, (blk_cell BK542.out 0).trans rfl, (blk_cell BK542.out 1).trans rfl, (blk_cell BK551.out 0).trans rfl, (blk_cell BK551.out 1).trans rfl, (blk_cell BK552.out 0).trans rfl, (blk_cell BK552.out 1).trans rfl, (blk_cell BK556.out 0).trans rfl, (blk_cell BK556.out 1).trans rfl, (blk_cell BK556.out 2).trans rfl⟩ (fun hHeld => ?_)
    clear hK K
    refine norm_ (a' := ?_) ?_ ?_
    rotate_left
    ·
     show Act.put _ (some 71) _ = _
     simp only [Act.put, List.setIfInBounds_toArray, List.set_cons_zero, List.set_cons_succ, i64_w, i32_w]
     rfl
    refine one_ (i := 34) (N := some 73) (bt_ 34359738367 37) rfl rfl (one_of HT_.out (by kernel_rfl)) (by decide) (fun K hK => ?_)
    refine goes_ Try.func36 (by kernel_rfl) rfl #[.agg #[.int .i64 t553, .int .i64 t554, .int .i64 t555]] (by rfl) rfl rfl al_ ?_
    with_reducible refine (spec_OpOk.calls k t553 t554 t555 t562 _ A90.out).mono ?_
    rintro e w97 ⟨rfl, hb⟩
    refine ⟨_, rfl, ?_⟩
    replace HO520 := A_ (Kd.R_below (rb_ HO520.out) hb)
    replace HO528 := A_ (Kd.R_below (rb_ HO528.out) hb)
    replace HO535 := A_ (Kd.R_below (rb_ HO535.out) hb)
    replace HO540 := A_ (Kd.R_below (rb_ HO540.out) hb)
    replace HO546 := A_ (Kd.R_below (rb_ HO546.out) hb)
    replace HO550 := A_ (Kd.R_below (rb_ HO550.out) hb)
    replace BK529 := bb_ BK529 hb
    replace BK530 := bb_ BK530 hb
    replace BK531 := bb_ BK531 hb
    replace BK537 := bb_ BK537 hb
    replace BK542 := bb_ BK542 hb
    replace BK551 := bb_ BK551 hb
    replace BK552 := bb_ BK552 hb
    replace BK556 := bb_ BK556 hb
    replace HB := hs_ HB hb
    (try clear hb)
    (try clear hb2)
    (try clear hk)
    (try clear hi)
    refine hK.out _ _ ⟨(blk_cell BK529.out 0).trans rfl, (blk_cell BK529.out 1).trans rfl, (blk_cell BK530.out 0).trans rfl, (blk_cell BK530.out 1).trans rfl, (blk_cell BK530.out 2).trans rfl, (blk_cell BK531.out 0).trans rfl, (blk_cell BK531.out 1).trans rfl, (blk_cell BK537.out 0).trans rfl, (blk_cell BK537.out 1).trans rfl, (blk_cell BK542.out 0).trans rfl, (blk_cell BK542.out 1).trans rfl, (blk_cell BK551.out 0).trans rfl, (blk_cell BK551.out 1).trans rfl, (blk_cell BK552.out 0).trans rfl, (blk_cell BK552.out 1).trans rfl, (blk_cell BK556.out 0).trans rfl, (blk_cell BK556.out 1).trans rfl, (blk_cell BK556.out 2).trans rfl⟩ (fun hHeld => ?_)
    clear hK K
    refine norm_ (a' := ?_) ?_ ?_
    rotate_left
    ·
     show Act.put _ (some 73) _ = _
     simp only [Act.put, List.setIfInBounds_toArray, List.set_cons_zero, List.set_cons_succ, i64_w, i32_w]
     rfl
    refine pu_ 35 74 (bt_ 68719476735 37) ?_
    refine pu_ 36 75 (bt_ 137438953471 37) ?_
    refine done_ (done_of HT_.out (by kernel_rfl)) ?_
    try go_wp2
    go_meet
    case rel => exact ⟨_, ((t561 != t562)), rt_, H', ⟨by first | omega | exact Nat.le_refl _⟩, ⟨rb_ HO520.out⟩, ⟨rb_ HO528.out⟩, ⟨rb_ HO535.out⟩, ⟨rb_ HO540.out⟩, ⟨rb_ HO546.out⟩, ⟨rb_ HO550.out⟩, ⟨bk_ BK529⟩, ⟨bk_ BK530⟩, ⟨bk_ BK531⟩, ⟨bk_ BK537⟩, ⟨bk_ BK542⟩, ⟨bk_ BK551⟩, ⟨bk_ BK552⟩, ⟨bk_ BK556⟩, ⟨hb_ HB⟩⟩
   rw [if_neg c80] at H
   have c80b0 : (t536 == t541) = false := beq_eq_false_iff_ne.mpr c80
   have c80b1 : (t536 != t541) = true := bne_iff_ne.mpr c80
   replace H' := A_ H; clear H
   try go_wp2
   have n0_ : Aside0 (Kd.R (Kd.int .i64) 3 (((w64.setCell ⟨gb556, 0, none⟩ (.int .i64 t553)).setCell ⟨gb556, 1, none⟩ (.int .i64 t554)).setCell ⟨gb556, 2, none⟩ (.int .i64 t555)) w.heap.size (fun k_ => some k_ ≠ (.slice Ao22 t526.length co22 : Value).ownBlock ∧ some k_ ≠ (.slice Ao29 t533.length co29 : Value).ownBlock ∧ some k_ ≠ (.slice Ao39 t538.length co39 : Value).ownBlock ∧ some k_ ≠ (.slice Ao55 t544.length co55 : Value).ownBlock ∧ some k_ ≠ (.slice Ao62 t548.length co62 : Value).ownBlock) (.slice Ao15 t518.length co15) t518) := ⟨by (with_reducible repeat (first | apply Kd.R_alloc | apply Kd.R_drewN | apply Kd.R_drew)); exact Kd.R_mono (Kd.R_far (p := ⟨gb556, 2, none⟩) (Kd.R_far (p := ⟨gb556, 1, none⟩) (Kd.R_far (p := ⟨gb556, 0, none⟩) (Kd.R_types HO520.out BK556.out (by decide)) (fun _ hk => hk.2) (.int .i64 t553)) (fun _ hk => hk.2) (.int .i64 t554)) (fun _ hk => hk.2) (.int .i64 t555)) (fun _ hk => ⟨hk.1.1.1.1.1, ⟨hk.1.1.1.1.2, ⟨hk.1.1.1.2, ⟨hk.1.1.2, hk.1.2⟩⟩⟩⟩)⟩
   have n1_ : Aside0 (Kd.R (Kd.int .i64) 3 (((w64.setCell ⟨gb556, 0, none⟩ (.int .i64 t553)).setCell ⟨gb556, 1, none⟩ (.int .i64 t554)).setCell ⟨gb556, 2, none⟩ (.int .i64 t555)) w.heap.size (fun k_ => some k_ ≠ (.slice Ao15 t518.length co15 : Value).ownBlock ∧ some k_ ≠ (.slice Ao29 t533.length co29 : Value).ownBlock ∧ some k_ ≠ (.slice Ao39 t538.length co39 : Value).ownBlock ∧ some k_ ≠ (.slice Ao55 t544.length co55 : Value).ownBlock ∧ some k_ ≠ (.slice Ao62 t548.length co62 : Value).ownBlock) (.slice Ao22 t526.length co22) t526) := ⟨by (with_reducible repeat (first | apply Kd.R_alloc | apply Kd.R_drewN | apply Kd.R_drew)); exact Kd.R_mono (Kd.R_far (p := ⟨gb556, 2, none⟩) (Kd.R_far (p := ⟨gb556, 1, none⟩) (Kd.R_far (p := ⟨gb556, 0, none⟩) (Kd.R_types HO528.out BK556.out (by decide)) (fun _ hk => hk.2) (.int .i64 t553)) (fun _ hk => hk.2) (.int .i64 t554)) (fun _ hk => hk.2) (.int .i64 t555)) (fun _ hk => ⟨hk.1.1.1.1.1, ⟨hk.1.1.1.1.2, ⟨hk.1.1.1.2, ⟨hk.1.1.2, hk.1.2⟩⟩⟩⟩)⟩
   have n2_ : Aside0 (Kd.R (Kd.int .i64) 3 (((w64.setCell ⟨gb556, 0, none⟩ (.int .i64 t553)).setCell ⟨gb556, 1, none⟩ (.int .i64 t554)).setCell ⟨gb556, 2, none⟩ (.int .i64 t555)) w.heap.size (fun k_ => some k_ ≠ (.slice Ao15 t518.length co15 : Value).ownBlock ∧ some k_ ≠ (.slice Ao22 t526.length co22 : Value).ownBlock ∧ some k_ ≠ (.slice Ao39 t538.length co39 : Value).ownBlock ∧ some k_ ≠ (.slice Ao55 t544.length co55 : Value).ownBlock ∧ some k_ ≠ (.slice Ao62 t548.length co62 : Value).ownBlock) (.slice Ao29 t533.length co29) t533) := ⟨by (with_reducible repeat (first | apply Kd.R_alloc | apply Kd.R_drewN | apply Kd.R_drew)); exact Kd.R_mono (Kd.R_far (p := ⟨gb556, 2, none⟩) (Kd.R_far (p := ⟨gb556, 1, none⟩) (Kd.R_far (p := ⟨gb556, 0, none⟩) (Kd.R_types HO535.out BK556.out (by decide)) (fun _ hk => hk.2) (.int .i64 t553)) (fun _ hk => hk.2) (.int .i64 t554)) (fun _ hk => hk.2) (.int .i64 t555)) (fun _ hk => ⟨hk.1.1.1.1.1.2, ⟨hk.1.1.1.1.2, ⟨hk.1.1.1.2, ⟨hk.1.1.2, hk.1.2⟩⟩⟩⟩)⟩
   have n3_ : Aside0 (Kd.R (Kd.int .i64) 3 (((w64.setCell ⟨gb556, 0, none⟩ (.int .i64 t553)).setCell ⟨gb556, 1, none⟩ (.int .i64 t554)).setCell ⟨gb556, 2, none⟩ (.int .i64 t555)) w.heap.size (fun k_ => some k_ ≠ (.slice Ao15 t518.length co15 : Value).ownBlock ∧ some k_ ≠ (.slice Ao22 t526.length co22 : Value).ownBlock ∧ some k_ ≠ (.slice Ao29 t533.length co29 : Value).ownBlock ∧ some k_ ≠ (.slice Ao55 t544.length co55 : Value).ownBlock ∧ some k_ ≠ (.slice Ao62 t548.length co62 : Value).ownBlock) (.slice Ao39 t538.length co39) t538) := ⟨by (with_reducible repeat (first | apply Kd.R_alloc | apply Kd.R_drewN | apply Kd.R_drew)); exact Kd.R_mono (Kd.R_far (p := ⟨gb556, 2, none⟩) (Kd.R_far (p := ⟨gb556, 1, none⟩) (Kd.R_far (p := ⟨gb556, 0, none⟩) (Kd.R_types HO540.out BK556.out (by decide)) (fun _ hk => hk.2) (.int .i64 t553)) (fun _ hk => hk.2) (.int .i64 t554)) (fun _ hk => hk.2) (.int .i64 t555)) (fun _ hk => ⟨hk.1.1.1.1.1.2, ⟨hk.1.1.1.1.2, ⟨hk.1.1.1.2, ⟨hk.1.1.2, hk.1.2⟩⟩⟩⟩)⟩
   have n4_ : Aside0 (Kd.R (Kd.int .i64) 3 (((w64.setCell ⟨gb556, 0, none⟩ (.int .i64 t553)).setCell ⟨gb556, 1, none⟩ (.int .i64 t554)).setCell ⟨gb556, 2, none⟩ (.int .i64 t555)) w.heap.size (fun k_ => some k_ ≠ (.slice Ao15 t518.length co15 : Value).ownBlock ∧ some k_ ≠ (.slice Ao22 t526.length co22 : Value).ownBlock ∧ some k_ ≠ (.slice Ao29 t533.length co29 : Value).ownBlock ∧ some k_ ≠ (.slice Ao39 t538.length co39 : Value).ownBlock ∧ some k_ ≠ (.slice Ao62 t548.length co62 : Value).ownBlock) (.slice Ao55 t544.length co55) t544) := ⟨by (with_reducible repeat (first | apply Kd.R_alloc | apply Kd.R_drewN | apply Kd.R_drew)); exact Kd.R_mono (Kd.R_far (p := ⟨gb556, 2, none⟩) (Kd.R_far (p := ⟨gb556, 1, none⟩) (Kd.R_far (p := ⟨gb556, 0, none⟩) (Kd.R_types HO546.out BK556.out (by decide)) (fun _ hk => hk.2) (.int .i64 t553)) (fun _ hk => hk.2) (.int .i64 t554)) (fun _ hk => hk.2) (.int .i64 t555)) (fun _ hk => ⟨hk.1.1.1.1.2, ⟨hk.1.1.1.2, ⟨hk.1.1.2, ⟨hk.1.2, hk.1.1.1.1.1⟩⟩⟩⟩)⟩
   have n5_ : Aside0 (Kd.R (Kd.int .i64) 3 (((w64.setCell ⟨gb556, 0, none⟩ (.int .i64 t553)).setCell ⟨gb556, 1, none⟩ (.int .i64 t554)).setCell ⟨gb556, 2, none⟩ (.int .i64 t555)) w.heap.size (fun k_ => some k_ ≠ (.slice Ao15 t518.length co15 : Value).ownBlock ∧ some k_ ≠ (.slice Ao22 t526.length co22 : Value).ownBlock ∧ some k_ ≠ (.slice Ao29 t533.length co29 : Value).ownBlock ∧ some k_ ≠ (.slice Ao39 t538.length co39 : Value).ownBlock ∧ some k_ ≠ (.slice Ao55 t544.length co55 : Value).ownBlock) (.slice Ao62 t548.length co62) t548) := ⟨by (with_reducible repeat (first | apply Kd.R_alloc | apply Kd.R_drewN | apply Kd.R_drew)); exact Kd.R_mono (Kd.R_far (p := ⟨gb556, 2, none⟩) (Kd.R_far (p := ⟨gb556, 1, none⟩) (Kd.R_far (p := ⟨gb556, 0, none⟩) (Kd.R_types HO550.out BK556.out (by decide)) (fun _ hk => hk.2) (.int .i64 t553)) (fun _ hk => hk.2) (.int .i64 t554)) (fun _ hk => hk.2) (.int .i64 t555)) (fun _ hk => ⟨hk.1.1.1.1.2, ⟨hk.1.1.1.2, ⟨hk.1.1.2, ⟨hk.1.2, hk.1.1.1.1.1⟩⟩⟩⟩)⟩
   have n6_ : Aside0 ((((w64.setCell ⟨gb556, 0, none⟩ (.int .i64 t553)).setCell ⟨gb556, 1, none⟩ (.int .i64 t554)).setCell ⟨gb556, 2, none⟩ (.int .i64 t555)).heap[gb529]? = some (.cells #[.slice Ao15 t518.length co15, .int .i64 t521] 44 (0, 0))) := ⟨bk_ BK529⟩
   have n7_ : Aside0 ((((w64.setCell ⟨gb556, 0, none⟩ (.int .i64 t553)).setCell ⟨gb556, 1, none⟩ (.int .i64 t554)).setCell ⟨gb556, 2, none⟩ (.int .i64 t555)).heap[gb530]? = some (.cells #[.int .i64 t522, .int .i64 t523, .int .i64 t524] 47 (0, 0))) := ⟨bk_ BK530⟩
   have n8_ : Aside0 ((((w64.setCell ⟨gb556, 0, none⟩ (.int .i64 t553)).setCell ⟨gb556, 1, none⟩ (.int .i64 t554)).setCell ⟨gb556, 2, none⟩ (.int .i64 t555)).heap[gb531]? = some (.cells #[.int .i64 t525, .slice Ao22 t526.length co22] 49 (0, 0))) := ⟨bk_ BK531⟩
   have n9_ : Aside0 ((((w64.setCell ⟨gb556, 0, none⟩ (.int .i64 t553)).setCell ⟨gb556, 1, none⟩ (.int .i64 t554)).setCell ⟨gb556, 2, none⟩ (.int .i64 t555)).heap[gb537]? = some (.cells #[.slice Ao29 t533.length co29, .int .i64 t536] 44 (0, 0))) := ⟨bk_ BK537⟩
   have n10_ : Aside0 ((((w64.setCell ⟨gb556, 0, none⟩ (.int .i64 t553)).setCell ⟨gb556, 1, none⟩ (.int .i64 t554)).setCell ⟨gb556, 2, none⟩ (.int .i64 t555)).heap[gb542]? = some (.cells #[.slice Ao39 t538.length co39, .int .i64 t541] 44 (0, 0))) := ⟨bk_ BK542⟩
   have n11_ : Aside0 ((((w64.setCell ⟨gb556, 0, none⟩ (.int .i64 t553)).setCell ⟨gb556, 1, none⟩ (.int .i64 t554)).setCell ⟨gb556, 2, none⟩ (.int .i64 t555)).heap[gb551]? = some (.cells #[.int .i64 t543, .slice Ao55 t544.length co55] 49 (0, 0))) := ⟨bk_ BK551⟩
   have n12_ : Aside0 ((((w64.setCell ⟨gb556, 0, none⟩ (.int .i64 t553)).setCell ⟨gb556, 1, none⟩ (.int .i64 t554)).setCell ⟨gb556, 2, none⟩ (.int .i64 t555)).heap[gb552]? = some (.cells #[.int .i64 t547, .slice Ao62 t548.length co62] 49 (0, 0))) := ⟨bk_ BK552⟩
   have n13_ : Aside0 ((((w64.setCell ⟨gb556, 0, none⟩ (.int .i64 t553)).setCell ⟨gb556, 1, none⟩ (.int .i64 t554)).setCell ⟨gb556, 2, none⟩ (.int .i64 t555)).heap[gb556]? = some (.cells #[.int .i64 t553, .int .i64 t554, .int .i64 t555] 47 (0, 0))) := ⟨bp_ BK556⟩
   have n14_ : Aside0 (Below w.heap.size w (((w64.setCell ⟨gb556, 0, none⟩ (.int .i64 t553)).setCell ⟨gb556, 1, none⟩ (.int .i64 t554)).setCell ⟨gb556, 2, none⟩ (.int .i64 t555))) := ⟨hb_ HB⟩
   (try clear HO520)
   (try clear HO528)
   (try clear HO535)
   (try clear HO540)
   (try clear HO546)
   (try clear HO550)
   (try clear BK529)
   (try clear BK530)
   (try clear BK531)
   (try clear BK537)
   (try clear BK542)
   (try clear BK551)
   (try clear BK552)
   (try clear BK556)
   (try clear HB)
   generalize (((w64.setCell ⟨gb556, 0, none⟩ (.int .i64 t553)).setCell ⟨gb556, 1, none⟩ (.int .i64 t554)).setCell ⟨gb556, 2, none⟩ (.int .i64 t555)) = w98 at n0_ n1_ n2_ n3_ n4_ n5_ n6_ n7_ n8_ n9_ n10_ n11_ n12_ n13_ n14_ ⊢
   have HO520 := n0_
   have HO528 := n1_
   have HO535 := n2_
   have HO540 := n3_
   have HO546 := n4_
   have HO550 := n5_
   have BK529 := n6_
   have BK530 := n7_
   have BK531 := n8_
   have BK537 := n9_
   have BK542 := n10_
   have BK551 := n11_
   have BK552 := n12_
   have BK556 := n13_
   have HB := n14_
   clear n0_ n1_ n2_ n3_ n4_ n5_ n6_ n7_ n8_ n9_ n10_ n11_ n12_ n13_ n14_
   replace HO520 := A_ (Kd.R_drew HO520.out)
   replace HO528 := A_ (Kd.R_drew HO528.out)
   replace HO535 := A_ (Kd.R_drew HO535.out)
   replace HO540 := A_ (Kd.R_drew HO540.out)
   replace HO546 := A_ (Kd.R_drew HO546.out)
   replace HO550 := A_ (Kd.R_drew HO550.out)
   replace BK529 := A_ (blk_drew BK529.out)
   replace BK530 := A_ (blk_drew BK530.out)
   replace BK531 := A_ (blk_drew BK531.out)
   replace BK537 := A_ (blk_drew BK537.out)
   replace BK542 := A_ (blk_drew BK542.out)
   replace BK551 := A_ (blk_drew BK551.out)
   replace BK552 := A_ (blk_drew BK552.out)
   replace BK556 := A_ (blk_drew BK556.out)
   replace HB := A_ (below_drew1 HB.out)
   refine start_ (n := 37) (S := fun w' => w'.cell? ⟨gb529, 0, none⟩ = some (.slice Ao15 t518.length co15) ∧ w'.cell? ⟨gb529, 1, none⟩ = some (.int .i64 t521) ∧ w'.cell? ⟨gb530, 0, none⟩ = some (.int .i64 t522) ∧ w'.cell? ⟨gb530, 1, none⟩ = some (.int .i64 t523) ∧ w'.cell? ⟨gb530, 2, none⟩ = some (.int .i64 t524) ∧ w'.cell? ⟨gb531, 0, none⟩ = some (.int .i64 t525) ∧ w'.cell? ⟨gb531, 1, none⟩ = some (.slice Ao22 t526.length co22) ∧ w'.cell? ⟨gb537, 0, none⟩ = some (.slice Ao29 t533.length co29) ∧ w'.cell? ⟨gb537, 1, none⟩ = some (.int .i64 t536) ∧ w'.cell? ⟨gb542, 0, none⟩ = some (.slice Ao39 t538.length co39) ∧ w'.cell? ⟨gb542, 1, none⟩ = some (.int .i64 t541)) (ds := []) (bt_ 0 37) (by kernel_rfl) rfl rfl ⟨(blk_cell BK529.out 0).trans rfl, (blk_cell BK529.out 1).trans rfl, (blk_cell BK530.out 0).trans rfl, (blk_cell BK530.out 1).trans rfl, (blk_cell BK530.out 2).trans rfl, (blk_cell BK531.out 0).trans rfl, (blk_cell BK531.out 1).trans rfl, (blk_cell BK537.out 0).trans rfl, (blk_cell BK537.out 1).trans rfl, (blk_cell BK542.out 0).trans rfl, (blk_cell BK542.out 1).trans rfl⟩ (fun hHeld => ?_); refine with_tabW laws_FnAllowed.tab9 laws_FnAllowed.bits9 (fun HT_ HW_ => ?_)
   generalize w98.drew = w99 at HO520 HO528 HO535 HO540 HO546 HO550 BK529 BK530 BK531 BK537 BK542 BK551 BK552 BK556 HB hHeld ⊢
   refine pu_ 0 39 (bt_ 1 37) ?_
   refine tk11_ 1 40 (bt_ 3 37) hHeld ?_
   refine tk11_ 2 41 (bt_ 7 37) hHeld ?_
   refine tk11_ 3 42 (bt_ 15 37) hHeld ?_
   refine one_ (i := 4) (N := some 43) (bt_ 31 37) rfl rfl (one_of HT_.out (by kernel_rfl)) (by decide) (fun K hK => ?_)
   refine goes_ Try.func31 (by kernel_rfl) rfl #[.agg #[.slice Ao15 t518.length co15, .int .i64 t521], .agg #[.int .i64 t522, .int .i64 t523, .int .i64 t524], .agg #[.int .i64 t525, .slice Ao22 t526.length co22]] (by rfl) rfl rfl al_ ?_
   with_reducible refine (spec_Allowed.calls k _ _ t518 t521 t522 t523 t524 t525 _ _ t526 t557 _ ?side1 ?side2 ?side3 ?side4 A73.out).mono ?_
   (case side1 => repeat (first | exact (Kd.R_reads' HO520.out).2.2 | (with_reducible refine Kd.C_alloc ?_ _) | (with_reducible refine Kd.C_drewN ?_ _) | (with_reducible refine Kd.C_drew ?_)))
   (case side2 => exact (Kd.R_reads' HO520.out).2.1)
   (case side3 => repeat (first | exact (Kd.R_reads' HO528.out).2.2 | (with_reducible refine Kd.C_alloc ?_ _) | (with_reducible refine Kd.C_drewN ?_ _) | (with_reducible refine Kd.C_drew ?_)))
   (case side4 => exact (Kd.R_reads' HO528.out).2.1)
   rintro e w100 ⟨rfl, hb⟩
   refine ⟨_, rfl, ?_⟩
   replace HO520 := A_ (Kd.R_below (rb_ HO520.out) hb)
   replace HO528 := A_ (Kd.R_below (rb_ HO528.out) hb)
   replace HO535 := A_ (Kd.R_below (rb_ HO535.out) hb)
   replace HO540 := A_ (Kd.R_below (rb_ HO540.out) hb)
   replace HO546 := A_ (Kd.R_below (rb_ HO546.out) hb)
   replace HO550 := A_ (Kd.R_below (rb_ HO550.out) hb)
   replace BK529 := bb_ BK529 hb
   replace BK530 := bb_ BK530 hb
   replace BK531 := bb_ BK531 hb
   replace BK537 := bb_ BK537 hb
   replace BK542 := bb_ BK542 hb
   replace BK551 := bb_ BK551 hb
   replace BK552 := bb_ BK552 hb
   replace BK556 := bb_ BK556 hb
   replace HB := hs_ HB hb
   (try clear hb)
   (try clear hb2)
   (try clear hk)
   (try clear hi)
   refine hK.out _ _ ⟨(blk_cell BK529.out 0).trans rfl, (blk_cell BK529.out 1).trans rfl, (blk_cell BK530.out 0).trans rfl, (blk_cell BK530.out 1).trans rfl, (blk_cell BK530.out 2).trans rfl, (blk_cell BK531.out 0).trans rfl, (blk_cell BK531.out 1).trans rfl, (blk_cell BK537.out 0).trans rfl, (blk_cell BK537.out 1).trans rfl, (blk_cell BK542.out 0).trans rfl, (blk_cell BK542.out 1).trans rfl⟩ (fun hHeld => ?_)
   clear hK K
   refine norm_ (a' := ?_) ?_ ?_
   rotate_left
   ·
    show Act.put _ (some 43) _ = _
    simp only [Act.put, List.setIfInBounds_toArray, List.set_cons_zero, List.set_cons_succ, i64_w, i32_w]
    rfl
   refine pu_ 5 44 (bt_ 63 37) ?_
   refine pu_ 6 45 (bt_ 127 37) ?_
   refine pu_ 7 46 (bt_ 255 37) ?_
   refine pu_ 9 48 (bt_ 767 37) ?_
   refine tk11_ 8 47 (bt_ 1023 37) hHeld ?_
   refine tk11_ 10 49 (bt_ 2047 37) hHeld ?_
   refine one_ (i := 11) (N := some 50) (bt_ 4095 37) rfl rfl (one_of HT_.out (by kernel_rfl)) (by decide) (fun K hK => ?_)
   refine goes_ Try.func32 (by kernel_rfl) rfl #[.slice Ao29 t533.length co29, .slice Ao39 t538.length co39] (by rfl) rfl rfl al_ ?_
   with_reducible refine (laws_sameInts.calls k _ _ t533 _ _ t538 true _ ?side1 ?side2 ?side3 ?side4 A78.out).mono ?_
   (case side1 => repeat (first | exact (Kd.R_reads' HO535.out).2.2 | (with_reducible refine Kd.C_alloc ?_ _) | (with_reducible refine Kd.C_drewN ?_ _) | (with_reducible refine Kd.C_drew ?_)))
   (case side2 => exact (Kd.R_reads' HO535.out).2.1)
   (case side3 => repeat (first | exact (Kd.R_reads' HO540.out).2.2 | (with_reducible refine Kd.C_alloc ?_ _) | (with_reducible refine Kd.C_drewN ?_ _) | (with_reducible refine Kd.C_drew ?_)))
   (case side4 => exact (Kd.R_reads' HO540.out).2.1)
   rintro e w' ⟨rfl, ⟨nd, rfl⟩⟩
   refine ⟨_, rfl, ?_⟩
   refine hK.out _ _ ⟨(blk_cell BK529.out 0).trans rfl, (blk_cell BK529.out 1).trans rfl, (blk_cell BK530.out 0).trans rfl, (blk_cell BK530.out 1).trans rfl, (blk_cell BK530.out 2).trans rfl, (blk_cell BK531.out 0).trans rfl, (blk_cell BK531.out 1).trans rfl, (blk_cell BK537.out 0).trans rfl, (blk_cell BK537.out 1).trans rfl, (blk_cell BK542.out 0).trans rfl, (blk_cell BK542.out 1).trans rfl⟩ (fun hHeld => ?_)
   clear hK K
   refine norm_ (a' := ?_) ?_ ?_
   rotate_left
   ·
    show Act.put _ (some 50) _ = _
    simp only [Act.put, List.setIfInBounds_toArray, List.set_cons_zero, List.set_cons_succ, i64_w, i32_w]
    rfl
   refine pu_ 12 51 (bt_ 8191 37) ?_
   refine pu_ 13 52 (bt_ 16383 37) ?_
   refine pu_ 14 53 (bt_ 32767 37) ?_
   refine pu_ 15 54 (bt_ 65535 37) ?_
   refine pu_ 17 56 (bt_ 196607 37) ?_
   refine tk11_ 16 55 (bt_ 262143 37) hHeld ?_
   refine tk11_ 18 57 (bt_ 524287 37) hHeld ?_
   refine pu_ 19 58 (bt_ 1048575 37) ?_
   refine pu_ 20 59 (bt_ 2097151 37) ?_
   refine pu_ 21 60 (bt_ 4194303 37) ?_
   refine pn_ 22 61 (bt_ 8388607 37) ?_
   refine pn_ 23 62 (bt_ 16777215 37) ?_
   refine pn_ 24 63 (bt_ 33554431 37) ?_
   refine pn_ 25 64 (bt_ 67108863 37) ?_
   refine pn_ 26 65 (bt_ 134217727 37) ?_
   refine pn_ 27 66 (bt_ 268435455 37) ?_
   refine pn_ 28 67 (bt_ 536870911 37) ?_
   refine pu_ 29 68 (bt_ 1073741823 37) ?_
   refine pu_ 30 69 (bt_ 2147483647 37) ?_
   refine pn_ 31 70 (bt_ 4294967295 37) ?_
   refine pn_ 32 71 (bt_ 8589934591 37) ?_
   refine pn_ 33 72 (bt_ 17179869183 37) ?_
   refine pn_ 34 73 (bt_ 34359738367 37) ?_
   refine pn_ 35 74 (bt_ 68719476735 37) ?_
   refine pu_ 36 75 (bt_ 137438953471 37) ?_
   refine done_ (done_of HT_.out (by kernel_rfl)) ?_
   try go_wp2
   go_meet
   case rel => exact ⟨_, (true), rt_, H', ⟨by first | omega | exact Nat.le_refl _⟩, ⟨rb_ HO520.out⟩, ⟨rb_ HO528.out⟩, ⟨rb_ HO535.out⟩, ⟨rb_ HO540.out⟩, ⟨rb_ HO546.out⟩, ⟨rb_ HO550.out⟩, ⟨bk_ BK529⟩, ⟨bk_ BK530⟩, ⟨bk_ BK531⟩, ⟨bk_ BK537⟩, ⟨bk_ BK542⟩, ⟨bk_ BK551⟩, ⟨bk_ BK552⟩, ⟨bk_ BK556⟩, ⟨hb_ HB⟩⟩
  obtain rfl := Bool.eq_false_iff.mpr c79
  replace H := iF_ H
  replace H' := A_ H; clear H
  try go_wp2
  have n0_ : Aside0 (Kd.R (Kd.int .i64) 3 (((w64.setCell ⟨gb556, 0, none⟩ (.int .i64 t553)).setCell ⟨gb556, 1, none⟩ (.int .i64 t554)).setCell ⟨gb556, 2, none⟩ (.int .i64 t555)) w.heap.size (fun k_ => some k_ ≠ (.slice Ao22 t526.length co22 : Value).ownBlock ∧ some k_ ≠ (.slice Ao29 t533.length co29 : Value).ownBlock ∧ some k_ ≠ (.slice Ao39 t538.length co39 : Value).ownBlock ∧ some k_ ≠ (.slice Ao55 t544.length co55 : Value).ownBlock ∧ some k_ ≠ (.slice Ao62 t548.length co62 : Value).ownBlock) (.slice Ao15 t518.length co15) t518) := ⟨by (with_reducible repeat (first | apply Kd.R_alloc | apply Kd.R_drewN | apply Kd.R_drew)); exact Kd.R_mono (Kd.R_far (p := ⟨gb556, 2, none⟩) (Kd.R_far (p := ⟨gb556, 1, none⟩) (Kd.R_far (p := ⟨gb556, 0, none⟩) (Kd.R_types HO520.out BK556.out (by decide)) (fun _ hk => hk.2) (.int .i64 t553)) (fun _ hk => hk.2) (.int .i64 t554)) (fun _ hk => hk.2) (.int .i64 t555)) (fun _ hk => ⟨hk.1.1.1.1.1, ⟨hk.1.1.1.1.2, ⟨hk.1.1.1.2, ⟨hk.1.1.2, hk.1.2⟩⟩⟩⟩)⟩
  have n1_ : Aside0 (Kd.R (Kd.int .i64) 3 (((w64.setCell ⟨gb556, 0, none⟩ (.int .i64 t553)).setCell ⟨gb556, 1, none⟩ (.int .i64 t554)).setCell ⟨gb556, 2, none⟩ (.int .i64 t555)) w.heap.size (fun k_ => some k_ ≠ (.slice Ao15 t518.length co15 : Value).ownBlock ∧ some k_ ≠ (.slice Ao29 t533.length co29 : Value).ownBlock ∧ some k_ ≠ (.slice Ao39 t538.length co39 : Value).ownBlock ∧ some k_ ≠ (.slice Ao55 t544.length co55 : Value).ownBlock ∧ some k_ ≠ (.slice Ao62 t548.length co62 : Value).ownBlock) (.slice Ao22 t526.length co22) t526) := ⟨by (with_reducible repeat (first | apply Kd.R_alloc | apply Kd.R_drewN | apply Kd.R_drew)); exact Kd.R_mono (Kd.R_far (p := ⟨gb556, 2, none⟩) (Kd.R_far (p := ⟨gb556, 1, none⟩) (Kd.R_far (p := ⟨gb556, 0, none⟩) (Kd.R_types HO528.out BK556.out (by decide)) (fun _ hk => hk.2) (.int .i64 t553)) (fun _ hk => hk.2) (.int .i64 t554)) (fun _ hk => hk.2) (.int .i64 t555)) (fun _ hk => ⟨hk.1.1.1.1.1, ⟨hk.1.1.1.1.2, ⟨hk.1.1.1.2, ⟨hk.1.1.2, hk.1.2⟩⟩⟩⟩)⟩
  have n2_ : Aside0 (Kd.R (Kd.int .i64) 3 (((w64.setCell ⟨gb556, 0, none⟩ (.int .i64 t553)).setCell ⟨gb556, 1, none⟩ (.int .i64 t554)).setCell ⟨gb556, 2, none⟩ (.int .i64 t555)) w.heap.size (fun k_ => some k_ ≠ (.slice Ao15 t518.length co15 : Value).ownBlock ∧ some k_ ≠ (.slice Ao22 t526.length co22 : Value).ownBlock ∧ some k_ ≠ (.slice Ao39 t538.length co39 : Value).ownBlock ∧ some k_ ≠ (.slice Ao55 t544.length co55 : Value).ownBlock ∧ some k_ ≠ (.slice Ao62 t548.length co62 : Value).ownBlock) (.slice Ao29 t533.length co29) t533) := ⟨by (with_reducible repeat (first | apply Kd.R_alloc | apply Kd.R_drewN | apply Kd.R_drew)); exact Kd.R_mono (Kd.R_far (p := ⟨gb556, 2, none⟩) (Kd.R_far (p := ⟨gb556, 1, none⟩) (Kd.R_far (p := ⟨gb556, 0, none⟩) (Kd.R_types HO535.out BK556.out (by decide)) (fun _ hk => hk.2) (.int .i64 t553)) (fun _ hk => hk.2) (.int .i64 t554)) (fun _ hk => hk.2) (.int .i64 t555)) (fun _ hk => ⟨hk.1.1.1.1.1.2, ⟨hk.1.1.1.1.2, ⟨hk.1.1.1.2, ⟨hk.1.1.2, hk.1.2⟩⟩⟩⟩)⟩
  have n3_ : Aside0 (Kd.R (Kd.int .i64) 3 (((w64.setCell ⟨gb556, 0, none⟩ (.int .i64 t553)).setCell ⟨gb556, 1, none⟩ (.int .i64 t554)).setCell ⟨gb556, 2, none⟩ (.int .i64 t555)) w.heap.size (fun k_ => some k_ ≠ (.slice Ao15 t518.length co15 : Value).ownBlock ∧ some k_ ≠ (.slice Ao22 t526.length co22 : Value).ownBlock ∧ some k_ ≠ (.slice Ao29 t533.length co29 : Value).ownBlock ∧ some k_ ≠ (.slice Ao55 t544.length co55 : Value).ownBlock ∧ some k_ ≠ (.slice Ao62 t548.length co62 : Value).ownBlock) (.slice Ao39 t538.length co39) t538) := ⟨by (with_reducible repeat (first | apply Kd.R_alloc | apply Kd.R_drewN | apply Kd.R_drew)); exact Kd.R_mono (Kd.R_far (p := ⟨gb556, 2, none⟩) (Kd.R_far (p := ⟨gb556, 1, none⟩) (Kd.R_far (p := ⟨gb556, 0, none⟩) (Kd.R_types HO540.out BK556.out (by decide)) (fun _ hk => hk.2) (.int .i64 t553)) (fun _ hk => hk.2) (.int .i64 t554)) (fun _ hk => hk.2) (.int .i64 t555)) (fun _ hk => ⟨hk.1.1.1.1.1.2, ⟨hk.1.1.1.1.2, ⟨hk.1.1.1.2, ⟨hk.1.1.2, hk.1.2⟩⟩⟩⟩)⟩
  have n4_ : Aside0 (Kd.R (Kd.int .i64) 3 (((w64.setCell ⟨gb556, 0, none⟩ (.int .i64 t553)).setCell ⟨gb556, 1, none⟩ (.int .i64 t554)).setCell ⟨gb556, 2, none⟩ (.int .i64 t555)) w.heap.size (fun k_ => some k_ ≠ (.slice Ao15 t518.length co15 : Value).ownBlock ∧ some k_ ≠ (.slice Ao22 t526.length co22 : Value).ownBlock ∧ some k_ ≠ (.slice Ao29 t533.length co29 : Value).ownBlock ∧ some k_ ≠ (.slice Ao39 t538.length co39 : Value).ownBlock ∧ some k_ ≠ (.slice Ao62 t548.length co62 : Value).ownBlock) (.slice Ao55 t544.length co55) t544) := ⟨by (with_reducible repeat (first | apply Kd.R_alloc | apply Kd.R_drewN | apply Kd.R_drew)); exact Kd.R_mono (Kd.R_far (p := ⟨gb556, 2, none⟩) (Kd.R_far (p := ⟨gb556, 1, none⟩) (Kd.R_far (p := ⟨gb556, 0, none⟩) (Kd.R_types HO546.out BK556.out (by decide)) (fun _ hk => hk.2) (.int .i64 t553)) (fun _ hk => hk.2) (.int .i64 t554)) (fun _ hk => hk.2) (.int .i64 t555)) (fun _ hk => ⟨hk.1.1.1.1.2, ⟨hk.1.1.1.2, ⟨hk.1.1.2, ⟨hk.1.2, hk.1.1.1.1.1⟩⟩⟩⟩)⟩
  have n5_ : Aside0 (Kd.R (Kd.int .i64) 3 (((w64.setCell ⟨gb556, 0, none⟩ (.int .i64 t553)).setCell ⟨gb556, 1, none⟩ (.int .i64 t554)).setCell ⟨gb556, 2, none⟩ (.int .i64 t555)) w.heap.size (fun k_ => some k_ ≠ (.slice Ao15 t518.length co15 : Value).ownBlock ∧ some k_ ≠ (.slice Ao22 t526.length co22 : Value).ownBlock ∧ some k_ ≠ (.slice Ao29 t533.length co29 : Value).ownBlock ∧ some k_ ≠ (.slice Ao39 t538.length co39 : Value).ownBlock ∧ some k_ ≠ (.slice Ao55 t544.length co55 : Value).ownBlock) (.slice Ao62 t548.length co62) t548) := ⟨by (with_reducible repeat (first | apply Kd.R_alloc | apply Kd.R_drewN | apply Kd.R_drew)); exact Kd.R_mono (Kd.R_far (p := ⟨gb556, 2, none⟩) (Kd.R_far (p := ⟨gb556, 1, none⟩) (Kd.R_far (p := ⟨gb556, 0, none⟩) (Kd.R_types HO550.out BK556.out (by decide)) (fun _ hk => hk.2) (.int .i64 t553)) (fun _ hk => hk.2) (.int .i64 t554)) (fun _ hk => hk.2) (.int .i64 t555)) (fun _ hk => ⟨hk.1.1.1.1.2, ⟨hk.1.1.1.2, ⟨hk.1.1.2, ⟨hk.1.2, hk.1.1.1.1.1⟩⟩⟩⟩)⟩
  have n6_ : Aside0 ((((w64.setCell ⟨gb556, 0, none⟩ (.int .i64 t553)).setCell ⟨gb556, 1, none⟩ (.int .i64 t554)).setCell ⟨gb556, 2, none⟩ (.int .i64 t555)).heap[gb529]? = some (.cells #[.slice Ao15 t518.length co15, .int .i64 t521] 44 (0, 0))) := ⟨bk_ BK529⟩
  have n7_ : Aside0 ((((w64.setCell ⟨gb556, 0, none⟩ (.int .i64 t553)).setCell ⟨gb556, 1, none⟩ (.int .i64 t554)).setCell ⟨gb556, 2, none⟩ (.int .i64 t555)).heap[gb530]? = some (.cells #[.int .i64 t522, .int .i64 t523, .int .i64 t524] 47 (0, 0))) := ⟨bk_ BK530⟩
  have n8_ : Aside0 ((((w64.setCell ⟨gb556, 0, none⟩ (.int .i64 t553)).setCell ⟨gb556, 1, none⟩ (.int .i64 t554)).setCell ⟨gb556, 2, none⟩ (.int .i64 t555)).heap[gb531]? = some (.cells #[.int .i64 t525, .slice Ao22 t526.length co22] 49 (0, 0))) := ⟨bk_ BK531⟩
  have n9_ : Aside0 ((((w64.setCell ⟨gb556, 0, none⟩ (.int .i64 t553)).setCell ⟨gb556, 1, none⟩ (.int .i64 t554)).setCell ⟨gb556, 2, none⟩ (.int .i64 t555)).heap[gb537]? = some (.cells #[.slice Ao29 t533.length co29, .int .i64 t536] 44 (0, 0))) := ⟨bk_ BK537⟩
  have n10_ : Aside0 ((((w64.setCell ⟨gb556, 0, none⟩ (.int .i64 t553)).setCell ⟨gb556, 1, none⟩ (.int .i64 t554)).setCell ⟨gb556, 2, none⟩ (.int .i64 t555)).heap[gb542]? = some (.cells #[.slice Ao39 t538.length co39, .int .i64 t541] 44 (0, 0))) := ⟨bk_ BK542⟩
  have n11_ : Aside0 ((((w64.setCell ⟨gb556, 0, none⟩ (.int .i64 t553)).setCell ⟨gb556, 1, none⟩ (.int .i64 t554)).setCell ⟨gb556, 2, none⟩ (.int .i64 t555)).heap[gb551]? = some (.cells #[.int .i64 t543, .slice Ao55 t544.length co55] 49 (0, 0))) := ⟨bk_ BK551⟩
  have n12_ : Aside0 ((((w64.setCell ⟨gb556, 0, none⟩ (.int .i64 t553)).setCell ⟨gb556, 1, none⟩ (.int .i64 t554)).setCell ⟨gb556, 2, none⟩ (.int .i64 t555)).heap[gb552]? = some (.cells #[.int .i64 t547, .slice Ao62 t548.length co62] 49 (0, 0))) := ⟨bk_ BK552⟩
  have n13_ : Aside0 ((((w64.setCell ⟨gb556, 0, none⟩ (.int .i64 t553)).setCell ⟨gb556, 1, none⟩ (.int .i64 t554)).setCell ⟨gb556, 2, none⟩ (.int .i64 t555)).heap[gb556]? = some (.cells #[.int .i64 t553, .int .i64 t554, .int .i64 t555] 47 (0, 0))) := ⟨bp_ BK556⟩
  have n14_ : Aside0 (Below w.heap.size w (((w64.setCell ⟨gb556, 0, none⟩ (.int .i64 t553)).setCell ⟨gb556, 1, none⟩ (.int .i64 t554)).setCell ⟨gb556, 2, none⟩ (.int .i64 t555))) := ⟨hb_ HB⟩
  (try clear HO520)
  (try clear HO528)
  (try clear HO535)
  (try clear HO540)
  (try clear HO546)
  (try clear HO550)
  (try clear BK529)
  (try clear BK530)
  (try clear BK531)
  (try clear BK537)
  (try clear BK542)
  (try clear BK551)
  (try clear BK552)
  (try clear BK556)
  (try clear HB)
  generalize (((w64.setCell ⟨gb556, 0, none⟩ (.int .i64 t553)).setCell ⟨gb556, 1, none⟩ (.int .i64 t554)).setCell ⟨gb556, 2, none⟩ (.int .i64 t555)) = w101 at n0_ n1_ n2_ n3_ n4_ n5_ n6_ n7_ n8_ n9_ n10_ n11_ n12_ n13_ n14_ ⊢
  have HO520 := n0_
  have HO528 := n1_
  have HO535 := n2_
  have HO540 := n3_
  have HO546 := n4_
  have HO550 := n5_
  have BK529 := n6_
  have BK530 := n7_
  have BK531 := n8_
  have BK537 := n9_
  have BK542 := n10_
  have BK551 := n11_
  have BK552 := n12_
  have BK556 := n13_
  have HB := n14_
  clear n0_ n1_ n2_ n3_ n4_ n5_ n6_ n7_ n8_ n9_ n10_ n11_ n12_ n13_ n14_
  replace HO520 := A_ (Kd.R_drew HO520.out)
  replace HO528 := A_ (Kd.R_drew HO528.out)
  replace HO535 := A_ (Kd.R_drew HO535.out)
  replace HO540 := A_ (Kd.R_drew HO540.out)
  replace HO546 := A_ (Kd.R_drew HO546.out)
  replace HO550 := A_ (Kd.R_drew HO550.out)
  replace BK529 := A_ (blk_drew BK529.out)
  replace BK530 := A_ (blk_drew BK530.out)
  replace BK531 := A_ (blk_drew BK531.out)
  replace BK537 := A_ (blk_drew BK537.out)
  replace BK542 := A_ (blk_drew BK542.out)
  replace BK551 := A_ (blk_drew BK551.out)
  replace BK552 := A_ (blk_drew BK552.out)
  replace BK556 := A_ (blk_drew BK556.out)
  replace HB := A_ (below_drew1 HB.out)
  refine start_ (n := 37) (S := fun w' => w'.cell? ⟨gb529, 0, none⟩ = some (.slice Ao15 t518.length co15) ∧ w'.cell? ⟨gb529, 1, none⟩ = some (.int .i64 t521) ∧ w'.cell? ⟨gb530, 0, none⟩ = some (.int .i64 t522) ∧ w'.cell? ⟨gb530, 1, none⟩ = some (.int .i64 t523) ∧ w'.cell? ⟨gb530, 2, none⟩ = some (.int .i64 t524) ∧ w'.cell? ⟨gb531, 0, none⟩ = some (.int .i64 t525) ∧ w'.cell? ⟨gb531, 1, none⟩ = some (.slice Ao22 t526.length co22) ∧ w'.cell? ⟨gb537, 0, none⟩ = some (.slice Ao29 t533.length co29) ∧ w'.cell? ⟨gb537, 1, none⟩ = some (.int .i64 t536) ∧ w'.cell? ⟨gb542, 0, none⟩ = some (.slice Ao39 t538.length co39) ∧ w'.cell? ⟨gb542, 1, none⟩ = some (.int .i64 t541)) (ds := []) (bt_ 0 37) (by kernel_rfl) rfl rfl ⟨(blk_cell BK529.out 0).trans rfl, (blk_cell BK529.out 1).trans rfl, (blk_cell BK530.out 0).trans rfl, (blk_cell BK530.out 1).trans rfl, (blk_cell BK530.out 2).trans rfl, (blk_cell BK531.out 0).trans rfl, (blk_cell BK531.out 1).trans rfl, (blk_cell BK537.out 0).trans rfl, (blk_cell BK537.out 1).trans rfl, (blk_cell BK542.out 0).trans rfl, (blk_cell BK542.out 1).trans rfl⟩ (fun hHeld => ?_); refine with_tabW laws_FnAllowed.tab9 laws_FnAllowed.bits9 (fun HT_ HW_ => ?_)
  generalize w101.drew = w102 at HO520 HO528 HO535 HO540 HO546 HO550 BK529 BK530 BK531 BK537 BK542 BK551 BK552 BK556 HB hHeld ⊢
  refine pu_ 0 39 (bt_ 1 37) ?_
  refine tk11_ 1 40 (bt_ 3 37) hHeld ?_
  refine tk11_ 2 41 (bt_ 7 37) hHeld ?_
  refine tk11_ 3 42 (bt_ 15 37) hHeld ?_
  refine one_ (i := 4) (N := some 43) (bt_ 31 37) rfl rfl (one_of HT_.out (by kernel_rfl)) (by decide) (fun K hK => ?_)
  refine goes_ Try.func31 (by kernel_rfl) rfl #[.agg #[.slice Ao15 t518.length co15, .int .i64 t521], .agg #[.int .i64 t522, .int .i64 t523, .int .i64 t524], .agg #[.int .i64 t525, .slice Ao22 t526.length co22]] (by rfl) rfl rfl al_ ?_
  with_reducible refine (spec_Allowed.calls k _ _ t518 t521 t522 t523 t524 t525 _ _ t526 t557 _ ?side1 ?side2 ?side3 ?side4 A73.out).mono ?_
  (case side1 => repeat (first | exact (Kd.R_reads' HO520.out).2.2 | (with_reducible refine Kd.C_alloc ?_ _) | (with_reducible refine Kd.C_drewN ?_ _) | (with_reducible refine Kd.C_drew ?_)))
  (case side2 => exact (Kd.R_reads' HO520.out).2.1)
  (case side3 => repeat (first | exact (Kd.R_reads' HO528.out).2.2 | (with_reducible refine Kd.C_alloc ?_ _) | (with_reducible refine Kd.C_drewN ?_ _) | (with_reducible refine Kd.C_drew ?_)))
  (case side4 => exact (Kd.R_reads' HO528.out).2.1)
  rintro e w103 ⟨rfl, hb⟩
  refine ⟨_, rfl, ?_⟩
  replace HO520 := A_ (Kd.R_below (rb_ HO520.out) hb)
  replace HO528 := A_ (Kd.R_below (rb_ HO528.out) hb)
  replace HO535 := A_ (Kd.R_below (rb_ HO535.out) hb)
  replace HO540 := A_ (Kd.R_below (rb_ HO540.out) hb)
  replace HO546 := A_ (Kd.R_below (rb_ HO546.out) hb)
  replace HO550 := A_ (Kd.R_below (rb_ HO550.out) hb)
  replace BK529 := bb_ BK529 hb
  replace BK530 := bb_ BK530 hb
  replace BK531 := bb_ BK531 hb
  replace BK537 := bb_ BK537 hb
  replace BK542 := bb_ BK542 hb
  replace BK551 := bb_ BK551 hb
  replace BK552 := bb_ BK552 hb
  replace BK556 := bb_ BK556 hb
  replace HB := hs_ HB hb
  (try clear hb)
  (try clear hb2)
  (try clear hk)
  (try clear hi)
  refine hK.out _ _ ⟨(blk_cell BK529.out 0).trans rfl, (blk_cell BK529.out 1).trans rfl, (blk_cell BK530.out 0).trans rfl, (blk_cell BK530.out 1).trans rfl, (blk_cell BK530.out 2).trans rfl, (blk_cell BK531.out 0).trans rfl, (blk_cell BK531.out 1).trans rfl, (blk_cell BK537.out 0).trans rfl, (blk_cell BK537.out 1).trans rfl, (blk_cell BK542.out 0).trans rfl, (blk_cell BK542.out 1).trans rfl⟩ (fun hHeld => ?_)
  clear hK K
  refine norm_ (a' := ?_) ?_ ?_
  rotate_left
  ·
   show Act.put _ (some 43) _ = _
   simp only [Act.put, List.setIfInBounds_toArray, List.set_cons_zero, List.set_cons_succ, i64_w, i32_w]
   rfl
  refine pu_ 5 44 (bt_ 63 37) ?_
  refine pu_ 6 45 (bt_ 127 37) ?_
  refine pu_ 7 46 (bt_ 255 37) ?_
  refine pu_ 9 48 (bt_ 767 37) ?_
  refine tk11_ 8 47 (bt_ 1023 37) hHeld ?_
  refine tk11_ 10 49 (bt_ 2047 37) hHeld ?_
  refine one_ (i := 11) (N := some 50) (bt_ 4095 37) rfl rfl (one_of HT_.out (by kernel_rfl)) (by decide) (fun K hK => ?_)
  refine goes_ Try.func32 (by kernel_rfl) rfl #[.slice Ao29 t533.length co29, .slice Ao39 t538.length co39] (by rfl) rfl rfl al_ ?_
  with_reducible refine (laws_sameInts.calls k _ _ t533 _ _ t538 false _ ?side1 ?side2 ?side3 ?side4 A78.out).mono ?_
  (case side1 => repeat (first | exact (Kd.R_reads' HO535.out).2.2 | (with_reducible refine Kd.C_alloc ?_ _) | (with_reducible refine Kd.C_drewN ?_ _) | (with_reducible refine Kd.C_drew ?_)))
  (case side2 => exact (Kd.R_reads' HO535.out).2.1)
  (case side3 => repeat (first | exact (Kd.R_reads' HO540.out).2.2 | (with_reducible refine Kd.C_alloc ?_ _) | (with_reducible refine Kd.C_drewN ?_ _) | (with_reducible refine Kd.C_drew ?_)))
  (case side4 => exact (Kd.R_reads' HO540.out).2.1)
  rintro e w' ⟨rfl, ⟨nd, rfl⟩⟩
  refine ⟨_, rfl, ?_⟩
  refine hK.out _ _ ⟨(blk_cell BK529.out 0).trans rfl, (blk_cell BK529.out 1).trans rfl, (blk_cell BK530.out 0).trans rfl, (blk_cell BK530.out 1).trans rfl, (blk_cell BK530.out 2).trans rfl, (blk_cell BK531.out 0).trans rfl, (blk_cell BK531.out 1).trans rfl, (blk_cell BK537.out 0).trans rfl, (blk_cell BK537.out 1).trans rfl, (blk_cell BK542.out 0).trans rfl, (blk_cell BK542.out 1).trans rfl⟩ (fun hHeld => ?_)
  clear hK K
  refine norm_ (a' := ?_) ?_ ?_
  rotate_left
  ·
   show Act.put _ (some 50) _ = _
   simp only [Act.put, List.setIfInBounds_toArray, List.set_cons_zero, List.set_cons_succ, i64_w, i32_w]
   rfl
  refine pu_ 12 51 (bt_ 8191 37) ?_
  refine pu_ 13 52 (bt_ 16383 37) ?_
  refine pu_ 14 53 (bt_ 32767 37) ?_
  refine pn_ 15 54 (bt_ 65535 37) ?_
  refine pn_ 16 55 (bt_ 131071 37) ?_
  refine pn_ 17 56 (bt_ 262143 37) ?_
  refine pn_ 18 57 (bt_ 524287 37) ?_
  refine pn_ 19 58 (bt_ 1048575 37) ?_
  refine pu_ 20 59 (bt_ 2097151 37) ?_
  refine pu_ 21 60 (bt_ 4194303 37) ?_
  refine pn_ 22 61 (bt_ 8388607 37) ?_
  refine pn_ 23 62 (bt_ 16777215 37) ?_
  refine pn_ 24 63 (bt_ 33554431 37) ?_
  refine pn_ 25 64 (bt_ 67108863 37) ?_
  refine pn_ 26 65 (bt_ 134217727 37) ?_
  refine pn_ 27 66 (bt_ 268435455 37) ?_
  refine pn_ 28 67 (bt_ 536870911 37) ?_
  refine pu_ 29 68 (bt_ 1073741823 37) ?_
  refine pu_ 30 69 (bt_ 2147483647 37) ?_
  refine pn_ 31 70 (bt_ 4294967295 37) ?_
  refine pn_ 32 71 (bt_ 8589934591 37) ?_
  refine pn_ 33 72 (bt_ 17179869183 37) ?_
  refine pn_ 34 73 (bt_ 34359738367 37) ?_
  refine pn_ 35 74 (bt_ 68719476735 37) ?_
  refine pu_ 36 75 (bt_ 137438953471 37) ?_
  refine done_ (done_of HT_.out (by kernel_rfl)) ?_
  try go_wp2
  go_meet
  case rel => exact ⟨_, (true), rt_, H', ⟨by first | omega | exact Nat.le_refl _⟩, ⟨rb_ HO520.out⟩, ⟨rb_ HO528.out⟩, ⟨rb_ HO535.out⟩, ⟨rb_ HO540.out⟩, ⟨rb_ HO546.out⟩, ⟨rb_ HO550.out⟩, ⟨bk_ BK529⟩, ⟨bk_ BK530⟩, ⟨bk_ BK531⟩, ⟨bk_ BK537⟩, ⟨bk_ BK542⟩, ⟨bk_ BK551⟩, ⟨bk_ BK552⟩, ⟨bk_ BK556⟩, ⟨hb_ HB⟩⟩
 case rest =>
  clear HC10
  try clear c3
  try clear c79
  obtain ⟨kq, x75_9, rfl, HA, HJ9, HO_530000, HO_532001, HO_538000, HO_543000, HO_552001, HO_553001, BK529, BK530, BK531, BK537, BK542, BK551, BK552, BK556, HB⟩ := hcut
  cases kq with
  | zero => exact absurd HA.out (by simp [laws_FnAllowed.j0])
  | succ kj9 =>
   have H := HA.out
   clear HA
   simp only [laws_FnAllowed.j0] at H
   by_cases c104 : x75_9 = true
   ·
    subst c104
    replace H := it_ H
    exact absurd H (by simp)
   obtain rfl := Bool.eq_false_iff.mpr c104
   replace H := iF_ H
   have HC105 := A_ H
   clear H
   go_upto_region 11 with (fail)
   go_cut [82] (fun v82 wc => ∃ (kq : Nat) (x82_104 : Bool), v82 = .bool x82_104 ∧ Aside0 (laws_FnAllowed.j1 kq x82_104 t518 t521 t533 t536 = some r) ∧ Aside0 (kq ≤ kj9) ∧ Aside0 (Kd.R (Kd.int .i64) 3 wc w.heap.size (fun k_ => some k_ ≠ ((.slice Ao22 t526.length co22) : Value).ownBlock ∧ some k_ ≠ ((.slice Ao29 t533.length co29) : Value).ownBlock ∧ some k_ ≠ ((.slice Ao39 t538.length co39) : Value).ownBlock ∧ some k_ ≠ ((.slice Ao55 t544.length co55) : Value).ownBlock ∧ some k_ ≠ ((.slice Ao62 t548.length co62) : Value).ownBlock) (.slice Ao15 t518.length co15) t518) ∧ Aside0 (Kd.R (Kd.int .i64) 3 wc w.heap.size (fun k_ => some k_ ≠ ((.slice Ao15 t518.length co15) : Value).ownBlock ∧ some k_ ≠ ((.slice Ao29 t533.length co29) : Value).ownBlock ∧ some k_ ≠ ((.slice Ao39 t538.length co39) : Value).ownBlock ∧ some k_ ≠ ((.slice Ao55 t544.length co55) : Value).ownBlock ∧ some k_ ≠ ((.slice Ao62 t548.length co62) : Value).ownBlock) (.slice Ao22 t526.length co22) t526) ∧ Aside0 (Kd.R (Kd.int .i64) 3 wc w.heap.size (fun k_ => some k_ ≠ ((.slice Ao15 t518.length co15) : Value).ownBlock ∧ some k_ ≠ ((.slice Ao22 t526.length co22) : Value).ownBlock ∧ some k_ ≠ ((.slice Ao39 t538.length co39) : Value).ownBlock ∧ some k_ ≠ ((.slice Ao55 t544.length co55) : Value).ownBlock ∧ some k_ ≠ ((.slice Ao62 t548.length co62) : Value).ownBlock) (.slice Ao29 t533.length co29) t533) ∧ Aside0 (Kd.R (Kd.int .i64) 3 wc w.heap.size (fun k_ => some k_ ≠ ((.slice Ao15 t518.length co15) : Value).ownBlock ∧ some k_ ≠ ((.slice Ao22 t526.length co22) : Value).ownBlock ∧ some k_ ≠ ((.slice Ao29 t533.length co29) : Value).ownBlock ∧ some k_ ≠ ((.slice Ao55 t544.length co55) : Value).ownBlock ∧ some k_ ≠ ((.slice Ao62 t548.length co62) : Value).ownBlock) (.slice Ao39 t538.length co39) t538) ∧ Aside0 (Kd.R (Kd.int .i64) 3 wc w.heap.size (fun k_ => some k_ ≠ ((.slice Ao15 t518.length co15) : Value).ownBlock ∧ some k_ ≠ ((.slice Ao22 t526.length co22) : Value).ownBlock ∧ some k_ ≠ ((.slice Ao29 t533.length co29) : Value).ownBlock ∧ some k_ ≠ ((.slice Ao39 t538.length co39) : Value).ownBlock ∧ some k_ ≠ ((.slice Ao62 t548.length co62) : Value).ownBlock) (.slice Ao55 t544.length co55) t544) ∧ Aside0 (Kd.R (Kd.int .i64) 3 wc w.heap.size (fun k_ => some k_ ≠ ((.slice Ao15 t518.length co15) : Value).ownBlock ∧ some k_ ≠ ((.slice Ao22 t526.length co22) : Value).ownBlock ∧ some k_ ≠ ((.slice Ao29 t533.length co29) : Value).ownBlock ∧ some k_ ≠ ((.slice Ao39 t538.length co39) : Value).ownBlock ∧ some k_ ≠ ((.slice Ao55 t544.length co55) : Value).ownBlock) (.slice Ao62 t548.length co62) t548) ∧ Aside0 (wc.heap[gb529]? = some (.cells #[(.slice Ao15 t518.length co15), .int .i64 t521] 44 (0, 0))) ∧ Aside0 (wc.heap[gb530]? = some (.cells #[.int .i64 t522, .int .i64 t523, .int .i64 t524] 47 (0, 0))) ∧ Aside0 (wc.heap[gb531]? = some (.cells #[.int .i64 t525, (.slice Ao22 t526.length co22)] 49 (0, 0))) ∧ Aside0 (wc.heap[gb537]? = some (.cells #[(.slice Ao29 t533.length co29), .int .i64 t536] 44 (0, 0))) ∧ Aside0 (wc.heap[gb542]? = some (.cells #[(.slice Ao39 t538.length co39), .int .i64 t541] 44 (0, 0))) ∧ Aside0 (wc.heap[gb551]? = some (.cells #[.int .i64 t543, (.slice Ao55 t544.length co55)] 49 (0, 0))) ∧ Aside0 (wc.heap[gb552]? = some (.cells #[.int .i64 t547, (.slice Ao62 t548.length co62)] 49 (0, 0))) ∧ Aside0 (wc.heap[gb556]? = some (.cells #[.int .i64 t553, .int .i64 t554, .int .i64 t555] 47 (0, 0))) ∧ Aside0 (Below w.heap.size w wc))
   case first =>
    have H := HC105.out
    clear HC105
    by_cases c106 : t532 = true
    ·
     subst c106
     replace H := it_ H
     replace H' := A_ H; clear H
     have hnb107 := NB531_529.out
     have hnc107 := NB529_531.out
     have hnb108 := NB531_530.out
     have hnc108 := NB530_531.out
     have hnb109 := NB531_537.out
     have hnc109 := NB537_531.out
     have hnb110 := NB531_542.out
     have hnc110 := NB542_531.out
     have hnb111 := NB531_551.out
     have hnc111 := NB551_531.out
     have hnb112 := NB531_552.out
     have hnc112 := NB552_531.out
     have hnb113 := NB531_556.out
     have hnc113 := NB556_531.out
     obtain ⟨hcz114_0, hcz114_1, hfz114_0, hfz114_1⟩ := cz2_ BK531
     go_wp2
     go_meet
     case rel => exact ⟨_, ((t525 != 0)), rt_, H', ⟨by have := HJ9.out; first | omega | exact Nat.le_refl _⟩, ⟨rb_ HO_530000.out⟩, ⟨rb_ HO_532001.out⟩, ⟨rb_ HO_538000.out⟩, ⟨rb_ HO_543000.out⟩, ⟨rb_ HO_552001.out⟩, ⟨rb_ HO_553001.out⟩, ⟨bk_ BK529⟩, ⟨bk_ BK530⟩, ⟨bk_ BK531⟩, ⟨bk_ BK537⟩, ⟨bk_ BK542⟩, ⟨bk_ BK551⟩, ⟨bk_ BK552⟩, ⟨bk_ BK556⟩, ⟨hb_ HB⟩⟩
    obtain rfl := Bool.eq_false_iff.mpr c106
    replace H := iF_ H
    replace H' := A_ H; clear H
    go_wp2
    go_meet
    case rel => exact ⟨_, (true), rt_, H', ⟨by have := HJ9.out; first | omega | exact Nat.le_refl _⟩, ⟨rb_ HO_530000.out⟩, ⟨rb_ HO_532001.out⟩, ⟨rb_ HO_538000.out⟩, ⟨rb_ HO_543000.out⟩, ⟨rb_ HO_552001.out⟩, ⟨rb_ HO_553001.out⟩, ⟨bk_ BK529⟩, ⟨bk_ BK530⟩, ⟨bk_ BK531⟩, ⟨bk_ BK537⟩, ⟨bk_ BK542⟩, ⟨bk_ BK551⟩, ⟨bk_ BK552⟩, ⟨bk_ BK556⟩, ⟨hb_ HB⟩⟩
   case rest =>
    clear HC105
    try clear c3
    try clear c79
    try clear c104
    try clear c106
    obtain ⟨kq, x82_104, rfl, HA, HJ104, HO_530000, HO_532001, HO_538000, HO_543000, HO_552001, HO_553001, BK529, BK530, BK531, BK537, BK542, BK551, BK552, BK556, HB⟩ := hcut
    cases kq with
    | zero => exact absurd HA.out (by simp [laws_FnAllowed.j1])
    | succ kj104 =>
     have H := HA.out
     clear HA
     simp only [laws_FnAllowed.j1] at H
     by_cases c115 : x82_104 = true
     ·
      subst c115
      replace H := it_ H
      replace H := bs_ H
      obtain ⟨t563, A116, H⟩ := H
      by_cases c117 : t563 = true
      ·
       subst c117
       replace H := it_ H
       obtain rfl := Option.some.inj H
       have hnb118 := NB537_529.out
       have hnc118 := NB529_537.out
       have hnb119 := NB537_530.out
       have hnc119 := NB530_537.out
       have hnb120 := NB537_531.out
       have hnc120 := NB531_537.out
       have hnb121 := NB537_542.out
       have hnc121 := NB542_537.out
       have hnb122 := NB537_551.out
       have hnc122 := NB551_537.out
       have hnb123 := NB537_552.out
       have hnc123 := NB552_537.out
       have hnb124 := NB537_556.out
       have hnc124 := NB556_537.out
       obtain ⟨hcz125_0, hcz125_1, hfz125_0, hfz125_1⟩ := cz2_ BK537
       have hnb126 := NB529_530.out
       have hnc126 := NB530_529.out
       have hnb127 := NB529_531.out
       have hnc127 := NB531_529.out
       have hnb128 := NB529_542.out
       have hnc128 := NB542_529.out
       have hnb129 := NB529_551.out
       have hnc129 := NB551_529.out
       have hnb130 := NB529_552.out
       have hnc130 := NB552_529.out
       have hnb131 := NB529_556.out
       have hnc131 := NB556_529.out
       obtain ⟨hcz132_0, hcz132_1, hfz132_0, hfz132_1⟩ := cz2_ BK529
       go_wp2_with (first | ((with_reducible refine gate_callee (f := 32) rfl ?_); refine goesL_ (some 87) rfl rfl Try.func32 (by kernel_rfl) rfl #[.slice Ao29 t533.length co29, .slice Ao15 t518.length co15] rfl al_ ?_; (with_reducible refine (laws_sameInts.calls kj104 _ _ t533 _ _ t518 true _ ?side1 ?side2 ?side3 ?side4 A116.out).mono ?_); (case side1 => repeat (first | exact (Kd.R_reads' HO_538000.out).2.2 | (with_reducible refine Kd.C_alloc ?_ _) | (with_reducible refine Kd.C_drewN ?_ _) | (with_reducible refine Kd.C_drew ?_))); (case side2 => exact (Kd.R_reads' HO_538000.out).2.1); (case side3 => repeat (first | exact (Kd.R_reads' HO_530000.out).2.2 | (with_reducible refine Kd.C_alloc ?_ _) | (with_reducible refine Kd.C_drewN ?_ _) | (with_reducible refine Kd.C_drew ?_))); (case side4 => exact (Kd.R_reads' HO_530000.out).2.1); rintro e w' ⟨rfl, ⟨nd, rfl⟩⟩; refine ⟨_, rfl, ?_⟩))
       go_ret
       exact ⟨rs_, hb_ HB⟩
      obtain rfl := Bool.eq_false_iff.mpr c117
      replace H := iF_ H
      obtain rfl := Option.some.inj H
      have hnb133 := NB537_529.out
      have hnc133 := NB529_537.out
      have hnb134 := NB537_530.out
      have hnc134 := NB530_537.out
      have hnb135 := NB537_531.out
      have hnc135 := NB531_537.out
      have hnb136 := NB537_542.out
      have hnc136 := NB542_537.out
      have hnb137 := NB537_551.out
      have hnc137 := NB551_537.out
      have hnb138 := NB537_552.out
      have hnc138 := NB552_537.out
      have hnb139 := NB537_556.out
      have hnc139 := NB556_537.out
      obtain ⟨hcz140_0, hcz140_1, hfz140_0, hfz140_1⟩ := cz2_ BK537
      have hnb141 := NB529_530.out
      have hnc141 := NB530_529.out
      have hnb142 := NB529_531.out
      have hnc142 := NB531_529.out
      have hnb143 := NB529_542.out
      have hnc143 := NB542_529.out
      have hnb144 := NB529_551.out
      have hnc144 := NB551_529.out
      have hnb145 := NB529_552.out
      have hnc145 := NB552_529.out
      have hnb146 := NB529_556.out
      have hnc146 := NB556_529.out
      obtain ⟨hcz147_0, hcz147_1, hfz147_0, hfz147_1⟩ := cz2_ BK529
      go_wp2_with (first | ((with_reducible refine gate_callee (f := 32) rfl ?_); refine goesL_ (some 87) rfl rfl Try.func32 (by kernel_rfl) rfl #[.slice Ao29 t533.length co29, .slice Ao15 t518.length co15] rfl al_ ?_; (with_reducible refine (laws_sameInts.calls kj104 _ _ t533 _ _ t518 false _ ?side1 ?side2 ?side3 ?side4 A116.out).mono ?_); (case side1 => repeat (first | exact (Kd.R_reads' HO_538000.out).2.2 | (with_reducible refine Kd.C_alloc ?_ _) | (with_reducible refine Kd.C_drewN ?_ _) | (with_reducible refine Kd.C_drew ?_))); (case side2 => exact (Kd.R_reads' HO_538000.out).2.1); (case side3 => repeat (first | exact (Kd.R_reads' HO_530000.out).2.2 | (with_reducible refine Kd.C_alloc ?_ _) | (with_reducible refine Kd.C_drewN ?_ _) | (with_reducible refine Kd.C_drew ?_))); (case side4 => exact (Kd.R_reads' HO_530000.out).2.1); rintro e w' ⟨rfl, ⟨nd, rfl⟩⟩; refine ⟨_, rfl, ?_⟩))
      go_ret
      exact ⟨rs_, hb_ HB⟩
     obtain rfl := Bool.eq_false_iff.mpr c115
     replace H := iF_ H
     replace H := bs_ H
     obtain ⟨t564, A148, H⟩ := H
     obtain rfl := Option.some.inj H
     have hnb149 := NB537_529.out
     have hnc149 := NB529_537.out
     have hnb150 := NB537_530.out
     have hnc150 := NB530_537.out
     have hnb151 := NB537_531.out
     have hnc151 := NB531_537.out
     have hnb152 := NB537_542.out
     have hnc152 := NB542_537.out
     have hnb153 := NB537_551.out
     have hnc153 := NB551_537.out
     have hnb154 := NB537_552.out
     have hnc154 := NB552_537.out
     have hnb155 := NB537_556.out
     have hnc155 := NB556_537.out
     obtain ⟨hcz156_0, hcz156_1, hfz156_0, hfz156_1⟩ := cz2_ BK537
     go_wp2_with (first | ((with_reducible refine gate_callee (f := 37) rfl ?_); refine goesL_ (some 96) rfl rfl Try.func37 (by kernel_rfl) rfl #[.agg #[.slice Ao29 t533.length co29, .int .i64 t536]] rfl al_ ?_; (with_reducible refine (impl_RowsOk.calls kj104 _ _ t533 t536 t564 _ ?side1 ?side2 A148.out).mono ?_); (case side1 => repeat (first | exact (Kd.R_reads' HO_538000.out).2.2 | (with_reducible refine Kd.C_alloc ?_ _) | (with_reducible refine Kd.C_drewN ?_ _) | (with_reducible refine Kd.C_drew ?_))); (case side2 => exact (Kd.R_reads' HO_538000.out).2.1); rintro e w157 ⟨rfl, hb⟩; refine ⟨_, rfl, ?_⟩; replace HO_530000 := A_ (Kd.R_below (rb_ HO_530000.out) hb); replace HO_532001 := A_ (Kd.R_below (rb_ HO_532001.out) hb); replace HO_538000 := A_ (Kd.R_below (rb_ HO_538000.out) hb); replace HO_543000 := A_ (Kd.R_below (rb_ HO_543000.out) hb); replace HO_552001 := A_ (Kd.R_below (rb_ HO_552001.out) hb); replace HO_553001 := A_ (Kd.R_below (rb_ HO_553001.out) hb); replace BK529 := bb_ BK529 hb; replace BK530 := bb_ BK530 hb; replace BK531 := bb_ BK531 hb; replace BK537 := bb_ BK537 hb; replace BK542 := bb_ BK542 hb; replace BK551 := bb_ BK551 hb; replace BK552 := bb_ BK552 hb; replace BK556 := bb_ BK556 hb; replace HB := hs_ HB hb; (try clear hb); (try clear hb2); (try clear hk); (try clear hi)))
     go_ret
     exact ⟨rs_, hb_ HB⟩

/-- THE ONE PURE STATEMENT of laws_FnAllowed: yours. -/
def laws_FnAllowed.Pure : Prop := ∀ (l0 : List Int), l0.length ≤ maxLen → l0.length * 1 ≤ 140737488351232 → (∀ x ∈ l0, (Lit.int .u8 x).wf = true) → ∃ k, laws_FnAllowed.f k l0 = some true
theorem laws_FnAllowed.walk (P : laws_FnAllowed.Pure) (a0 : Option Addr) (len0 cap0 : Nat) (z0 : List Int) (w : World) (w0 : (a0 = none ∧ len0 = 0 ∧ cap0 = 0 ∧ z0 = []) ∨ ∃ x, a0 = some x ∧ len0 ≤ cap0 ∧ cap0 ≤ maxLen ∧ z0.length = cap0 ∧ (∀ i, i < z0.length → w.cell? (x.add i) = some (.int .u8 (z0.getD i 0))) ∧ ∀ n ∈ z0, (Lit.int .u8 n).wf = true) (y0 : len0 * 1 ≤ 140737488351232) :
    Calls Try.prog 5 #[.slice a0 len0 cap0] w fun e w' => e = .returned (.bool true) ∧ Below w.heap.size w w' := by
 obtain ⟨l0, rfl, hr0, hm0, hw0, hc0⟩ := ReadsInt.ofRowC w0
 obtain ⟨k, h⟩ := P l0 hm0 y0 hw0
 refine (laws_FnAllowed.calls k _ _ l0 true w (Kd.C_of_reads (d := (0 : Int)) (h1 := fun _ => rfl) hr0) hc0 h).mono ?_
 rintro e w' ⟨rfl, hd⟩
 exact ⟨rfl, hd⟩

end Go.Proofs.Ytmkhghbalnadlaa.PFnAllowed
