/- Contracts of functions of the program: each says that the call does what a plain Lean function tells. Made by programs of this session and of the kit. No condition beyond the hypotheses that each theorem names. -/
import Derived.Test.YtmkhghbalnadlaaPFnExactMemNewx0
import Derived.Test.YtmkhghbalnadlaaPFnExactMemNewx2
import Derived.Test.YtmkhghbalnadlaaPFnExactMemNewx8
import Derived.Test.YtmkhghbalnadlaaPFnExactMemNewx11
import Derived.Test.YtmkhghbalnadlaaPFnExactMemNewx12
import Derived.Test.YtmkhghbalnadlaaPFnExactMemNewx13
namespace Go.Proofs.Ytmkhghbalnadlaa.PFnExactMemNew
open Go.RowKit Go.Proofs.YtmkhghbalnadlaaW.PrintWords Go.Proofs.YtmkhghbalnadlaaW.PrintLast Go.Proofs.YtmkhghbalnadlaaW.PrintMore
attribute [local go_sem] max2_int min2_int max_two min_two max_three min_three max_four min_four   -- for this text's walks alone
set_option linter.unusedVariables false
set_option linter.unusedSimpArgs false

/-! ### laws_FnExactMemNew: function 6 -/
mutual
def laws_FnExactMemNew.j0 : Nat → Int → Bool → Bool → Bool → List Int → Int → List (S95) → List (S119) → List Int → Int → List (S95) → List (S119) → Option (Bool)
 | 0, _, _, _, _, _, _, _, _, _, _, _, _ => none
 | k + 1, x1, x7, x10, x44, x355000, x355001, x368000, x368001, x373000, x373001, x381000, x381001 => if x44 = true then (none) else ((laws_toRows.f k x355000 x355001).bind fun bt382 => ((laws_eqRows.f k x373000 x373001 bt382.1 bt382.2).bind fun t386 => (if t386 = true then ((laws_markRows.f k x373000 x373001 1).bind fun bt387 => (if bt387.1 < 0 then (laws_FnExactMemNew.j1 k x1 x7 true x355000 x355001 x368000 x368001 x381000 x381001) else ((laws_eqMem.f k x381000 x381001 x368000 x368001).bind fun t389 => (if t389 = true then (laws_FnExactMemNew.j1 k x1 x7 (x10 != x7) x355000 x355001 x368000 x368001 x381000 x381001) else (laws_FnExactMemNew.j1 k x1 x7 true x355000 x355001 x368000 x368001 x381000 x381001))))) else (none))))
def laws_FnExactMemNew.j1 : Nat → Int → Bool → Bool → List Int → Int → List (S95) → List (S119) → List (S95) → List (S119) → Option (Bool)
 | 0, _, _, _, _, _, _, _, _, _ => none
 | k + 1, x1, x7, x65, x355000, x355001, x368000, x368001, x381000, x381001 => if x65 = true then (none) else ((laws_markMem.f k x381000 x381001 1).bind fun bt390 => ((laws_heldMem.f k bt390.2.1 bt390.2.2 1).bind fun t392 => (if t392 < 0 then (none) else (if t392 = bt390.1 then ((laws_toRows.f k x355000 x355001).bind fun bt393 => ((impl_MemNew.f k bt393.1 bt393.2 x1).bind fun bt397 => ((laws_eqMem.f k bt397.1 bt397.2.1 x368000 x368001).bind fun t405 => (if t405 = true then (laws_FnExactMemNew.j2 k bt390.1 (bt397.2.2 != x7) bt390.2.1 bt390.2.2) else (laws_FnExactMemNew.j2 k bt390.1 true bt390.2.1 bt390.2.2))))) else (none)))))
def laws_FnExactMemNew.j2 : Nat → Int → Bool → List (S95) → List (S119) → Option (Bool)
 | 0, _, _, _, _ => none
 | k + 1, x12, x92, x381000, x381001 => if x92 = true then (none) else ((laws_heldMem.f k x381000 x381001 1).bind fun t406 => (if t406 < 0 then (none) else (if t406 = x12 then (some true) else (none))))
end
def laws_FnExactMemNew.f (k : Nat) (l0_0 : List Int) (a0_1 : Int) (a1 : Int) : Option (Bool) := (laws_szRows.f l0_0 a0_1 1048576).bind fun t355 => (if t355 < 0 then (some true) else ((laws_toRows.f k l0_0 a0_1).bind fun bt356 => ((spec_MemNew.f k bt356.1 bt356.2 a1).bind fun bt360 => ((laws_toRows.f k l0_0 a0_1).bind fun bt368 => ((impl_MemNew.f k bt368.1 bt368.2 a1).bind fun bt373 => ((laws_eqMem.f k bt373.1 bt373.2.1 bt360.1 bt360.2.1).bind fun t381 => (if t381 = true then (laws_FnExactMemNew.j0 k a1 bt360.2.2 bt373.2.2 (bt373.2.2 != bt360.2.2) l0_0 a0_1 bt360.1 bt360.2.1 bt368.1 bt368.2 bt373.1 bt373.2.1) else (laws_FnExactMemNew.j0 k a1 bt360.2.2 bt373.2.2 true l0_0 a0_1 bt360.1 bt360.2.1 bt368.1 bt368.2 bt373.1 bt373.2.1))))))))
theorem laws_FnExactMemNew.mono_l : ∀ k, (∀ y0 y1 y2 y3 y4 y5 y6 y7 y8 y9 y10 y11, LeO (laws_FnExactMemNew.j0 k y0 y1 y2 y3 y4 y5 y6 y7 y8 y9 y10 y11) (laws_FnExactMemNew.j0 (k + 1) y0 y1 y2 y3 y4 y5 y6 y7 y8 y9 y10 y11)) ∧ (∀ y0 y1 y2 y3 y4 y5 y6 y7 y8, LeO (laws_FnExactMemNew.j1 k y0 y1 y2 y3 y4 y5 y6 y7 y8) (laws_FnExactMemNew.j1 (k + 1) y0 y1 y2 y3 y4 y5 y6 y7 y8)) ∧ (∀ y0 y1 y2 y3, LeO (laws_FnExactMemNew.j2 k y0 y1 y2 y3) (laws_FnExactMemNew.j2 (k + 1) y0 y1 y2 y3))
 | 0 => ⟨fun _ _ _ _ _ _ _ _ _ _ _ _ r h => by simp [laws_FnExactMemNew.j0] at h, fun _ _ _ _ _ _ _ _ _ r h => by simp [laws_FnExactMemNew.j1] at h, fun _ _ _ _ r h => by simp [laws_FnExactMemNew.j2] at h⟩
 | k + 1 => by
  obtain ⟨ih0, ih1, ih2⟩ := laws_FnExactMemNew.mono_l k
  refine ⟨?_, ?_, ?_⟩
  ·
   intro y0 y1 y2 y3 y4 y5 y6 y7 y8 y9 y10 y11
   unfold laws_FnExactMemNew.j0
   repeat' first | (with_reducible first | apply ih0 | apply ih1 | apply ih2 | apply impl_MemNew.mono | apply laws_eqMem.mono | apply laws_eqRows.mono | apply laws_heldMem.mono | apply laws_markMem.mono | apply laws_markRows.mono | apply laws_toRows.mono | apply spec_MemNew.mono | apply LeO.refl | apply LeO.none | apply LeO.ite | refine LeO.bind ?_ (fun _ => ?_)) | apply ih0 | apply ih1 | apply ih2 | apply impl_MemNew.mono | apply laws_eqMem.mono | apply laws_eqRows.mono | apply laws_heldMem.mono | apply laws_markMem.mono | apply laws_markRows.mono | apply laws_toRows.mono | apply spec_MemNew.mono | apply LeO.none | apply LeO.ite | refine LeO.bind ?_ (fun _ => ?_)
  ·
   intro y0 y1 y2 y3 y4 y5 y6 y7 y8
   unfold laws_FnExactMemNew.j1
   repeat' first | (with_reducible first | apply ih0 | apply ih1 | apply ih2 | apply impl_MemNew.mono | apply laws_eqMem.mono | apply laws_eqRows.mono | apply laws_heldMem.mono | apply laws_markMem.mono | apply laws_markRows.mono | apply laws_toRows.mono | apply spec_MemNew.mono | apply LeO.refl | apply LeO.none | apply LeO.ite | refine LeO.bind ?_ (fun _ => ?_)) | apply ih0 | apply ih1 | apply ih2 | apply impl_MemNew.mono | apply laws_eqMem.mono | apply laws_eqRows.mono | apply laws_heldMem.mono | apply laws_markMem.mono | apply laws_markRows.mono | apply laws_toRows.mono | apply spec_MemNew.mono | apply LeO.none | apply LeO.ite | refine LeO.bind ?_ (fun _ => ?_)
  intro y0 y1 y2 y3
  unfold laws_FnExactMemNew.j2
  repeat' first | (with_reducible first | apply ih0 | apply ih1 | apply ih2 | apply impl_MemNew.mono | apply laws_eqMem.mono | apply laws_eqRows.mono | apply laws_heldMem.mono | apply laws_markMem.mono | apply laws_markRows.mono | apply laws_toRows.mono | apply spec_MemNew.mono | apply LeO.refl | apply LeO.none | apply LeO.ite | refine LeO.bind ?_ (fun _ => ?_)) | apply ih0 | apply ih1 | apply ih2 | apply impl_MemNew.mono | apply laws_eqMem.mono | apply laws_eqRows.mono | apply laws_heldMem.mono | apply laws_markMem.mono | apply laws_markRows.mono | apply laws_toRows.mono | apply spec_MemNew.mono | apply LeO.none | apply LeO.ite | refine LeO.bind ?_ (fun _ => ?_)
theorem laws_FnExactMemNew.mono : ∀ a0 a1 a2 k, LeO (laws_FnExactMemNew.f k a0 a1 a2) (laws_FnExactMemNew.f (k + 1) a0 a1 a2) := by
 intro a0 a1 a2 k
 obtain ⟨ih0, ih1, ih2⟩ := laws_FnExactMemNew.mono_l k
 unfold laws_FnExactMemNew.f
 repeat' first | (with_reducible first | apply ih0 | apply ih1 | apply ih2 | apply impl_MemNew.mono | apply laws_eqMem.mono | apply laws_eqRows.mono | apply laws_heldMem.mono | apply laws_markMem.mono | apply laws_markRows.mono | apply laws_toRows.mono | apply spec_MemNew.mono | apply LeO.refl | apply LeO.none | apply LeO.ite | refine LeO.bind ?_ (fun _ => ?_)) | apply ih0 | apply ih1 | apply ih2 | apply impl_MemNew.mono | apply laws_eqMem.mono | apply laws_eqRows.mono | apply laws_heldMem.mono | apply laws_markMem.mono | apply laws_markRows.mono | apply laws_toRows.mono | apply spec_MemNew.mono | apply LeO.none | apply LeO.ite | refine LeO.bind ?_ (fun _ => ?_)

theorem mm_mile {W w1 : World} (hb : Below W.heap.size W w1) : ∃ n, n = W.heap.size := ⟨_, rfl⟩
theorem mm_old {base n : Nat} {W w1 : World} {ok : Nat → Prop} {v : Value} {xs : List S119} (h : Kd.S k119 119 W base ok v xs) (hb : Below W.heap.size W w1) (hn : n = W.heap.size) : Kd.S k119 119 w1 base (fun k => ok k ∧ k < n) v xs := by subst hn; exact Kd.S_old h hb
theorem mm_new {n : Nat} {W w1 : World} {ok : Nat → Prop} {v : Value} {xs : List S119} (h : Kd.S k119 119 w1 W.heap.size ok v xs) (hn : n = W.heap.size) : Kd.S k119 119 w1 W.heap.size (fun k => ok k ∧ n ≤ k) v xs := by subst hn; exact Kd.S_mono (Kd.S_bound h) (fun _ hk => ⟨hk.1, hk.2.1⟩)
theorem mm_foot {base : Nat} {W : World} {ok : Nat → Prop} {v : Value} {xs : List S119} (h : Kd.S k119 119 W base ok v xs) : ∃ P : Nat → Prop, Kd.S k119 119 W base P v xs ∧ (∀ k, P k → ∃ q, q ∈ 119 :: k119.E ∧ ∃ cells, W.heap[k]? = some (.cells cells q (0, 0))) ∧ (∀ k, P k → ok k) := ⟨_, mm_typed h, fun _ hk => hk.2, fun _ hk => hk.1⟩
theorem mm_off {W : World} {P : Nat → Prop} {v : Value} {t : Nat} (h : ∀ k, v.ownBlock = some k → ∃ cells, W.heap[k]? = some (.cells cells t (0, 0))) (h1 : ∀ k, P k → ∃ q, q ∈ 119 :: k119.E ∧ ∃ cells, W.heap[k]? = some (.cells cells q (0, 0))) (hq : ∀ q2, q2 ∈ 119 :: k119.E → t ≠ q2) : ∀ k, P k → ¬ some k = v.ownBlock := by
 intro k hP hk
 obtain ⟨c, hc⟩ := h k hk.symm
 obtain ⟨q2, hq2, c2, hc2⟩ := h1 k hP
 rw [hc] at hc2
 injection hc2 with hc2
 injection hc2 with _ hc2
 exact hq q2 hq2 hc2
theorem mm_len {base n c : Nat} {A : Option Addr} {W : World} {ok : Nat → Prop} {xs : List S119} (h : Kd.S k119 119 W base ok (.slice A n c) xs) (hn : n = xs.length) : Kd.S k119 119 W base ok (.slice A xs.length c) xs := by subst hn; exact h
theorem mm_len2 {n m c g t : Nat} {A : Option Addr} {W : World} {u : Value} (h : W.heap[g]? = some (.cells #[u, .slice A n c] t (0, 0))) (hn : n = m) : W.heap[g]? = some (.cells #[u, .slice A m c] t (0, 0)) := by subst hn; exact h
set_option maxHeartbeats 8000000 in
set_option maxRecDepth 100000 in
theorem laws_FnExactMemNew.calls (k : Nat) (A0_0 : Option Addr) (c0_0 : Nat) (l0_0 : List Int) (a0_1 : Int) (a1 : Int) (r : Bool) (w : World) (hr0_0 : Kd.C (Kd.int .i64) w A0_0 l0_0.length l0_0) (hc0_0 : l0_0.length ≤ c0_0) (h : laws_FnExactMemNew.f k l0_0 a0_1 a1 = some r) :
    Calls Try.prog 6 #[.agg #[.slice A0_0 l0_0.length c0_0, .int .i64 a0_1], .int .i64 a1] w fun e w' => e = .returned (.bool r) ∧ Below w.heap.size w w' := by
 have hu37 := Try.underlying37
 have hu31 := Try.underlying31
 have hu44 := Try.underlying44
 have HR0_0 := A_ hr0_0
 have HC0_0 := A_ hc0_0
 clear hr0_0 hc0_0
 have HB := A_ (Below.refl w.heap.size w)
 have H : ((laws_szRows.f l0_0 a0_1 1048576).bind fun t355 => (if t355 < 0 then (some true) else ((laws_toRows.f k l0_0 a0_1).bind fun bt356 => ((spec_MemNew.f k bt356.1 bt356.2 a1).bind fun bt360 => ((laws_toRows.f k l0_0 a0_1).bind fun bt368 => ((impl_MemNew.f k bt368.1 bt368.2 a1).bind fun bt373 => ((laws_eqMem.f k bt373.1 bt373.2.1 bt360.1 bt360.2.1).bind fun t381 => (if t381 = true then (laws_FnExactMemNew.j0 k a1 bt360.2.2 bt373.2.2 (bt373.2.2 != bt360.2.2) l0_0 a0_1 bt360.1 bt360.2.1 bt368.1 bt368.2 bt373.1 bt373.2.1) else (laws_FnExactMemNew.j0 k a1 bt360.2.2 bt373.2.2 true l0_0 a0_1 bt360.1 bt360.2.1 bt368.1 bt368.2 bt373.1 bt373.2.1))))))))) = some r := h
 clear h
 replace H := bs_ H
 obtain ⟨t355, A3, H⟩ := H
 replace H := ic_ H
 rcases H with ⟨c4b0, H⟩ | ⟨c4b0, H⟩
 ·
  obtain rfl := Option.some.inj H
  go_enter Try.func6, Try.ntmps6
  go_wp2_with (first | ((with_reducible refine gate_dst (N := 2) rfl ?_); refine bx_ HB rfl (N := 2) rfl (cs := #[.slice A0_0 l0_0.length c0_0, .int .i64 a0_1]) (t := 37) hr_ ?_; clear HB; intro gb354 w5 hg hb BK354 GW354 HB; clear hb hg; obtain ⟨hcz6_0, hcz6_1, hfz6_0, hfz6_1⟩ := cz2_ BK354) | ((with_reducible refine gate_callee (f := 14) rfl ?_); refine goesL_ (some 18) rfl rfl Try.func14 (by kernel_rfl) rfl #[.agg #[.slice A0_0 l0_0.length c0_0, .int .i64 a0_1], .int .i64 1048576] rfl al_ ?_; (with_reducible refine (laws_szRows.calls _ _ l0_0 a0_1 1048576 t355 _ ?side1 ?side2 A3.out).mono ?_); (case side1 => exact cb_ (Kd.C_below HR0_0.out HB.out)); (case side2 => exact HC0_0.out); rintro e w7 ⟨rfl, hb⟩; refine ⟨_, rfl, ?_⟩; replace BK354 := bb_ BK354 hb; replace HB := hs_ HB hb; (try clear hb); (try clear hb2); (try clear hk); (try clear hi)))
  go_ret
  exact ⟨rs_, hb_ HB⟩
 replace H := bs_ H
 obtain ⟨⟨t356, t359⟩, A8, H⟩ := H
 dsimp only at H
 replace H := bs_ H
 obtain ⟨⟨t360, t363, t366⟩, A9, H⟩ := H
 dsimp only at H
 replace H := bs_ H
 obtain ⟨⟨t368, t371⟩, A10, H⟩ := H
 dsimp only at H
 replace H := bs_ H
 obtain ⟨⟨t373, t376, t379⟩, A11, H⟩ := H
 dsimp only at H
 have HC12 := A_ H
 clear H
 go_enter Try.func6, Try.ntmps6
 go_upto_region 8 with (first | ((with_reducible refine gate_dst (N := 2) rfl ?_); refine bx_ HB rfl (N := 2) rfl (cs := #[.slice A0_0 l0_0.length c0_0, .int .i64 a0_1]) (t := 37) hr_ ?_; clear HB; intro gb354 w13 hg hb BK354 GW354 HB; clear hb hg; obtain ⟨hcz14_0, hcz14_1, hfz14_0, hfz14_1⟩ := cz2_ BK354) | ((with_reducible refine gate_callee (f := 14) rfl ?_); refine goesL_ (some 18) rfl rfl Try.func14 (by kernel_rfl) rfl #[.agg #[.slice A0_0 l0_0.length c0_0, .int .i64 a0_1], .int .i64 1048576] rfl al_ ?_; (with_reducible refine (laws_szRows.calls _ _ l0_0 a0_1 1048576 t355 _ ?side1 ?side2 A3.out).mono ?_); (case side1 => exact cb_ (Kd.C_below HR0_0.out HB.out)); (case side2 => exact HC0_0.out); rintro e w15 ⟨rfl, hb⟩; refine ⟨_, rfl, ?_⟩; replace BK354 := bb_ BK354 hb; replace HB := hs_ HB hb; (try clear hb); (try clear hb2); (try clear hk); (try clear hi); obtain ⟨hcz16_0, hcz16_1, hfz16_0, hfz16_1⟩ := cz2_ BK354) | ((with_reducible refine gate_callee (f := 17) rfl ?_); refine goesL_ (some 23) rfl rfl Try.func17 (by kernel_rfl) rfl #[.agg #[.slice A0_0 l0_0.length c0_0, .int .i64 a0_1]] rfl al_ ?_; (with_reducible refine (laws_toRows.calls k _ _ l0_0 a0_1 t356 t359 _ ?side1 ?side2 A8.out).mono ?_); (case side1 => exact cb_ (Kd.C_below HR0_0.out HB.out)); (case side2 => exact HC0_0.out); rintro e w17 ⟨v357, rfl, ho0, hb⟩; refine ⟨_, rfl, ?_⟩; have HO358 := A_ (Kd.R_lower ho0 (below_size (hb_ HB))); replace BK354 := bb_ BK354 hb; replace HB := hs_ HB hb; (try clear hb); (try clear hb2); (try clear hk); (try clear hi); (try clear ho0); obtain ⟨Ao18, co18, eo18⟩ := Kd.R_slice HO358.out; subst eo18) | ((with_reducible refine gate_callee (f := 38) rfl ?_); refine goesL_ (some 25) rfl rfl Try.func38 (by kernel_rfl) rfl #[.agg #[.slice Ao18 t356.length co18, .int .i64 t359], .int .i64 a1] rfl al_ ?_; (with_reducible refine (spec_MemNew.calls k _ _ t356 t359 a1 t360 t363 t366 _ ?side1 ?side2 A9.out).mono ?_); (case side1 => repeat (first | exact (Kd.R_reads' HO358.out).2.2 | (with_reducible refine Kd.C_alloc ?_ _) | (with_reducible refine Kd.C_drewN ?_ _) | (with_reducible refine Kd.C_drew ?_))); (case side2 => exact (Kd.R_reads' HO358.out).2.1); rintro e w19 ⟨v361, v364, rfl, ho0, ho1, hb⟩; refine ⟨_, rfl, ?_⟩; have HO362 := A_ (Kd.R_lower ho0 (below_size (hb_ HB))); have HO365 := A_ (Kd.S_lower (Kd.S_new' ho1 (Kd.R_lt (rb_ HO358.out))) (below_size (hb_ HB))); replace HO358 := A_ (Kd.R_below (rb_ HO358.out) hb); replace BK354 := bb_ BK354 hb; replace HB := hs_ HB hb; (try clear hb); (try clear hb2); (try clear hk); (try clear hi); (try clear ho0); (try clear ho1)) | ((with_reducible refine gate_dst (N := 6) rfl ?_); refine bx_ HB rfl (N := 6) rfl (cs := #[.slice none 0 0, .slice none 0 0]) (t := 31) hr_ ?_; clear HB; intro gb367 w20 hg hb BK367 GW367 HB; have NB354_367 := ng_ BK354 hg; have NB367_354 := ns_ (ng_ BK354 hg); replace HO358 := A_ (Kd.R_below (rb_ HO358.out) hb); replace HO362 := A_ (Kd.R_below (rb_ HO362.out) hb); replace HO365 := A_ (Kd.S_below (sb_ HO365.out) hb); replace BK354 := bb_ BK354 hb; clear hb hg; obtain ⟨Ao21, co21, eo21⟩ := Kd.R_slice HO362.out; subst eo21; have hnb22 := NB367_354.out; have hnc22 := NB354_367.out; obtain ⟨hcz23_0, hcz23_1, hfz23_0, hfz23_1⟩ := cz2_ BK367; obtain ⟨Ao24, co24, eo24⟩ := Kd.S_slice HO365.out; subst eo24; obtain ⟨hcz25_0, hcz25_1, hfz25_0, hfz25_1⟩ := cz2_ BK354) | ((with_reducible refine gate_callee (f := 17) rfl ?_); refine goesL_ (some 29) rfl rfl Try.func17 (by kernel_rfl) rfl #[.agg #[.slice A0_0 l0_0.length c0_0, .int .i64 a0_1]] rfl al_ ?_; (with_reducible refine (laws_toRows.calls k _ _ l0_0 a0_1 t368 t371 _ ?side1 ?side2 A10.out).mono ?_); (case side1 => exact Kd.C_below HR0_0.out (hb_ HB)); (case side2 => exact HC0_0.out); rintro e w26 ⟨v369, rfl, ho0, hb⟩; refine ⟨_, rfl, ?_⟩; have HO370 := A_ (Kd.R_lower (Kd.R_new' ho0 (Kd.R_lt (by (with_reducible repeat (first | apply Kd.R_alloc | apply Kd.R_drewN | apply Kd.R_drew)); exact (Kd.R_mono (Kd.R_far (p := ⟨gb367, 1, none⟩) (Kd.R_far (p := ⟨gb367, 0, none⟩) (Kd.R_types HO358.out BK367.out (by decide)) (fun _ hk => hk.2) (.slice Ao21 t360.length co21)) (fun _ hk => hk.2) (.slice Ao24 t363.length co24)) (fun _ h_ => h_.1))))) (below_size (hb_ HB))); replace HO358 := A_ (Kd.R_elder' (by (with_reducible repeat (first | apply Kd.R_alloc | apply Kd.R_drewN | apply Kd.R_drew)); exact (Kd.R_mono (Kd.R_far (p := ⟨gb367, 1, none⟩) (Kd.R_far (p := ⟨gb367, 0, none⟩) (Kd.R_types HO358.out BK367.out (by decide)) (fun _ hk => hk.2) (.slice Ao21 t360.length co21)) (fun _ hk => hk.2) (.slice Ao24 t363.length co24)) (fun _ h_ => h_.1))) (Kd.R_base ho0) hb); replace HO362 := A_ (Kd.R_below (by (with_reducible repeat (first | apply Kd.R_alloc | apply Kd.R_drewN | apply Kd.R_drew)); exact (Kd.R_mono (Kd.R_far (p := ⟨gb367, 1, none⟩) (Kd.R_far (p := ⟨gb367, 0, none⟩) (Kd.R_types HO362.out BK367.out (by decide)) (fun _ hk => hk.2) (.slice Ao21 t360.length co21)) (fun _ hk => hk.2) (.slice Ao24 t363.length co24)) (fun _ h_ => h_.1))) hb); replace HO365 := A_ (Kd.S_elder' (by (with_reducible repeat (first | apply Kd.S_alloc | apply Kd.S_drewN | apply Kd.S_drew)); exact (Kd.S_mono (Kd.S_far (p := ⟨gb367, 1, none⟩) (Kd.S_far (p := ⟨gb367, 0, none⟩) (Kd.S_types HO365.out BK367.out (by decide)) (fun _ hk => hk.2) (.slice Ao21 t360.length co21)) (fun _ hk => hk.2) (.slice Ao24 t363.length co24)) (fun _ h_ => h_.1))) (Kd.R_base ho0) hb); replace BK354 := bb_ BK354 hb; replace BK367 := bq_ (o' := .cells #[.slice Ao21 t360.length co21, .slice Ao24 t363.length co24] 31 (0, 0)) BK367 hb; replace HB := hs_ HB hb; (try clear hb); (try clear hb2); (try clear hk); (try clear hi); (try clear ho0)) | ((with_reducible refine gate_dst (N := 8) rfl ?_); refine bx_ HB rfl (N := 8) rfl (cs := #[.slice none 0 0, .int .i64 0]) (t := 44) hr_ ?_; clear HB; intro gb372 w27 hg hb BK372 GW372 HB; have NB354_372 := ng_ BK354 hg; have NB372_354 := ns_ (ng_ BK354 hg); have NB367_372 := ng_ BK367 hg; have NB372_367 := ns_ (ng_ BK367 hg); replace HO358 := A_ (Kd.R_below (rb_ HO358.out) hb); replace HO362 := A_ (Kd.R_below (rb_ HO362.out) hb); replace HO365 := A_ (Kd.S_below (sb_ HO365.out) hb); replace HO370 := A_ (Kd.R_below (rb_ HO370.out) hb); replace BK354 := bb_ BK354 hb; replace BK367 := bb_ BK367 hb; clear hb hg; obtain ⟨Ao28, co28, eo28⟩ := Kd.R_slice HO370.out; subst eo28; have hnb29 := NB372_354.out; have hnc29 := NB354_372.out; have hnb30 := NB372_367.out; have hnc30 := NB367_372.out; obtain ⟨hcz31_0, hcz31_1, hfz31_0, hfz31_1⟩ := cz2_ BK372) | ((with_reducible refine gate_callee (f := 39) rfl ?_); refine goesL_ (some 33) rfl rfl Try.func39 (by kernel_rfl) rfl #[.agg #[.slice Ao28 t368.length co28, .int .i64 t371], .int .i64 a1] rfl al_ ?_; (with_reducible refine (impl_MemNew.calls k _ _ t368 t371 a1 t373 t376 t379 _ ?side1 ?side2 A11.out).mono ?_); (case side1 => refine (Kd.R_reads' (e := 3) (base := w.heap.size) (ok := fun k_ => (True ∧ some k_ ≠ (.slice Ao18 t356.length co18 : Value).ownBlock)) (n := t368.length) (c := co28) ?_).2.2; exact (by (with_reducible repeat (first | apply Kd.R_alloc | apply Kd.R_drewN | apply Kd.R_drew)); exact (Kd.R_mono (Kd.R_far (p := ⟨gb372, 1, none⟩) (Kd.R_far (p := ⟨gb372, 0, none⟩) (Kd.R_types HO370.out BK372.out (by decide)) (fun _ hk => hk.2) (.slice Ao28 t368.length co28)) (fun _ hk => hk.2) (.int .i64 t371)) (fun _ h_ => h_.1)))); (case side2 => exact (Kd.R_reads' HO370.out).2.1); rintro e w32 ⟨v374, v377, rfl, ho0, ho1, hb⟩; refine ⟨_, rfl, ?_⟩; obtain ⟨nn_, hnn_⟩ := mm_mile hb; have HO375 := A_ (Kd.R_lower (Kd.R_new' ho0 (Kd.R_lt (by (with_reducible repeat (first | apply Kd.R_alloc | apply Kd.R_drewN | apply Kd.R_drew)); exact (Kd.R_mono (Kd.R_far (p := ⟨gb372, 1, none⟩) (Kd.R_far (p := ⟨gb372, 0, none⟩) (Kd.R_types HO362.out BK372.out (by decide)) (fun _ hk => hk.2) (.slice Ao28 t368.length co28)) (fun _ hk => hk.2) (.int .i64 t371)) (fun _ h_ => h_.1))))) (below_size (hb_ HB))); have HO378 := A_ (Kd.S_lower (Kd.S_new' (mm_new (Kd.S_new' ho1 (Kd.R_lt (by (with_reducible repeat (first | apply Kd.R_alloc | apply Kd.R_drewN | apply Kd.R_drew)); exact (Kd.R_mono (Kd.R_far (p := ⟨gb372, 1, none⟩) (Kd.R_far (p := ⟨gb372, 0, none⟩) (Kd.R_types HO358.out BK372.out (by decide)) (fun _ hk => hk.2) (.slice Ao28 t368.length co28)) (fun _ hk => hk.2) (.int .i64 t371)) (fun _ h_ => h_.1))))) hnn_) (Kd.R_lt (by (with_reducible repeat (first | apply Kd.R_alloc | apply Kd.R_drewN | apply Kd.R_drew)); exact (Kd.R_mono (Kd.R_far (p := ⟨gb372, 1, none⟩) (Kd.R_far (p := ⟨gb372, 0, none⟩) (Kd.R_types HO370.out BK372.out (by decide)) (fun _ hk => hk.2) (.slice Ao28 t368.length co28)) (fun _ hk => hk.2) (.int .i64 t371)) (fun _ h_ => h_.1))))) (below_size (hb_ HB))); replace HO358 := A_ (Kd.R_below (by (with_reducible repeat (first | apply Kd.R_alloc | apply Kd.R_drewN | apply Kd.R_drew)); exact (Kd.R_mono (Kd.R_far (p := ⟨gb372, 1, none⟩) (Kd.R_far (p := ⟨gb372, 0, none⟩) (Kd.R_types HO358.out BK372.out (by decide)) (fun _ hk => hk.2) (.slice Ao28 t368.length co28)) (fun _ hk => hk.2) (.int .i64 t371)) (fun _ h_ => h_.1))) hb); replace HO362 := A_ (Kd.R_elder' (by (with_reducible repeat (first | apply Kd.R_alloc | apply Kd.R_drewN | apply Kd.R_drew)); exact (Kd.R_mono (Kd.R_far (p := ⟨gb372, 1, none⟩) (Kd.R_far (p := ⟨gb372, 0, none⟩) (Kd.R_types HO362.out BK372.out (by decide)) (fun _ hk => hk.2) (.slice Ao28 t368.length co28)) (fun _ hk => hk.2) (.int .i64 t371)) (fun _ h_ => h_.1))) (Kd.R_base ho0) hb); replace HO365 := A_ (mm_old (by (with_reducible repeat (first | apply Kd.S_alloc | apply Kd.S_drewN | apply Kd.S_drew)); exact (Kd.S_mono (Kd.S_far (p := ⟨gb372, 1, none⟩) (Kd.S_far (p := ⟨gb372, 0, none⟩) (Kd.S_types HO365.out BK372.out (by decide)) (fun _ hk => hk.2) (.slice Ao28 t368.length co28)) (fun _ hk => hk.2) (.int .i64 t371)) (fun _ h_ => h_.1))) hb hnn_); replace HO370 := A_ (Kd.R_below (by (with_reducible repeat (first | apply Kd.R_alloc | apply Kd.R_drewN | apply Kd.R_drew)); exact (Kd.R_mono (Kd.R_far (p := ⟨gb372, 1, none⟩) (Kd.R_far (p := ⟨gb372, 0, none⟩) (Kd.R_types HO370.out BK372.out (by decide)) (fun _ hk => hk.2) (.slice Ao28 t368.length co28)) (fun _ hk => hk.2) (.int .i64 t371)) (fun _ h_ => h_.1))) hb); replace BK354 := bb_ BK354 hb; replace BK367 := bb_ BK367 hb; replace BK372 := bq_ (o' := .cells #[.slice Ao28 t368.length co28, .int .i64 t371] 44 (0, 0)) BK372 hb; replace HB := hs_ HB hb; (try clear hnn_); (try clear hb); (try clear hb2); (try clear hk); (try clear hi); (try clear ho0); (try clear ho1)) | ((with_reducible refine gate_dst (N := 9) rfl ?_); refine bx_ HB rfl (N := 9) rfl (cs := #[.slice none 0 0, .slice none 0 0]) (t := 31) hr_ ?_; clear HB; intro gb380 w33 hg hb BK380 GW380 HB; have NB354_380 := ng_ BK354 hg; have NB380_354 := ns_ (ng_ BK354 hg); have NB367_380 := ng_ BK367 hg; have NB380_367 := ns_ (ng_ BK367 hg); have NB372_380 := ng_ BK372 hg; have NB380_372 := ns_ (ng_ BK372 hg); replace HO358 := A_ (Kd.R_below (rb_ HO358.out) hb); replace HO362 := A_ (Kd.R_below (rb_ HO362.out) hb); replace HO365 := A_ (Kd.S_below (sb_ HO365.out) hb); replace HO370 := A_ (Kd.R_below (rb_ HO370.out) hb); replace HO375 := A_ (Kd.R_below (rb_ HO375.out) hb); replace HO378 := A_ (Kd.S_below (sb_ HO378.out) hb); replace BK354 := bb_ BK354 hb; replace BK367 := bb_ BK367 hb; replace BK372 := bb_ BK372 hb; clear hb hg; obtain ⟨Ao34, co34, eo34⟩ := Kd.R_slice HO375.out; subst eo34; have hnb35 := NB380_354.out; have hnc35 := NB354_380.out; have hnb36 := NB380_367.out; have hnc36 := NB367_380.out; have hnb37 := NB380_372.out; have hnc37 := NB372_380.out; obtain ⟨hcz38_0, hcz38_1, hfz38_0, hfz38_1⟩ := cz2_ BK380; obtain ⟨Ao39, co39, eo39⟩ := Kd.S_slice HO378.out; subst eo39))
 (try simp only [Act.put, List.setIfInBounds_toArray, List.set_cons_zero, List.set_cons_succ])
 go_cut [44] (fun v44 wc => ∃ (kq : Nat) (x44_11 : Bool), v44 = .bool x44_11 ∧ Aside0 (laws_FnExactMemNew.j0 kq a1 t366 t379 x44_11 l0_0 a0_1 t360 t363 t368 t371 t373 t376 = some r) ∧ Aside0 (kq ≤ k) ∧ Aside0 (Kd.R k95 95 wc w.heap.size (fun k_ => some k_ ≠ ((.slice Ao34 t373.length co34) : Value).ownBlock) (.slice Ao21 t360.length co21) t360) ∧ Aside0 (Kd.S k119 119 wc w.heap.size (fun k_ => some k_ ≠ ((.slice Ao28 t368.length co28) : Value).ownBlock ∧ k_ < nn_) (.slice Ao24 t363.length co24) t363) ∧ Aside0 (Kd.R (Kd.int .i64) 3 wc w.heap.size (fun _ => True) (.slice Ao28 t368.length co28) t368) ∧ Aside0 (Kd.R k95 95 wc w.heap.size (fun k_ => some k_ ≠ ((.slice Ao21 t360.length co21) : Value).ownBlock) (.slice Ao34 t373.length co34) t373) ∧ Aside0 (Kd.S k119 119 wc w.heap.size (fun k_ => nn_ ≤ k_ ∧ some k_ ≠ ((.slice Ao28 t368.length co28) : Value).ownBlock) (.slice Ao39 t376.length co39) t376) ∧ Aside0 (wc.heap[gb354]? = some (.cells #[(.slice A0_0 l0_0.length c0_0), .int .i64 a0_1] 37 (0, 0))) ∧ Aside0 (wc.heap[gb367]? = some (.cells #[(.slice Ao21 t360.length co21), (.slice Ao24 t363.length co24)] 31 (0, 0))) ∧ Aside0 (wc.heap[gb372]? = some (.cells #[(.slice Ao28 t368.length co28), .int .i64 t371] 44 (0, 0))) ∧ Aside0 (wc.heap[gb380]? = some (.cells #[(.slice Ao34 t373.length co34), (.slice Ao39 t376.length co39)] 31 (0, 0))) ∧ Aside0 (Below w.heap.size w wc))
 case first =>
  have H := HC12.out
  clear HC12
  replace H := bs_ H
  obtain ⟨t381, A40, H⟩ := H
  by_cases c41 : t381 = true
  ·
   subst c41
   replace H := it_ H
   replace H' := A_ H; clear H
   have hnb42 := NB380_354.out
   have hnc42 := NB354_380.out
   have hnb43 := NB380_367.out
   have hnc43 := NB367_380.out
   have hnb44 := NB380_372.out
   have hnc44 := NB372_380.out
   obtain ⟨hcz45_0, hcz45_1, hfz45_0, hfz45_1⟩ := cz2_ BK380
   have hnb46 := NB367_354.out
   have hnc46 := NB354_367.out
   have hnb47 := NB367_372.out
   have hnc47 := NB372_367.out
   obtain ⟨hcz48_0, hcz48_1, hfz48_0, hfz48_1⟩ := cz2_ BK367
   go_wp2_with (first | ((with_reducible refine gate_callee (f := 13) rfl ?_); refine goesL_ (some 38) rfl rfl Try.func13 (by kernel_rfl) rfl #[.agg #[.slice Ao34 t373.length co34, .slice Ao39 t376.length co39], .agg #[.slice Ao21 t360.length co21, .slice Ao24 t363.length co24]] rfl al_ ?_; (with_reducible refine (laws_eqMem.calls k _ _ t373 _ _ t376 _ _ t360 _ _ t363 true _ ?side1 ?side2 ?side3 ?side4 ?side5 ?side6 ?side7 ?side8 A40.out).mono ?_); (case side1 => refine (Kd.R_reads' (e := 95) (base := w.heap.size) (ok := fun k_ => (True ∧ some k_ ≠ (.slice Ao21 t360.length co21 : Value).ownBlock)) (n := t373.length) (c := co34) ?_).2.2; exact (by (with_reducible repeat (first | apply Kd.R_alloc | apply Kd.R_drewN | apply Kd.R_drew)); exact (Kd.R_mono (Kd.R_far (p := ⟨gb380, 1, none⟩) (Kd.R_far (p := ⟨gb380, 0, none⟩) (Kd.R_types HO375.out BK380.out (by decide)) (fun _ hk => hk.2) (.slice Ao34 t373.length co34)) (fun _ hk => hk.2) (.slice Ao39 t376.length co39)) (fun _ h_ => h_.1)))); (case side2 => exact (Kd.R_reads' HO375.out).2.1); (case side3 => refine (Kd.S_reads' (e := 119) (base := w.heap.size) (ok := fun k_ => (((True ∧ some k_ ≠ (.slice Ao18 t356.length co18 : Value).ownBlock) ∧ nn_ ≤ k_) ∧ some k_ ≠ (.slice Ao28 t368.length co28 : Value).ownBlock)) (n := t376.length) (c := co39) ?_).2.2; exact (by (with_reducible repeat (first | apply Kd.S_alloc | apply Kd.S_drewN | apply Kd.S_drew)); exact (Kd.S_mono (Kd.S_far (p := ⟨gb380, 1, none⟩) (Kd.S_far (p := ⟨gb380, 0, none⟩) (Kd.S_types HO378.out BK380.out (by decide)) (fun _ hk => hk.2) (.slice Ao34 t373.length co34)) (fun _ hk => hk.2) (.slice Ao39 t376.length co39)) (fun _ h_ => h_.1)))); (case side4 => exact (Kd.S_reads' HO378.out).2.1); (case side5 => refine (Kd.R_reads' (e := 95) (base := w.heap.size) (ok := fun k_ => (True ∧ some k_ ≠ (.slice Ao34 t373.length co34 : Value).ownBlock)) (n := t360.length) (c := co21) ?_).2.2; exact (by (with_reducible repeat (first | apply Kd.R_alloc | apply Kd.R_drewN | apply Kd.R_drew)); exact (Kd.R_mono (Kd.R_far (p := ⟨gb380, 1, none⟩) (Kd.R_far (p := ⟨gb380, 0, none⟩) (Kd.R_types HO362.out BK380.out (by decide)) (fun _ hk => hk.2) (.slice Ao34 t373.length co34)) (fun _ hk => hk.2) (.slice Ao39 t376.length co39)) (fun _ h_ => h_.1)))); (case side6 => exact (Kd.R_reads' HO362.out).2.1); (case side7 => refine (Kd.S_reads' (e := 119) (base := w.heap.size) (ok := fun k_ => (((True ∧ some k_ ≠ (.slice Ao18 t356.length co18 : Value).ownBlock) ∧ some k_ ≠ (.slice Ao28 t368.length co28 : Value).ownBlock) ∧ k_ < nn_)) (n := t363.length) (c := co24) ?_).2.2; exact (by (with_reducible repeat (first | apply Kd.S_alloc | apply Kd.S_drewN | apply Kd.S_drew)); exact (Kd.S_mono (Kd.S_far (p := ⟨gb380, 1, none⟩) (Kd.S_far (p := ⟨gb380, 0, none⟩) (Kd.S_types HO365.out BK380.out (by decide)) (fun _ hk => hk.2) (.slice Ao34 t373.length co34)) (fun _ hk => hk.2) (.slice Ao39 t376.length co39)) (fun _ h_ => h_.1)))); (case side8 => exact (Kd.S_reads' HO365.out).2.1); rintro e w49 ⟨rfl, hb⟩; refine ⟨_, rfl, ?_⟩; replace HO358 := A_ (Kd.R_below (by (with_reducible repeat (first | apply Kd.R_alloc | apply Kd.R_drewN | apply Kd.R_drew)); exact (Kd.R_mono (Kd.R_far (p := ⟨gb380, 1, none⟩) (Kd.R_far (p := ⟨gb380, 0, none⟩) (Kd.R_types HO358.out BK380.out (by decide)) (fun _ hk => hk.2) (.slice Ao34 t373.length co34)) (fun _ hk => hk.2) (.slice Ao39 t376.length co39)) (fun _ h_ => h_.1))) hb); replace HO362 := A_ (Kd.R_below (by (with_reducible repeat (first | apply Kd.R_alloc | apply Kd.R_drewN | apply Kd.R_drew)); exact (Kd.R_mono (Kd.R_far (p := ⟨gb380, 1, none⟩) (Kd.R_far (p := ⟨gb380, 0, none⟩) (Kd.R_types HO362.out BK380.out (by decide)) (fun _ hk => hk.2) (.slice Ao34 t373.length co34)) (fun _ hk => hk.2) (.slice Ao39 t376.length co39)) (fun _ h_ => h_.1))) hb); replace HO365 := A_ (Kd.S_below (by (with_reducible repeat (first | apply Kd.S_alloc | apply Kd.S_drewN | apply Kd.S_drew)); exact (Kd.S_mono (Kd.S_far (p := ⟨gb380, 1, none⟩) (Kd.S_far (p := ⟨gb380, 0, none⟩) (Kd.S_types HO365.out BK380.out (by decide)) (fun _ hk => hk.2) (.slice Ao34 t373.length co34)) (fun _ hk => hk.2) (.slice Ao39 t376.length co39)) (fun _ h_ => h_.1))) hb); replace HO370 := A_ (Kd.R_below (by (with_reducible repeat (first | apply Kd.R_alloc | apply Kd.R_drewN | apply Kd.R_drew)); exact (Kd.R_mono (Kd.R_far (p := ⟨gb380, 1, none⟩) (Kd.R_far (p := ⟨gb380, 0, none⟩) (Kd.R_types HO370.out BK380.out (by decide)) (fun _ hk => hk.2) (.slice Ao34 t373.length co34)) (fun _ hk => hk.2) (.slice Ao39 t376.length co39)) (fun _ h_ => h_.1))) hb); replace HO375 := A_ (Kd.R_below (by (with_reducible repeat (first | apply Kd.R_alloc | apply Kd.R_drewN | apply Kd.R_drew)); exact (Kd.R_mono (Kd.R_far (p := ⟨gb380, 1, none⟩) (Kd.R_far (p := ⟨gb380, 0, none⟩) (Kd.R_types HO375.out BK380.out (by decide)) (fun _ hk => hk.2) (.slice Ao34 t373.length co34)) (fun _ hk => hk.2) (.slice Ao39 t376.length co39)) (fun _ h_ => h_.1))) hb); replace HO378 := A_ (Kd.S_below (by (with_reducible repeat (first | apply Kd.S_alloc | apply Kd.S_drewN | apply Kd.S_drew)); exact (Kd.S_mono (Kd.S_far (p := ⟨gb380, 1, none⟩) (Kd.S_far (p := ⟨gb380, 0, none⟩) (Kd.S_types HO378.out BK380.out (by decide)) (fun _ hk => hk.2) (.slice Ao34 t373.length co34)) (fun _ hk => hk.2) (.slice Ao39 t376.length co39)) (fun _ h_ => h_.1))) hb); replace BK354 := bb_ BK354 hb; replace BK367 := bb_ BK367 hb; replace BK372 := bb_ BK372 hb; replace BK380 := bq_ (o' := .cells #[.slice Ao34 t373.length co34, .slice Ao39 t376.length co39] 31 (0, 0)) BK380 hb; replace HB := hs_ HB hb; (try clear hb); (try clear hb2); (try clear hk); (try clear hi)))
   go_meet
   case rel => exact ⟨_, ((t379 != t366)), rt_, H', ⟨by first | omega | exact Nat.le_refl _⟩, ⟨by (with_reducible repeat (first | apply Kd.R_alloc | apply Kd.R_drewN | apply Kd.R_drew)); exact Kd.R_mono HO362.out (fun _ hk => hk.2)⟩, ⟨by (with_reducible repeat (first | apply Kd.S_alloc | apply Kd.S_drewN | apply Kd.S_drew)); exact Kd.S_mono HO365.out (fun _ hk => ⟨hk.1.2, hk.2⟩)⟩, ⟨by (with_reducible repeat (first | apply Kd.R_alloc | apply Kd.R_drewN | apply Kd.R_drew)); exact Kd.R_mono HO370.out (fun _ hk => trivial)⟩, ⟨by (with_reducible repeat (first | apply Kd.R_alloc | apply Kd.R_drewN | apply Kd.R_drew)); exact Kd.R_mono HO375.out (fun _ hk => hk.2)⟩, ⟨by (with_reducible repeat (first | apply Kd.S_alloc | apply Kd.S_drewN | apply Kd.S_drew)); exact Kd.S_mono HO378.out (fun _ hk => ⟨hk.1.2, hk.2⟩)⟩, ⟨bk_ BK354⟩, ⟨bk_ BK367⟩, ⟨bk_ BK372⟩, ⟨bk_ BK380⟩, ⟨hb_ HB⟩⟩
  obtain rfl := Bool.eq_false_iff.mpr c41
  replace H := iF_ H
  replace H' := A_ H; clear H
  have hnb50 := NB380_354.out
  have hnc50 := NB354_380.out
  have hnb51 := NB380_367.out
  have hnc51 := NB367_380.out
  have hnb52 := NB380_372.out
  have hnc52 := NB372_380.out
  obtain ⟨hcz53_0, hcz53_1, hfz53_0, hfz53_1⟩ := cz2_ BK380
  have hnb54 := NB367_354.out
  have hnc54 := NB354_367.out
  have hnb55 := NB367_372.out
  have hnc55 := NB372_367.out
  obtain ⟨hcz56_0, hcz56_1, hfz56_0, hfz56_1⟩ := cz2_ BK367
  go_wp2_with (first | ((with_reducible refine gate_callee (f := 13) rfl ?_); refine goesL_ (some 38) rfl rfl Try.func13 (by kernel_rfl) rfl #[.agg #[.slice Ao34 t373.length co34, .slice Ao39 t376.length co39], .agg #[.slice Ao21 t360.length co21, .slice Ao24 t363.length co24]] rfl al_ ?_; (with_reducible refine (laws_eqMem.calls k _ _ t373 _ _ t376 _ _ t360 _ _ t363 false _ ?side1 ?side2 ?side3 ?side4 ?side5 ?side6 ?side7 ?side8 A40.out).mono ?_); (case side1 => refine (Kd.R_reads' (e := 95) (base := w.heap.size) (ok := fun k_ => (True ∧ some k_ ≠ (.slice Ao21 t360.length co21 : Value).ownBlock)) (n := t373.length) (c := co34) ?_).2.2; exact (by (with_reducible repeat (first | apply Kd.R_alloc | apply Kd.R_drewN | apply Kd.R_drew)); exact (Kd.R_mono (Kd.R_far (p := ⟨gb380, 1, none⟩) (Kd.R_far (p := ⟨gb380, 0, none⟩) (Kd.R_types HO375.out BK380.out (by decide)) (fun _ hk => hk.2) (.slice Ao34 t373.length co34)) (fun _ hk => hk.2) (.slice Ao39 t376.length co39)) (fun _ h_ => h_.1)))); (case side2 => exact (Kd.R_reads' HO375.out).2.1); (case side3 => refine (Kd.S_reads' (e := 119) (base := w.heap.size) (ok := fun k_ => (((True ∧ some k_ ≠ (.slice Ao18 t356.length co18 : Value).ownBlock) ∧ nn_ ≤ k_) ∧ some k_ ≠ (.slice Ao28 t368.length co28 : Value).ownBlock)) (n := t376.length) (c := co39) ?_).2.2; exact (by (with_reducible repeat (first | apply Kd.S_alloc | apply Kd.S_drewN | apply Kd.S_drew)); exact (Kd.S_mono (Kd.S_far (p := ⟨gb380, 1, none⟩) (Kd.S_far (p := ⟨gb380, 0, none⟩) (Kd.S_types HO378.out BK380.out (by decide)) (fun _ hk => hk.2) (.slice Ao34 t373.length co34)) (fun _ hk => hk.2) (.slice Ao39 t376.length co39)) (fun _ h_ => h_.1)))); (case side4 => exact (Kd.S_reads' HO378.out).2.1); (case side5 => refine (Kd.R_reads' (e := 95) (base := w.heap.size) (ok := fun k_ => (True ∧ some k_ ≠ (.slice Ao34 t373.length co34 : Value).ownBlock)) (n := t360.length) (c := co21) ?_).2.2; exact (by (with_reducible repeat (first | apply Kd.R_alloc | apply Kd.R_drewN | apply Kd.R_drew)); exact (Kd.R_mono (Kd.R_far (p := ⟨gb380, 1, none⟩) (Kd.R_far (p := ⟨gb380, 0, none⟩) (Kd.R_types HO362.out BK380.out (by decide)) (fun _ hk => hk.2) (.slice Ao34 t373.length co34)) (fun _ hk => hk.2) (.slice Ao39 t376.length co39)) (fun _ h_ => h_.1)))); (case side6 => exact (Kd.R_reads' HO362.out).2.1); (case side7 => refine (Kd.S_reads' (e := 119) (base := w.heap.size) (ok := fun k_ => (((True ∧ some k_ ≠ (.slice Ao18 t356.length co18 : Value).ownBlock) ∧ some k_ ≠ (.slice Ao28 t368.length co28 : Value).ownBlock) ∧ k_ < nn_)) (n := t363.length) (c := co24) ?_).2.2; exact (by (with_reducible repeat (first | apply Kd.S_alloc | apply Kd.S_drewN | apply Kd.S_drew)); exact (Kd.S_mono (Kd.S_far (p := ⟨gb380, 1, none⟩) (Kd.S_far (p := ⟨gb380, 0, none⟩) (Kd.S_types HO365.out BK380.out (by decide)) (fun _ hk => hk.2) (.slice Ao34 t373.length co34)) (fun _ hk => hk.2) (.slice Ao39 t376.length co39)) (fun _ h_ => h_.1)))); (case side8 => exact (Kd.S_reads' HO365.out).2.1); rintro e w57 ⟨rfl, hb⟩; refine ⟨_, rfl, ?_⟩; replace HO358 := A_ (Kd.R_below (by (with_reducible repeat (first | apply Kd.R_alloc | apply Kd.R_drewN | apply Kd.R_drew)); exact (Kd.R_mono (Kd.R_far (p := ⟨gb380, 1, none⟩) (Kd.R_far (p := ⟨gb380, 0, none⟩) (Kd.R_types HO358.out BK380.out (by decide)) (fun _ hk => hk.2) (.slice Ao34 t373.length co34)) (fun _ hk => hk.2) (.slice Ao39 t376.length co39)) (fun _ h_ => h_.1))) hb); replace HO362 := A_ (Kd.R_below (by (with_reducible repeat (first | apply Kd.R_alloc | apply Kd.R_drewN | apply Kd.R_drew)); exact (Kd.R_mono (Kd.R_far (p := ⟨gb380, 1, none⟩) (Kd.R_far (p := ⟨gb380, 0, none⟩) (Kd.R_types HO362.out BK380.out (by decide)) (fun _ hk => hk.2) (.slice Ao34 t373.length co34)) (fun _ hk => hk.2) (.slice Ao39 t376.length co39)) (fun _ h_ => h_.1))) hb); replace HO365 := A_ (Kd.S_below (by (with_reducible repeat (first | apply Kd.S_alloc | apply Kd.S_drewN | apply Kd.S_drew)); exact (Kd.S_mono (Kd.S_far (p := ⟨gb380, 1, none⟩) (Kd.S_far (p := ⟨gb380, 0, none⟩) (Kd.S_types HO365.out BK380.out (by decide)) (fun _ hk => hk.2) (.slice Ao34 t373.length co34)) (fun _ hk => hk.2) (.slice Ao39 t376.length co39)) (fun _ h_ => h_.1))) hb); replace HO370 := A_ (Kd.R_below (by (with_reducible repeat (first | apply Kd.R_alloc | apply Kd.R_drewN | apply Kd.R_drew)); exact (Kd.R_mono (Kd.R_far (p := ⟨gb380, 1, none⟩) (Kd.R_far (p := ⟨gb380, 0, none⟩) (Kd.R_types HO370.out BK380.out (by decide)) (fun _ hk => hk.2) (.slice Ao34 t373.length co34)) (fun _ hk => hk.2) (.slice Ao39 t376.length co39)) (fun _ h_ => h_.1))) hb); replace HO375 := A_ (Kd.R_below (by (with_reducible repeat (first | apply Kd.R_alloc | apply Kd.R_drewN | apply Kd.R_drew)); exact (Kd.R_mono (Kd.R_far (p := ⟨gb380, 1, none⟩) (Kd.R_far (p := ⟨gb380, 0, none⟩) (Kd.R_types HO375.out BK380.out (by decide)) (fun _ hk => hk.2) (.slice Ao34 t373.length co34)) (fun _ hk => hk.2) (.slice Ao39 t376.length co39)) (fun _ h_ => h_.1))) hb); replace HO378 := A_ (Kd.S_below (by (with_reducible repeat (first | apply Kd.S_alloc | apply Kd.S_drewN | apply Kd.S_drew)); exact (Kd.S_mono (Kd.S_far (p := ⟨gb380, 1, none⟩) (Kd.S_far (p := ⟨gb380, 0, none⟩) (Kd.S_types HO378.out BK380.out (by decide)) (fun _ hk => hk.2) (.slice Ao34 t373.length co34)) (fun _ hk => hk.2) (.slice Ao39 t376.length co39)) (fun _ h_ => h_.1))) hb); replace BK354 := bb_ BK354 hb; replace BK367 := bb_ BK367 hb; replace BK372 := bb_ BK372 hb; replace BK380 := bq_ (o' := .cells #[.slice Ao34 t373.length co34, .slice Ao39 t376.length co39] 31 (0, 0)) BK380 hb; replace HB := hs_ HB hb; (try clear hb); (try clear hb2); (try clear hk); (try clear hi)))
  go_meet
  case rel => exact ⟨_, (true), rt_, H', ⟨by first | omega | exact Nat.le_refl _⟩, ⟨by (with_reducible repeat (first | apply Kd.R_alloc | apply Kd.R_drewN | apply Kd.R_drew)); exact Kd.R_mono HO362.out (fun _ hk => hk.2)⟩, ⟨by (with_reducible repeat (first | apply Kd.S_alloc | apply Kd.S_drewN | apply Kd.S_drew)); exact Kd.S_mono HO365.out (fun _ hk => ⟨hk.1.2, hk.2⟩)⟩, ⟨by (with_reducible repeat (first | apply Kd.R_alloc | apply Kd.R_drewN | apply Kd.R_drew)); exact Kd.R_mono HO370.out (fun _ hk => trivial)⟩, ⟨by (with_reducible repeat (first | apply Kd.R_alloc | apply Kd.R_drewN | apply Kd.R_drew)); exact Kd.R_mono HO375.out (fun _ hk => hk.2)⟩, ⟨by (with_reducible repeat (first | apply Kd.S_alloc | apply Kd.S_drewN | apply Kd.S_drew)); exact Kd.S_mono HO378.out (fun _ hk => ⟨hk.1.2, hk.2⟩)⟩, ⟨bk_ BK354⟩, ⟨bk_ BK367⟩, ⟨bk_ BK372⟩, ⟨bk_ BK380⟩, ⟨hb_ HB⟩⟩
 case rest =>
  clear HC12
  try clear c2
  try clear c4b0
  try clear c41
  obtain ⟨kq, x44_11, rfl, HA, HJ11, HO_368000, HO_368001, HO_373000, HO_381000, HO_381001, BK354, BK367, BK372, BK380, HB⟩ := hcut
  cases kq with
  | zero => exact absurd HA.out (by simp [laws_FnExactMemNew.j0])
  | succ kj11 =>
   have H := HA.out
   clear HA
   simp only [laws_FnExactMemNew.j0] at H
   by_cases c58 : x44_11 = true
   ·
    subst c58
    replace H := it_ H
    exact absurd H (by simp)
   obtain rfl := Bool.eq_false_iff.mpr c58
   replace H := iF_ H
   replace H := bs_ H
   obtain ⟨⟨t382, t385⟩, A59, H⟩ := H
   dsimp only at H
   replace H := bs_ H
   obtain ⟨t386, A60, H⟩ := H
   by_cases c61 : t386 = true
   ·
    subst c61
    replace H := it_ H
    replace H := bs_ H
    obtain ⟨⟨t387, t388⟩, A62, H⟩ := H
    dsimp only at H
    have HC63 := A_ H
    clear H
    try go_wp2
    replace HO_368000 := A_ (Kd.R_drew HO_368000.out)
    replace HO_368001 := A_ (Kd.S_drew HO_368001.out)
    replace HO_373000 := A_ (Kd.R_drew HO_373000.out)
    replace HO_381000 := A_ (Kd.R_drew HO_381000.out)
    replace HO_381001 := A_ (Kd.S_drew HO_381001.out)
    replace BK354 := A_ (blk_drew BK354.out)
    replace BK367 := A_ (blk_drew BK367.out)
    replace BK372 := A_ (blk_drew BK372.out)
    replace BK380 := A_ (blk_drew BK380.out)
    replace HB := A_ (below_drew1 HB.out)
    refine start_ (n := 5) (S := fun w' => w'.cell? ⟨gb372, 0, none⟩ = some (.slice Ao28 t368.length co28) ∧ w'.cell? ⟨gb372, 1, none⟩ = some (.int .i64 t371) ∧ w'.cell? ⟨gb354, 0, none⟩ = some (.slice A0_0 l0_0.length c0_0) ∧ w'.cell? ⟨gb354, 1, none⟩ = some (.int .i64 a0_1)) (ds := []) (bt_ 0 5) (by kernel_rfl) rfl rfl ⟨(blk_cell BK372.out 0).trans rfl, (blk_cell BK372.out 1).trans rfl, (blk_cell BK354.out 0).trans rfl, (blk_cell BK354.out 1).trans rfl⟩ (fun hHeld => ?_)
    generalize wc.drew = w64 at HO_368000 HO_368001 HO_373000 HO_381000 HO_381001 BK354 BK367 BK372 BK380 HB hHeld ⊢
    refine take_ (i := 0) (N := some 45) (v := ?_) (a' := ?_) (bt_ 1 5) rfl rfl (by kernel_rfl) (fun _ _ _ h => h) (Or.inl ⟨by rfl, ?_⟩) hHeld ?_ ?_
    rotate_left
    ·
     rintro w' ⟨s0, s1, s2, s3⟩
     go_simp
     with_reducible rfl
    rotate_left
    ·
     simp only [Act.put, List.setIfInBounds_toArray, List.set_cons_zero, List.set_cons_succ, i64_w, i32_w]
     rfl
    refine take_ (i := 1) (N := some 46) (v := ?_) (a' := ?_) (bt_ 3 5) rfl rfl (by kernel_rfl) (fun _ _ _ h => h) (Or.inl ⟨by rfl, ?_⟩) hHeld ?_ ?_
    rotate_left
    ·
     rintro w' ⟨s0, s1, s2, s3⟩
     go_simp
     with_reducible rfl
    rotate_left
    ·
     simp only [Act.put, List.setIfInBounds_toArray, List.set_cons_zero, List.set_cons_succ, i64_w, i32_w]
     rfl
    refine one_ (i := 2) (N := some 47) (bt_ 7 5) rfl rfl (by kernel_rfl) (by decide) (fun K hK => ?_)
    refine goes_ Try.func17 (by kernel_rfl) rfl #[.agg #[.slice A0_0 l0_0.length c0_0, .int .i64 a0_1]] (by rfl) rfl rfl al_ ?_
    with_reducible refine (laws_toRows.calls kj11 _ _ l0_0 a0_1 t382 t385 _ ?side1 ?side2 A59.out).mono ?_
    (case side1 => exact cb_ (Kd.C_below HR0_0.out HB.out))
    (case side2 => exact HC0_0.out)
    rintro e w65 ⟨v383, rfl, ho0, hb⟩
    refine ⟨_, rfl, ?_⟩
    have HO384 := A_ (Kd.R_lower (Kd.R_new' ho0 (Kd.R_lt (rb_ HO_373000.out))) (below_size (hb_ HB)))
    replace HO_368000 := A_ (Kd.R_below (rb_ HO_368000.out) hb)
    replace HO_368001 := A_ (Kd.S_elder' (sb_ HO_368001.out) (Kd.R_base ho0) hb)
    replace HO_373000 := A_ (Kd.R_elder' (rb_ HO_373000.out) (Kd.R_base ho0) hb)
    replace HO_381000 := A_ (Kd.R_below (rb_ HO_381000.out) hb)
    replace HO_381001 := A_ (Kd.S_elder' (sb_ HO_381001.out) (Kd.R_base ho0) hb)
    replace BK354 := bb_ BK354 hb
    replace BK367 := bb_ BK367 hb
    replace BK372 := bb_ BK372 hb
    replace BK380 := bb_ BK380 hb
    replace HB := hs_ HB hb
    (try clear hb)
    (try clear hb2)
    (try clear hk)
    (try clear hi)
    (try clear ho0)
    obtain ⟨Ao66, co66, eo66⟩ := Kd.R_slice HO384.out
    (first | subst eo66 | (injection eo66 with f1_ f2_ f3_; have f4_ := f1_.symm; have f5_ := f3_.symm; clear f1_ f2_ f3_; subst f4_; subst f5_))
    refine hK.out _ _ ⟨(blk_cell BK372.out 0).trans rfl, (blk_cell BK372.out 1).trans rfl, (blk_cell BK354.out 0).trans rfl, (blk_cell BK354.out 1).trans rfl⟩ (fun hHeld => ?_)
    clear hK K
    refine norm_ (a' := ?_) ?_ ?_
    rotate_left
    ·
     show Act.put _ (some 47) _ = _
     simp only [Act.put, List.setIfInBounds_toArray, List.set_cons_zero, List.set_cons_succ, i64_w, i32_w]
     rfl
    refine one_ (i := 3) (N := some 48) (bt_ 15 5) rfl rfl (by kernel_rfl) (by decide) (fun K hK => ?_)
    refine goes_ Try.func21 (by kernel_rfl) rfl #[.agg #[.slice Ao28 t368.length co28, .int .i64 t371], .agg #[.slice Ao66 t382.length co66, .int .i64 t385]] (by rfl) rfl rfl al_ ?_
    with_reducible refine (laws_eqRows.calls kj11 _ _ t368 t371 _ _ t382 t385 true _ ?side1 ?side2 ?side3 ?side4 A60.out).mono ?_
    (case side1 => repeat (first | exact (Kd.R_reads' HO_373000.out).2.2 | (with_reducible refine Kd.C_alloc ?_ _) | (with_reducible refine Kd.C_drewN ?_ _) | (with_reducible refine Kd.C_drew ?_)))
    (case side2 => exact (Kd.R_reads' HO_373000.out).2.1)
    (case side3 => repeat (first | exact (Kd.R_reads' HO384.out).2.2 | (with_reducible refine Kd.C_alloc ?_ _) | (with_reducible refine Kd.C_drewN ?_ _) | (with_reducible refine Kd.C_drew ?_)))
    (case side4 => exact (Kd.R_reads' HO384.out).2.1)
    rintro e w67 ⟨rfl, hb⟩
    refine ⟨_, rfl, ?_⟩
    replace HO_368000 := A_ (Kd.R_below (rb_ HO_368000.out) hb)
    replace HO_368001 := A_ (Kd.S_below (sb_ HO_368001.out) hb)
    replace HO_373000 := A_ (Kd.R_below (rb_ HO_373000.out) hb)
    replace HO_381000 := A_ (Kd.R_below (rb_ HO_381000.out) hb)
    replace HO_381001 := A_ (Kd.S_below (sb_ HO_381001.out) hb)
    replace HO384 := A_ (Kd.R_below (rb_ HO384.out) hb)
    replace BK354 := bb_ BK354 hb
    replace BK367 := bb_ BK367 hb
    replace BK372 := bb_ BK372 hb
    replace BK380 := bb_ BK380 hb
    replace HB := hs_ HB hb
    (try clear hb)
    (try clear hb2)
    (try clear hk)
    (try clear hi)
    refine hK.out _ _ ⟨(blk_cell BK372.out 0).trans rfl, (blk_cell BK372.out 1).trans rfl, (blk_cell BK354.out 0).trans rfl, (blk_cell BK354.out 1).trans rfl⟩ (fun hHeld => ?_)
    clear hK K
    refine norm_ (a' := ?_) ?_ ?_
    rotate_left
    ·
     show Act.put _ (some 48) _ = _
     simp only [Act.put, List.setIfInBounds_toArray, List.set_cons_zero, List.set_cons_succ, i64_w, i32_w]
     rfl
    refine pure_ (i := 4) (N := some 49) (v := ?_) (a' := ?_) (bt_ 31 5) rfl rfl (by kernel_rfl) (fun _ _ _ h => h) (Or.inl ⟨by rfl, ?_⟩) ?_ ?_
    rotate_left
    ·
     intro w'
     go_simp
     with_reducible rfl
    rotate_left
    ·
     simp only [Act.put, List.setIfInBounds_toArray, List.set_cons_zero, List.set_cons_succ, i64_w, i32_w]
     rfl
    refine done_ (by kernel_rfl) ?_
    have hnb68 := NB372_354.out
    have hnc68 := NB354_372.out
    have hnb69 := NB372_367.out
    have hnc69 := NB367_372.out
    have hnb70 := NB372_380.out
    have hnc70 := NB380_372.out
    obtain ⟨hcz71_0, hcz71_1, hfz71_0, hfz71_1⟩ := cz2_ BK372
    go_upto_region 14 with (first | ((with_reducible refine gate_callee (f := 23) rfl ?_); refine goesL_ (some 52) rfl rfl Try.func23 (by kernel_rfl) rfl #[.agg #[.slice Ao28 t368.length co28, .int .i64 t371], .int .i64 1] rfl al_ ?_; (with_reducible refine (laws_markRows.calls kj11 (fun k_ => some k_ = (.slice Ao28 t368.length co28 : Value).ownBlock) (.slice Ao28 t368.length co28) t368 t371 1 t387 t388 w _ ?side1 ?side2 A62.out).mono ?_); (case side1 => repeat (first | (with_reducible first | exact HB.out | apply below_alloc | apply pw_below_drewN | apply below_drew1 | refine below_set ?_ GW354.out | refine below_set ?_ GW367.out | refine below_set ?_ GW372.out | refine below_set ?_ GW380.out) | exact HB.out)); (case side2 => exact Kd.R_tight rfl HO_373000.out); rintro e w72 ⟨rfl, hy0, hb, hkp⟩; refine ⟨_, rfl, ?_⟩; have n0_ := A_ (Kd.R_mono (ok' := fun k_ => some k_ ≠ (.slice Ao34 t373.length co34 : Value).ownBlock) (Kd.R_keptB ((Kd.R_apart' HO_368000.out (Kd.R_typed HO_373000.out) (by decide))) hkp (fun k_ hk_ hs_ => (hk_.2) hs_)) (fun k_ hk_ => hk_.1.1)); have n1_ := A_ (Kd.S_mono (ok' := fun k_ => some k_ ≠ (.slice Ao28 t368.length co28 : Value).ownBlock ∧ k_ < nn_ ∧ some k_ ≠ (.slice Ao66 t382.length co66 : Value).ownBlock) (Kd.S_keptB (HO_368001.out) hkp (fun k_ hk_ hs_ => (hk_.1.1) hs_)) (fun k_ hk_ => ⟨hk_.1.1.1, hk_.1.1.2, hk_.1.2⟩)); have n2_ := A_ (Kd.R_reok rfl hy0 (fun k_ e_ => HO_373000.out.1 k_ e_)); have n3_ := A_ (Kd.R_mono (ok' := fun k_ => some k_ ≠ (.slice Ao21 t360.length co21 : Value).ownBlock) (Kd.R_keptB ((Kd.R_apart' HO_381000.out (Kd.R_typed HO_373000.out) (by decide))) hkp (fun k_ hk_ hs_ => (hk_.2) hs_)) (fun k_ hk_ => hk_.1.1)); have n4_ := A_ (Kd.S_mono (ok' := fun k_ => nn_ ≤ k_ ∧ some k_ ≠ (.slice Ao28 t368.length co28 : Value).ownBlock ∧ some k_ ≠ (.slice Ao66 t382.length co66 : Value).ownBlock) (Kd.S_keptB (HO_381001.out) hkp (fun k_ hk_ hs_ => (hk_.1.2) hs_)) (fun k_ hk_ => ⟨hk_.1.1.1, hk_.1.1.2, hk_.1.2⟩)); have n5_ := A_ (blk_kept (bk_ BK354) hkp (fun hs_ => (fun e_ => (Kd.R_ne HO_373000.out BK354.out (by decide)) e_) hs_)); have n6_ := A_ (blk_kept (bk_ BK367) hkp (fun hs_ => (fun e_ => (Kd.R_ne HO_373000.out BK367.out (by decide)) e_) hs_)); have n7_ := A_ (blk_kept (bk_ BK372) hkp (fun hs_ => (fun e_ => (Kd.R_ne HO_373000.out BK372.out (by decide)) e_) hs_)); have n8_ := A_ (blk_kept (bk_ BK380) hkp (fun hs_ => (fun e_ => (Kd.R_ne HO_373000.out BK380.out (by decide)) e_) hs_)); have n9_ := A_ (Kd.R_mono (ok' := fun k_ => some k_ ≠ (.slice Ao28 t368.length co28 : Value).ownBlock) (Kd.R_keptB (HO384.out) hkp (fun k_ hk_ hs_ => (hk_.2) hs_)) (fun k_ hk_ => hk_.1.2)); have n10_ := A_ hb; clear HO_368000; clear HO_368001; clear HO_373000; clear HO_381000; clear HO_381001; clear BK354; clear BK367; clear BK372; clear BK380; clear HO384; clear HB; have HO_368000 := n0_; have HO_368001 := n1_; have HO_373000 := n2_; have HO_381000 := n3_; have HO_381001 := n4_; have BK354 := n5_; have BK367 := n6_; have BK372 := n7_; have BK380 := n8_; have HO384 := n9_; have HB := n10_; clear n0_ n1_ n2_ n3_ n4_ n5_ n6_ n7_ n8_ n9_ n10_; (try clear hb); (try clear hkp); (try clear hy0)))
    (try simp only [Act.put, List.setIfInBounds_toArray, List.set_cons_zero, List.set_cons_succ])
    go_cut [65] (fun v65 wc => ∃ (kq : Nat) (x65_62 : Bool), v65 = .bool x65_62 ∧ Aside0 (laws_FnExactMemNew.j1 kq a1 t366 x65_62 l0_0 a0_1 t360 t363 t373 t376 = some r) ∧ Aside0 (kq ≤ kj11) ∧ Aside0 (Kd.R k95 95 wc w.heap.size (fun k_ => some k_ ≠ ((.slice Ao34 t373.length co34) : Value).ownBlock) (.slice Ao21 t360.length co21) t360) ∧ Aside0 (Kd.S k119 119 wc w.heap.size (fun k_ => some k_ ≠ ((.slice Ao28 t368.length co28) : Value).ownBlock ∧ k_ < nn_) (.slice Ao24 t363.length co24) t363) ∧ Aside0 (Kd.R (Kd.int .i64) 3 wc w.heap.size (fun _ => True) (.slice Ao28 t368.length co28) t388) ∧ Aside0 (Kd.R k95 95 wc w.heap.size (fun k_ => some k_ ≠ ((.slice Ao21 t360.length co21) : Value).ownBlock) (.slice Ao34 t373.length co34) t373) ∧ Aside0 (Kd.S k119 119 wc w.heap.size (fun k_ => nn_ ≤ k_ ∧ some k_ ≠ ((.slice Ao28 t368.length co28) : Value).ownBlock) (.slice Ao39 t376.length co39) t376) ∧ Aside0 (wc.heap[gb354]? = some (.cells #[(.slice A0_0 l0_0.length c0_0), .int .i64 a0_1] 37 (0, 0))) ∧ Aside0 (wc.heap[gb367]? = some (.cells #[(.slice Ao21 t360.length co21), (.slice Ao24 t363.length co24)] 31 (0, 0))) ∧ Aside0 (wc.heap[gb372]? = some (.cells #[(.slice Ao28 t368.length co28), .int .i64 t371] 44 (0, 0))) ∧ Aside0 (wc.heap[gb380]? = some (.cells #[(.slice Ao34 t373.length co34), (.slice Ao39 t376.length co39)] 31 (0, 0))) ∧ Aside0 (Below w.heap.size w wc))
    case first =>
     have H := HC63.out
     clear HC63
     replace H := ic_ H
     rcases H with ⟨c73b0, H⟩ | ⟨c73b0, H⟩
     ·
      (first | rw [c73b0] | (simp only [i64_w, i32_w]; rw [c73b0]) | skip)
      replace H' := A_ H; clear H
      go_wp2
      go_meet
      case rel => exact ⟨_, (true), rt_, H', ⟨by have := HJ11.out; first | omega | exact Nat.le_refl _⟩, ⟨rb_ HO_368000.out⟩, ⟨by (with_reducible repeat (first | apply Kd.S_alloc | apply Kd.S_drewN | apply Kd.S_drew)); exact Kd.S_mono HO_368001.out (fun _ hk => ⟨hk.1, hk.2.1⟩)⟩, ⟨by (with_reducible repeat (first | apply Kd.R_alloc | apply Kd.R_drewN | apply Kd.R_drew)); exact Kd.R_mono HO_373000.out (fun _ hk => trivial)⟩, ⟨rb_ HO_381000.out⟩, ⟨by (with_reducible repeat (first | apply Kd.S_alloc | apply Kd.S_drewN | apply Kd.S_drew)); exact Kd.S_mono HO_381001.out (fun _ hk => ⟨hk.1, hk.2.1⟩)⟩, ⟨bk_ BK354⟩, ⟨bk_ BK367⟩, ⟨bk_ BK372⟩, ⟨bk_ BK380⟩, ⟨hb_ HB⟩⟩
     (first | rw [c73b0] | (simp only [i64_w, i32_w]; rw [c73b0]) | skip)
     replace H := bs_ H
     obtain ⟨t389, A74, H⟩ := H
     by_cases c75 : t389 = true
     ·
      subst c75
      replace H := it_ H
      replace H' := A_ H; clear H
      have hnb76 := NB380_354.out
      have hnc76 := NB354_380.out
      have hnb77 := NB380_367.out
      have hnc77 := NB367_380.out
      have hnb78 := NB380_372.out
      have hnc78 := NB372_380.out
      obtain ⟨hcz79_0, hcz79_1, hfz79_0, hfz79_1⟩ := cz2_ BK380
      have hnb80 := NB367_354.out
      have hnc80 := NB354_367.out
      have hnb81 := NB367_372.out
      have hnc81 := NB372_367.out
      obtain ⟨hcz82_0, hcz82_1, hfz82_0, hfz82_1⟩ := cz2_ BK367
      go_wp2_with (first | (go_at_call 13; (with_reducible refine (laws_eqMem.calls kj11 _ _ t373 _ _ t376 _ _ t360 _ _ t363 true _ ?side1 ?side2 ?side3 ?side4 ?side5 ?side6 ?side7 ?side8 A74.out).mono ?_); (case side1 => repeat (first | exact (Kd.R_reads' HO_381000.out).2.2 | (with_reducible refine Kd.C_alloc ?_ _) | (with_reducible refine Kd.C_drewN ?_ _) | (with_reducible refine Kd.C_drew ?_))); (case side2 => exact (Kd.R_reads' HO_381000.out).2.1); (case side3 => repeat (first | exact (Kd.S_reads' HO_381001.out).2.2 | (with_reducible refine Kd.C_alloc ?_ _) | (with_reducible refine Kd.C_drewN ?_ _) | (with_reducible refine Kd.C_drew ?_))); (case side4 => exact (Kd.S_reads' HO_381001.out).2.1); (case side5 => repeat (first | exact (Kd.R_reads' HO_368000.out).2.2 | (with_reducible refine Kd.C_alloc ?_ _) | (with_reducible refine Kd.C_drewN ?_ _) | (with_reducible refine Kd.C_drew ?_))); (case side6 => exact (Kd.R_reads' HO_368000.out).2.1); (case side7 => repeat (first | exact (Kd.S_reads' HO_368001.out).2.2 | (with_reducible refine Kd.C_alloc ?_ _) | (with_reducible refine Kd.C_drewN ?_ _) | (with_reducible refine Kd.C_drew ?_))); (case side8 => exact (Kd.S_reads' HO_368001.out).2.1); rintro e w83 ⟨rfl, hb⟩; replace HO_368000 := A_ (Kd.R_below (rb_ HO_368000.out) hb); replace HO_368001 := A_ (Kd.S_below (sb_ HO_368001.out) hb); replace HO_373000 := A_ (Kd.R_below (rb_ HO_373000.out) hb); replace HO_381000 := A_ (Kd.R_below (rb_ HO_381000.out) hb); replace HO_381001 := A_ (Kd.S_below (sb_ HO_381001.out) hb); replace HO384 := A_ (Kd.R_below (rb_ HO384.out) hb); replace BK354 := bb_ BK354 hb; replace BK367 := bb_ BK367 hb; replace BK372 := bb_ BK372 hb; replace BK380 := bb_ BK380 hb; replace HB := hs_ HB hb; (try clear hb); (try clear hb2); (try clear hk); (try clear hi)))
      go_meet
      case rel => exact ⟨_, ((t379 != t366)), rt_, H', ⟨by have := HJ11.out; first | omega | exact Nat.le_refl _⟩, ⟨rb_ HO_368000.out⟩, ⟨by (with_reducible repeat (first | apply Kd.S_alloc | apply Kd.S_drewN | apply Kd.S_drew)); exact Kd.S_mono HO_368001.out (fun _ hk => ⟨hk.1, hk.2.1⟩)⟩, ⟨by (with_reducible repeat (first | apply Kd.R_alloc | apply Kd.R_drewN | apply Kd.R_drew)); exact Kd.R_mono HO_373000.out (fun _ hk => trivial)⟩, ⟨rb_ HO_381000.out⟩, ⟨by (with_reducible repeat (first | apply Kd.S_alloc | apply Kd.S_drewN | apply Kd.S_drew)); exact Kd.S_mono HO_381001.out (fun _ hk => ⟨hk.1, hk.2.1⟩)⟩, ⟨bk_ BK354⟩, ⟨bk_ BK367⟩, ⟨bk_ BK372⟩, ⟨bk_ BK380⟩, ⟨hb_ HB⟩⟩
     obtain rfl := Bool.eq_false_iff.mpr c75
     replace H := iF_ H
     replace H' := A_ H; clear H
     have hnb84 := NB380_354.out
     have hnc84 := NB354_380.out
     have hnb85 := NB380_367.out
     have hnc85 := NB367_380.out
     have hnb86 := NB380_372.out
     have hnc86 := NB372_380.out
     obtain ⟨hcz87_0, hcz87_1, hfz87_0, hfz87_1⟩ := cz2_ BK380
     have hnb88 := NB367_354.out
     have hnc88 := NB354_367.out
     have hnb89 := NB367_372.out
     have hnc89 := NB372_367.out
     obtain ⟨hcz90_0, hcz90_1, hfz90_0, hfz90_1⟩ := cz2_ BK367
     go_wp2_with (first | (go_at_call 13; (with_reducible refine (laws_eqMem.calls kj11 _ _ t373 _ _ t376 _ _ t360 _ _ t363 false _ ?side1 ?side2 ?side3 ?side4 ?side5 ?side6 ?side7 ?side8 A74.out).mono ?_); (case side1 => repeat (first | exact (Kd.R_reads' HO_381000.out).2.2 | (with_reducible refine Kd.C_alloc ?_ _) | (with_reducible refine Kd.C_drewN ?_ _) | (with_reducible refine Kd.C_drew ?_))); (case side2 => exact (Kd.R_reads' HO_381000.out).2.1); (case side3 => repeat (first | exact (Kd.S_reads' HO_381001.out).2.2 | (with_reducible refine Kd.C_alloc ?_ _) | (with_reducible refine Kd.C_drewN ?_ _) | (with_reducible refine Kd.C_drew ?_))); (case side4 => exact (Kd.S_reads' HO_381001.out).2.1); (case side5 => repeat (first | exact (Kd.R_reads' HO_368000.out).2.2 | (with_reducible refine Kd.C_alloc ?_ _) | (with_reducible refine Kd.C_drewN ?_ _) | (with_reducible refine Kd.C_drew ?_))); (case side6 => exact (Kd.R_reads' HO_368000.out).2.1); (case side7 => repeat (first | exact (Kd.S_reads' HO_368001.out).2.2 | (with_reducible refine Kd.C_alloc ?_ _) | (with_reducible refine Kd.C_drewN ?_ _) | (with_reducible refine Kd.C_drew ?_))); (case side8 => exact (Kd.S_reads' HO_368001.out).2.1); rintro e w91 ⟨rfl, hb⟩; replace HO_368000 := A_ (Kd.R_below (rb_ HO_368000.out) hb); replace HO_368001 := A_ (Kd.S_below (sb_ HO_368001.out) hb); replace HO_373000 := A_ (Kd.R_below (rb_ HO_373000.out) hb); replace HO_381000 := A_ (Kd.R_below (rb_ HO_381000.out) hb); replace HO_381001 := A_ (Kd.S_below (sb_ HO_381001.out) hb); replace HO384 := A_ (Kd.R_below (rb_ HO384.out) hb); replace BK354 := bb_ BK354 hb; replace BK367 := bb_ BK367 hb; replace BK372 := bb_ BK372 hb; replace BK380 := bb_ BK380 hb; replace HB := hs_ HB hb; (try clear hb); (try clear hb2); (try clear hk); (try clear hi)))
     go_meet
     case rel => exact ⟨_, (true), rt_, H', ⟨by have := HJ11.out; first | omega | exact Nat.le_refl _⟩, ⟨rb_ HO_368000.out⟩, ⟨by (with_reducible repeat (first | apply Kd.S_alloc | apply Kd.S_drewN | apply Kd.S_drew)); exact Kd.S_mono HO_368001.out (fun _ hk => ⟨hk.1, hk.2.1⟩)⟩, ⟨by (with_reducible repeat (first | apply Kd.R_alloc | apply Kd.R_drewN | apply Kd.R_drew)); exact Kd.R_mono HO_373000.out (fun _ hk => trivial)⟩, ⟨rb_ HO_381000.out⟩, ⟨by (with_reducible repeat (first | apply Kd.S_alloc | apply Kd.S_drewN | apply Kd.S_drew)); exact Kd.S_mono HO_381001.out (fun _ hk => ⟨hk.1, hk.2.1⟩)⟩, ⟨bk_ BK354⟩, ⟨bk_ BK367⟩, ⟨bk_ BK372⟩, ⟨bk_ BK380⟩, ⟨hb_ HB⟩⟩
    case rest =>
     clear HC63
     try clear c2
     try clear c4b0
     try clear c41
     try clear c58
     try clear c61
     try clear c73b0
     try clear c75
     obtain ⟨kq, x65_62, rfl, HA, HJ62, HO_368000, HO_368001, HO_373000, HO_381000, HO_381001, BK354, BK367, BK372, BK380, HB⟩ := hcut
     have hl373000_62 := (Kd.R_reads' HO_373000.out).1
     rw [hl373000_62] at HO_373000
     (try simp only [hl373000_62])
     (try simp only [hl373000_62] at BK354)
     (try simp only [hl373000_62] at BK367)
     (try simp only [hl373000_62] at BK372)
     (try simp only [hl373000_62] at BK380)
     (try simp only [hl373000_62] at HO_368000)
     (try simp only [hl373000_62] at HO_368001)
     (try simp only [hl373000_62] at HO_381000)
     (try simp only [hl373000_62] at HO_381001)
     cases kq with
     | zero => exact absurd HA.out (by simp [laws_FnExactMemNew.j1])
     | succ kj62 =>
      have H := HA.out
      clear HA
      simp only [laws_FnExactMemNew.j1] at H
      by_cases c92 : x65_62 = true
      ·
       subst c92
       replace H := it_ H
       exact absurd H (by simp)
      obtain rfl := Bool.eq_false_iff.mpr c92
      replace H := iF_ H
      replace H := bs_ H
      obtain ⟨⟨t390, t391, t376n⟩, A93, H⟩ := H
      dsimp only at H
      replace H := bs_ H
      obtain ⟨t392, A94, H⟩ := H
      by_cases c95 : t392 < 0
      ·
       rw [if_pos c95] at H
       exact absurd H (by simp)
      rw [if_neg c95] at H
      have c95b0 : decide (t392 < 0) = false := decide_eq_false c95
      clear c95
      replace H := iy_ H
      obtain ⟨c96b0, c96b1, H⟩ := H
      replace H := bs_ H
      obtain ⟨⟨t393, t396⟩, A97, H⟩ := H
      dsimp only at H
      replace H := bs_ H
      obtain ⟨⟨t397, t400, t403⟩, A98, H⟩ := H
      dsimp only at H
      have HC99 := A_ H
      clear H
      have hnb100 := NB380_354.out
      have hnc100 := NB354_380.out
      have hnb101 := NB380_367.out
      have hnc101 := NB367_380.out
      have hnb102 := NB380_372.out
      have hnc102 := NB372_380.out
      obtain ⟨hcz103_0, hcz103_1, hfz103_0, hfz103_1⟩ := cz2_ BK380
      go_upto_region 25 with (first | ((with_reducible refine gate_callee (f := 40) rfl ?_); refine goesL_ (some 68) rfl rfl Try.func40 (by kernel_rfl) rfl #[.agg #[.slice Ao34 t373.length co34, .slice Ao39 t376.length co39], .int .i64 1] rfl al_ ?_; obtain ⟨PS_, hPS_, hT_, hI_⟩ := mm_foot HO_381001.out; (with_reducible refine (laws_markMem.own kj62 (fun k_ => some k_ = (.slice Ao34 t373.length co34 : Value).ownBlock) PS_ (.slice Ao34 t373.length co34) (.slice Ao39 t376.length co39) t373 t376 1 t390 t391 t376n w _ ?side1 ?side2 ?side3 ?side4 A93.out).mono ?_); (case side1 => repeat (first | (with_reducible first | exact HB.out | apply below_alloc | apply pw_below_drewN | apply below_drew1 | refine below_set ?_ GW354.out | refine below_set ?_ GW367.out | refine below_set ?_ GW372.out | refine below_set ?_ GW380.out) | exact HB.out)); (case side2 => exact Kd.R_tight rfl HO_381000.out); (case side3 => exact hPS_); (case side4 => exact mm_off (Kd.R_typed HO_381000.out) hT_ (by decide)); rintro e w104 ⟨rfl, hy0, hy1, hb, hkp⟩; refine ⟨_, rfl, ?_⟩; have n0_ := A_ (mm_R HO_368000.out hkp (fun k_ hk_ hs_ => hk_ hs_) hT_ (by decide)); have n1_ := A_ (Kd.S_mono (ok' := fun k_ => some k_ ≠ (.slice Ao28 t388.length co28 : Value).ownBlock ∧ k_ < nn_) (Kd.S_kept (Kd.S_apart' HO_368001.out (Kd.R_typed HO_381000.out) (by decide)) hkp (fun k_ hk_ hs_ => Or.elim hs_ (fun h0_ => hk_.2 h0_) (fun h1_ => absurd hk_.1.2 (Nat.not_lt.2 (hI_ k_ h1_).1)))) (fun k_ hk_ => hk_.1)); have n2_ := A_ (Kd.R_mono (ok' := fun k_ => True) (Kd.R_kept (Kd.R_tight2 rfl (Kd.R_apart' HO_373000.out (Kd.R_typed HO_381000.out) (by decide))) hkp (fun k_ hk_ hs_ => Or.elim hs_ (fun h0_ => hk_.2.2 h0_) (fun h1_ => (hI_ k_ h1_).2 hk_.1))) (fun k_ hk_ => trivial)); have n3_ := A_ (Kd.R_reok rfl hy0 (fun k_ e_ => HO_381000.out.1 k_ e_)); have n4_ := A_ (Kd.S_mono hy1 hI_); have hln_ := (Kd.S_reads' hy1).1; have n5_ := A_ (mm_blk BK354.out hkp (fun e_ => (Kd.R_ne HO_381000.out BK354.out (by decide)) e_) hT_ (by decide)); have n6_ := A_ (mm_blk BK367.out hkp (fun e_ => (Kd.R_ne HO_381000.out BK367.out (by decide)) e_) hT_ (by decide)); have n7_ := A_ (mm_blk BK372.out hkp (fun e_ => (Kd.R_ne HO_381000.out BK372.out (by decide)) e_) hT_ (by decide)); have n8_ := A_ (mm_blk BK380.out hkp (fun e_ => (Kd.R_ne HO_381000.out BK380.out (by decide)) e_) hT_ (by decide)); have n9_ := A_ hb; clear HO_368000; clear HO_368001; clear HO_373000; clear HO_381000; clear HO_381001; clear BK354; clear BK367; clear BK372; clear BK380; clear HB; have HO_368000 := n0_; have HO_368001 := n1_; have HO_373000 := n2_; have HO_381000 := n3_; have HO_381001 := A_ (mm_len n4_.out hln_); have BK354 := n5_; have BK367 := n6_; have BK372 := n7_; have BK380 := A_ (mm_len2 n8_.out hln_); have HB := n9_; clear n0_ n1_ n2_ n3_ n4_ n5_ n6_ n7_ n8_ n9_; clear hPS_ hT_ hI_ hln_; (try clear hb); (try clear hkp); (try clear hy0); (try clear hy1); obtain ⟨hcz105_0, hcz105_1, hfz105_0, hfz105_1⟩ := cz2_ BK380) | ((with_reducible refine gate_callee (f := 41) rfl ?_); refine goesL_ (some 71) rfl rfl Try.func41 (by kernel_rfl) rfl #[.agg #[.slice Ao34 t391.length co34, .slice Ao39 t376n.length co39], .int .i64 1] rfl (by (try simp only [List.map_toArray, List.map_cons, List.map_nil]); first | done | (rw [show t391.length = t373.length from (Kd.R_reads' HO_381000.out).1.symm] <;> rfl) | rfl | (simp only [List.length_drop, List.length_take]; rfl)) ?_; (with_reducible refine (laws_heldMem.calls kj62 _ _ t391 _ _ t376n 1 t392 _ ?side1 ?side2 ?side3 ?side4 A94.out).mono ?_); (case side1 => repeat (first | exact (Kd.R_reads' HO_381000.out).2.2 | (with_reducible refine Kd.C_alloc ?_ _) | (with_reducible refine Kd.C_drewN ?_ _) | (with_reducible refine Kd.C_drew ?_))); (case side2 => rw [show t391.length = t373.length from (Kd.R_reads' HO_381000.out).1.symm]; exact (Kd.R_reads' HO_381000.out).2.1); (case side3 => repeat (first | exact (Kd.S_reads' HO_381001.out).2.2 | (with_reducible refine Kd.C_alloc ?_ _) | (with_reducible refine Kd.C_drewN ?_ _) | (with_reducible refine Kd.C_drew ?_))); (case side4 => exact (Kd.S_reads' HO_381001.out).2.1); rintro e w106 ⟨rfl, hb⟩; refine ⟨_, rfl, ?_⟩; replace HO_368000 := A_ (Kd.R_below (rb_ HO_368000.out) hb); replace HO_368001 := A_ (Kd.S_below (sb_ HO_368001.out) hb); replace HO_373000 := A_ (Kd.R_below (rb_ HO_373000.out) hb); replace HO_381000 := A_ (Kd.R_below (rb_ HO_381000.out) hb); replace HO_381001 := A_ (Kd.S_below (sb_ HO_381001.out) hb); replace BK354 := bb_ BK354 hb; replace BK367 := bb_ BK367 hb; replace BK372 := bb_ BK372 hb; replace BK380 := bb_ BK380 hb; replace HB := hs_ HB hb; (try clear hb); (try clear hb2); (try clear hk); (try clear hi); have hnb107 := NB354_367.out; have hnc107 := NB367_354.out; have hnb108 := NB354_372.out; have hnc108 := NB372_354.out; obtain ⟨hcz109_0, hcz109_1, hfz109_0, hfz109_1⟩ := cz2_ BK354) | ((with_reducible refine gate_callee (f := 17) rfl ?_); refine goesL_ (some 79) rfl rfl Try.func17 (by kernel_rfl) rfl #[.agg #[.slice A0_0 l0_0.length c0_0, .int .i64 a0_1]] rfl al_ ?_; (with_reducible refine (laws_toRows.calls kj62 _ _ l0_0 a0_1 t393 t396 _ ?side1 ?side2 A97.out).mono ?_); (case side1 => exact cb_ (Kd.C_below HR0_0.out HB.out)); (case side2 => exact HC0_0.out); rintro e w110 ⟨v394, rfl, ho0, hb⟩; refine ⟨_, rfl, ?_⟩; have HO395 := A_ (Kd.R_lower (Kd.R_new' ho0 (Kd.R_lt (rb_ HO_373000.out))) (below_size (hb_ HB))); replace HO_368000 := A_ (Kd.R_below (rb_ HO_368000.out) hb); replace HO_368001 := A_ (Kd.S_elder' (sb_ HO_368001.out) (Kd.R_base ho0) hb); replace HO_373000 := A_ (Kd.R_elder' (rb_ HO_373000.out) (Kd.R_base ho0) hb); replace HO_381000 := A_ (Kd.R_below (rb_ HO_381000.out) hb); replace HO_381001 := A_ (Kd.S_elder' (sb_ HO_381001.out) (Kd.R_base ho0) hb); replace BK354 := bb_ BK354 hb; replace BK367 := bb_ BK367 hb; replace BK372 := bb_ BK372 hb; replace BK380 := bb_ BK380 hb; replace HB := hs_ HB hb; (try clear hb); (try clear hb2); (try clear hk); (try clear hi); (try clear ho0); obtain ⟨Ao111, co111, eo111⟩ := Kd.R_slice HO395.out; subst eo111) | ((with_reducible refine gate_callee (f := 39) rfl ?_); refine goesL_ (some 81) rfl rfl Try.func39 (by kernel_rfl) rfl #[.agg #[.slice Ao111 t393.length co111, .int .i64 t396], .int .i64 a1] rfl al_ ?_; (with_reducible refine (impl_MemNew.calls kj62 _ _ t393 t396 a1 t397 t400 t403 _ ?side1 ?side2 A98.out).mono ?_); (case side1 => repeat (first | exact (Kd.R_reads' HO395.out).2.2 | (with_reducible refine Kd.C_alloc ?_ _) | (with_reducible refine Kd.C_drewN ?_ _) | (with_reducible refine Kd.C_drew ?_))); (case side2 => exact (Kd.R_reads' HO395.out).2.1); rintro e w112 ⟨v398, v401, rfl, ho0, ho1, hb⟩; refine ⟨_, rfl, ?_⟩; have HO399 := A_ (Kd.R_lower (Kd.R_new' (Kd.R_new' ho0 (Kd.R_lt (rb_ HO_368000.out))) (Kd.R_lt (rb_ HO_381000.out))) (below_size (hb_ HB))); have HO402 := A_ (Kd.S_lower (Kd.S_new' (Kd.S_new' (Kd.S_new' (Kd.S_new' ho1 (Kd.S_lt (sb_ HO_368001.out))) (Kd.R_lt (rb_ HO_373000.out))) (Kd.S_lt (sb_ HO_381001.out))) (Kd.R_lt (rb_ HO395.out))) (below_size (hb_ HB))); replace HO_368000 := A_ (Kd.R_elder' (rb_ HO_368000.out) (Kd.R_base ho0) hb); replace HO_368001 := A_ (Kd.S_elder' (sb_ HO_368001.out) (Kd.S_base ho1) hb); replace HO_373000 := A_ (Kd.R_below (rb_ HO_373000.out) hb); replace HO_381000 := A_ (Kd.R_elder' (rb_ HO_381000.out) (Kd.R_base ho0) hb); replace HO_381001 := A_ (Kd.S_elder' (sb_ HO_381001.out) (Kd.S_base ho1) hb); replace HO395 := A_ (Kd.R_below (rb_ HO395.out) hb); replace BK354 := bb_ BK354 hb; replace BK367 := bb_ BK367 hb; replace BK372 := bb_ BK372 hb; replace BK380 := bb_ BK380 hb; replace HB := hs_ HB hb; (try clear hb); (try clear hb2); (try clear hk); (try clear hi); (try clear ho0); (try clear ho1)) | ((with_reducible refine gate_dst (N := 14) rfl ?_); refine bx_ HB rfl (N := 14) rfl (cs := #[.slice none 0 0, .slice none 0 0]) (t := 31) hr_ ?_; clear HB; intro gb404 w113 hg hb BK404 GW404 HB; have NB354_404 := ng_ BK354 hg; have NB404_354 := ns_ (ng_ BK354 hg); have NB367_404 := ng_ BK367 hg; have NB404_367 := ns_ (ng_ BK367 hg); have NB372_404 := ng_ BK372 hg; have NB404_372 := ns_ (ng_ BK372 hg); have NB380_404 := ng_ BK380 hg; have NB404_380 := ns_ (ng_ BK380 hg); replace HO_368000 := A_ (Kd.R_below (rb_ HO_368000.out) hb); replace HO_368001 := A_ (Kd.S_below (sb_ HO_368001.out) hb); replace HO_373000 := A_ (Kd.R_below (rb_ HO_373000.out) hb); replace HO_381000 := A_ (Kd.R_below (rb_ HO_381000.out) hb); replace HO_381001 := A_ (Kd.S_below (sb_ HO_381001.out) hb); replace HO395 := A_ (Kd.R_below (rb_ HO395.out) hb); replace HO399 := A_ (Kd.R_below (rb_ HO399.out) hb); replace HO402 := A_ (Kd.S_below (sb_ HO402.out) hb); replace BK354 := bb_ BK354 hb; replace BK367 := bb_ BK367 hb; replace BK372 := bb_ BK372 hb; replace BK380 := bb_ BK380 hb; clear hb hg; obtain ⟨Ao114, co114, eo114⟩ := Kd.R_slice HO399.out; subst eo114; have hnb115 := NB404_354.out; have hnc115 := NB354_404.out; have hnb116 := NB404_367.out; have hnc116 := NB367_404.out; have hnb117 := NB404_372.out; have hnc117 := NB372_404.out; have hnb118 := NB404_380.out; have hnc118 := NB380_404.out; obtain ⟨hcz119_0, hcz119_1, hfz119_0, hfz119_1⟩ := cz2_ BK404; obtain ⟨Ao120, co120, eo120⟩ := Kd.S_slice HO402.out; subst eo120))
      (try simp only [Act.put, List.setIfInBounds_toArray, List.set_cons_zero, List.set_cons_succ])
      go_cut [92] (fun v92 wc => ∃ (kq : Nat) (x92_98 : Bool), v92 = .bool x92_98 ∧ Aside0 (laws_FnExactMemNew.j2 kq t390 x92_98 t391 t376n = some r) ∧ Aside0 (kq ≤ kj62) ∧ Aside0 (Kd.R k95 95 wc w.heap.size (fun k_ => some k_ ≠ ((.slice Ao34 t373.length co34) : Value).ownBlock ∧ some k_ ≠ ((.slice Ao114 t397.length co114) : Value).ownBlock) (.slice Ao21 t360.length co21) t360) ∧ Aside0 (Kd.S k119 119 wc w.heap.size (fun k_ => some k_ ≠ ((.slice Ao28 t388.length co28) : Value).ownBlock ∧ k_ < nn_ ∧ some k_ ≠ ((.slice Ao120 t400.length co120) : Value).ownBlock) (.slice Ao24 t363.length co24) t363) ∧ Aside0 (Kd.R (Kd.int .i64) 3 wc w.heap.size (fun _ => True) (.slice Ao28 t388.length co28) t388) ∧ Aside0 (Kd.R k95 95 wc w.heap.size (fun k_ => some k_ ≠ ((.slice Ao21 t360.length co21) : Value).ownBlock ∧ some k_ ≠ ((.slice Ao114 t397.length co114) : Value).ownBlock) (.slice Ao34 t373.length co34) t391) ∧ Aside0 (Kd.S k119 119 wc w.heap.size (fun k_ => nn_ ≤ k_ ∧ some k_ ≠ ((.slice Ao28 t388.length co28) : Value).ownBlock ∧ some k_ ≠ ((.slice Ao120 t400.length co120) : Value).ownBlock) (.slice Ao39 t376n.length co39) t376n) ∧ Aside0 (Kd.R k95 95 wc w.heap.size (fun k_ => some k_ ≠ ((.slice Ao21 t360.length co21) : Value).ownBlock ∧ some k_ ≠ ((.slice Ao34 t373.length co34) : Value).ownBlock) (.slice Ao114 t397.length co114) t397) ∧ Aside0 (Kd.S k119 119 wc w.heap.size (fun k_ => some k_ ≠ ((.slice Ao24 t363.length co24) : Value).ownBlock ∧ some k_ ≠ ((.slice Ao28 t388.length co28) : Value).ownBlock ∧ some k_ ≠ ((.slice Ao39 t376n.length co39) : Value).ownBlock) (.slice Ao120 t400.length co120) t400) ∧ Aside0 (wc.heap[gb354]? = some (.cells #[(.slice A0_0 l0_0.length c0_0), .int .i64 a0_1] 37 (0, 0))) ∧ Aside0 (wc.heap[gb367]? = some (.cells #[(.slice Ao21 t360.length co21), (.slice Ao24 t363.length co24)] 31 (0, 0))) ∧ Aside0 (wc.heap[gb372]? = some (.cells #[(.slice Ao28 t388.length co28), .int .i64 t371] 44 (0, 0))) ∧ Aside0 (wc.heap[gb380]? = some (.cells #[(.slice Ao34 t373.length co34), (.slice Ao39 t376n.length co39)] 31 (0, 0))) ∧ Aside0 (wc.heap[gb404]? = some (.cells #[(.slice Ao114 t397.length co114), (.slice Ao120 t400.length co120)] 31 (0, 0))) ∧ Aside0 (Below w.heap.size w wc))
      case first =>
       have H := HC99.out
       clear HC99
       replace H := bs_ H
       obtain ⟨t405, A121, H⟩ := H
       by_cases c122 : t405 = true
       ·
        subst c122
        replace H := it_ H
        replace H' := A_ H; clear H
        have hnb123 := NB404_354.out
        have hnc123 := NB354_404.out
        have hnb124 := NB404_367.out
        have hnc124 := NB367_404.out
        have hnb125 := NB404_372.out
        have hnc125 := NB372_404.out
        have hnb126 := NB404_380.out
        have hnc126 := NB380_404.out
        obtain ⟨hcz127_0, hcz127_1, hfz127_0, hfz127_1⟩ := cz2_ BK404
        have hnb128 := NB367_354.out
        have hnc128 := NB354_367.out
        have hnb129 := NB367_372.out
        have hnc129 := NB372_367.out
        have hnb130 := NB367_380.out
        have hnc130 := NB380_367.out
        obtain ⟨hcz131_0, hcz131_1, hfz131_0, hfz131_1⟩ := cz2_ BK367
        go_wp2_with (first | ((with_reducible refine gate_callee (f := 13) rfl ?_); refine goesL_ (some 86) rfl rfl Try.func13 (by kernel_rfl) rfl #[.agg #[.slice Ao114 t397.length co114, .slice Ao120 t400.length co120], .agg #[.slice Ao21 t360.length co21, .slice Ao24 t363.length co24]] rfl al_ ?_; (with_reducible refine (laws_eqMem.calls kj62 _ _ t397 _ _ t400 _ _ t360 _ _ t363 true _ ?side1 ?side2 ?side3 ?side4 ?side5 ?side6 ?side7 ?side8 A121.out).mono ?_); (case side1 => refine (Kd.R_reads' (e := 95) (base := w.heap.size) (ok := fun k_ => ((True ∧ some k_ ≠ (.slice Ao21 t360.length co21 : Value).ownBlock) ∧ some k_ ≠ (.slice Ao34 t373.length co34 : Value).ownBlock)) (n := t397.length) (c := co114) ?_).2.2; exact (by (with_reducible repeat (first | apply Kd.R_alloc | apply Kd.R_drewN | apply Kd.R_drew)); exact (Kd.R_mono (Kd.R_far (p := ⟨gb404, 1, none⟩) (Kd.R_far (p := ⟨gb404, 0, none⟩) (Kd.R_types HO399.out BK404.out (by decide)) (fun _ hk => hk.2) (.slice Ao114 t397.length co114)) (fun _ hk => hk.2) (.slice Ao120 t400.length co120)) (fun _ h_ => h_.1)))); (case side2 => exact (Kd.R_reads' HO399.out).2.1); (case side3 => refine (Kd.S_reads' (e := 119) (base := w.heap.size) (ok := fun k_ => ((((True ∧ some k_ ≠ (.slice Ao24 t363.length co24 : Value).ownBlock) ∧ some k_ ≠ (.slice Ao28 t388.length co28 : Value).ownBlock) ∧ some k_ ≠ (.slice Ao39 t376n.length co39 : Value).ownBlock) ∧ some k_ ≠ (.slice Ao111 t393.length co111 : Value).ownBlock)) (n := t400.length) (c := co120) ?_).2.2; exact (by (with_reducible repeat (first | apply Kd.S_alloc | apply Kd.S_drewN | apply Kd.S_drew)); exact (Kd.S_mono (Kd.S_far (p := ⟨gb404, 1, none⟩) (Kd.S_far (p := ⟨gb404, 0, none⟩) (Kd.S_types HO402.out BK404.out (by decide)) (fun _ hk => hk.2) (.slice Ao114 t397.length co114)) (fun _ hk => hk.2) (.slice Ao120 t400.length co120)) (fun _ h_ => h_.1)))); (case side4 => exact (Kd.S_reads' HO402.out).2.1); (case side5 => refine (Kd.R_reads' (e := 95) (base := w.heap.size) (ok := fun k_ => (some k_ ≠ (.slice Ao34 t373.length co34 : Value).ownBlock ∧ some k_ ≠ (.slice Ao114 t397.length co114 : Value).ownBlock)) (n := t360.length) (c := co21) ?_).2.2; exact (by (with_reducible repeat (first | apply Kd.R_alloc | apply Kd.R_drewN | apply Kd.R_drew)); exact (Kd.R_mono (Kd.R_far (p := ⟨gb404, 1, none⟩) (Kd.R_far (p := ⟨gb404, 0, none⟩) (Kd.R_types HO_368000.out BK404.out (by decide)) (fun _ hk => hk.2) (.slice Ao114 t397.length co114)) (fun _ hk => hk.2) (.slice Ao120 t400.length co120)) (fun _ h_ => h_.1)))); (case side6 => exact (Kd.R_reads' HO_368000.out).2.1); (case side7 => refine (Kd.S_reads' (e := 119) (base := w.heap.size) (ok := fun k_ => (((some k_ ≠ (.slice Ao28 t388.length co28 : Value).ownBlock ∧ k_ < nn_) ∧ some k_ ≠ (.slice Ao111 t393.length co111 : Value).ownBlock) ∧ some k_ ≠ (.slice Ao120 t400.length co120 : Value).ownBlock)) (n := t363.length) (c := co24) ?_).2.2; exact (by (with_reducible repeat (first | apply Kd.S_alloc | apply Kd.S_drewN | apply Kd.S_drew)); exact (Kd.S_mono (Kd.S_far (p := ⟨gb404, 1, none⟩) (Kd.S_far (p := ⟨gb404, 0, none⟩) (Kd.S_types HO_368001.out BK404.out (by decide)) (fun _ hk => hk.2) (.slice Ao114 t397.length co114)) (fun _ hk => hk.2) (.slice Ao120 t400.length co120)) (fun _ h_ => h_.1)))); (case side8 => exact (Kd.S_reads' HO_368001.out).2.1); rintro e w132 ⟨rfl, hb⟩; refine ⟨_, rfl, ?_⟩; replace HO_368000 := A_ (Kd.R_below (by (with_reducible repeat (first | apply Kd.R_alloc | apply Kd.R_drewN | apply Kd.R_drew)); exact (Kd.R_mono (Kd.R_far (p := ⟨gb404, 1, none⟩) (Kd.R_far (p := ⟨gb404, 0, none⟩) (Kd.R_types HO_368000.out BK404.out (by decide)) (fun _ hk => hk.2) (.slice Ao114 t397.length co114)) (fun _ hk => hk.2) (.slice Ao120 t400.length co120)) (fun _ h_ => h_.1))) hb); replace HO_368001 := A_ (Kd.S_below (by (with_reducible repeat (first | apply Kd.S_alloc | apply Kd.S_drewN | apply Kd.S_drew)); exact (Kd.S_mono (Kd.S_far (p := ⟨gb404, 1, none⟩) (Kd.S_far (p := ⟨gb404, 0, none⟩) (Kd.S_types HO_368001.out BK404.out (by decide)) (fun _ hk => hk.2) (.slice Ao114 t397.length co114)) (fun _ hk => hk.2) (.slice Ao120 t400.length co120)) (fun _ h_ => h_.1))) hb); replace HO_373000 := A_ (Kd.R_below (by (with_reducible repeat (first | apply Kd.R_alloc | apply Kd.R_drewN | apply Kd.R_drew)); exact (Kd.R_mono (Kd.R_far (p := ⟨gb404, 1, none⟩) (Kd.R_far (p := ⟨gb404, 0, none⟩) (Kd.R_types HO_373000.out BK404.out (by decide)) (fun _ hk => hk.2) (.slice Ao114 t397.length co114)) (fun _ hk => hk.2) (.slice Ao120 t400.length co120)) (fun _ h_ => h_.1))) hb); replace HO_381000 := A_ (Kd.R_below (by (with_reducible repeat (first | apply Kd.R_alloc | apply Kd.R_drewN | apply Kd.R_drew)); exact (Kd.R_mono (Kd.R_far (p := ⟨gb404, 1, none⟩) (Kd.R_far (p := ⟨gb404, 0, none⟩) (Kd.R_types HO_381000.out BK404.out (by decide)) (fun _ hk => hk.2) (.slice Ao114 t397.length co114)) (fun _ hk => hk.2) (.slice Ao120 t400.length co120)) (fun _ h_ => h_.1))) hb); replace HO_381001 := A_ (Kd.S_below (by (with_reducible repeat (first | apply Kd.S_alloc | apply Kd.S_drewN | apply Kd.S_drew)); exact (Kd.S_mono (Kd.S_far (p := ⟨gb404, 1, none⟩) (Kd.S_far (p := ⟨gb404, 0, none⟩) (Kd.S_types HO_381001.out BK404.out (by decide)) (fun _ hk => hk.2) (.slice Ao114 t397.length co114)) (fun _ hk => hk.2) (.slice Ao120 t400.length co120)) (fun _ h_ => h_.1))) hb); replace HO395 := A_ (Kd.R_below (by (with_reducible repeat (first | apply Kd.R_alloc | apply Kd.R_drewN | apply Kd.R_drew)); exact (Kd.R_mono (Kd.R_far (p := ⟨gb404, 1, none⟩) (Kd.R_far (p := ⟨gb404, 0, none⟩) (Kd.R_types HO395.out BK404.out (by decide)) (fun _ hk => hk.2) (.slice Ao114 t397.length co114)) (fun _ hk => hk.2) (.slice Ao120 t400.length co120)) (fun _ h_ => h_.1))) hb); replace HO399 := A_ (Kd.R_below (by (with_reducible repeat (first | apply Kd.R_alloc | apply Kd.R_drewN | apply Kd.R_drew)); exact (Kd.R_mono (Kd.R_far (p := ⟨gb404, 1, none⟩) (Kd.R_far (p := ⟨gb404, 0, none⟩) (Kd.R_types HO399.out BK404.out (by decide)) (fun _ hk => hk.2) (.slice Ao114 t397.length co114)) (fun _ hk => hk.2) (.slice Ao120 t400.length co120)) (fun _ h_ => h_.1))) hb); replace HO402 := A_ (Kd.S_below (by (with_reducible repeat (first | apply Kd.S_alloc | apply Kd.S_drewN | apply Kd.S_drew)); exact (Kd.S_mono (Kd.S_far (p := ⟨gb404, 1, none⟩) (Kd.S_far (p := ⟨gb404, 0, none⟩) (Kd.S_types HO402.out BK404.out (by decide)) (fun _ hk => hk.2) (.slice Ao114 t397.length co114)) (fun _ hk => hk.2) (.slice Ao120 t400.length co120)) (fun _ h_ => h_.1))) hb); replace BK354 := bb_ BK354 hb; replace BK367 := bb_ BK367 hb; replace BK372 := bb_ BK372 hb; replace BK380 := bb_ BK380 hb; replace BK404 := bq_ (o' := .cells #[.slice Ao114 t397.length co114, .slice Ao120 t400.length co120] 31 (0, 0)) BK404 hb; replace HB := hs_ HB hb; (try clear hb); (try clear hb2); (try clear hk); (try clear hi)))
        go_meet
        case rel => exact ⟨_, ((t403 != t366)), rt_, H', ⟨by have := HJ11.out; have := HJ62.out; first | omega | exact Nat.le_refl _⟩, ⟨by (try simp only [hl373000_62]); (with_reducible repeat (first | apply Kd.R_alloc | apply Kd.R_drewN | apply Kd.R_drew)); exact HO_368000.out⟩, ⟨by (try simp only [hl373000_62]); (with_reducible repeat (first | apply Kd.S_alloc | apply Kd.S_drewN | apply Kd.S_drew)); exact Kd.S_mono HO_368001.out (fun _ hk => ⟨hk.1.1.1, ⟨hk.1.1.2, hk.2⟩⟩)⟩, ⟨by (try simp only [hl373000_62]); (with_reducible repeat (first | apply Kd.R_alloc | apply Kd.R_drewN | apply Kd.R_drew)); exact Kd.R_mono HO_373000.out (fun _ hk => trivial)⟩, ⟨by (try simp only [hl373000_62]); (with_reducible repeat (first | apply Kd.R_alloc | apply Kd.R_drewN | apply Kd.R_drew)); exact HO_381000.out⟩, ⟨by (try simp only [hl373000_62]); (with_reducible repeat (first | apply Kd.S_alloc | apply Kd.S_drewN | apply Kd.S_drew)); exact Kd.S_mono HO_381001.out (fun _ hk => ⟨hk.1.1.1, ⟨hk.1.1.2, hk.2⟩⟩)⟩, ⟨by (try simp only [hl373000_62]); (with_reducible repeat (first | apply Kd.R_alloc | apply Kd.R_drewN | apply Kd.R_drew)); exact Kd.R_mono HO399.out (fun _ hk => ⟨hk.1.2, hk.2⟩)⟩, ⟨by (try simp only [hl373000_62]); (with_reducible repeat (first | apply Kd.S_alloc | apply Kd.S_drewN | apply Kd.S_drew)); exact Kd.S_mono HO402.out (fun _ hk => ⟨hk.1.1.1.2, ⟨hk.1.1.2, hk.1.2⟩⟩)⟩, ⟨by (try simp only [hl373000_62]); (with_reducible repeat (first | refine blk_drewN ?_ _ | refine blk_drew ?_ | refine blk_alloc ?_ _)); exact BK354.out⟩, ⟨by (try simp only [hl373000_62]); (with_reducible repeat (first | refine blk_drewN ?_ _ | refine blk_drew ?_ | refine blk_alloc ?_ _)); exact BK367.out⟩, ⟨by (try simp only [hl373000_62]); (with_reducible repeat (first | refine blk_drewN ?_ _ | refine blk_drew ?_ | refine blk_alloc ?_ _)); exact BK372.out⟩, ⟨by (try simp only [hl373000_62]); (with_reducible repeat (first | refine blk_drewN ?_ _ | refine blk_drew ?_ | refine blk_alloc ?_ _)); exact BK380.out⟩, ⟨by (try simp only [hl373000_62]); (with_reducible repeat (first | refine blk_drewN ?_ _ | refine blk_drew ?_ | refine blk_alloc ?_ _)); exact BK404.out⟩, ⟨hb_ HB⟩⟩
       obtain rfl := Bool.eq_false_iff.mpr c122
       replace H := iF_ H
       replace H' := A_ H; clear H
       have hnb133 := NB404_354.out
       have hnc133 := NB354_404.out
       have hnb134 := NB404_367.out
       have hnc134 := NB367_404.out
       have hnb135 := NB404_372.out
       have hnc135 := NB372_404.out
       have hnb136 := NB404_380.out
       have hnc136 := NB380_404.out
       obtain ⟨hcz137_0, hcz137_1, hfz137_0, hfz137_1⟩ := cz2_ BK404
       have hnb138 := NB367_354.out
       have hnc138 := NB354_367.out
       have hnb139 := NB367_372.out
       have hnc139 := NB372_367.out
       have hnb140 := NB367_380.out
       have hnc140 := NB380_367.out
       obtain ⟨hcz141_0, hcz141_1, hfz141_0, hfz141_1⟩ := cz2_ BK367
       go_wp2_with (first | ((with_reducible refine gate_callee (f := 13) rfl ?_); refine goesL_ (some 86) rfl rfl Try.func13 (by kernel_rfl) rfl #[.agg #[.slice Ao114 t397.length co114, .slice Ao120 t400.length co120], .agg #[.slice Ao21 t360.length co21, .slice Ao24 t363.length co24]] rfl al_ ?_; (with_reducible refine (laws_eqMem.calls kj62 _ _ t397 _ _ t400 _ _ t360 _ _ t363 false _ ?side1 ?side2 ?side3 ?side4 ?side5 ?side6 ?side7 ?side8 A121.out).mono ?_); (case side1 => refine (Kd.R_reads' (e := 95) (base := w.heap.size) (ok := fun k_ => ((True ∧ some k_ ≠ (.slice Ao21 t360.length co21 : Value).ownBlock) ∧ some k_ ≠ (.slice Ao34 t373.length co34 : Value).ownBlock)) (n := t397.length) (c := co114) ?_).2.2; exact (by (with_reducible repeat (first | apply Kd.R_alloc | apply Kd.R_drewN | apply Kd.R_drew)); exact (Kd.R_mono (Kd.R_far (p := ⟨gb404, 1, none⟩) (Kd.R_far (p := ⟨gb404, 0, none⟩) (Kd.R_types HO399.out BK404.out (by decide)) (fun _ hk => hk.2) (.slice Ao114 t397.length co114)) (fun _ hk => hk.2) (.slice Ao120 t400.length co120)) (fun _ h_ => h_.1)))); (case side2 => exact (Kd.R_reads' HO399.out).2.1); (case side3 => refine (Kd.S_reads' (e := 119) (base := w.heap.size) (ok := fun k_ => ((((True ∧ some k_ ≠ (.slice Ao24 t363.length co24 : Value).ownBlock) ∧ some k_ ≠ (.slice Ao28 t388.length co28 : Value).ownBlock) ∧ some k_ ≠ (.slice Ao39 t376n.length co39 : Value).ownBlock) ∧ some k_ ≠ (.slice Ao111 t393.length co111 : Value).ownBlock)) (n := t400.length) (c := co120) ?_).2.2; exact (by (with_reducible repeat (first | apply Kd.S_alloc | apply Kd.S_drewN | apply Kd.S_drew)); exact (Kd.S_mono (Kd.S_far (p := ⟨gb404, 1, none⟩) (Kd.S_far (p := ⟨gb404, 0, none⟩) (Kd.S_types HO402.out BK404.out (by decide)) (fun _ hk => hk.2) (.slice Ao114 t397.length co114)) (fun _ hk => hk.2) (.slice Ao120 t400.length co120)) (fun _ h_ => h_.1)))); (case side4 => exact (Kd.S_reads' HO402.out).2.1); (case side5 => refine (Kd.R_reads' (e := 95) (base := w.heap.size) (ok := fun k_ => (some k_ ≠ (.slice Ao34 t373.length co34 : Value).ownBlock ∧ some k_ ≠ (.slice Ao114 t397.length co114 : Value).ownBlock)) (n := t360.length) (c := co21) ?_).2.2; exact (by (with_reducible repeat (first | apply Kd.R_alloc | apply Kd.R_drewN | apply Kd.R_drew)); exact (Kd.R_mono (Kd.R_far (p := ⟨gb404, 1, none⟩) (Kd.R_far (p := ⟨gb404, 0, none⟩) (Kd.R_types HO_368000.out BK404.out (by decide)) (fun _ hk => hk.2) (.slice Ao114 t397.length co114)) (fun _ hk => hk.2) (.slice Ao120 t400.length co120)) (fun _ h_ => h_.1)))); (case side6 => exact (Kd.R_reads' HO_368000.out).2.1); (case side7 => refine (Kd.S_reads' (e := 119) (base := w.heap.size) (ok := fun k_ => (((some k_ ≠ (.slice Ao28 t388.length co28 : Value).ownBlock ∧ k_ < nn_) ∧ some k_ ≠ (.slice Ao111 t393.length co111 : Value).ownBlock) ∧ some k_ ≠ (.slice Ao120 t400.length co120 : Value).ownBlock)) (n := t363.length) (c := co24) ?_).2.2; exact (by (with_reducible repeat (first | apply Kd.S_alloc | apply Kd.S_drewN | apply Kd.S_drew)); exact (Kd.S_mono (Kd.S_far (p := ⟨gb404, 1, none⟩) (Kd.S_far (p := ⟨gb404, 0, none⟩) (Kd.S_types HO_368001.out BK404.out (by decide)) (fun _ hk => hk.2) (.slice Ao114 t397.length co114)) (fun _ hk => hk.2) (.slice Ao120 t400.length co120)) (fun _ h_ => h_.1)))); (case side8 => exact (Kd.S_reads' HO_368001.out).2.1); rintro e w142 ⟨rfl, hb⟩; refine ⟨_, rfl, ?_⟩; replace HO_368000 := A_ (Kd.R_below (by (with_reducible repeat (first | apply Kd.R_alloc | apply Kd.R_drewN | apply Kd.R_drew)); exact (Kd.R_mono (Kd.R_far (p := ⟨gb404, 1, none⟩) (Kd.R_far (p := ⟨gb404, 0, none⟩) (Kd.R_types HO_368000.out BK404.out (by decide)) (fun _ hk => hk.2) (.slice Ao114 t397.length co114)) (fun _ hk => hk.2) (.slice Ao120 t400.length co120)) (fun _ h_ => h_.1))) hb); replace HO_368001 := A_ (Kd.S_below (by (with_reducible repeat (first | apply Kd.S_alloc | apply Kd.S_drewN | apply Kd.S_drew)); exact (Kd.S_mono (Kd.S_far (p := ⟨gb404, 1, none⟩) (Kd.S_far (p := ⟨gb404, 0, none⟩) (Kd.S_types HO_368001.out BK404.out (by decide)) (fun _ hk => hk.2) (.slice Ao114 t397.length co114)) (fun _ hk => hk.2) (.slice Ao120 t400.length co120)) (fun _ h_ => h_.1))) hb); replace HO_373000 := A_ (Kd.R_below (by (with_reducible repeat (first | apply Kd.R_alloc | apply Kd.R_drewN | apply Kd.R_drew)); exact (Kd.R_mono (Kd.R_far (p := ⟨gb404, 1, none⟩) (Kd.R_far (p := ⟨gb404, 0, none⟩) (Kd.R_types HO_373000.out BK404.out (by decide)) (fun _ hk => hk.2) (.slice Ao114 t397.length co114)) (fun _ hk => hk.2) (.slice Ao120 t400.length co120)) (fun _ h_ => h_.1))) hb); replace HO_381000 := A_ (Kd.R_below (by (with_reducible repeat (first | apply Kd.R_alloc | apply Kd.R_drewN | apply Kd.R_drew)); exact (Kd.R_mono (Kd.R_far (p := ⟨gb404, 1, none⟩) (Kd.R_far (p := ⟨gb404, 0, none⟩) (Kd.R_types HO_381000.out BK404.out (by decide)) (fun _ hk => hk.2) (.slice Ao114 t397.length co114)) (fun _ hk => hk.2) (.slice Ao120 t400.length co120)) (fun _ h_ => h_.1))) hb); replace HO_381001 := A_ (Kd.S_below (by (with_reducible repeat (first | apply Kd.S_alloc | apply Kd.S_drewN | apply Kd.S_drew)); exact (Kd.S_mono (Kd.S_far (p := ⟨gb404, 1, none⟩) (Kd.S_far (p := ⟨gb404, 0, none⟩) (Kd.S_types HO_381001.out BK404.out (by decide)) (fun _ hk => hk.2) (.slice Ao114 t397.length co114)) (fun _ hk => hk.2) (.slice Ao120 t400.length co120)) (fun _ h_ => h_.1))) hb); replace HO395 := A_ (Kd.R_below (by (with_reducible repeat (first | apply Kd.R_alloc | apply Kd.R_drewN | apply Kd.R_drew)); exact (Kd.R_mono (Kd.R_far (p := ⟨gb404, 1, none⟩) (Kd.R_far (p := ⟨gb404, 0, none⟩) (Kd.R_types HO395.out BK404.out (by decide)) (fun _ hk => hk.2) (.slice Ao114 t397.length co114)) (fun _ hk => hk.2) (.slice Ao120 t400.length co120)) (fun _ h_ => h_.1))) hb); replace HO399 := A_ (Kd.R_below (by (with_reducible repeat (first | apply Kd.R_alloc | apply Kd.R_drewN | apply Kd.R_drew)); exact (Kd.R_mono (Kd.R_far (p := ⟨gb404, 1, none⟩) (Kd.R_far (p := ⟨gb404, 0, none⟩) (Kd.R_types HO399.out BK404.out (by decide)) (fun _ hk => hk.2) (.slice Ao114 t397.length co114)) (fun _ hk => hk.2) (.slice Ao120 t400.length co120)) (fun _ h_ => h_.1))) hb); replace HO402 := A_ (Kd.S_below (by (with_reducible repeat (first | apply Kd.S_alloc | apply Kd.S_drewN | apply Kd.S_drew)); exact (Kd.S_mono (Kd.S_far (p := ⟨gb404, 1, none⟩) (Kd.S_far (p := ⟨gb404, 0, none⟩) (Kd.S_types HO402.out BK404.out (by decide)) (fun _ hk => hk.2) (.slice Ao114 t397.length co114)) (fun _ hk => hk.2) (.slice Ao120 t400.length co120)) (fun _ h_ => h_.1))) hb); replace BK354 := bb_ BK354 hb; replace BK367 := bb_ BK367 hb; replace BK372 := bb_ BK372 hb; replace BK380 := bb_ BK380 hb; replace BK404 := bq_ (o' := .cells #[.slice Ao114 t397.length co114, .slice Ao120 t400.length co120] 31 (0, 0)) BK404 hb; replace HB := hs_ HB hb; (try clear hb); (try clear hb2); (try clear hk); (try clear hi)))
       go_meet
       case rel => exact ⟨_, (true), rt_, H', ⟨by have := HJ11.out; have := HJ62.out; first | omega | exact Nat.le_refl _⟩, ⟨by (try simp only [hl373000_62]); (with_reducible repeat (first | apply Kd.R_alloc | apply Kd.R_drewN | apply Kd.R_drew)); exact HO_368000.out⟩, ⟨by (try simp only [hl373000_62]); (with_reducible repeat (first | apply Kd.S_alloc | apply Kd.S_drewN | apply Kd.S_drew)); exact Kd.S_mono HO_368001.out (fun _ hk => ⟨hk.1.1.1, ⟨hk.1.1.2, hk.2⟩⟩)⟩, ⟨by (try simp only [hl373000_62]); (with_reducible repeat (first | apply Kd.R_alloc | apply Kd.R_drewN | apply Kd.R_drew)); exact Kd.R_mono HO_373000.out (fun _ hk => trivial)⟩, ⟨by (try simp only [hl373000_62]); (with_reducible repeat (first | apply Kd.R_alloc | apply Kd.R_drewN | apply Kd.R_drew)); exact HO_381000.out⟩, ⟨by (try simp only [hl373000_62]); (with_reducible repeat (first | apply Kd.S_alloc | apply Kd.S_drewN | apply Kd.S_drew)); exact Kd.S_mono HO_381001.out (fun _ hk => ⟨hk.1.1.1, ⟨hk.1.1.2, hk.2⟩⟩)⟩, ⟨by (try simp only [hl373000_62]); (with_reducible repeat (first | apply Kd.R_alloc | apply Kd.R_drewN | apply Kd.R_drew)); exact Kd.R_mono HO399.out (fun _ hk => ⟨hk.1.2, hk.2⟩)⟩, ⟨by (try simp only [hl373000_62]); (with_reducible repeat (first | apply Kd.S_alloc | apply Kd.S_drewN | apply Kd.S_drew)); exact Kd.S_mono HO402.out (fun _ hk => ⟨hk.1.1.1.2, ⟨hk.1.1.2, hk.1.2⟩⟩)⟩, ⟨by (try simp only [hl373000_62]); (with_reducible repeat (first | refine blk_drewN ?_ _ | refine blk_drew ?_ | refine blk_alloc ?_ _)); exact BK354.out⟩, ⟨by (try simp only [hl373000_62]); (with_reducible repeat (first | refine blk_drewN ?_ _ | refine blk_drew ?_ | refine blk_alloc ?_ _)); exact BK367.out⟩, ⟨by (try simp only [hl373000_62]); (with_reducible repeat (first | refine blk_drewN ?_ _ | refine blk_drew ?_ | refine blk_alloc ?_ _)); exact BK372.out⟩, ⟨by (try simp only [hl373000_62]); (with_reducible repeat (first | refine blk_drewN ?_ _ | refine blk_drew ?_ | refine blk_alloc ?_ _)); exact BK380.out⟩, ⟨by (try simp only [hl373000_62]); (with_reducible repeat (first | refine blk_drewN ?_ _ | refine blk_drew ?_ | refine blk_alloc ?_ _)); exact BK404.out⟩, ⟨hb_ HB⟩⟩
      case rest =>
       clear HC99
       try clear c2
       try clear c4b0
       try clear c41
       try clear c58
       try clear c61
       try clear c73b0
       try clear c75
       try clear c92
       try clear c95
       try clear c95b0
       try clear c96b0
       try clear c96b1
       try clear c122
       obtain ⟨kq, x92_98, rfl, HA, HJ98, HO_368000, HO_368001, HO_373000, HO_381000, HO_381001, HO_405000, HO_405001, BK354, BK367, BK372, BK380, BK404, HB⟩ := hcut
       have hl381000_98 := (Kd.R_reads' HO_381000.out).1
       rw [hl381000_98] at HO_381000
       (try simp only [hl381000_98])
       (try simp only [hl381000_98] at BK354)
       (try simp only [hl381000_98] at BK367)
       (try simp only [hl381000_98] at BK372)
       (try simp only [hl381000_98] at BK380)
       (try simp only [hl381000_98] at BK404)
       (try simp only [hl381000_98] at HO_368000)
       (try simp only [hl381000_98] at HO_368001)
       (try simp only [hl381000_98] at HO_373000)
       (try simp only [hl381000_98] at HO_381001)
       (try simp only [hl381000_98] at HO_405000)
       (try simp only [hl381000_98] at HO_405001)
       cases kq with
       | zero => exact absurd HA.out (by simp [laws_FnExactMemNew.j2])
       | succ kj98 =>
        have H := HA.out
        clear HA
        simp only [laws_FnExactMemNew.j2] at H
        by_cases c143 : x92_98 = true
        ·
         subst c143
         replace H := it_ H
         exact absurd H (by simp)
        obtain rfl := Bool.eq_false_iff.mpr c143
        replace H := iF_ H
        replace H := bs_ H
        obtain ⟨t406, A144, H⟩ := H
        by_cases c145 : t406 < 0
        ·
         rw [if_pos c145] at H
         exact absurd H (by simp)
        rw [if_neg c145] at H
        have c145b0 : decide (t406 < 0) = false := decide_eq_false c145
        clear c145
        replace H := iy_ H
        obtain ⟨c146b0, c146b1, H⟩ := H
        obtain rfl := Option.some.inj H
        have hnb147 := NB380_354.out
        have hnc147 := NB354_380.out
        have hnb148 := NB380_367.out
        have hnc148 := NB367_380.out
        have hnb149 := NB380_372.out
        have hnc149 := NB372_380.out
        have hnb150 := NB380_404.out
        have hnc150 := NB404_380.out
        obtain ⟨hcz151_0, hcz151_1, hfz151_0, hfz151_1⟩ := cz2_ BK380
        go_wp2_with (first | ((with_reducible refine gate_callee (f := 41) rfl ?_); refine goesL_ (some 95) rfl rfl Try.func41 (by kernel_rfl) rfl #[.agg #[.slice Ao34 t391.length co34, .slice Ao39 t376n.length co39], .int .i64 1] rfl al_ ?_; (with_reducible refine (laws_heldMem.calls kj98 _ _ t391 _ _ t376n 1 t406 _ ?side1 ?side2 ?side3 ?side4 A144.out).mono ?_); (case side1 => repeat (first | exact (Kd.R_reads' HO_381000.out).2.2 | (with_reducible refine Kd.C_alloc ?_ _) | (with_reducible refine Kd.C_drewN ?_ _) | (with_reducible refine Kd.C_drew ?_))); (case side2 => exact (Kd.R_reads' HO_381000.out).2.1); (case side3 => repeat (first | exact (Kd.S_reads' HO_381001.out).2.2 | (with_reducible refine Kd.C_alloc ?_ _) | (with_reducible refine Kd.C_drewN ?_ _) | (with_reducible refine Kd.C_drew ?_))); (case side4 => exact (Kd.S_reads' HO_381001.out).2.1); rintro e w152 ⟨rfl, hb⟩; refine ⟨_, rfl, ?_⟩; replace HO_368000 := A_ (Kd.R_below (rb_ HO_368000.out) hb); replace HO_368001 := A_ (Kd.S_below (sb_ HO_368001.out) hb); replace HO_373000 := A_ (Kd.R_below (rb_ HO_373000.out) hb); replace HO_381000 := A_ (Kd.R_below (rb_ HO_381000.out) hb); replace HO_381001 := A_ (Kd.S_below (sb_ HO_381001.out) hb); replace HO_405000 := A_ (Kd.R_below (rb_ HO_405000.out) hb); replace HO_405001 := A_ (Kd.S_below (sb_ HO_405001.out) hb); replace BK354 := bb_ BK354 hb; replace BK367 := bb_ BK367 hb; replace BK372 := bb_ BK372 hb; replace BK380 := bb_ BK380 hb; replace BK404 := bb_ BK404 hb; replace HB := hs_ HB hb; (try clear hb); (try clear hb2); (try clear hk); (try clear hi)))
        go_ret
        exact ⟨rs_, hb_ HB⟩
   obtain rfl := Bool.eq_false_iff.mpr c61
   replace H := iF_ H
   exact absurd H (by simp)

end Go.Proofs.Ytmkhghbalnadlaa.PFnExactMemNew
