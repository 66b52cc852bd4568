/- Contracts of functions of the program: each says that the call does what a plain Lean function tells. Made by programs of this session and of the kit. No condition beyond the hypotheses that each theorem names. -/
import Derived.Test.YtmkhghbalnadlaaPFnExactBeginx0
import Derived.Test.YtmkhghbalnadlaaPFnExactBeginx5
import Derived.Test.YtmkhghbalnadlaaPFnExactBeginx7
import Derived.Test.YtmkhghbalnadlaaPFnExactBeginx8
import Derived.Test.YtmkhghbalnadlaaPFnExactBeginx9
namespace Go.Proofs.Ytmkhghbalnadlaa.PFnExactBegin
open Go.RowKit Go.Proofs.YtmkhghbalnadlaaW.PrintWords Go.Proofs.YtmkhghbalnadlaaW.PrintLast Go.Proofs.YtmkhghbalnadlaaW.PrintMore
attribute [local go_sem] max2_int min2_int max_two min_two max_three min_three max_four min_four   -- for this text's walks alone
set_option linter.unusedVariables false
set_option linter.unusedSimpArgs false

/-! ### spec_Begin: function 43 -/
def spec_Begin.j0 : Nat → Int → List (S122) → Bool → List (S95) → List (S119) → Int → List Int → List (S95) → List (S119) → Option ((List (S95)) × (List (S119)) × Int × Int × Int × Int × Bool)
 | 0, _, _, _, _, _, _, _, _, _ => none
 | k + 1, x1, x2, x32, x316000, x316001, x317000, x317001, x326000, x326001 => if x32 = true then (some (x326000, x326001, 0, 0, 0, 0, false)) else ((spec_l7Copy.f k x316000 x316001).bind fun bt329 => (if 0 ≤ x1 then (if x1 < (x316001.length : Int) then ((some (([] : List (S122)) : List (S122))).bind fun y337 => (if y337.length + x2.length < 5864062014805 then ((spec_l6Res.f x317000 x317001).bind fun bt343 => (if x1 < (bt329.2.length : Int) then ((some (bt329.2.set (x1 : Int).toNat (⟨wrap64 (((rd_T119 x316001 x1).f0) + 1), 1, (y337 ++ x2), (⟨bt343.1, bt343.2⟩ : S49)⟩ : S119) : List (S119))).bind fun y347 => ((spec_MemOk.f k bt329.1 y347).bind fun t348 => (if t348 = true then (some (bt329.1, y347, x1, wrap64 (((rd_T119 x316001 x1).f0) + 1), 0, 0, true)) else (some (x326000, x326001, 0, 0, 0, 0, false))))) else (none))) else (none))) else (none)) else (none)))
def spec_Begin.f (k : Nat) (l0_0 : List (S95)) (l0_1 : List (S119)) (a1 : Int) (l2 : List (S122)) (a3_0 : Int) (l3_1 : List Int) : Option ((List (S95)) × (List (S119)) × Int × Int × Int × Int × Bool) := (spec_l7Copy.f k l0_0 l0_1).bind fun bt319 => ((spec_MemOk.f k l0_0 l0_1).bind fun t326 => (if t326 = true then ((spec_l1In.f a1 0 (wrap64 ((l0_1.length : Int) - 1))).bind fun t327 => (if t327 = true then ((spec_l7Marks.f k l0_0 l0_1 a1).bind fun t328 => (spec_Begin.j0 k a1 l2 t328 l0_0 l0_1 a3_0 l3_1 bt319.1 bt319.2)) else (spec_Begin.j0 k a1 l2 true l0_0 l0_1 a3_0 l3_1 bt319.1 bt319.2))) else (spec_Begin.j0 k a1 l2 true l0_0 l0_1 a3_0 l3_1 bt319.1 bt319.2)))
def spec_Begin.T6 : Bool × List (List Nat × List Nat) := (true, [([], []), ([0], [0]), ([], []), ([], []), ([], []), ([], []), ([4, 5], [4, 5]), ([], []), ([7, 6], [7]), ([3, 6, 8], [3, 6, 8]), ([1, 2, 0, 1, 2, 3, 4, 5, 6, 7, 8, 9], [1, 2]), ([10, 9, 8, 0, 1, 2, 3, 4, 5, 6, 7, 8, 9], [9, 10])])
def spec_Begin.B6 : List Nat := [0, 1, 0, 0, 0, 0, 48, 0, 240, 504, 1023, 2047]
theorem spec_Begin.tab6 : rtab .any (opsOf Try.f43 6) = spec_Begin.T6 := by kernel_rfl
theorem spec_Begin.bits6 : waitsOk spec_Begin.T6.2 spec_Begin.B6 = true := by kernel_rfl
theorem spec_Begin.set5 {W : World} {g n cap base : Nat} {i : Int} {v0 v1 v2 v3 v4 : Value} {ok : Nat → Prop} {xs : List S119} (h : Kd.S k119 119 (W.setCells g (i.toNat * (k119).sz + 0) [v0, v1, v2, v3, v4]) base ok (.slice (some ⟨g, 0, none⟩) n cap) xs) : Kd.S k119 119 (((((W.setCell ⟨g, i.toNat * 5, none⟩ v0).setCell ⟨g, i.toNat * 5 + 1, none⟩ v1).setCell ⟨g, i.toNat * 5 + 2, none⟩ v2).setCell ⟨g, i.toNat * 5 + 3, none⟩ v3).setCell ⟨g, i.toNat * 5 + 4, none⟩ v4) base ok (.slice (some ⟨g, 0, none⟩) n cap) xs := by
 rw [show (k119).sz = 5 from rfl, Nat.add_zero, show W.setCells g (i.toNat * 5) [v0, v1, v2, v3, v4] = (((((W.setCell ⟨g, i.toNat * 5, none⟩ v0).setCell ⟨g, i.toNat * 5 + 1, none⟩ v1).setCell ⟨g, i.toNat * 5 + 2, none⟩ v2).setCell ⟨g, i.toNat * 5 + 3, none⟩ v3).setCell ⟨g, i.toNat * 5 + 4, none⟩ v4) from rfl] at h
 exact h
set_option maxHeartbeats 8000000 in
set_option maxRecDepth 100000 in
theorem spec_Begin.calls (k : Nat) (A0_0 : Option Addr) (c0_0 : Nat) (l0_0 : List (S95)) (A0_1 : Option Addr) (c0_1 : Nat) (l0_1 : List (S119)) (a1 : Int) (A2 : Option Addr) (c2 : Nat) (l2 : List (S122)) (a3_0 : Int) (A3_1 : Option Addr) (c3_1 : Nat) (l3_1 : List Int) (r1 : List (S95)) (r2 : List (S119)) (r3 : Int) (r4 : Int) (r5 : Int) (r6 : Int) (r7 : Bool) (w : World) (hr0_0 : Kd.C k95 w A0_0 l0_0.length l0_0) (hc0_0 : l0_0.length ≤ c0_0) (hr0_1 : Kd.C k119 w A0_1 l0_1.length l0_1) (hc0_1 : l0_1.length ≤ c0_1) (hr2 : Kd.C k122 w A2 l2.length l2) (hc2 : l2.length ≤ c2) (hr3_1 : Kd.C (Kd.int .i64) w A3_1 l3_1.length l3_1) (hc3_1 : l3_1.length ≤ c3_1) (h : spec_Begin.f k l0_0 l0_1 a1 l2 a3_0 l3_1 = some (r1, r2, r3, r4, r5, r6, r7)) :
    Calls Try.prog 43 #[.agg #[.slice A0_0 l0_0.length c0_0, .slice A0_1 l0_1.length c0_1], .int .i64 a1, .slice A2 l2.length c2, .agg #[.int .i64 a3_0, .slice A3_1 l3_1.length c3_1]] w fun e w' => ∃ v0_ v1_ : Value, e = .returned (.tuple #[.agg #[v0_, v1_], .agg #[.int .i64 r3, .int .i64 r4, .int .i64 r5, .int .i64 r6], .bool r7]) ∧ Kd.R k95 95 w' w.heap.size (fun k_ => (w.heap.size ≤ k_)) v0_ r1 ∧ Kd.S k119 119 w' w.heap.size (fun k_ => (w.heap.size ≤ k_) ∧ some k_ ≠ (v0_ : Value).ownBlock) v1_ r2 ∧ Below w.heap.size w w' := by
 have hu31 := Try.underlying31
 have hu49 := Try.underlying49
 have hu74 := Try.underlying74
 have hu119 := Try.underlying119
 have HR0_0 := A_ hr0_0
 have HC0_0 := A_ hc0_0
 clear hr0_0 hc0_0
 have HR0_1 := A_ hr0_1
 have HC0_1 := A_ hc0_1
 clear hr0_1 hc0_1
 have HR2 := A_ hr2
 have HC2 := A_ hc2
 clear hr2 hc2
 have HR3_1 := A_ hr3_1
 have HC3_1 := A_ hc3_1
 clear hr3_1 hc3_1
 have HB := A_ (Below.refl w.heap.size w)
 have H : ((spec_l7Copy.f k l0_0 l0_1).bind fun bt319 => ((spec_MemOk.f k l0_0 l0_1).bind fun t326 => (if t326 = true then ((spec_l1In.f a1 0 (wrap64 ((l0_1.length : Int) - 1))).bind fun t327 => (if t327 = true then ((spec_l7Marks.f k l0_0 l0_1 a1).bind fun t328 => (spec_Begin.j0 k a1 l2 t328 l0_0 l0_1 a3_0 l3_1 bt319.1 bt319.2)) else (spec_Begin.j0 k a1 l2 true l0_0 l0_1 a3_0 l3_1 bt319.1 bt319.2))) else (spec_Begin.j0 k a1 l2 true l0_0 l0_1 a3_0 l3_1 bt319.1 bt319.2)))) = some (r1, r2, r3, r4, r5, r6, r7) := h
 clear h
 replace H := bs_ H
 obtain ⟨⟨t319, t322⟩, A5, H⟩ := H
 dsimp only at H
 have HC6 := A_ H
 clear H
 go_enter Try.func43, Try.ntmps43
 go_upto_region 2 with (first | ((with_reducible refine gate_dst (N := 4) rfl ?_); (try (refine gate_guard (by rfl) ?_; dsimp only)); refine bx_ HB rfl (N := 4) rfl (cs := #[.slice A0_0 l0_0.length c0_0, .slice A0_1 l0_1.length c0_1]) (t := 31) hr_ ?_; clear HB; intro gb315 w7 hg hb BK315 GW315 HB; clear hb hg) | ((with_reducible refine gate_dst (N := 7) rfl ?_); (try (refine gate_guard (by rfl) ?_; dsimp only)); refine bx_ HB rfl (N := 7) rfl (cs := #[.int .i64 a3_0, .slice A3_1 l3_1.length c3_1]) (t := 49) hr_ ?_; clear HB; intro gb316 w8 hg hb BK316 GW316 HB; have NB315_316 := ng_ BK315 hg; have NB316_315 := ns_ (ng_ BK315 hg); replace BK315 := bb_ BK315 hb; clear hb hg) | ((with_reducible refine gate_dst (N := 8) rfl ?_); (try (refine gate_guard (by rfl) ?_; dsimp only)); refine bx_ HB rfl (N := 8) rfl (cs := #[.slice none 0 0, .slice none 0 0]) (t := 31) hr_ ?_; clear HB; intro gb317 w9 hg hb BK317 GW317 HB; have NB315_317 := ng_ BK315 hg; have NB317_315 := ns_ (ng_ BK315 hg); have NB316_317 := ng_ BK316 hg; have NB317_316 := ns_ (ng_ BK316 hg); replace BK315 := bb_ BK315 hb; replace BK316 := bb_ BK316 hb; clear hb hg) | ((with_reducible refine gate_dst (N := 9) rfl ?_); (try (refine gate_guard (by rfl) ?_; dsimp only)); refine bx_ HB rfl (N := 9) rfl (cs := #[.int .i64 0, .int .i64 0, .int .i64 0, .int .i64 0]) (t := 74) hr_ ?_; clear HB; intro gb318 w10 hg hb BK318 GW318 HB; have NB315_318 := ng_ BK315 hg; have NB318_315 := ns_ (ng_ BK315 hg); have NB316_318 := ng_ BK316 hg; have NB318_316 := ns_ (ng_ BK316 hg); have NB317_318 := ng_ BK317 hg; have NB318_317 := ns_ (ng_ BK317 hg); replace BK315 := bb_ BK315 hb; replace BK316 := bb_ BK316 hb; replace BK317 := bb_ BK317 hb; clear hb hg; have hnb11 := NB315_316.out; have hnc11 := NB316_315.out; have hnb12 := NB315_317.out; have hnc12 := NB317_315.out; have hnb13 := NB315_318.out; have hnc13 := NB318_315.out; obtain ⟨hcz14_0, hcz14_1, hfz14_0, hfz14_1⟩ := cz2_ BK315) | ((with_reducible refine gate_callee (f := 100) rfl ?_); refine goesL_ (some 15) rfl rfl Try.func100 (by kernel_rfl) rfl #[.agg #[.slice A0_0 l0_0.length c0_0, .slice A0_1 l0_1.length c0_1]] rfl al_ ?_; (with_reducible refine (spec_l7Copy.calls k _ _ l0_0 _ _ l0_1 t319 t322 _ ?side1 ?side2 ?side3 ?side4 A5.out).mono ?_); (case side1 => exact cb_ (Kd.C_below HR0_0.out HB.out)); (case side2 => exact HC0_0.out); (case side3 => exact cb_ (Kd.C_below HR0_1.out HB.out)); (case side4 => exact HC0_1.out); rintro e w15 ⟨v320, v323, rfl, ho0, ho1, hb⟩; refine ⟨_, rfl, ?_⟩; have HO321 := A_ (Kd.R_lower (Kd.R_newM (M := fun k_ => (w.heap.size ≤ k_)) ho0 (below_size (hb_ HB)) (fun k_ h_ => h_)) (below_size (hb_ HB))); have HO324 := A_ (Kd.S_lower (Kd.S_mono (ok' := fun k_ => (w.heap.size ≤ k_) ∧ some k_ ≠ (v320 : Value).ownBlock ∧ k_ ≠ gb315 ∧ k_ ≠ gb316 ∧ k_ ≠ gb317 ∧ k_ ≠ gb318) ((Kd.S_bound (Kd.S_apart' ho1 (Kd.R_typed ho0) (by decide)))) (fun k_ hk_ => ⟨(Nat.le_trans (below_size (hb_ HB)) hk_.2.1), hk_.1.2, (Kd.freshB (g := gb315) (o := .cells #[.slice A0_0 l0_0.length c0_0, .slice A0_1 l0_1.length c0_1] 31 (0, 0)) (bk_ BK315) k_ hk_.2.1), (Kd.freshB (g := gb316) (o := .cells #[.int .i64 a3_0, .slice A3_1 l3_1.length c3_1] 49 (0, 0)) (bk_ BK316) k_ hk_.2.1), (Kd.freshB (g := gb317) (o := .cells #[.slice none 0 0, .slice none 0 0] 31 (0, 0)) (bk_ BK317) k_ hk_.2.1), (Kd.freshB (g := gb318) (o := .cells #[.int .i64 0, .int .i64 0, .int .i64 0, .int .i64 0] 74 (0, 0)) (bk_ BK318) k_ hk_.2.1)⟩)) (below_size (hb_ HB))); replace BK315 := bb_ BK315 hb; replace BK316 := bb_ BK316 hb; replace BK317 := bb_ BK317 hb; replace BK318 := bb_ BK318 hb; replace HB := hs_ HB hb; (try clear hb); (try clear hb2); (try clear hk); (try clear hi); (try clear ho0); (try clear ho1)) | ((with_reducible refine gate_dst (N := 11) rfl ?_); (try (refine gate_guard (by rfl) ?_; dsimp only)); refine bx_ HB rfl (N := 11) rfl (cs := #[.slice none 0 0, .slice none 0 0]) (t := 31) hr_ ?_; clear HB; intro gb325 w16 hg hb BK325 GW325 HB; have NB315_325 := ng_ BK315 hg; have NB325_315 := ns_ (ng_ BK315 hg); have NB316_325 := ng_ BK316 hg; have NB325_316 := ns_ (ng_ BK316 hg); have NB317_325 := ng_ BK317 hg; have NB325_317 := ns_ (ng_ BK317 hg); have NB318_325 := ng_ BK318 hg; have NB325_318 := ns_ (ng_ BK318 hg); replace HO321 := A_ (Kd.R_below (rb_ HO321.out) hb); replace HO324 := A_ (Kd.S_below (Kd.S_elderB (sb_ HO324.out) gb325 (Nat.le_of_eq hg.symm)) hb); replace BK315 := bb_ BK315 hb; replace BK316 := bb_ BK316 hb; replace BK317 := bb_ BK317 hb; replace BK318 := bb_ BK318 hb; clear hb hg; obtain ⟨Ao17, co17, eo17⟩ := Kd.R_slice HO321.out; subst eo17; have hnb18 := NB325_315.out; have hnc18 := NB315_325.out; have hnb19 := NB325_316.out; have hnc19 := NB316_325.out; have hnb20 := NB325_317.out; have hnc20 := NB317_325.out; have hnb21 := NB325_318.out; have hnc21 := NB318_325.out; obtain ⟨hcz22_0, hcz22_1, hfz22_0, hfz22_1⟩ := cz2_ BK325; obtain ⟨Ao23, co23, eo23⟩ := Kd.S_slice HO324.out; subst eo23))
 (try simp only [Act.put, List.setIfInBounds_toArray, List.set_cons_zero, List.set_cons_succ])
 go_cut [32] (fun v32 wc => ∃ (kq : Nat) (x32_5 : Bool), v32 = .bool x32_5 ∧ Aside0 (spec_Begin.j0 kq a1 l2 x32_5 l0_0 l0_1 a3_0 l3_1 t319 t322 = some (r1, r2, r3, r4, r5, r6, r7)) ∧ Aside0 (kq ≤ k) ∧ Aside0 (Kd.R k95 95 wc w.heap.size (fun k_ => (w.heap.size ≤ k_)) (.slice Ao17 t319.length co17) t319) ∧ Aside0 (Kd.S k119 119 wc w.heap.size (fun k_ => (w.heap.size ≤ k_) ∧ some k_ ≠ ((.slice Ao17 t319.length co17) : Value).ownBlock ∧ k_ ≠ gb315 ∧ k_ ≠ gb316 ∧ k_ ≠ gb317 ∧ k_ ≠ gb318 ∧ k_ ≠ gb325) (.slice Ao23 t322.length co23) t322) ∧ Aside0 (wc.heap[gb315]? = some (.cells #[(.slice A0_0 l0_0.length c0_0), (.slice A0_1 l0_1.length c0_1)] 31 (0, 0))) ∧ Aside0 (wc.heap[gb316]? = some (.cells #[.int .i64 a3_0, (.slice A3_1 l3_1.length c3_1)] 49 (0, 0))) ∧ Aside0 (wc.heap[gb317]? = some (.cells #[(.slice none 0 0), (.slice none 0 0)] 31 (0, 0))) ∧ Aside0 (wc.heap[gb318]? = some (.cells #[.int .i64 0, .int .i64 0, .int .i64 0, .int .i64 0] 74 (0, 0))) ∧ Aside0 (wc.heap[gb325]? = some (.cells #[(.slice Ao17 t319.length co17), (.slice Ao23 t322.length co23)] 31 (0, 0))) ∧ Aside0 (Below w.heap.size w wc))
 case first =>
  have H := HC6.out
  clear HC6
  replace H := bs_ H
  obtain ⟨t326, A24, H⟩ := H
  by_cases c25 : t326 = true
  ·
   subst c25
   replace H := it_ H
   replace H := bs_ H
   obtain ⟨t327, A26, H⟩ := H
   by_cases c27 : t327 = true
   ·
    subst c27
    replace H := it_ H
    replace H := bs_ H
    obtain ⟨t328, A28, H⟩ := H
    replace H' := A_ H; clear H
    have hnb29 := NB315_316.out
    have hnc29 := NB316_315.out
    have hnb30 := NB315_317.out
    have hnc30 := NB317_315.out
    have hnb31 := NB315_318.out
    have hnc31 := NB318_315.out
    have hnb32 := NB315_325.out
    have hnc32 := NB325_315.out
    obtain ⟨hcz33_0, hcz33_1, hfz33_0, hfz33_1⟩ := cz2_ BK315
    go_wp2_with (first | ((with_reducible refine gate_callee (f := 54) rfl ?_); refine goesL_ (some 17) rfl rfl Try.func54 (by kernel_rfl) rfl #[.agg #[.slice A0_0 l0_0.length c0_0, .slice A0_1 l0_1.length c0_1]] rfl al_ ?_; (with_reducible refine (spec_MemOk.calls k _ _ l0_0 _ _ l0_1 true _ ?side1 ?side2 ?side3 ?side4 A24.out).mono ?_); (case side1 => exact Kd.C_below HR0_0.out (hb_ HB)); (case side2 => exact HC0_0.out); (case side3 => exact Kd.C_below HR0_1.out (hb_ HB)); (case side4 => exact HC0_1.out); rintro e w34 ⟨rfl, hb⟩; refine ⟨_, rfl, ?_⟩; replace HO321 := A_ (Kd.R_below (by (with_reducible repeat (first | apply Kd.R_alloc | apply Kd.R_drewN | apply Kd.R_drew)); exact (Kd.R_mono (Kd.R_far (p := ⟨gb325, 1, none⟩) (Kd.R_far (p := ⟨gb325, 0, none⟩) (Kd.R_types HO321.out BK325.out (by decide)) (fun _ hk => hk.2) (.slice Ao17 t319.length co17)) (fun _ hk => hk.2) (.slice Ao23 t322.length co23)) (fun _ h_ => h_.1))) hb); replace HO324 := A_ (Kd.S_below (by (with_reducible repeat (first | apply Kd.S_alloc | apply Kd.S_drewN | apply Kd.S_drew)); exact (Kd.S_mono (Kd.S_far (p := ⟨gb325, 1, none⟩) (Kd.S_far (p := ⟨gb325, 0, none⟩) (Kd.S_mono HO324.out (fun k_ hk => (⟨hk, hk.2⟩ : _ ∧ k_ ≠ gb325))) (fun _ hk => hk.2) (.slice Ao17 t319.length co17)) (fun _ hk => hk.2) (.slice Ao23 t322.length co23)) (fun _ h_ => h_.1))) hb); replace BK315 := bb_ BK315 hb; replace BK316 := bb_ BK316 hb; replace BK317 := bb_ BK317 hb; replace BK318 := bb_ BK318 hb; replace BK325 := bq_ (o' := .cells #[.slice Ao17 t319.length co17, .slice Ao23 t322.length co23] 31 (0, 0)) BK325 hb; replace HB := hs_ HB hb; (try clear hb); (try clear hb2); (try clear hk); (try clear hi); obtain ⟨hcz35_0, hcz35_1, hfz35_0, hfz35_1⟩ := cz2_ BK315) | (go_at_call 87; (with_reducible refine (spec_l1In.calls a1 0 (wrap64 ((l0_1.length : Int) - 1)) true _ A26.out).mono ?_); rintro e w' ⟨rfl, ⟨nd, rfl⟩⟩) | (go_at_call 55; (with_reducible refine (spec_l7Marks.calls k _ _ l0_0 _ _ l0_1 a1 t328 _ ?side1 ?side2 ?side3 ?side4 A28.out).mono ?_); (case side1 => exact cb_ (Kd.C_below HR0_0.out (hb_ HB))); (case side2 => exact HC0_0.out); (case side3 => exact cb_ (Kd.C_below HR0_1.out (hb_ HB))); (case side4 => exact HC0_1.out); rintro e w36 ⟨rfl, hb⟩; replace HO321 := A_ (Kd.R_below (rb_ HO321.out) hb); replace HO324 := A_ (Kd.S_below (sb_ HO324.out) hb); replace BK315 := bb_ BK315 hb; replace BK316 := bb_ BK316 hb; replace BK317 := bb_ BK317 hb; replace BK318 := bb_ BK318 hb; replace BK325 := bb_ BK325 hb; replace HB := hs_ HB hb; (try clear hb); (try clear hb2); (try clear hk); (try clear hi)))
    go_meet
    case rel => exact ⟨_, (t328), rt_, H', ⟨by first | omega | exact Nat.le_refl _⟩, ⟨by (with_reducible repeat (first | apply Kd.R_alloc | apply Kd.R_drewN | apply Kd.R_drew)); exact Kd.R_mono HO321.out (fun _ hk => hk.1)⟩, ⟨by (with_reducible repeat (first | apply Kd.S_alloc | apply Kd.S_drewN | apply Kd.S_drew)); exact Kd.S_mono HO324.out (fun _ hk => ⟨hk.1.1, ⟨hk.1.2.1, ⟨hk.1.2.2.1, ⟨hk.1.2.2.2.1, ⟨hk.1.2.2.2.2.1, ⟨hk.1.2.2.2.2.2, hk.2⟩⟩⟩⟩⟩⟩)⟩, ⟨bk_ BK315⟩, ⟨bk_ BK316⟩, ⟨bk_ BK317⟩, ⟨bk_ BK318⟩, ⟨bk_ BK325⟩, ⟨hb_ HB⟩⟩
   obtain rfl := Bool.eq_false_iff.mpr c27
   replace H := iF_ H
   replace H' := A_ H; clear H
   have hnb37 := NB315_316.out
   have hnc37 := NB316_315.out
   have hnb38 := NB315_317.out
   have hnc38 := NB317_315.out
   have hnb39 := NB315_318.out
   have hnc39 := NB318_315.out
   have hnb40 := NB315_325.out
   have hnc40 := NB325_315.out
   obtain ⟨hcz41_0, hcz41_1, hfz41_0, hfz41_1⟩ := cz2_ BK315
   go_wp2_with (first | ((with_reducible refine gate_callee (f := 54) rfl ?_); refine goesL_ (some 17) rfl rfl Try.func54 (by kernel_rfl) rfl #[.agg #[.slice A0_0 l0_0.length c0_0, .slice A0_1 l0_1.length c0_1]] rfl al_ ?_; (with_reducible refine (spec_MemOk.calls k _ _ l0_0 _ _ l0_1 true _ ?side1 ?side2 ?side3 ?side4 A24.out).mono ?_); (case side1 => exact Kd.C_below HR0_0.out (hb_ HB)); (case side2 => exact HC0_0.out); (case side3 => exact Kd.C_below HR0_1.out (hb_ HB)); (case side4 => exact HC0_1.out); rintro e w42 ⟨rfl, hb⟩; refine ⟨_, rfl, ?_⟩; replace HO321 := A_ (Kd.R_below (by (with_reducible repeat (first | apply Kd.R_alloc | apply Kd.R_drewN | apply Kd.R_drew)); exact (Kd.R_mono (Kd.R_far (p := ⟨gb325, 1, none⟩) (Kd.R_far (p := ⟨gb325, 0, none⟩) (Kd.R_types HO321.out BK325.out (by decide)) (fun _ hk => hk.2) (.slice Ao17 t319.length co17)) (fun _ hk => hk.2) (.slice Ao23 t322.length co23)) (fun _ h_ => h_.1))) hb); replace HO324 := A_ (Kd.S_below (by (with_reducible repeat (first | apply Kd.S_alloc | apply Kd.S_drewN | apply Kd.S_drew)); exact (Kd.S_mono (Kd.S_far (p := ⟨gb325, 1, none⟩) (Kd.S_far (p := ⟨gb325, 0, none⟩) (Kd.S_mono HO324.out (fun k_ hk => (⟨hk, hk.2⟩ : _ ∧ k_ ≠ gb325))) (fun _ hk => hk.2) (.slice Ao17 t319.length co17)) (fun _ hk => hk.2) (.slice Ao23 t322.length co23)) (fun _ h_ => h_.1))) hb); replace BK315 := bb_ BK315 hb; replace BK316 := bb_ BK316 hb; replace BK317 := bb_ BK317 hb; replace BK318 := bb_ BK318 hb; replace BK325 := bq_ (o' := .cells #[.slice Ao17 t319.length co17, .slice Ao23 t322.length co23] 31 (0, 0)) BK325 hb; replace HB := hs_ HB hb; (try clear hb); (try clear hb2); (try clear hk); (try clear hi); obtain ⟨hcz43_0, hcz43_1, hfz43_0, hfz43_1⟩ := cz2_ BK315) | (go_at_call 87; (with_reducible refine (spec_l1In.calls a1 0 (wrap64 ((l0_1.length : Int) - 1)) false _ A26.out).mono ?_); rintro e w' ⟨rfl, ⟨nd, rfl⟩⟩))
   go_meet
   case rel => exact ⟨_, (true), rt_, H', ⟨by first | omega | exact Nat.le_refl _⟩, ⟨by (with_reducible repeat (first | apply Kd.R_alloc | apply Kd.R_drewN | apply Kd.R_drew)); exact Kd.R_mono HO321.out (fun _ hk => hk.1)⟩, ⟨by (with_reducible repeat (first | apply Kd.S_alloc | apply Kd.S_drewN | apply Kd.S_drew)); exact Kd.S_mono HO324.out (fun _ hk => ⟨hk.1.1, ⟨hk.1.2.1, ⟨hk.1.2.2.1, ⟨hk.1.2.2.2.1, ⟨hk.1.2.2.2.2.1, ⟨hk.1.2.2.2.2.2, hk.2⟩⟩⟩⟩⟩⟩)⟩, ⟨bk_ BK315⟩, ⟨bk_ BK316⟩, ⟨bk_ BK317⟩, ⟨bk_ BK318⟩, ⟨bk_ BK325⟩, ⟨hb_ HB⟩⟩
  obtain rfl := Bool.eq_false_iff.mpr c25
  replace H := iF_ H
  replace H' := A_ H; clear H
  have hnb44 := NB315_316.out
  have hnc44 := NB316_315.out
  have hnb45 := NB315_317.out
  have hnc45 := NB317_315.out
  have hnb46 := NB315_318.out
  have hnc46 := NB318_315.out
  have hnb47 := NB315_325.out
  have hnc47 := NB325_315.out
  obtain ⟨hcz48_0, hcz48_1, hfz48_0, hfz48_1⟩ := cz2_ BK315
  go_wp2_with (first | ((with_reducible refine gate_callee (f := 54) rfl ?_); refine goesL_ (some 17) rfl rfl Try.func54 (by kernel_rfl) rfl #[.agg #[.slice A0_0 l0_0.length c0_0, .slice A0_1 l0_1.length c0_1]] rfl al_ ?_; (with_reducible refine (spec_MemOk.calls k _ _ l0_0 _ _ l0_1 false _ ?side1 ?side2 ?side3 ?side4 A24.out).mono ?_); (case side1 => exact Kd.C_below HR0_0.out (hb_ HB)); (case side2 => exact HC0_0.out); (case side3 => exact Kd.C_below HR0_1.out (hb_ HB)); (case side4 => exact HC0_1.out); rintro e w49 ⟨rfl, hb⟩; refine ⟨_, rfl, ?_⟩; replace HO321 := A_ (Kd.R_below (by (with_reducible repeat (first | apply Kd.R_alloc | apply Kd.R_drewN | apply Kd.R_drew)); exact (Kd.R_mono (Kd.R_far (p := ⟨gb325, 1, none⟩) (Kd.R_far (p := ⟨gb325, 0, none⟩) (Kd.R_types HO321.out BK325.out (by decide)) (fun _ hk => hk.2) (.slice Ao17 t319.length co17)) (fun _ hk => hk.2) (.slice Ao23 t322.length co23)) (fun _ h_ => h_.1))) hb); replace HO324 := A_ (Kd.S_below (by (with_reducible repeat (first | apply Kd.S_alloc | apply Kd.S_drewN | apply Kd.S_drew)); exact (Kd.S_mono (Kd.S_far (p := ⟨gb325, 1, none⟩) (Kd.S_far (p := ⟨gb325, 0, none⟩) (Kd.S_mono HO324.out (fun k_ hk => (⟨hk, hk.2⟩ : _ ∧ k_ ≠ gb325))) (fun _ hk => hk.2) (.slice Ao17 t319.length co17)) (fun _ hk => hk.2) (.slice Ao23 t322.length co23)) (fun _ h_ => h_.1))) hb); replace BK315 := bb_ BK315 hb; replace BK316 := bb_ BK316 hb; replace BK317 := bb_ BK317 hb; replace BK318 := bb_ BK318 hb; replace BK325 := bq_ (o' := .cells #[.slice Ao17 t319.length co17, .slice Ao23 t322.length co23] 31 (0, 0)) BK325 hb; replace HB := hs_ HB hb; (try clear hb); (try clear hb2); (try clear hk); (try clear hi)))
  go_meet
  case rel => exact ⟨_, (true), rt_, H', ⟨by first | omega | exact Nat.le_refl _⟩, ⟨by (with_reducible repeat (first | apply Kd.R_alloc | apply Kd.R_drewN | apply Kd.R_drew)); exact Kd.R_mono HO321.out (fun _ hk => hk.1)⟩, ⟨by (with_reducible repeat (first | apply Kd.S_alloc | apply Kd.S_drewN | apply Kd.S_drew)); exact Kd.S_mono HO324.out (fun _ hk => ⟨hk.1.1, ⟨hk.1.2.1, ⟨hk.1.2.2.1, ⟨hk.1.2.2.2.1, ⟨hk.1.2.2.2.2.1, ⟨hk.1.2.2.2.2.2, hk.2⟩⟩⟩⟩⟩⟩)⟩, ⟨bk_ BK315⟩, ⟨bk_ BK316⟩, ⟨bk_ BK317⟩, ⟨bk_ BK318⟩, ⟨bk_ BK325⟩, ⟨hb_ HB⟩⟩
 case rest =>
  clear HC6
  try clear c2
  try clear c25
  try clear c27
  obtain ⟨kq, x32_5, rfl, HA, HJ5, HO_326000, HO_326001, BK315, BK316, BK317, BK318, BK325, HB⟩ := hcut
  cases kq with
  | zero => exact absurd HA.out (by simp [spec_Begin.j0])
  | succ kj5 =>
   have H := HA.out
   clear HA
   simp only [spec_Begin.j0] at H
   by_cases c50 : x32_5 = true
   ·
    subst c50
    replace H := it_ H
    simp only [Option.some.injEq, Prod.mk.injEq] at H
    obtain ⟨rfl, rfl, rfl, rfl, rfl, rfl, rfl⟩ := H
    have hnb51 := NB325_315.out
    have hnc51 := NB315_325.out
    have hnb52 := NB325_316.out
    have hnc52 := NB316_325.out
    have hnb53 := NB325_317.out
    have hnc53 := NB317_325.out
    have hnb54 := NB325_318.out
    have hnc54 := NB318_325.out
    obtain ⟨hcz55_0, hcz55_1, hfz55_0, hfz55_1⟩ := cz2_ BK325
    have hnb56 := NB317_315.out
    have hnc56 := NB315_317.out
    have hnb57 := NB317_316.out
    have hnc57 := NB316_317.out
    have hnb58 := NB317_318.out
    have hnc58 := NB318_317.out
    obtain ⟨hcz59_0, hcz59_1, hfz59_0, hfz59_1⟩ := cz2_ BK317
    have hnb60 := NB318_315.out
    have hnc60 := NB315_318.out
    have hnb61 := NB318_316.out
    have hnc61 := NB316_318.out
    obtain ⟨hcz62_0, hcz62_1, hcz62_2, hcz62_3, hfz62_0, hfz62_1, hfz62_2, hfz62_3⟩ := cz4_ BK318
    go_wp2
    refine bodyPost_ret (results_list (rs := [.cell 8 31, .cell 9 74, .tmp 10]) rfl (by simp) (.cell gb317 31 #[.slice Ao17 t319.length co17, .slice Ao23 t322.length co23] (0, 0) _ rfl (bp_ BK317) Try.underlying31 rfl (by kernel_rfl) (.cell gb318 74 #[.int .i64 0, .int .i64 0, .int .i64 0, .int .i64 0] (0, 0) _ rfl (bp_ BK318) Try.underlying74 rfl (by kernel_rfl) (.tmp .nil)))) rfl ?_
    exact ⟨_, _, rs_, by (with_reducible repeat (first | apply Kd.R_alloc | apply Kd.R_drewN | apply Kd.R_drew)); exact Kd.R_mono (Kd.R_far (p := ⟨gb318, 3, none⟩) (Kd.R_far (p := ⟨gb318, 2, none⟩) (Kd.R_far (p := ⟨gb318, 1, none⟩) (Kd.R_far (p := ⟨gb318, 0, none⟩) (Kd.R_far (p := ⟨gb317, 1, none⟩) (Kd.R_far (p := ⟨gb317, 0, none⟩) (Kd.R_types (Kd.R_types HO_326000.out BK317.out (by decide)) BK318.out (by decide)) (fun _ hk => hk.1.2) (.slice Ao17 t319.length co17)) (fun _ hk => hk.1.2) (.slice Ao23 t322.length co23)) (fun _ hk => hk.2) (.int .i64 0)) (fun _ hk => hk.2) (.int .i64 0)) (fun _ hk => hk.2) (.int .i64 0)) (fun _ hk => hk.2) (.int .i64 0)) (fun _ hk => hk.1.1), by (with_reducible repeat (first | apply Kd.S_alloc | apply Kd.S_drewN | apply Kd.S_drew)); exact Kd.S_mono (Kd.S_far (p := ⟨gb318, 3, none⟩) (Kd.S_far (p := ⟨gb318, 2, none⟩) (Kd.S_far (p := ⟨gb318, 1, none⟩) (Kd.S_far (p := ⟨gb318, 0, none⟩) (Kd.S_far (p := ⟨gb317, 1, none⟩) (Kd.S_far (p := ⟨gb317, 0, none⟩) (Kd.S_mono (Kd.S_mono HO_326001.out (fun k_ hk => (⟨hk, hk.2.2.2.2.1⟩ : _ ∧ k_ ≠ gb317))) (fun k_ hk => (⟨hk, hk.1.2.2.2.2.2.1⟩ : _ ∧ k_ ≠ gb318))) (fun _ hk => hk.1.2) (.slice Ao17 t319.length co17)) (fun _ hk => hk.1.2) (.slice Ao23 t322.length co23)) (fun _ hk => hk.2) (.int .i64 0)) (fun _ hk => hk.2) (.int .i64 0)) (fun _ hk => hk.2) (.int .i64 0)) (fun _ hk => hk.2) (.int .i64 0)) (fun _ hk => ⟨hk.1.1.1, hk.1.1.2.1⟩), hb_ HB⟩
   obtain rfl := Bool.eq_false_iff.mpr c50
   replace H := iF_ H
   replace H := bs_ H
   obtain ⟨⟨t329, t332⟩, A63, H⟩ := H
   dsimp only at H
   replace H := ix_ H
   obtain ⟨c64b0, H⟩ := H
   replace H := ix_ H
   obtain ⟨c65b0, H⟩ := H
   obtain ⟨y337, hy337⟩ : ∃ y_ : List (S122), y_ = (([] : List (S122))) := ⟨_, rfl⟩
   replace H : (if y337.length + l2.length < 5864062014805 then ((spec_l6Res.f a3_0 l3_1).bind fun bt343 => (if a1 < (t332.length : Int) then ((some (t332.set (a1 : Int).toNat (⟨wrap64 (((rd_T119 l0_1 a1).f0) + 1), 1, (y337 ++ l2), (⟨bt343.1, bt343.2⟩ : S49)⟩ : S119) : List (S119))).bind fun y347 => ((spec_MemOk.f kj5 t329 y347).bind fun t348 => (if t348 = true then (some (t329, y347, a1, wrap64 (((rd_T119 l0_1 a1).f0) + 1), 0, 0, true)) else (some (t319, t322, 0, 0, 0, 0, false))))) else (none))) else (none)) = some (r1, r2, r3, r4, r5, r6, r7) := by first | (rw [hy337]; with_reducible exact H) | (have H2_ := (Option.bind_some _ _).symm.trans H; rw [hy337]; with_reducible exact H2_) | (have H2_ := (Option.bind_some _ _).symm.trans H; with_reducible exact H2_) | with_reducible exact H | (rw [hy337]; exact H) | exact H
   have Ny337 := A_ hy337
   clear hy337
   by_cases c66 : y337.length + l2.length < 5864062014805
   ·
    rw [if_pos c66] at H
    have LMc66 := A_ c66
    clear c66
    obtain ⟨y340, hy340⟩ : ∃ y_ : List (S122), y_ = (y337 ++ l2) := ⟨_, rfl⟩
    replace H : ((spec_l6Res.f a3_0 l3_1).bind fun bt343 => (if a1 < (t332.length : Int) then ((some (t332.set (a1 : Int).toNat (⟨wrap64 (((rd_T119 l0_1 a1).f0) + 1), 1, y340, (⟨bt343.1, bt343.2⟩ : S49)⟩ : S119) : List (S119))).bind fun y347 => ((spec_MemOk.f kj5 t329 y347).bind fun t348 => (if t348 = true then (some (t329, y347, a1, wrap64 (((rd_T119 l0_1 a1).f0) + 1), 0, 0, true)) else (some (t319, t322, 0, 0, 0, 0, false))))) else (none))) = some (r1, r2, r3, r4, r5, r6, r7) := by first | (rw [hy340]; with_reducible exact H) | (have H2_ := (Option.bind_some _ _).symm.trans H; rw [hy340]; with_reducible exact H2_) | (have H2_ := (Option.bind_some _ _).symm.trans H; with_reducible exact H2_) | with_reducible exact H | (rw [hy340]; exact H) | exact H
    have Ny340 := A_ hy340
    clear hy340
    replace H := bs_ H
    obtain ⟨⟨t343, t344⟩, A67, H⟩ := H
    dsimp only at H
    replace H := ix_ H
    obtain ⟨c68b0, H⟩ := H
    obtain ⟨y347, hy347⟩ : ∃ y_ : List (S119), y_ = (t332.set (a1 : Int).toNat (⟨wrap64 (((rd_T119 l0_1 a1).f0) + 1), 1, y340, (⟨t343, t344⟩ : S49)⟩ : S119)) := ⟨_, rfl⟩
    replace H : ((spec_MemOk.f kj5 t329 y347).bind fun t348 => (if t348 = true then (some (t329, y347, a1, wrap64 (((rd_T119 l0_1 a1).f0) + 1), 0, 0, true)) else (some (t319, t322, 0, 0, 0, 0, false)))) = some (r1, r2, r3, r4, r5, r6, r7) := by first | (rw [hy347]; with_reducible exact H) | (have H2_ := (Option.bind_some _ _).symm.trans H; rw [hy347]; with_reducible exact H2_) | (have H2_ := (Option.bind_some _ _).symm.trans H; with_reducible exact H2_) | with_reducible exact H | (rw [hy347]; exact H) | exact H
    have Ny347 := A_ hy347
    clear hy347
    replace H := bs_ H
    obtain ⟨t348, A70, H⟩ := H
    have HC_ := A_ H
    clear H
    have hnb72 := NB315_316.out
    have hnc72 := NB316_315.out
    have hnb73 := NB315_317.out
    have hnc73 := NB317_315.out
    have hnb74 := NB315_318.out
    have hnc74 := NB318_315.out
    have hnb75 := NB315_325.out
    have hnc75 := NB325_315.out
    obtain ⟨hcz76_0, hcz76_1, hfz76_0, hfz76_1⟩ := cz2_ BK315
    try go_wp2_with (first | ((with_reducible refine gate_callee (f := 100) rfl ?_); refine goesL_ (some 36) rfl rfl Try.func100 (by kernel_rfl) rfl #[.agg #[.slice A0_0 l0_0.length c0_0, .slice A0_1 l0_1.length c0_1]] rfl al_ ?_; (with_reducible refine (spec_l7Copy.calls kj5 _ _ l0_0 _ _ l0_1 t329 t332 _ ?side1 ?side2 ?side3 ?side4 A63.out).mono ?_); (case side1 => exact cb_ (Kd.C_below HR0_0.out HB.out)); (case side2 => exact HC0_0.out); (case side3 => exact cb_ (Kd.C_below HR0_1.out HB.out)); (case side4 => exact HC0_1.out); rintro e w77 ⟨v330, v333, rfl, ho0, ho1, hb⟩; refine ⟨_, rfl, ?_⟩; have HO331 := A_ (Kd.R_lower (Kd.R_new' (Kd.R_newM (M := fun k_ => (w.heap.size ≤ k_)) ho0 (below_size (hb_ HB)) (fun k_ h_ => h_)) (Kd.R_lt (rb_ HO_326000.out))) (below_size (hb_ HB))); have HO334 := A_ (Kd.S_lower (Kd.S_mono (ok' := fun k_ => (w.heap.size ≤ k_) ∧ some k_ ≠ (v330 : Value).ownBlock ∧ some k_ ≠ (.slice Ao17 t319.length co17 : Value).ownBlock ∧ some k_ ≠ (.slice Ao23 t322.length co23 : Value).ownBlock ∧ k_ ≠ gb315 ∧ k_ ≠ gb316 ∧ k_ ≠ gb317 ∧ k_ ≠ gb318 ∧ k_ ≠ gb325) ((Kd.S_bound (Kd.S_apart' ho1 (Kd.R_typed ho0) (by decide)))) (fun k_ hk_ => ⟨(Nat.le_trans (below_size (hb_ HB)) hk_.2.1), hk_.1.2, (Kd.fresh' (Kd.R_lt (rb_ HO_326000.out)) k_ hk_.2.1), (Kd.fresh' (Kd.S_lt (sb_ HO_326001.out)) k_ hk_.2.1), (Kd.freshB (g := gb315) (o := .cells #[.slice A0_0 l0_0.length c0_0, .slice A0_1 l0_1.length c0_1] 31 (0, 0)) (bk_ BK315) k_ hk_.2.1), (Kd.freshB (g := gb316) (o := .cells #[.int .i64 a3_0, .slice A3_1 l3_1.length c3_1] 49 (0, 0)) (bk_ BK316) k_ hk_.2.1), (Kd.freshB (g := gb317) (o := .cells #[.slice none 0 0, .slice none 0 0] 31 (0, 0)) (bk_ BK317) k_ hk_.2.1), (Kd.freshB (g := gb318) (o := .cells #[.int .i64 0, .int .i64 0, .int .i64 0, .int .i64 0] 74 (0, 0)) (bk_ BK318) k_ hk_.2.1), (Kd.freshB (g := gb325) (o := .cells #[.slice Ao17 t319.length co17, .slice Ao23 t322.length co23] 31 (0, 0)) (bk_ BK325) k_ hk_.2.1)⟩)) (below_size (hb_ HB))); replace HO_326000 := A_ (Kd.R_elder' (rb_ HO_326000.out) (Kd.R_base ho0) hb); replace HO_326001 := A_ (Kd.S_mono (Kd.S_told (Kd.S_told (Kd.S_old (sb_ HO_326001.out) hb) (Kd.R_base ho0)) (Kd.S_base ho1)) (fun _ h_ => h_.1)); replace BK315 := bb_ BK315 hb; replace BK316 := bb_ BK316 hb; replace BK317 := bb_ BK317 hb; replace BK318 := bb_ BK318 hb; replace BK325 := bb_ BK325 hb; replace HB := hs_ HB hb; (try clear hb); (try clear hb2); (try clear hk); (try clear hi); (try clear ho0); (try clear ho1)) | ((with_reducible refine gate_dst (N := 12) rfl ?_); (try (refine gate_guard (by rfl) ?_; dsimp only)); refine bx_ HB rfl (N := 12) rfl (cs := #[.slice none 0 0, .slice none 0 0]) (t := 31) hr_ ?_; clear HB; intro gb335 w78 hg hb BK335 GW335 HB; have NB315_335 := ng_ BK315 hg; have NB335_315 := ns_ (ng_ BK315 hg); have NB316_335 := ng_ BK316 hg; have NB335_316 := ns_ (ng_ BK316 hg); have NB317_335 := ng_ BK317 hg; have NB335_317 := ns_ (ng_ BK317 hg); have NB318_335 := ng_ BK318 hg; have NB335_318 := ns_ (ng_ BK318 hg); have NB325_335 := ng_ BK325 hg; have NB335_325 := ns_ (ng_ BK325 hg); replace HO_326000 := A_ (Kd.R_below (rb_ HO_326000.out) hb); replace HO_326001 := A_ (Kd.S_below (Kd.S_elderB (sb_ HO_326001.out) gb335 (Nat.le_of_eq hg.symm)) hb); replace HO331 := A_ (Kd.R_below (rb_ HO331.out) hb); replace HO334 := A_ (Kd.S_below (Kd.S_elderB (sb_ HO334.out) gb335 (Nat.le_of_eq hg.symm)) hb); replace BK315 := bb_ BK315 hb; replace BK316 := bb_ BK316 hb; replace BK317 := bb_ BK317 hb; replace BK318 := bb_ BK318 hb; replace BK325 := bb_ BK325 hb; clear hb hg; obtain ⟨Ao79, co79, eo79⟩ := Kd.R_slice HO331.out; subst eo79; have hnb80 := NB335_315.out; have hnc80 := NB315_335.out; have hnb81 := NB335_316.out; have hnc81 := NB316_335.out; have hnb82 := NB335_317.out; have hnc82 := NB317_335.out; have hnb83 := NB335_318.out; have hnc83 := NB318_335.out; have hnb84 := NB335_325.out; have hnc84 := NB325_335.out; obtain ⟨hcz85_0, hcz85_1, hfz85_0, hfz85_1⟩ := cz2_ BK335; obtain ⟨Ao86, co86, eo86⟩ := Kd.S_slice HO334.out; subst eo86; obtain ⟨hcz87_0, hcz87_1, hfz87_0, hfz87_1⟩ := cz2_ BK315; have p336 : 0 ≤ (a1 : Int) := od_; have q336 : a1 < (l0_1.length : Int) := od_; obtain ⟨ad336, A336_2, c336_2, A336_4, c336_4, e336, hx336_0, hx336_1, hx336_2, hx336_3, hx336_4, hl336_2, hi336_2, hl336_4, hi336_4⟩ := at_T119 HR0_1.out a1 p336 q336; cases e336; have hn336_0 : ad336.block ≠ gb335 := Nat.ne_of_lt (Nat.lt_of_lt_of_le (by have := World.block_lt_of_cell? _ _ hx336_0; first | rwa [add_block] at this | exact this) GW335.out); have hn336_1 : ad336.block ≠ gb335 := Nat.ne_of_lt (Nat.lt_of_lt_of_le (by have := World.block_lt_of_cell? _ _ hx336_0; first | rwa [add_block] at this | exact this) GW335.out); replace hx336_0 := hx_ HB hx336_0; replace hx336_1 := hx_ HB hx336_1; replace hx336_2 := hx_ HB hx336_2; replace hx336_3 := hx_ HB hx336_3; replace hx336_4 := hx_ HB hx336_4; have HR336_2 := A_ hi336_2; have HC336_2 := A_ hl336_2; clear hi336_2 hl336_2; have HR336_4 := A_ hi336_4; have HC336_4 := A_ hl336_4; clear hi336_4 hl336_4; replace hx336_0 := cf_ 0 hn336_0 (.slice Ao79 t329.length co79) hx336_0; replace hx336_1 := cf_ 0 hn336_0 (.slice Ao79 t329.length co79) hx336_1; replace hx336_2 := cf_ 0 hn336_0 (.slice Ao79 t329.length co79) hx336_2; replace hx336_3 := cf_ 0 hn336_0 (.slice Ao79 t329.length co79) hx336_3; replace hx336_4 := cf_ 0 hn336_0 (.slice Ao79 t329.length co79) hx336_4; replace hx336_0 := cf_ 1 hn336_1 (.slice Ao86 t332.length co86) hx336_0; replace hx336_1 := cf_ 1 hn336_1 (.slice Ao86 t332.length co86) hx336_1; replace hx336_2 := cf_ 1 hn336_1 (.slice Ao86 t332.length co86) hx336_2; replace hx336_3 := cf_ 1 hn336_1 (.slice Ao86 t332.length co86) hx336_3; replace hx336_4 := cf_ 1 hn336_1 (.slice Ao86 t332.length co86) hx336_4; clear hn336_0; clear hn336_1; replace p336 := eq_true p336; replace q336 := eq_true q336))
    have n0_ : Aside0 (Kd.R k95 95 ((w78.setCell ⟨gb335, 0, none⟩ (.slice Ao79 t329.length co79)).setCell ⟨gb335, 1, none⟩ (.slice Ao86 t332.length co86)) w.heap.size (fun k_ => (w.heap.size ≤ k_) ∧ some k_ ≠ (.slice Ao79 t329.length co79 : Value).ownBlock) (.slice Ao17 t319.length co17) t319) := ⟨by (with_reducible repeat (first | apply Kd.R_alloc | apply Kd.R_drewN | apply Kd.R_drew)); exact Kd.R_mono (Kd.R_far (p := ⟨gb335, 1, none⟩) (Kd.R_far (p := ⟨gb335, 0, none⟩) (Kd.R_types HO_326000.out BK335.out (by decide)) (fun _ hk => hk.2) (.slice Ao79 t329.length co79)) (fun _ hk => hk.2) (.slice Ao86 t332.length co86)) (fun _ hk => ⟨hk.1.1, hk.1.2⟩)⟩
    have n1_ : Aside0 (Kd.S k119 119 ((w78.setCell ⟨gb335, 0, none⟩ (.slice Ao79 t329.length co79)).setCell ⟨gb335, 1, none⟩ (.slice Ao86 t332.length co86)) w.heap.size (fun k_ => (w.heap.size ≤ k_) ∧ some k_ ≠ (.slice Ao17 t319.length co17 : Value).ownBlock ∧ some k_ ≠ (.slice Ao79 t329.length co79 : Value).ownBlock ∧ some k_ ≠ (.slice Ao86 t332.length co86 : Value).ownBlock ∧ k_ ≠ gb315 ∧ k_ ≠ gb316 ∧ k_ ≠ gb317 ∧ k_ ≠ gb318 ∧ k_ ≠ gb325 ∧ k_ ≠ gb335) (.slice Ao23 t322.length co23) t322) := ⟨by (with_reducible repeat (first | apply Kd.S_alloc | apply Kd.S_drewN | apply Kd.S_drew)); exact Kd.S_mono (Kd.S_far (p := ⟨gb335, 1, none⟩) (Kd.S_far (p := ⟨gb335, 0, none⟩) (Kd.S_mono HO_326001.out (fun k_ hk => (⟨hk, hk.2⟩ : _ ∧ k_ ≠ gb335))) (fun _ hk => hk.2) (.slice Ao79 t329.length co79)) (fun _ hk => hk.2) (.slice Ao86 t332.length co86)) (fun _ hk => ⟨hk.1.1.1.1.1, ⟨hk.1.1.1.1.2.1, ⟨hk.1.1.1.2, ⟨hk.1.1.2, ⟨hk.1.1.1.1.2.2.1, ⟨hk.1.1.1.1.2.2.2.1, ⟨hk.1.1.1.1.2.2.2.2.1, ⟨hk.1.1.1.1.2.2.2.2.2.1, ⟨hk.1.1.1.1.2.2.2.2.2.2, hk.1.2⟩⟩⟩⟩⟩⟩⟩⟩⟩)⟩
    have n2_ : Aside0 (Kd.R k95 95 ((w78.setCell ⟨gb335, 0, none⟩ (.slice Ao79 t329.length co79)).setCell ⟨gb335, 1, none⟩ (.slice Ao86 t332.length co86)) w.heap.size (fun k_ => (w.heap.size ≤ k_) ∧ some k_ ≠ (.slice Ao17 t319.length co17 : Value).ownBlock) (.slice Ao79 t329.length co79) t329) := ⟨by (with_reducible repeat (first | apply Kd.R_alloc | apply Kd.R_drewN | apply Kd.R_drew)); exact Kd.R_mono (Kd.R_far (p := ⟨gb335, 1, none⟩) (Kd.R_far (p := ⟨gb335, 0, none⟩) (Kd.R_types HO331.out BK335.out (by decide)) (fun _ hk => hk.2) (.slice Ao79 t329.length co79)) (fun _ hk => hk.2) (.slice Ao86 t332.length co86)) (fun _ hk => ⟨hk.1.1.1, hk.1.2⟩)⟩
    have n3_ : Aside0 (Kd.S k119 119 ((w78.setCell ⟨gb335, 0, none⟩ (.slice Ao79 t329.length co79)).setCell ⟨gb335, 1, none⟩ (.slice Ao86 t332.length co86)) w.heap.size (fun k_ => (w.heap.size ≤ k_) ∧ some k_ ≠ (.slice Ao17 t319.length co17 : Value).ownBlock ∧ some k_ ≠ (.slice Ao23 t322.length co23 : Value).ownBlock ∧ some k_ ≠ (.slice Ao79 t329.length co79 : Value).ownBlock ∧ k_ ≠ gb315 ∧ k_ ≠ gb316 ∧ k_ ≠ gb317 ∧ k_ ≠ gb318 ∧ k_ ≠ gb325 ∧ k_ ≠ gb335) (.slice Ao86 t332.length co86) t332) := ⟨by (with_reducible repeat (first | apply Kd.S_alloc | apply Kd.S_drewN | apply Kd.S_drew)); exact Kd.S_mono (Kd.S_far (p := ⟨gb335, 1, none⟩) (Kd.S_far (p := ⟨gb335, 0, none⟩) (Kd.S_mono HO334.out (fun k_ hk => (⟨hk, hk.2⟩ : _ ∧ k_ ≠ gb335))) (fun _ hk => hk.2) (.slice Ao79 t329.length co79)) (fun _ hk => hk.2) (.slice Ao86 t332.length co86)) (fun _ hk => ⟨hk.1.1.1, ⟨hk.1.1.2.2.1, ⟨hk.1.1.2.2.2.1, ⟨hk.1.1.2.1, ⟨hk.1.1.2.2.2.2.1, ⟨hk.1.1.2.2.2.2.2.1, ⟨hk.1.1.2.2.2.2.2.2.1, ⟨hk.1.1.2.2.2.2.2.2.2.1, ⟨hk.1.1.2.2.2.2.2.2.2.2, hk.1.2⟩⟩⟩⟩⟩⟩⟩⟩⟩)⟩
    have n4_ : Aside0 (((w78.setCell ⟨gb335, 0, none⟩ (.slice Ao79 t329.length co79)).setCell ⟨gb335, 1, none⟩ (.slice Ao86 t332.length co86)).heap[gb315]? = some (.cells #[.slice A0_0 l0_0.length c0_0, .slice (some ad336) l0_1.length c0_1] 31 (0, 0))) := ⟨bk_ BK315⟩
    have n5_ : Aside0 (((w78.setCell ⟨gb335, 0, none⟩ (.slice Ao79 t329.length co79)).setCell ⟨gb335, 1, none⟩ (.slice Ao86 t332.length co86)).heap[gb316]? = some (.cells #[.int .i64 a3_0, .slice A3_1 l3_1.length c3_1] 49 (0, 0))) := ⟨bk_ BK316⟩
    have n6_ : Aside0 (((w78.setCell ⟨gb335, 0, none⟩ (.slice Ao79 t329.length co79)).setCell ⟨gb335, 1, none⟩ (.slice Ao86 t332.length co86)).heap[gb317]? = some (.cells #[.slice none 0 0, .slice none 0 0] 31 (0, 0))) := ⟨bk_ BK317⟩
    have n7_ : Aside0 (((w78.setCell ⟨gb335, 0, none⟩ (.slice Ao79 t329.length co79)).setCell ⟨gb335, 1, none⟩ (.slice Ao86 t332.length co86)).heap[gb318]? = some (.cells #[.int .i64 0, .int .i64 0, .int .i64 0, .int .i64 0] 74 (0, 0))) := ⟨bk_ BK318⟩
    have n8_ : Aside0 (((w78.setCell ⟨gb335, 0, none⟩ (.slice Ao79 t329.length co79)).setCell ⟨gb335, 1, none⟩ (.slice Ao86 t332.length co86)).heap[gb325]? = some (.cells #[.slice Ao17 t319.length co17, .slice Ao23 t322.length co23] 31 (0, 0))) := ⟨bk_ BK325⟩
    have n9_ : Aside0 (((w78.setCell ⟨gb335, 0, none⟩ (.slice Ao79 t329.length co79)).setCell ⟨gb335, 1, none⟩ (.slice Ao86 t332.length co86)).heap[gb335]? = some (.cells #[.slice Ao79 t329.length co79, .slice Ao86 t332.length co86] 31 (0, 0))) := ⟨bp_ BK335⟩
    have n10_ : Aside0 (Below w.heap.size w ((w78.setCell ⟨gb335, 0, none⟩ (.slice Ao79 t329.length co79)).setCell ⟨gb335, 1, none⟩ (.slice Ao86 t332.length co86))) := ⟨hb_ HB⟩
    (try clear HO_326000)
    (try clear HO_326001)
    (try clear HO331)
    (try clear HO334)
    (try clear BK315)
    (try clear BK316)
    (try clear BK317)
    (try clear BK318)
    (try clear BK325)
    (try clear BK335)
    (try clear HB)
    generalize ((w78.setCell ⟨gb335, 0, none⟩ (.slice Ao79 t329.length co79)).setCell ⟨gb335, 1, none⟩ (.slice Ao86 t332.length co86)) = w88 at n0_ n1_ n2_ n3_ n4_ n5_ n6_ n7_ n8_ n9_ n10_ ⊢
    have HO_326000 := n0_
    have HO_326001 := n1_
    have HO331 := n2_
    have HO334 := n3_
    have BK315 := n4_
    have BK316 := n5_
    have BK317 := n6_
    have BK318 := n7_
    have BK325 := n8_
    have BK335 := n9_
    have HB := n10_
    clear n0_ n1_ n2_ n3_ n4_ n5_ n6_ n7_ n8_ n9_ n10_
    replace HO_326000 := A_ (Kd.R_drew HO_326000.out)
    replace HO_326001 := A_ (Kd.S_drew HO_326001.out)
    replace HO331 := A_ (Kd.R_drew HO331.out)
    replace HO334 := A_ (Kd.S_drew HO334.out)
    replace BK315 := A_ (blk_drew BK315.out)
    replace BK316 := A_ (blk_drew BK316.out)
    replace BK317 := A_ (blk_drew BK317.out)
    replace BK318 := A_ (blk_drew BK318.out)
    replace BK325 := A_ (blk_drew BK325.out)
    replace BK335 := A_ (blk_drew BK335.out)
    replace HB := A_ (below_drew1 HB.out)
    refine start_ (n := 12) (S := fun w' => w'.cell? ⟨gb335, 0, none⟩ = some (.slice Ao79 t329.length co79) ∧ w'.cell? ⟨gb335, 1, none⟩ = some (.slice Ao86 t332.length co86) ∧ w'.cell? ⟨gb316, 0, none⟩ = some (.int .i64 a3_0) ∧ w'.cell? ⟨gb316, 1, none⟩ = some (.slice A3_1 l3_1.length c3_1)) (ds := [11]) (bt_ 0 12) (by kernel_rfl) rfl rfl ⟨(blk_cell BK335.out 0).trans rfl, (blk_cell BK335.out 1).trans rfl, (blk_cell BK316.out 0).trans rfl, (blk_cell BK316.out 1).trans rfl⟩ (fun hHeld => ?_); refine with_tabW spec_Begin.tab6 spec_Begin.bits6 (fun HT_ HW_ => ?_)
    generalize w88.drew = w89 at HO_326000 HO_326001 HO331 HO334 BK315 BK316 BK317 BK318 BK325 BK335 HB hHeld ⊢
    refine pu_ 0 44 (bt_ 1 12) ?_
    refine pu_ 2 46 (bt_ 5 12) ?_
    refine pu_ 3 47 (bt_ 13 12) ?_
    refine pu_ 5 49 (bt_ 45 12) ?_
    refine tk4_ 1 45 (bt_ 47 12) hHeld ?_
    refine tk4_ 7 51 (bt_ 175 12) hHeld ?_
    refine one_ (i := 4) (N := some 48) (bt_ 191 12) rfl rfl (one_of HT_.out (by kernel_rfl)) (by decide) (fun K hK => ?_)
    refine Kd.R_lit_step k122 _ 122 ?hg (N := 48) ?hd (xs := ([] : List (S122))) (inner := []) (ok := fun _ => True) (okp := fun _ => True) ?hr ?hp (fun _ hk => hk) trivial (Below.refl _ _) (Nat.le_refl _) (by simp) ?_; (case hd => rfl); (case hg => rfl); (case hr => first | (go_simp; done) | (go_simp; rfl)); (case hp => exact (Reps.none _ _))
    intro v338 w90 ho91 hb hg_ hnew_
    clear hg_ hnew_
    (first | rw [← Ny337.out] at ho91 | (simp only [Int.reduceToNat] at ho91; rw [← Ny337.out] at ho91))
    have HO339 := A_ (Kd.R_lower (Kd.R_newM (M := fun k_ => (w.heap.size ≤ k_)) ho91 (below_size (hb_ HB)) (fun k_ h_ => h_)) (below_size (hb_ HB)))
    replace HO_326000 := A_ (Kd.R_below (rb_ HO_326000.out) hb)
    replace HO_326001 := A_ (Kd.S_elder' (sb_ HO_326001.out) (Kd.R_base ho91) hb)
    replace HO331 := A_ (Kd.R_below (rb_ HO331.out) hb)
    replace HO334 := A_ (Kd.S_elder' (sb_ HO334.out) (Kd.R_base ho91) hb)
    replace BK315 := bb_ BK315 hb
    replace BK316 := bb_ BK316 hb
    replace BK317 := bb_ BK317 hb
    replace BK318 := bb_ BK318 hb
    replace BK325 := bb_ BK325 hb
    replace BK335 := bb_ BK335 hb
    replace HB := hs_ HB hb
    clear hb ho91
    refine hK.out _ _ ⟨(blk_cell BK335.out 0).trans rfl, (blk_cell BK335.out 1).trans rfl, (blk_cell BK316.out 0).trans rfl, (blk_cell BK316.out 1).trans rfl⟩ (fun hHeld => ?_)
    clear hK K
    refine norm_ (a' := ?_) ?_ ?_
    rotate_left
    ·
     show Act.put _ (some 48) _ = _
     simp only [Act.put, List.setIfInBounds_toArray, List.set_cons_zero, List.set_cons_succ, i64_w, i32_w]
     rfl
    refine one_ (i := 6) (N := some 50) (bt_ 255 12) rfl rfl (one_of HT_.out (by kernel_rfl)) (by decide) (fun K hK => ?_)
    refine Kd.R_append_rows_step k122 (w0 := w) w.heap.size (by rfl) (.tmp 48) (.tmp 49) 77 122 (.agg #[(.int .i64 0), (.int .i64 0), (.int .i64 0)]) 24 rfl Try.underlying77 info122 rfl (by decide) (by omega) v338 y337 l2 _ _ _ (fun k_ => (w.heap.size ≤ k_)) (fun _ => False) rfl rfl ?aO ?aR (fun _ _ h => h) (fun _ h => h.elim) ?aF ?aB ?aS ?aL ?_
    (case aR => exact cb_ (Kd.C_below HR2.out HB.out))
    (case aB => exact (hb_ HB))
    (case aF => exact (fun k_ hk => (Nat.le_trans (below_size (hb_ HB)) hk)))
    (case aO => exact (by (with_reducible repeat (first | apply Kd.R_alloc | apply Kd.R_drewN | apply Kd.R_drew)); exact Kd.R_mono HO339.out (fun _ hk => hk.1)))
    (case aS => exact (below_size (hb_ HB)))
    (case aL => have := LMc66.out; omega)
    intro v341 w92 ho hb hg hat
    rw [← Ny340.out] at ho
    have HO342 := A_ ho
    replace HO_326000 := A_ (Kd.R_over' (rb_ HO_326000.out) (Kd.R_typed (rb_ HO339.out)) (by decide) hg)
    replace HO_326001 := A_ (Kd.S_after (ok := (fun k_ => (w.heap.size ≤ k_) ∧ some k_ ≠ (.slice Ao17 t319.length co17 : Value).ownBlock ∧ some k_ ≠ (.slice Ao79 t329.length co79 : Value).ownBlock ∧ some k_ ≠ (.slice Ao86 t332.length co86 : Value).ownBlock ∧ k_ ≠ gb315 ∧ k_ ≠ gb316 ∧ k_ ≠ gb317 ∧ k_ ≠ gb318 ∧ k_ ≠ gb325 ∧ k_ ≠ gb335)) (sb_ HO_326001.out) hg hat)
    replace BK315 := A_ (blk_grown (g := gb315) (o := .cells #[.slice A0_0 l0_0.length c0_0, .slice (some ad336) l0_1.length c0_1] 31 (0, 0)) (bk_ BK315) hg (Kd.R_ne HO339.out BK315.out (by decide)))
    replace BK316 := A_ (blk_grown (g := gb316) (o := .cells #[.int .i64 a3_0, .slice A3_1 l3_1.length c3_1] 49 (0, 0)) (bk_ BK316) hg (Kd.R_ne HO339.out BK316.out (by decide)))
    replace BK317 := A_ (blk_grown (g := gb317) (o := .cells #[.slice none 0 0, .slice none 0 0] 31 (0, 0)) (bk_ BK317) hg (Kd.R_ne HO339.out BK317.out (by decide)))
    replace BK318 := A_ (blk_grown (g := gb318) (o := .cells #[.int .i64 0, .int .i64 0, .int .i64 0, .int .i64 0] 74 (0, 0)) (bk_ BK318) hg (Kd.R_ne HO339.out BK318.out (by decide)))
    replace BK325 := A_ (blk_grown (g := gb325) (o := .cells #[.slice Ao17 t319.length co17, .slice Ao23 t322.length co23] 31 (0, 0)) (bk_ BK325) hg (Kd.R_ne HO339.out BK325.out (by decide)))
    replace HO331 := A_ (Kd.R_over' (rb_ HO331.out) (Kd.R_typed (rb_ HO339.out)) (by decide) hg)
    replace HO334 := A_ (Kd.S_after (ok := (fun k_ => (w.heap.size ≤ k_) ∧ some k_ ≠ (.slice Ao17 t319.length co17 : Value).ownBlock ∧ some k_ ≠ (.slice Ao23 t322.length co23 : Value).ownBlock ∧ some k_ ≠ (.slice Ao79 t329.length co79 : Value).ownBlock ∧ k_ ≠ gb315 ∧ k_ ≠ gb316 ∧ k_ ≠ gb317 ∧ k_ ≠ gb318 ∧ k_ ≠ gb325 ∧ k_ ≠ gb335)) (sb_ HO334.out) hg hat)
    replace BK335 := A_ (blk_grown (g := gb335) (o := .cells #[.slice Ao79 t329.length co79, .slice Ao86 t332.length co86] 31 (0, 0)) (bk_ BK335) hg (Kd.R_ne HO339.out BK335.out (by decide)))
    replace HB := A_ hb
    clear HO339 ho hb hg hat
    refine hK.out _ _ ⟨(blk_cell BK335.out 0).trans rfl, (blk_cell BK335.out 1).trans rfl, (blk_cell BK316.out 0).trans rfl, (blk_cell BK316.out 1).trans rfl⟩ (fun hHeld => ?_)
    clear hK K
    refine norm_ (a' := ?_) ?_ ?_
    rotate_left
    ·
     show Act.put _ (some 50) _ = _
     simp only [Act.put, List.setIfInBounds_toArray, List.set_cons_zero, List.set_cons_succ, i64_w, i32_w]
     rfl
    refine one_ (i := 8) (N := some 52) (bt_ 511 12) rfl rfl (one_of HT_.out (by kernel_rfl)) (by decide) (fun K hK => ?_)
    refine goes_ Try.func101 (by kernel_rfl) rfl #[.agg #[.int .i64 a3_0, .slice A3_1 l3_1.length c3_1]] (by rfl) rfl rfl al_ ?_
    with_reducible refine (spec_l6Res.calls a3_0 _ _ l3_1 t343 t344 _ ?side1 ?side2 A67.out).mono ?_
    (case side1 => exact cb_ (Kd.C_below HR3_1.out HB.out))
    (case side2 => exact HC3_1.out)
    rintro e w93 ⟨v345, rfl, ho0, hb⟩
    refine ⟨_, rfl, ?_⟩
    have HO346 := A_ (Kd.R_lower (Kd.R_newM (M := fun k_ => (w.heap.size ≤ k_)) ho0 (below_size (hb_ HB)) (fun k_ h_ => h_)) (below_size (hb_ HB)))
    replace HO_326000 := A_ (Kd.R_below (rb_ HO_326000.out) hb)
    replace HO_326001 := A_ (Kd.S_elder' (sb_ HO_326001.out) (Kd.R_base ho0) hb)
    replace HO331 := A_ (Kd.R_below (rb_ HO331.out) hb)
    replace HO334 := A_ (Kd.S_elder' (sb_ HO334.out) (Kd.R_base ho0) hb)
    replace HO342 := A_ (Kd.R_below (rb_ HO342.out) hb)
    replace BK315 := bb_ BK315 hb
    replace BK316 := bb_ BK316 hb
    replace BK317 := bb_ BK317 hb
    replace BK318 := bb_ BK318 hb
    replace BK325 := bb_ BK325 hb
    replace BK335 := bb_ BK335 hb
    replace HB := hs_ HB hb
    (try clear hb)
    (try clear hb2)
    (try clear hk)
    (try clear hi)
    (try clear ho0)
    obtain ⟨Ao94, co94, eo94⟩ := Kd.R_slice HO346.out
    (first | subst eo94 | (injection eo94 with f1_ f2_ f3_; have f4_ := f1_.symm; have f5_ := f3_.symm; clear f1_ f2_ f3_; subst f4_; subst f5_))
    obtain ⟨Ao95, co95, eo95⟩ := Kd.R_slice HO342.out
    (first | subst eo95 | (injection eo95 with f1_ f2_ f3_; have f4_ := f1_.symm; have f5_ := f3_.symm; clear f1_ f2_ f3_; subst f4_; subst f5_))
    have p69 : 0 ≤ (a1 : Int) := od_
    have q69 : (a1 : Int) < ((t332.length : Int) : Int) := od_
    obtain ⟨go69, co69, eo69, gb69, gl69, cl69, HG69⟩ := Kd.S_form HO334.out (by omega)
    (first | cases eo69 | (injection eo69 with ea_ en_ ec_; (first | subst ea_ | (injection ea_ with ea_; subst ea_)); subst ec_; clear en_))
    have GB69 := A_ gb69
    have GG69 := A_ HG69
    clear gb69 gl69 HG69
    obtain ⟨oki69, ce69, hcl69, hM69, hcc69, hfr69, hok69, hH69⟩ := Kd.S_elem HO334.out z119 (a1 : Int) p69 q69
    obtain ⟨ux69_2, ux69_4, rfl, ge69_2, ge69_4⟩ := k119_openM hM69
    obtain ⟨ua69_2, uc69_2, rfl⟩ := Kd.R_slice ge69_2
    obtain ⟨ua69_4, uc69_4, rfl⟩ := Kd.R_slice ge69_4
    have hx69_0 : World.cell? _ ⟨go69, (a1 : Int).toNat * 5, none⟩ = some (.int .i64 ((rd_T119 t332 a1).f0)) := hcc69 0 _ rfl
    have hx69_1 : World.cell? _ ⟨go69, (a1 : Int).toNat * 5 + 1, none⟩ = some (.int .i64 ((rd_T119 t332 a1).f1)) := hcc69 1 _ rfl
    have hx69_2 : World.cell? _ ⟨go69, (a1 : Int).toNat * 5 + 2, none⟩ = some (.slice ua69_2 ((rd_T119 t332 a1).f2).length uc69_2) := hcc69 2 _ rfl
    have hx69_3 : World.cell? _ ⟨go69, (a1 : Int).toNat * 5 + 3, none⟩ = some (.int .i64 ((rd_T119 t332 a1).f3.f0)) := hcc69 3 _ rfl
    have hx69_4 : World.cell? _ ⟨go69, (a1 : Int).toNat * 5 + 4, none⟩ = some (.slice ua69_4 ((rd_T119 t332 a1).f3.f1).length uc69_4) := hcc69 4 _ rfl
    have hf69_0 : World.frozen? _ ⟨go69, (a1 : Int).toNat * 5, none⟩ = false := hfr69 0
    have hf69_1 : World.frozen? _ ⟨go69, (a1 : Int).toNat * 5 + 1, none⟩ = false := hfr69 1
    have hf69_2 : World.frozen? _ ⟨go69, (a1 : Int).toNat * 5 + 2, none⟩ = false := hfr69 2
    have hf69_3 : World.frozen? _ ⟨go69, (a1 : Int).toNat * 5 + 3, none⟩ = false := hfr69 3
    have hf69_4 : World.frozen? _ ⟨go69, (a1 : Int).toNat * 5 + 4, none⟩ = false := hfr69 4
    clear hcl69 hcc69 hfr69 hM69
    (try clear hok69)
    (try clear hH69)
    replace p69 := eq_true p69
    replace q69 := eq_true q69
    have HX96 := A_ (show Kd.S k119 119 _ w.heap.size (fun k_ => (w.heap.size ≤ k_) ∧ some k_ ≠ (.slice Ao17 t319.length co17 : Value).ownBlock ∧ some k_ ≠ (.slice Ao23 t322.length co23 : Value).ownBlock ∧ some k_ ≠ (.slice Ao79 t329.length co79 : Value).ownBlock ∧ some k_ ≠ (.slice Ao95 y340.length co95 : Value).ownBlock ∧ some k_ ≠ (.slice Ao94 t344.length co94 : Value).ownBlock ∧ k_ ≠ gb315 ∧ k_ ≠ gb316 ∧ k_ ≠ gb317 ∧ k_ ≠ gb318 ∧ k_ ≠ gb325 ∧ k_ ≠ gb335) (.slice (some ⟨go69, 0, none⟩) t332.length co86) t332 from (Kd.S_mono (HO334.out) (fun k_ hk => ⟨hk.1.1.1, ⟨hk.1.1.2.1, ⟨hk.1.1.2.2.1, ⟨hk.1.1.2.2.2.1, ⟨hk.1.2, ⟨hk.2, ⟨hk.1.1.2.2.2.2.1, ⟨hk.1.1.2.2.2.2.2.1, ⟨hk.1.1.2.2.2.2.2.2.1, ⟨hk.1.1.2.2.2.2.2.2.2.1, ⟨hk.1.1.2.2.2.2.2.2.2.2.1, hk.1.1.2.2.2.2.2.2.2.2.2⟩⟩⟩⟩⟩⟩⟩⟩⟩⟩⟩)))
    replace HX96 := A_ (show Kd.S k119 119 _ w.heap.size (fun k_ => ((w.heap.size ≤ k_) ∧ some k_ ≠ (.slice Ao17 t319.length co17 : Value).ownBlock ∧ some k_ ≠ (.slice Ao23 t322.length co23 : Value).ownBlock ∧ some k_ ≠ (.slice Ao79 t329.length co79 : Value).ownBlock ∧ k_ ≠ gb315 ∧ k_ ≠ gb316 ∧ k_ ≠ gb317 ∧ k_ ≠ gb318 ∧ k_ ≠ gb325 ∧ k_ ≠ gb335) ∧ ¬ (some k_ = (.slice Ao95 y340.length co95 : Value).ownBlock ∨ some k_ = (.slice Ao94 t344.length co94 : Value).ownBlock)) (.slice (some ⟨go69, 0, none⟩) t332.length co86) t332 from Kd.S_mono HX96.out (fun k_ hk => ⟨⟨hk.1, hk.2.1, hk.2.2.1, hk.2.2.2.1, hk.2.2.2.2.2.2.1, hk.2.2.2.2.2.2.2.1, hk.2.2.2.2.2.2.2.2.1, hk.2.2.2.2.2.2.2.2.2.1, hk.2.2.2.2.2.2.2.2.2.2.1, hk.2.2.2.2.2.2.2.2.2.2.2⟩, fun h_ => Or.elim h_ (fun e_ => hk.2.2.2.2.1 e_) (fun e_ => hk.2.2.2.2.2.1 e_)⟩))
    obtain ⟨oki96, ce96, hcl96, hM96, hcc96, hfr96, hok96, hH96⟩ := Kd.S_elem HX96.out z119 (a1 : Int) (od_) (by have h_ : (a1 : Int) < ((t332.length : Int) : Int) := od_; first | exact h_ | (have e_ := (Kd.S_reads' HO334.out).1; omega) | simpa using h_)
    obtain ⟨ux96_2, ux96_4, rfl, ge96_2, ge96_4⟩ := k119_openM hM96
    have HP96 := spec_Begin.set5 (Kd.S_seg (ok := fun k_ => (w.heap.size ≤ k_) ∧ some k_ ≠ (.slice Ao17 t319.length co17 : Value).ownBlock ∧ some k_ ≠ (.slice Ao23 t322.length co23 : Value).ownBlock ∧ some k_ ≠ (.slice Ao79 t329.length co79 : Value).ownBlock ∧ k_ ≠ gb315 ∧ k_ ≠ gb316 ∧ k_ ≠ gb317 ∧ k_ ≠ gb318 ∧ k_ ≠ gb325 ∧ k_ ≠ gb335) (okg := fun k_ => (some k_ = (.slice Ao95 y340.length co95 : Value).ownBlock ∨ some k_ = (.slice Ao94 t344.length co94 : Value).ownBlock)) hH96 (od_) (by have h_ : (a1 : Int) < ((t332.length : Int) : Int) := od_; first | exact h_ | (have e_ := (Kd.S_reads' HO334.out).1; omega) | simpa using h_) (seg := [.int .i64 (wrap64 (((rd_T119 l0_1 a1).f0) + 1)), .int .i64 1, .slice Ao95 y340.length co95, .int .i64 t343, .slice Ao94 t344.length co94]) (j := 0) (show 5 ≤ 5 from by decide) (x' := (⟨wrap64 (((rd_T119 l0_1 a1).f0) + 1), 1, y340, (⟨t343, t344⟩ : S49)⟩ : S119)) (k119_mkM _ _ (fun k_ => (some k_ = (.slice Ao95 y340.length co95 : Value).ownBlock ∨ some k_ = (.slice Ao94 t344.length co94 : Value).ownBlock)) (⟨wrap64 (((rd_T119 l0_1 a1).f0) + 1), 1, y340, (⟨t343, t344⟩ : S49)⟩ : S119) (Kd.R_mono (Kd.R_tight rfl HO342.out) (fun _ h_ => Or.inl h_)) (Kd.R_mono (Kd.R_tight rfl HO346.out) (fun _ h_ => Or.inr h_))) (fun _ h_ => Or.inr h_) (fun k_ h_ => Or.elim h_ (fun e_ => ((Kd.R_mono (ok' := (fun k_ => ((fun k_ => (w.heap.size ≤ k_) ∧ some k_ ≠ (.slice Ao17 t319.length co17 : Value).ownBlock ∧ some k_ ≠ (.slice Ao23 t322.length co23 : Value).ownBlock ∧ some k_ ≠ (.slice Ao79 t329.length co79 : Value).ownBlock ∧ k_ ≠ gb315 ∧ k_ ≠ gb316 ∧ k_ ≠ gb317 ∧ k_ ≠ gb318 ∧ k_ ≠ gb325 ∧ k_ ≠ gb335)) k_ ∧ k_ ≠ go69)) (Kd.R_types (Kd.R_types (Kd.R_types (Kd.R_types (Kd.R_types (Kd.R_types (Kd.R_apart' (Kd.R_apart' (Kd.R_apart' (Kd.R_apart' (HO342.out) (Kd.R_typed HO_326000.out) (by decide)) (Kd.S_typed HO_326001.out) (by decide)) (Kd.R_typed HO331.out) (by decide)) (Kd.S_typed HO334.out) (by decide)) BK315.out (by decide)) BK316.out (by decide)) BK317.out (by decide)) BK318.out (by decide)) BK325.out (by decide)) BK335.out (by decide)) (fun k_ hk => ⟨⟨hk.1.1.1.1.1.1.1.1.1.1, ⟨hk.1.1.1.1.1.1.1.1.1.2, ⟨hk.1.1.1.1.1.1.1.1.2, ⟨hk.1.1.1.1.1.1.1.2, ⟨hk.1.1.1.1.1.2, ⟨hk.1.1.1.1.2, ⟨hk.1.1.1.2, ⟨hk.1.1.2, ⟨hk.1.2, hk.2⟩⟩⟩⟩⟩⟩⟩⟩⟩, fun e_ => (hk.1.1.1.1.1.1.2) (by rw [e_]; rfl)⟩))).1 k_ e_.symm) (fun e_ => ((Kd.R_mono (ok' := (fun k_ => ((fun k_ => (w.heap.size ≤ k_) ∧ some k_ ≠ (.slice Ao17 t319.length co17 : Value).ownBlock ∧ some k_ ≠ (.slice Ao23 t322.length co23 : Value).ownBlock ∧ some k_ ≠ (.slice Ao79 t329.length co79 : Value).ownBlock ∧ k_ ≠ gb315 ∧ k_ ≠ gb316 ∧ k_ ≠ gb317 ∧ k_ ≠ gb318 ∧ k_ ≠ gb325 ∧ k_ ≠ gb335)) k_ ∧ k_ ≠ go69)) (Kd.R_types (Kd.R_types (Kd.R_types (Kd.R_types (Kd.R_types (Kd.R_types (Kd.R_apart' (Kd.R_apart' (Kd.R_apart' (Kd.R_apart' (HO346.out) (Kd.R_typed HO_326000.out) (by decide)) (Kd.S_typed HO_326001.out) (by decide)) (Kd.R_typed HO331.out) (by decide)) (Kd.S_typed HO334.out) (by decide)) BK315.out (by decide)) BK316.out (by decide)) BK317.out (by decide)) BK318.out (by decide)) BK325.out (by decide)) BK335.out (by decide)) (fun k_ hk => ⟨⟨hk.1.1.1.1.1.1.1.1.1.1.1, ⟨hk.1.1.1.1.1.1.1.1.1.2, ⟨hk.1.1.1.1.1.1.1.1.2, ⟨hk.1.1.1.1.1.1.1.2, ⟨hk.1.1.1.1.1.2, ⟨hk.1.1.1.1.2, ⟨hk.1.1.1.2, ⟨hk.1.1.2, ⟨hk.1.2, hk.2⟩⟩⟩⟩⟩⟩⟩⟩⟩, fun e_ => (hk.1.1.1.1.1.1.2) (by rw [e_]; rfl)⟩))).1 k_ e_.symm))).1
    rw [← Ny347.out] at HP96
    have HQ96 := A_ HP96
    clear hcl96 hcc96 hfr96 hM96 HP96
    (try clear hok96)
    (try clear hH96)
    refine hK.out _ _ ⟨(blk_cell BK335.out 0).trans rfl, (blk_cell BK335.out 1).trans rfl, (blk_cell BK316.out 0).trans rfl, (blk_cell BK316.out 1).trans rfl⟩ (fun hHeld => ?_)
    clear hK K
    refine norm_ (a' := ?_) ?_ ?_
    rotate_left
    ·
     show Act.put _ (some 52) _ = _
     simp only [Act.put, List.setIfInBounds_toArray, List.set_cons_zero, List.set_cons_succ, i64_w, i32_w]
     rfl
    refine pu_ 9 53 (bt_ 1023 12) ?_
    refine pu_ 10 54 (bt_ 2047 12) ?_
    refine last_ (i := 11) (N := none) (bt_ 4095 12) rfl rfl (one_of HT_.out (by kernel_rfl)) (by decide) (fun K hK => ?_)
    refine skip_ (w1 := ?_) (by rfl) rfl ?_ ?_
    rotate_left
    ·
     go_simp
     rfl
    refine hK.out _ _ ?_
    clear hK K
    refine done_ (done_of HT_.out (by kernel_rfl)) ?_
    have n0_ : Aside0 (Kd.R k95 95 (((((w93.setCell ⟨go69, (a1 : Int).toNat * 5, none⟩ (.int .i64 (wrap64 (((rd_T119 l0_1 a1).f0) + 1)))).setCell ⟨go69, (a1 : Int).toNat * 5 + 1, none⟩ (.int .i64 1)).setCell ⟨go69, (a1 : Int).toNat * 5 + 2, none⟩ (.slice Ao95 y340.length co95)).setCell ⟨go69, (a1 : Int).toNat * 5 + 3, none⟩ (.int .i64 t343)).setCell ⟨go69, (a1 : Int).toNat * 5 + 4, none⟩ (.slice Ao94 t344.length co94)) w.heap.size (fun k_ => (w.heap.size ≤ k_) ∧ some k_ ≠ (.slice Ao79 t329.length co79 : Value).ownBlock) (.slice Ao17 t319.length co17) t319) := ⟨by (with_reducible repeat (first | apply Kd.R_alloc | apply Kd.R_drewN | apply Kd.R_drew)); exact Kd.R_mono (Kd.R_far (p := ⟨go69, (a1 : Int).toNat * 5 + 4, none⟩) (Kd.R_far (p := ⟨go69, (a1 : Int).toNat * 5 + 3, none⟩) (Kd.R_far (p := ⟨go69, (a1 : Int).toNat * 5 + 2, none⟩) (Kd.R_far (p := ⟨go69, (a1 : Int).toNat * 5 + 1, none⟩) (Kd.R_far (p := ⟨go69, (a1 : Int).toNat * 5, none⟩) (Kd.R_types HO_326000.out GG69.out (by decide)) (fun _ hk => hk.2) (.int .i64 (wrap64 (((rd_T119 l0_1 a1).f0) + 1)))) (fun _ hk => hk.2) (.int .i64 1)) (fun _ hk => hk.2) (.slice Ao95 y340.length co95)) (fun _ hk => hk.2) (.int .i64 t343)) (fun _ hk => hk.2) (.slice Ao94 t344.length co94)) (fun _ hk => ⟨hk.1.1, hk.1.2⟩)⟩
    have n1_ : Aside0 (Kd.S k119 119 (((((w93.setCell ⟨go69, (a1 : Int).toNat * 5, none⟩ (.int .i64 (wrap64 (((rd_T119 l0_1 a1).f0) + 1)))).setCell ⟨go69, (a1 : Int).toNat * 5 + 1, none⟩ (.int .i64 1)).setCell ⟨go69, (a1 : Int).toNat * 5 + 2, none⟩ (.slice Ao95 y340.length co95)).setCell ⟨go69, (a1 : Int).toNat * 5 + 3, none⟩ (.int .i64 t343)).setCell ⟨go69, (a1 : Int).toNat * 5 + 4, none⟩ (.slice Ao94 t344.length co94)) w.heap.size (fun k_ => (w.heap.size ≤ k_) ∧ some k_ ≠ (.slice Ao17 t319.length co17 : Value).ownBlock ∧ some k_ ≠ (.slice Ao79 t329.length co79 : Value).ownBlock ∧ some k_ ≠ (.slice (some ⟨go69, 0, none⟩) t332.length co86 : Value).ownBlock ∧ k_ ≠ gb315 ∧ k_ ≠ gb316 ∧ k_ ≠ gb317 ∧ k_ ≠ gb318 ∧ k_ ≠ gb325 ∧ k_ ≠ gb335) (.slice Ao23 t322.length co23) t322) := ⟨by (with_reducible repeat (first | apply Kd.S_alloc | apply Kd.S_drewN | apply Kd.S_drew)); exact Kd.S_mono (Kd.S_far (p := ⟨go69, (a1 : Int).toNat * 5 + 4, none⟩) (Kd.S_far (p := ⟨go69, (a1 : Int).toNat * 5 + 3, none⟩) (Kd.S_far (p := ⟨go69, (a1 : Int).toNat * 5 + 2, none⟩) (Kd.S_far (p := ⟨go69, (a1 : Int).toNat * 5 + 1, none⟩) (Kd.S_far (p := ⟨go69, (a1 : Int).toNat * 5, none⟩) (Kd.S_mono HO_326001.out (fun k_ hk => (⟨hk, fun e_ => hk.1.1.2.2.2.1 (by rw [e_]; rfl)⟩ : _ ∧ k_ ≠ go69))) (fun _ hk => hk.2) (.int .i64 (wrap64 (((rd_T119 l0_1 a1).f0) + 1)))) (fun _ hk => hk.2) (.int .i64 1)) (fun _ hk => hk.2) (.slice Ao95 y340.length co95)) (fun _ hk => hk.2) (.int .i64 t343)) (fun _ hk => hk.2) (.slice Ao94 t344.length co94)) (fun _ hk => ⟨hk.1.1.1.1, ⟨hk.1.1.1.2.1, ⟨hk.1.1.1.2.2.1, ⟨hk.1.1.1.2.2.2.1, ⟨hk.1.1.1.2.2.2.2.1, ⟨hk.1.1.1.2.2.2.2.2.1, ⟨hk.1.1.1.2.2.2.2.2.2.1, ⟨hk.1.1.1.2.2.2.2.2.2.2.1, ⟨hk.1.1.1.2.2.2.2.2.2.2.2.1, hk.1.1.1.2.2.2.2.2.2.2.2.2⟩⟩⟩⟩⟩⟩⟩⟩⟩)⟩
    have n2_ : Aside0 (Kd.R k95 95 (((((w93.setCell ⟨go69, (a1 : Int).toNat * 5, none⟩ (.int .i64 (wrap64 (((rd_T119 l0_1 a1).f0) + 1)))).setCell ⟨go69, (a1 : Int).toNat * 5 + 1, none⟩ (.int .i64 1)).setCell ⟨go69, (a1 : Int).toNat * 5 + 2, none⟩ (.slice Ao95 y340.length co95)).setCell ⟨go69, (a1 : Int).toNat * 5 + 3, none⟩ (.int .i64 t343)).setCell ⟨go69, (a1 : Int).toNat * 5 + 4, none⟩ (.slice Ao94 t344.length co94)) w.heap.size (fun k_ => (w.heap.size ≤ k_) ∧ some k_ ≠ (.slice Ao17 t319.length co17 : Value).ownBlock) (.slice Ao79 t329.length co79) t329) := ⟨by (with_reducible repeat (first | apply Kd.R_alloc | apply Kd.R_drewN | apply Kd.R_drew)); exact Kd.R_mono (Kd.R_far (p := ⟨go69, (a1 : Int).toNat * 5 + 4, none⟩) (Kd.R_far (p := ⟨go69, (a1 : Int).toNat * 5 + 3, none⟩) (Kd.R_far (p := ⟨go69, (a1 : Int).toNat * 5 + 2, none⟩) (Kd.R_far (p := ⟨go69, (a1 : Int).toNat * 5 + 1, none⟩) (Kd.R_far (p := ⟨go69, (a1 : Int).toNat * 5, none⟩) (Kd.R_types HO331.out GG69.out (by decide)) (fun _ hk => hk.2) (.int .i64 (wrap64 (((rd_T119 l0_1 a1).f0) + 1)))) (fun _ hk => hk.2) (.int .i64 1)) (fun _ hk => hk.2) (.slice Ao95 y340.length co95)) (fun _ hk => hk.2) (.int .i64 t343)) (fun _ hk => hk.2) (.slice Ao94 t344.length co94)) (fun _ hk => ⟨hk.1.1, hk.1.2⟩)⟩
    have n3_ : Aside0 (Kd.S k119 119 (((((w93.setCell ⟨go69, (a1 : Int).toNat * 5, none⟩ (.int .i64 (wrap64 (((rd_T119 l0_1 a1).f0) + 1)))).setCell ⟨go69, (a1 : Int).toNat * 5 + 1, none⟩ (.int .i64 1)).setCell ⟨go69, (a1 : Int).toNat * 5 + 2, none⟩ (.slice Ao95 y340.length co95)).setCell ⟨go69, (a1 : Int).toNat * 5 + 3, none⟩ (.int .i64 t343)).setCell ⟨go69, (a1 : Int).toNat * 5 + 4, none⟩ (.slice Ao94 t344.length co94)) w.heap.size (fun k_ => (w.heap.size ≤ k_) ∧ some k_ ≠ (.slice Ao17 t319.length co17 : Value).ownBlock ∧ some k_ ≠ (.slice Ao23 t322.length co23 : Value).ownBlock ∧ some k_ ≠ (.slice Ao79 t329.length co79 : Value).ownBlock ∧ k_ ≠ gb315 ∧ k_ ≠ gb316 ∧ k_ ≠ gb317 ∧ k_ ≠ gb318 ∧ k_ ≠ gb325 ∧ k_ ≠ gb335) (.slice (some ⟨go69, 0, none⟩) t332.length co86) y347) := ⟨sb_ HQ96.out⟩
    have n4_ : Aside0 ((((((w93.setCell ⟨go69, (a1 : Int).toNat * 5, none⟩ (.int .i64 (wrap64 (((rd_T119 l0_1 a1).f0) + 1)))).setCell ⟨go69, (a1 : Int).toNat * 5 + 1, none⟩ (.int .i64 1)).setCell ⟨go69, (a1 : Int).toNat * 5 + 2, none⟩ (.slice Ao95 y340.length co95)).setCell ⟨go69, (a1 : Int).toNat * 5 + 3, none⟩ (.int .i64 t343)).setCell ⟨go69, (a1 : Int).toNat * 5 + 4, none⟩ (.slice Ao94 t344.length co94)).heap[gb315]? = some (.cells #[.slice A0_0 l0_0.length c0_0, .slice (some ad336) l0_1.length c0_1] 31 (0, 0))) := ⟨by (with_reducible repeat (first | refine blk_drewN ?_ _ | refine blk_drew ?_ | refine blk_alloc ?_ _)); refine blk_far ?_ (by have h_ := Kd.S_away HQ96.out (fun _ hk => hk.2.2.2.2.1); intro e_; exact h_ (by rw [e_]; rfl)) _; (with_reducible repeat (first | refine blk_drewN ?_ _ | refine blk_drew ?_ | refine blk_alloc ?_ _)); refine blk_far ?_ (by have h_ := Kd.S_away HQ96.out (fun _ hk => hk.2.2.2.2.1); intro e_; exact h_ (by rw [e_]; rfl)) _; (with_reducible repeat (first | refine blk_drewN ?_ _ | refine blk_drew ?_ | refine blk_alloc ?_ _)); refine blk_far ?_ (by have h_ := Kd.S_away HQ96.out (fun _ hk => hk.2.2.2.2.1); intro e_; exact h_ (by rw [e_]; rfl)) _; (with_reducible repeat (first | refine blk_drewN ?_ _ | refine blk_drew ?_ | refine blk_alloc ?_ _)); refine blk_far ?_ (by have h_ := Kd.S_away HQ96.out (fun _ hk => hk.2.2.2.2.1); intro e_; exact h_ (by rw [e_]; rfl)) _; (with_reducible repeat (first | refine blk_drewN ?_ _ | refine blk_drew ?_ | refine blk_alloc ?_ _)); refine blk_far ?_ (by have h_ := Kd.S_away HQ96.out (fun _ hk => hk.2.2.2.2.1); intro e_; exact h_ (by rw [e_]; rfl)) _; (with_reducible repeat (first | refine blk_drewN ?_ _ | refine blk_drew ?_ | refine blk_alloc ?_ _)); exact BK315.out⟩
    have n5_ : Aside0 ((((((w93.setCell ⟨go69, (a1 : Int).toNat * 5, none⟩ (.int .i64 (wrap64 (((rd_T119 l0_1 a1).f0) + 1)))).setCell ⟨go69, (a1 : Int).toNat * 5 + 1, none⟩ (.int .i64 1)).setCell ⟨go69, (a1 : Int).toNat * 5 + 2, none⟩ (.slice Ao95 y340.length co95)).setCell ⟨go69, (a1 : Int).toNat * 5 + 3, none⟩ (.int .i64 t343)).setCell ⟨go69, (a1 : Int).toNat * 5 + 4, none⟩ (.slice Ao94 t344.length co94)).heap[gb316]? = some (.cells #[.int .i64 a3_0, .slice A3_1 l3_1.length c3_1] 49 (0, 0))) := ⟨by (with_reducible repeat (first | refine blk_drewN ?_ _ | refine blk_drew ?_ | refine blk_alloc ?_ _)); refine blk_far ?_ (by have h_ := Kd.S_away HQ96.out (fun _ hk => hk.2.2.2.2.2.1); intro e_; exact h_ (by rw [e_]; rfl)) _; (with_reducible repeat (first | refine blk_drewN ?_ _ | refine blk_drew ?_ | refine blk_alloc ?_ _)); refine blk_far ?_ (by have h_ := Kd.S_away HQ96.out (fun _ hk => hk.2.2.2.2.2.1); intro e_; exact h_ (by rw [e_]; rfl)) _; (with_reducible repeat (first | refine blk_drewN ?_ _ | refine blk_drew ?_ | refine blk_alloc ?_ _)); refine blk_far ?_ (by have h_ := Kd.S_away HQ96.out (fun _ hk => hk.2.2.2.2.2.1); intro e_; exact h_ (by rw [e_]; rfl)) _; (with_reducible repeat (first | refine blk_drewN ?_ _ | refine blk_drew ?_ | refine blk_alloc ?_ _)); refine blk_far ?_ (by have h_ := Kd.S_away HQ96.out (fun _ hk => hk.2.2.2.2.2.1); intro e_; exact h_ (by rw [e_]; rfl)) _; (with_reducible repeat (first | refine blk_drewN ?_ _ | refine blk_drew ?_ | refine blk_alloc ?_ _)); refine blk_far ?_ (by have h_ := Kd.S_away HQ96.out (fun _ hk => hk.2.2.2.2.2.1); intro e_; exact h_ (by rw [e_]; rfl)) _; (with_reducible repeat (first | refine blk_drewN ?_ _ | refine blk_drew ?_ | refine blk_alloc ?_ _)); exact BK316.out⟩
    have n6_ : Aside0 ((((((w93.setCell ⟨go69, (a1 : Int).toNat * 5, none⟩ (.int .i64 (wrap64 (((rd_T119 l0_1 a1).f0) + 1)))).setCell ⟨go69, (a1 : Int).toNat * 5 + 1, none⟩ (.int .i64 1)).setCell ⟨go69, (a1 : Int).toNat * 5 + 2, none⟩ (.slice Ao95 y340.length co95)).setCell ⟨go69, (a1 : Int).toNat * 5 + 3, none⟩ (.int .i64 t343)).setCell ⟨go69, (a1 : Int).toNat * 5 + 4, none⟩ (.slice Ao94 t344.length co94)).heap[gb317]? = some (.cells #[.slice none 0 0, .slice none 0 0] 31 (0, 0))) := ⟨by (with_reducible repeat (first | refine blk_drewN ?_ _ | refine blk_drew ?_ | refine blk_alloc ?_ _)); refine blk_far ?_ (by have h_ := Kd.S_away HQ96.out (fun _ hk => hk.2.2.2.2.2.2.1); intro e_; exact h_ (by rw [e_]; rfl)) _; (with_reducible repeat (first | refine blk_drewN ?_ _ | refine blk_drew ?_ | refine blk_alloc ?_ _)); refine blk_far ?_ (by have h_ := Kd.S_away HQ96.out (fun _ hk => hk.2.2.2.2.2.2.1); intro e_; exact h_ (by rw [e_]; rfl)) _; (with_reducible repeat (first | refine blk_drewN ?_ _ | refine blk_drew ?_ | refine blk_alloc ?_ _)); refine blk_far ?_ (by have h_ := Kd.S_away HQ96.out (fun _ hk => hk.2.2.2.2.2.2.1); intro e_; exact h_ (by rw [e_]; rfl)) _; (with_reducible repeat (first | refine blk_drewN ?_ _ | refine blk_drew ?_ | refine blk_alloc ?_ _)); refine blk_far ?_ (by have h_ := Kd.S_away HQ96.out (fun _ hk => hk.2.2.2.2.2.2.1); intro e_; exact h_ (by rw [e_]; rfl)) _; (with_reducible repeat (first | refine blk_drewN ?_ _ | refine blk_drew ?_ | refine blk_alloc ?_ _)); refine blk_far ?_ (by have h_ := Kd.S_away HQ96.out (fun _ hk => hk.2.2.2.2.2.2.1); intro e_; exact h_ (by rw [e_]; rfl)) _; (with_reducible repeat (first | refine blk_drewN ?_ _ | refine blk_drew ?_ | refine blk_alloc ?_ _)); exact BK317.out⟩
    have n7_ : Aside0 ((((((w93.setCell ⟨go69, (a1 : Int).toNat * 5, none⟩ (.int .i64 (wrap64 (((rd_T119 l0_1 a1).f0) + 1)))).setCell ⟨go69, (a1 : Int).toNat * 5 + 1, none⟩ (.int .i64 1)).setCell ⟨go69, (a1 : Int).toNat * 5 + 2, none⟩ (.slice Ao95 y340.length co95)).setCell ⟨go69, (a1 : Int).toNat * 5 + 3, none⟩ (.int .i64 t343)).setCell ⟨go69, (a1 : Int).toNat * 5 + 4, none⟩ (.slice Ao94 t344.length co94)).heap[gb318]? = some (.cells #[.int .i64 0, .int .i64 0, .int .i64 0, .int .i64 0] 74 (0, 0))) := ⟨by (with_reducible repeat (first | refine blk_drewN ?_ _ | refine blk_drew ?_ | refine blk_alloc ?_ _)); refine blk_far ?_ (by have h_ := Kd.S_away HQ96.out (fun _ hk => hk.2.2.2.2.2.2.2.1); intro e_; exact h_ (by rw [e_]; rfl)) _; (with_reducible repeat (first | refine blk_drewN ?_ _ | refine blk_drew ?_ | refine blk_alloc ?_ _)); refine blk_far ?_ (by have h_ := Kd.S_away HQ96.out (fun _ hk => hk.2.2.2.2.2.2.2.1); intro e_; exact h_ (by rw [e_]; rfl)) _; (with_reducible repeat (first | refine blk_drewN ?_ _ | refine blk_drew ?_ | refine blk_alloc ?_ _)); refine blk_far ?_ (by have h_ := Kd.S_away HQ96.out (fun _ hk => hk.2.2.2.2.2.2.2.1); intro e_; exact h_ (by rw [e_]; rfl)) _; (with_reducible repeat (first | refine blk_drewN ?_ _ | refine blk_drew ?_ | refine blk_alloc ?_ _)); refine blk_far ?_ (by have h_ := Kd.S_away HQ96.out (fun _ hk => hk.2.2.2.2.2.2.2.1); intro e_; exact h_ (by rw [e_]; rfl)) _; (with_reducible repeat (first | refine blk_drewN ?_ _ | refine blk_drew ?_ | refine blk_alloc ?_ _)); refine blk_far ?_ (by have h_ := Kd.S_away HQ96.out (fun _ hk => hk.2.2.2.2.2.2.2.1); intro e_; exact h_ (by rw [e_]; rfl)) _; (with_reducible repeat (first | refine blk_drewN ?_ _ | refine blk_drew ?_ | refine blk_alloc ?_ _)); exact BK318.out⟩
    have n8_ : Aside0 ((((((w93.setCell ⟨go69, (a1 : Int).toNat * 5, none⟩ (.int .i64 (wrap64 (((rd_T119 l0_1 a1).f0) + 1)))).setCell ⟨go69, (a1 : Int).toNat * 5 + 1, none⟩ (.int .i64 1)).setCell ⟨go69, (a1 : Int).toNat * 5 + 2, none⟩ (.slice Ao95 y340.length co95)).setCell ⟨go69, (a1 : Int).toNat * 5 + 3, none⟩ (.int .i64 t343)).setCell ⟨go69, (a1 : Int).toNat * 5 + 4, none⟩ (.slice Ao94 t344.length co94)).heap[gb325]? = some (.cells #[.slice Ao17 t319.length co17, .slice Ao23 t322.length co23] 31 (0, 0))) := ⟨by (with_reducible repeat (first | refine blk_drewN ?_ _ | refine blk_drew ?_ | refine blk_alloc ?_ _)); refine blk_far ?_ (by have h_ := Kd.S_away HQ96.out (fun _ hk => hk.2.2.2.2.2.2.2.2.1); intro e_; exact h_ (by rw [e_]; rfl)) _; (with_reducible repeat (first | refine blk_drewN ?_ _ | refine blk_drew ?_ | refine blk_alloc ?_ _)); refine blk_far ?_ (by have h_ := Kd.S_away HQ96.out (fun _ hk => hk.2.2.2.2.2.2.2.2.1); intro e_; exact h_ (by rw [e_]; rfl)) _; (with_reducible repeat (first | refine blk_drewN ?_ _ | refine blk_drew ?_ | refine blk_alloc ?_ _)); refine blk_far ?_ (by have h_ := Kd.S_away HQ96.out (fun _ hk => hk.2.2.2.2.2.2.2.2.1); intro e_; exact h_ (by rw [e_]; rfl)) _; (with_reducible repeat (first | refine blk_drewN ?_ _ | refine blk_drew ?_ | refine blk_alloc ?_ _)); refine blk_far ?_ (by have h_ := Kd.S_away HQ96.out (fun _ hk => hk.2.2.2.2.2.2.2.2.1); intro e_; exact h_ (by rw [e_]; rfl)) _; (with_reducible repeat (first | refine blk_drewN ?_ _ | refine blk_drew ?_ | refine blk_alloc ?_ _)); refine blk_far ?_ (by have h_ := Kd.S_away HQ96.out (fun _ hk => hk.2.2.2.2.2.2.2.2.1); intro e_; exact h_ (by rw [e_]; rfl)) _; (with_reducible repeat (first | refine blk_drewN ?_ _ | refine blk_drew ?_ | refine blk_alloc ?_ _)); exact BK325.out⟩
    have n9_ : Aside0 ((((((w93.setCell ⟨go69, (a1 : Int).toNat * 5, none⟩ (.int .i64 (wrap64 (((rd_T119 l0_1 a1).f0) + 1)))).setCell ⟨go69, (a1 : Int).toNat * 5 + 1, none⟩ (.int .i64 1)).setCell ⟨go69, (a1 : Int).toNat * 5 + 2, none⟩ (.slice Ao95 y340.length co95)).setCell ⟨go69, (a1 : Int).toNat * 5 + 3, none⟩ (.int .i64 t343)).setCell ⟨go69, (a1 : Int).toNat * 5 + 4, none⟩ (.slice Ao94 t344.length co94)).heap[gb335]? = some (.cells #[.slice Ao79 t329.length co79, .slice (some ⟨go69, 0, none⟩) t332.length co86] 31 (0, 0))) := ⟨by (with_reducible repeat (first | refine blk_drewN ?_ _ | refine blk_drew ?_ | refine blk_alloc ?_ _)); refine blk_far ?_ (by have h_ := Kd.S_away HQ96.out (fun _ hk => hk.2.2.2.2.2.2.2.2.2); intro e_; exact h_ (by rw [e_]; rfl)) _; (with_reducible repeat (first | refine blk_drewN ?_ _ | refine blk_drew ?_ | refine blk_alloc ?_ _)); refine blk_far ?_ (by have h_ := Kd.S_away HQ96.out (fun _ hk => hk.2.2.2.2.2.2.2.2.2); intro e_; exact h_ (by rw [e_]; rfl)) _; (with_reducible repeat (first | refine blk_drewN ?_ _ | refine blk_drew ?_ | refine blk_alloc ?_ _)); refine blk_far ?_ (by have h_ := Kd.S_away HQ96.out (fun _ hk => hk.2.2.2.2.2.2.2.2.2); intro e_; exact h_ (by rw [e_]; rfl)) _; (with_reducible repeat (first | refine blk_drewN ?_ _ | refine blk_drew ?_ | refine blk_alloc ?_ _)); refine blk_far ?_ (by have h_ := Kd.S_away HQ96.out (fun _ hk => hk.2.2.2.2.2.2.2.2.2); intro e_; exact h_ (by rw [e_]; rfl)) _; (with_reducible repeat (first | refine blk_drewN ?_ _ | refine blk_drew ?_ | refine blk_alloc ?_ _)); refine blk_far ?_ (by have h_ := Kd.S_away HQ96.out (fun _ hk => hk.2.2.2.2.2.2.2.2.2); intro e_; exact h_ (by rw [e_]; rfl)) _; (with_reducible repeat (first | refine blk_drewN ?_ _ | refine blk_drew ?_ | refine blk_alloc ?_ _)); exact BK335.out⟩
    have n10_ : Aside0 (Below w.heap.size w (((((w93.setCell ⟨go69, (a1 : Int).toNat * 5, none⟩ (.int .i64 (wrap64 (((rd_T119 l0_1 a1).f0) + 1)))).setCell ⟨go69, (a1 : Int).toNat * 5 + 1, none⟩ (.int .i64 1)).setCell ⟨go69, (a1 : Int).toNat * 5 + 2, none⟩ (.slice Ao95 y340.length co95)).setCell ⟨go69, (a1 : Int).toNat * 5 + 3, none⟩ (.int .i64 t343)).setCell ⟨go69, (a1 : Int).toNat * 5 + 4, none⟩ (.slice Ao94 t344.length co94))) := ⟨hb_ HB⟩
    (try clear HO_326000)
    (try clear HO_326001)
    (try clear HO331)
    (try clear HO334)
    (try clear BK315)
    (try clear BK316)
    (try clear BK317)
    (try clear BK318)
    (try clear BK325)
    (try clear BK335)
    (try clear HB)
    generalize (((((w93.setCell ⟨go69, (a1 : Int).toNat * 5, none⟩ (.int .i64 (wrap64 (((rd_T119 l0_1 a1).f0) + 1)))).setCell ⟨go69, (a1 : Int).toNat * 5 + 1, none⟩ (.int .i64 1)).setCell ⟨go69, (a1 : Int).toNat * 5 + 2, none⟩ (.slice Ao95 y340.length co95)).setCell ⟨go69, (a1 : Int).toNat * 5 + 3, none⟩ (.int .i64 t343)).setCell ⟨go69, (a1 : Int).toNat * 5 + 4, none⟩ (.slice Ao94 t344.length co94)) = w97 at n0_ n1_ n2_ n3_ n4_ n5_ n6_ n7_ n8_ n9_ n10_ ⊢
    have HO_326000 := n0_
    have HO_326001 := n1_
    have HO331 := n2_
    have HO334 := n3_
    have BK315 := n4_
    have BK316 := n5_
    have BK317 := n6_
    have BK318 := n7_
    have BK325 := n8_
    have BK335 := n9_
    have HB := n10_
    clear n0_ n1_ n2_ n3_ n4_ n5_ n6_ n7_ n8_ n9_ n10_
    have H := HC_.out
    clear HC_
    by_cases c71 : t348 = true
    ·
     subst c71
     replace H := it_ H
     simp only [Option.some.injEq, Prod.mk.injEq] at H
     obtain ⟨rfl, rfl, rfl, rfl, rfl, rfl, rfl⟩ := H
     obtain ⟨hcz98_0, hcz98_1, hfz98_0, hfz98_1⟩ := cz2_ BK335
     try go_wp2_with (first | ((with_reducible refine gate_callee (f := 54) rfl ?_); refine goesL_ (some 56) rfl rfl Try.func54 (by kernel_rfl) rfl #[.agg #[.slice Ao79 t329.length co79, .slice (some ⟨go69, 0, none⟩) y347.length co86]] rfl (by (try simp only [List.map_toArray, List.map_cons, List.map_nil]); first | done | (rw [show y347.length = t332.length from (Kd.S_reads' HO334.out).1.symm] <;> rfl) | rfl | (simp only [List.length_drop, List.length_take]; rfl)) ?_; (with_reducible refine (spec_MemOk.calls kj5 _ _ t329 _ _ y347 true _ ?side1 ?side2 ?side3 ?side4 A70.out).mono ?_); (case side1 => repeat (first | exact (Kd.R_reads' HO331.out).2.2 | (with_reducible refine Kd.C_alloc ?_ _) | (with_reducible refine Kd.C_drewN ?_ _) | (with_reducible refine Kd.C_drew ?_))); (case side2 => exact (Kd.R_reads' HO331.out).2.1); (case side3 => repeat (first | exact (Kd.S_reads' HO334.out).2.2 | (with_reducible refine Kd.C_alloc ?_ _) | (with_reducible refine Kd.C_drewN ?_ _) | (with_reducible refine Kd.C_drew ?_))); (case side4 => rw [show y347.length = t332.length from (Kd.S_reads' HO334.out).1.symm]; exact (Kd.S_reads' HO334.out).2.1); rintro e w99 ⟨rfl, hb⟩; refine ⟨_, rfl, ?_⟩; replace HO_326000 := A_ (Kd.R_below (rb_ HO_326000.out) hb); replace HO_326001 := A_ (Kd.S_below (sb_ HO_326001.out) hb); replace HO331 := A_ (Kd.R_below (rb_ HO331.out) hb); replace HO334 := A_ (Kd.S_below (sb_ HO334.out) hb); replace BK315 := bb_ BK315 hb; replace BK316 := bb_ BK316 hb; replace BK317 := bb_ BK317 hb; replace BK318 := bb_ BK318 hb; replace BK325 := bb_ BK325 hb; replace BK335 := bb_ BK335 hb; replace HB := hs_ HB hb; (try clear hb); (try clear hb2); (try clear hk); (try clear hi); obtain ⟨hcz100_0, hcz100_1, hfz100_0, hfz100_1⟩ := cz2_ BK335; have hnb101 := NB317_316.out; have hnc101 := NB316_317.out; have hnb102 := NB317_318.out; have hnc102 := NB318_317.out; have hnb103 := NB317_325.out; have hnc103 := NB325_317.out; obtain ⟨hcz104_0, hcz104_1, hfz104_0, hfz104_1⟩ := cz2_ BK317; have hnb105 := NB318_316.out; have hnc105 := NB316_318.out; have hnb106 := NB318_325.out; have hnc106 := NB325_318.out; obtain ⟨hcz107_0, hcz107_1, hcz107_2, hcz107_3, hfz107_0, hfz107_1, hfz107_2, hfz107_3⟩ := cz4_ BK318))
     refine bodyPost_ret (results_list (rs := [.cell 8 31, .cell 9 74, .tmp 10]) rfl (by simp) (.cell gb317 31 #[.slice Ao79 t329.length co79, .slice (some ⟨go69, 0, none⟩) t332.length co86] (0, 0) _ rfl (bp_ BK317) Try.underlying31 rfl (by kernel_rfl) (.cell gb318 74 #[.int .i64 a1, .int .i64 (wrap64 (((rd_T119 l0_1 a1).f0) + 1)), .int .i64 0, .int .i64 0] (0, 0) _ rfl (bp_ BK318) Try.underlying74 rfl (by kernel_rfl) (.tmp .nil)))) rfl ?_
     exact ⟨_, _, rs_, by (with_reducible repeat (first | apply Kd.R_alloc | apply Kd.R_drewN | apply Kd.R_drew)); exact Kd.R_mono (Kd.R_far (p := ⟨gb318, 3, none⟩) (Kd.R_far (p := ⟨gb318, 2, none⟩) (Kd.R_far (p := ⟨gb318, 1, none⟩) (Kd.R_far (p := ⟨gb318, 0, none⟩) (Kd.R_far (p := ⟨gb317, 1, none⟩) (Kd.R_far (p := ⟨gb317, 0, none⟩) (Kd.R_types (Kd.R_types HO331.out BK317.out (by decide)) BK318.out (by decide)) (fun _ hk => hk.1.2) (.slice Ao79 t329.length co79)) (fun _ hk => hk.1.2) (.slice (some ⟨go69, 0, none⟩) t332.length co86)) (fun _ hk => hk.2) (.int .i64 a1)) (fun _ hk => hk.2) (.int .i64 (wrap64 (((rd_T119 l0_1 a1).f0) + 1)))) (fun _ hk => hk.2) (.int .i64 0)) (fun _ hk => hk.2) (.int .i64 0)) (fun _ hk => hk.1.1.1), by (with_reducible repeat (first | apply Kd.S_alloc | apply Kd.S_drewN | apply Kd.S_drew)); exact Kd.S_mono (Kd.S_far (p := ⟨gb318, 3, none⟩) (Kd.S_far (p := ⟨gb318, 2, none⟩) (Kd.S_far (p := ⟨gb318, 1, none⟩) (Kd.S_far (p := ⟨gb318, 0, none⟩) (Kd.S_far (p := ⟨gb317, 1, none⟩) (Kd.S_far (p := ⟨gb317, 0, none⟩) (Kd.S_mono (Kd.S_mono HO334.out (fun k_ hk => (⟨hk, hk.2.2.2.2.2.2.1⟩ : _ ∧ k_ ≠ gb317))) (fun k_ hk => (⟨hk, hk.1.2.2.2.2.2.2.2.1⟩ : _ ∧ k_ ≠ gb318))) (fun _ hk => hk.1.2) (.slice Ao79 t329.length co79)) (fun _ hk => hk.1.2) (.slice (some ⟨go69, 0, none⟩) t332.length co86)) (fun _ hk => hk.2) (.int .i64 a1)) (fun _ hk => hk.2) (.int .i64 (wrap64 (((rd_T119 l0_1 a1).f0) + 1)))) (fun _ hk => hk.2) (.int .i64 0)) (fun _ hk => hk.2) (.int .i64 0)) (fun _ hk => ⟨hk.1.1.1, hk.1.1.2.2.2.1⟩), hb_ HB⟩
    obtain rfl := Bool.eq_false_iff.mpr c71
    replace H := iF_ H
    simp only [Option.some.injEq, Prod.mk.injEq] at H
    obtain ⟨rfl, rfl, rfl, rfl, rfl, rfl, rfl⟩ := H
    obtain ⟨hcz134_0, hcz134_1, hfz134_0, hfz134_1⟩ := cz2_ BK335
    try go_wp2_with (first | ((with_reducible refine gate_callee (f := 54) rfl ?_); refine goesL_ (some 56) rfl rfl Try.func54 (by kernel_rfl) rfl #[.agg #[.slice Ao79 t329.length co79, .slice (some ⟨go69, 0, none⟩) y347.length co86]] rfl (by (try simp only [List.map_toArray, List.map_cons, List.map_nil]); first | done | (rw [show y347.length = t332.length from (Kd.S_reads' HO334.out).1.symm] <;> rfl) | rfl | (simp only [List.length_drop, List.length_take]; rfl)) ?_; (with_reducible refine (spec_MemOk.calls kj5 _ _ t329 _ _ y347 false _ ?side1 ?side2 ?side3 ?side4 A70.out).mono ?_); (case side1 => repeat (first | exact (Kd.R_reads' HO331.out).2.2 | (with_reducible refine Kd.C_alloc ?_ _) | (with_reducible refine Kd.C_drewN ?_ _) | (with_reducible refine Kd.C_drew ?_))); (case side2 => exact (Kd.R_reads' HO331.out).2.1); (case side3 => repeat (first | exact (Kd.S_reads' HO334.out).2.2 | (with_reducible refine Kd.C_alloc ?_ _) | (with_reducible refine Kd.C_drewN ?_ _) | (with_reducible refine Kd.C_drew ?_))); (case side4 => rw [show y347.length = t332.length from (Kd.S_reads' HO334.out).1.symm]; exact (Kd.S_reads' HO334.out).2.1); rintro e w135 ⟨rfl, hb⟩; refine ⟨_, rfl, ?_⟩; replace HO_326000 := A_ (Kd.R_below (rb_ HO_326000.out) hb); replace HO_326001 := A_ (Kd.S_below (sb_ HO_326001.out) hb); replace HO331 := A_ (Kd.R_below (rb_ HO331.out) hb); replace HO334 := A_ (Kd.S_below (sb_ HO334.out) hb); replace BK315 := bb_ BK315 hb; replace BK316 := bb_ BK316 hb; replace BK317 := bb_ BK317 hb; replace BK318 := bb_ BK318 hb; replace BK325 := bb_ BK325 hb; replace BK335 := bb_ BK335 hb; replace HB := hs_ HB hb; (try clear hb); (try clear hb2); (try clear hk); (try clear hi); have hnb136 := NB325_316.out; have hnc136 := NB316_325.out; have hnb137 := NB325_317.out; have hnc137 := NB317_325.out; have hnb138 := NB325_318.out; have hnc138 := NB318_325.out; obtain ⟨hcz139_0, hcz139_1, hfz139_0, hfz139_1⟩ := cz2_ BK325; have hnb140 := NB317_316.out; have hnc140 := NB316_317.out; have hnb141 := NB317_318.out; have hnc141 := NB318_317.out; obtain ⟨hcz142_0, hcz142_1, hfz142_0, hfz142_1⟩ := cz2_ BK317; have hnb143 := NB318_316.out; have hnc143 := NB316_318.out; obtain ⟨hcz144_0, hcz144_1, hcz144_2, hcz144_3, hfz144_0, hfz144_1, hfz144_2, hfz144_3⟩ := cz4_ BK318))
    refine bodyPost_ret (results_list (rs := [.cell 8 31, .cell 9 74, .tmp 10]) rfl (by simp) (.cell gb317 31 #[.slice Ao17 t319.length co17, .slice Ao23 t322.length co23] (0, 0) _ rfl (bp_ BK317) Try.underlying31 rfl (by kernel_rfl) (.cell gb318 74 #[.int .i64 0, .int .i64 0, .int .i64 0, .int .i64 0] (0, 0) _ rfl (bp_ BK318) Try.underlying74 rfl (by kernel_rfl) (.tmp .nil)))) rfl ?_
    exact ⟨_, _, rs_, by (with_reducible repeat (first | apply Kd.R_alloc | apply Kd.R_drewN | apply Kd.R_drew)); exact Kd.R_mono (Kd.R_far (p := ⟨gb318, 3, none⟩) (Kd.R_far (p := ⟨gb318, 2, none⟩) (Kd.R_far (p := ⟨gb318, 1, none⟩) (Kd.R_far (p := ⟨gb318, 0, none⟩) (Kd.R_far (p := ⟨gb317, 1, none⟩) (Kd.R_far (p := ⟨gb317, 0, none⟩) (Kd.R_types (Kd.R_types HO_326000.out BK317.out (by decide)) BK318.out (by decide)) (fun _ hk => hk.1.2) (.slice Ao17 t319.length co17)) (fun _ hk => hk.1.2) (.slice Ao23 t322.length co23)) (fun _ hk => hk.2) (.int .i64 0)) (fun _ hk => hk.2) (.int .i64 0)) (fun _ hk => hk.2) (.int .i64 0)) (fun _ hk => hk.2) (.int .i64 0)) (fun _ hk => hk.1.1.1), by (with_reducible repeat (first | apply Kd.S_alloc | apply Kd.S_drewN | apply Kd.S_drew)); exact Kd.S_mono (Kd.S_far (p := ⟨gb318, 3, none⟩) (Kd.S_far (p := ⟨gb318, 2, none⟩) (Kd.S_far (p := ⟨gb318, 1, none⟩) (Kd.S_far (p := ⟨gb318, 0, none⟩) (Kd.S_far (p := ⟨gb317, 1, none⟩) (Kd.S_far (p := ⟨gb317, 0, none⟩) (Kd.S_mono (Kd.S_mono HO_326001.out (fun k_ hk => (⟨hk, hk.2.2.2.2.2.2.1⟩ : _ ∧ k_ ≠ gb317))) (fun k_ hk => (⟨hk, hk.1.2.2.2.2.2.2.2.1⟩ : _ ∧ k_ ≠ gb318))) (fun _ hk => hk.1.2) (.slice Ao17 t319.length co17)) (fun _ hk => hk.1.2) (.slice Ao23 t322.length co23)) (fun _ hk => hk.2) (.int .i64 0)) (fun _ hk => hk.2) (.int .i64 0)) (fun _ hk => hk.2) (.int .i64 0)) (fun _ hk => hk.2) (.int .i64 0)) (fun _ hk => ⟨hk.1.1.1, hk.1.1.2.1⟩), hb_ HB⟩
   rw [if_neg c66] at H
   exact absurd H (by simp)

end Go.Proofs.Ytmkhghbalnadlaa.PFnExactBegin
