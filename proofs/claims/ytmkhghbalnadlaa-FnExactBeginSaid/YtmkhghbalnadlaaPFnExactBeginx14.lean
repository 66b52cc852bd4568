/- Contracts of functions of the program: each says that the call does what a plain Lean function tells. Made by programs of this session and of the kit. No condition beyond the hypotheses that each theorem names. -/
import Derived.Test.YtmkhghbalnadlaaPFnExactBeginx0
import Derived.Test.YtmkhghbalnadlaaPFnExactBeginx11
import Derived.Test.YtmkhghbalnadlaaPFnExactBeginx12
import Derived.Test.YtmkhghbalnadlaaPFnExactBeginx13
namespace Go.Proofs.Ytmkhghbalnadlaa.PFnExactBegin
open Go.RowKit Go.Proofs.YtmkhghbalnadlaaW.PrintWords Go.Proofs.YtmkhghbalnadlaaW.PrintLast Go.Proofs.YtmkhghbalnadlaaW.PrintMore
attribute [local go_sem] max2_int min2_int max_two min_two max_three min_three max_four min_four   -- for this text's walks alone
set_option linter.unusedVariables false
set_option linter.unusedSimpArgs false

/-! ### impl_Begin: function 45 -/
def impl_Begin.j0 : Nat → List (S122) → Bool → List (S95) → List (S119) → Int → Int → List Int → List (S95) → List (S119) → Option ((List (S95)) × (List (S119)) × Int × Int × Int × Int × Bool)
 | 0, _, _, _, _, _, _, _, _, _ => none
 | k + 1, x2, x33, x432000, x432001, x433000, x434000, x434001, x443000, x443001 => if x33 = true then (some (x443000, x443001, 0, 0, 0, 0, false)) else (if 0 ≤ x433000 then (if x433000 < (x432001.length : Int) then ((impl_copyMem.f k x432000 x432001).bind fun bt447 => ((impl_Entry.f x2).bind fun t454 => ((impl_copyRes.f x434000 x434001).bind fun bt457 => (if x433000 < (bt447.2.length : Int) then ((some (bt447.2.set (x433000 : Int).toNat (⟨wrap64 (((rd_T119 x432001 x433000).f0) + 1), 1, t454, (⟨bt457.1, bt457.2⟩ : S49)⟩ : S119) : List (S119))).bind fun y461 => ((impl_MemOk.f k bt447.1 y461).bind fun t462 => (if t462 = true then (some (bt447.1, y461, x433000, wrap64 (((rd_T119 x432001 x433000).f0) + 1), 0, 0, true)) else (some (x443000, x443001, 0, 0, 0, 0, false))))) else (none))))) else (none)) else (none))
def impl_Begin.f (k : Nat) (l0_0 : List (S95)) (l0_1 : List (S119)) (a1 : Int) (l2 : List (S122)) (a3_0 : Int) (l3_1 : List Int) : Option ((List (S95)) × (List (S119)) × Int × Int × Int × Int × Bool) := (impl_copyMem.f k l0_0 l0_1).bind fun bt436 => ((impl_MemOk.f k l0_0 l0_1).bind fun t443 => (if t443 = true then ((impl_from.f a1 0 (wrap64 ((l0_1.length : Int) - 1))).bind fun t444 => (if t444 = true then ((slices_ContainsFuncBegin_c1.f k l0_0 a1).bind fun t445 => (impl_Begin.j0 k l2 t445 l0_0 l0_1 a1 a3_0 l3_1 bt436.1 bt436.2)) else (impl_Begin.j0 k l2 true l0_0 l0_1 a1 a3_0 l3_1 bt436.1 bt436.2))) else (impl_Begin.j0 k l2 true l0_0 l0_1 a1 a3_0 l3_1 bt436.1 bt436.2)))
def impl_Begin.T6 : Bool × List (List Nat × List Nat) := (true, [([], []), ([0], [0]), ([], []), ([], []), ([], []), ([4], [4]), ([], []), ([6, 5], [6]), ([3, 5, 7], [3, 5, 7]), ([1, 2, 0, 1, 2, 3, 4, 5, 6, 7, 8], [1, 2]), ([9, 8, 7, 0, 1, 2, 3, 4, 5, 6, 7, 8], [8, 9])])
def impl_Begin.B6 : List Nat := [0, 1, 0, 0, 0, 16, 0, 112, 248, 511, 1023]
theorem impl_Begin.tab6 : rtab .any (opsOf Try.f45 6) = impl_Begin.T6 := by kernel_rfl
theorem impl_Begin.bits6 : waitsOk impl_Begin.T6.2 impl_Begin.B6 = true := by kernel_rfl
theorem impl_Begin.set5 {W : World} {g n cap base : Nat} {i : Int} {v0 v1 v2 v3 v4 : Value} {ok : Nat → Prop} {xs : List S119} (h : Kd.S k119 119 (W.setCells g (i.toNat * (k119).sz + 0) [v0, v1, v2, v3, v4]) base ok (.slice (some ⟨g, 0, none⟩) n cap) xs) : Kd.S k119 119 (((((W.setCell ⟨g, i.toNat * 5, none⟩ v0).setCell ⟨g, i.toNat * 5 + 1, none⟩ v1).setCell ⟨g, i.toNat * 5 + 2, none⟩ v2).setCell ⟨g, i.toNat * 5 + 3, none⟩ v3).setCell ⟨g, i.toNat * 5 + 4, none⟩ v4) base ok (.slice (some ⟨g, 0, none⟩) n cap) xs := by
 rw [show (k119).sz = 5 from rfl, Nat.add_zero, show W.setCells g (i.toNat * 5) [v0, v1, v2, v3, v4] = (((((W.setCell ⟨g, i.toNat * 5, none⟩ v0).setCell ⟨g, i.toNat * 5 + 1, none⟩ v1).setCell ⟨g, i.toNat * 5 + 2, none⟩ v2).setCell ⟨g, i.toNat * 5 + 3, none⟩ v3).setCell ⟨g, i.toNat * 5 + 4, none⟩ v4) from rfl] at h
 exact h
set_option maxHeartbeats 8000000 in
set_option maxRecDepth 100000 in
theorem impl_Begin.calls (k : Nat) (A0_0 : Option Addr) (c0_0 : Nat) (l0_0 : List (S95)) (A0_1 : Option Addr) (c0_1 : Nat) (l0_1 : List (S119)) (a1 : Int) (A2 : Option Addr) (c2 : Nat) (l2 : List (S122)) (a3_0 : Int) (A3_1 : Option Addr) (c3_1 : Nat) (l3_1 : List Int) (r1 : List (S95)) (r2 : List (S119)) (r3 : Int) (r4 : Int) (r5 : Int) (r6 : Int) (r7 : Bool) (w : World) (hr0_0 : Kd.C k95 w A0_0 l0_0.length l0_0) (hc0_0 : l0_0.length ≤ c0_0) (hr0_1 : Kd.C k119 w A0_1 l0_1.length l0_1) (hc0_1 : l0_1.length ≤ c0_1) (hr2 : Kd.C k122 w A2 l2.length l2) (hc2 : l2.length ≤ c2) (hr3_1 : Kd.C (Kd.int .i64) w A3_1 l3_1.length l3_1) (hc3_1 : l3_1.length ≤ c3_1) (h : impl_Begin.f k l0_0 l0_1 a1 l2 a3_0 l3_1 = some (r1, r2, r3, r4, r5, r6, r7)) :
    Calls Try.prog 45 #[.agg #[.slice A0_0 l0_0.length c0_0, .slice A0_1 l0_1.length c0_1], .int .i64 a1, .slice A2 l2.length c2, .agg #[.int .i64 a3_0, .slice A3_1 l3_1.length c3_1]] w fun e w' => ∃ v0_ v1_ : Value, e = .returned (.tuple #[.agg #[v0_, v1_], .agg #[.int .i64 r3, .int .i64 r4, .int .i64 r5, .int .i64 r6], .bool r7]) ∧ Kd.R k95 95 w' w.heap.size (fun k_ => (w.heap.size ≤ k_)) v0_ r1 ∧ Kd.S k119 119 w' w.heap.size (fun k_ => (w.heap.size ≤ k_) ∧ some k_ ≠ (v0_ : Value).ownBlock) v1_ r2 ∧ Below w.heap.size w w' := by
 have hu31 := Try.underlying31
 have hu49 := Try.underlying49
 have hu74 := Try.underlying74
 have hu119 := Try.underlying119
 have HR0_0 := A_ hr0_0
 have HC0_0 := A_ hc0_0
 clear hr0_0 hc0_0
 have HR0_1 := A_ hr0_1
 have HC0_1 := A_ hc0_1
 clear hr0_1 hc0_1
 have HR2 := A_ hr2
 have HC2 := A_ hc2
 clear hr2 hc2
 have HR3_1 := A_ hr3_1
 have HC3_1 := A_ hc3_1
 clear hr3_1 hc3_1
 have HB := A_ (Below.refl w.heap.size w)
 have H : ((impl_copyMem.f k l0_0 l0_1).bind fun bt436 => ((impl_MemOk.f k l0_0 l0_1).bind fun t443 => (if t443 = true then ((impl_from.f a1 0 (wrap64 ((l0_1.length : Int) - 1))).bind fun t444 => (if t444 = true then ((slices_ContainsFuncBegin_c1.f k l0_0 a1).bind fun t445 => (impl_Begin.j0 k l2 t445 l0_0 l0_1 a1 a3_0 l3_1 bt436.1 bt436.2)) else (impl_Begin.j0 k l2 true l0_0 l0_1 a1 a3_0 l3_1 bt436.1 bt436.2))) else (impl_Begin.j0 k l2 true l0_0 l0_1 a1 a3_0 l3_1 bt436.1 bt436.2)))) = some (r1, r2, r3, r4, r5, r6, r7) := h
 clear h
 replace H := bs_ H
 obtain ⟨⟨t436, t439⟩, A5, H⟩ := H
 dsimp only at H
 have HC6 := A_ H
 clear H
 go_enter Try.func45, Try.ntmps45
 go_upto_region 2 with (first | ((with_reducible refine gate_dst (N := 4) rfl ?_); (try (refine gate_guard (by rfl) ?_; dsimp only)); refine bx_ HB rfl (N := 4) rfl (cs := #[.slice A0_0 l0_0.length c0_0, .slice A0_1 l0_1.length c0_1]) (t := 31) hr_ ?_; clear HB; intro gb431 w7 hg hb BK431 GW431 HB; clear hb hg) | ((with_reducible refine gate_dst (N := 5) rfl ?_); (try (refine gate_guard (by rfl) ?_; dsimp only)); refine bx_ HB rfl (N := 5) rfl (cs := #[.int .i64 a1]) (t := 3) hr_ ?_; clear HB; intro gb432 w8 hg hb BK432 GW432 HB; have NB431_432 := ng_ BK431 hg; have NB432_431 := ns_ (ng_ BK431 hg); replace BK431 := bb_ BK431 hb; clear hb hg) | ((with_reducible refine gate_dst (N := 7) rfl ?_); (try (refine gate_guard (by rfl) ?_; dsimp only)); refine bx_ HB rfl (N := 7) rfl (cs := #[.int .i64 a3_0, .slice A3_1 l3_1.length c3_1]) (t := 49) hr_ ?_; clear HB; intro gb433 w9 hg hb BK433 GW433 HB; have NB431_433 := ng_ BK431 hg; have NB433_431 := ns_ (ng_ BK431 hg); have NB432_433 := ng_ BK432 hg; have NB433_432 := ns_ (ng_ BK432 hg); replace BK431 := bb_ BK431 hb; replace BK432 := bb_ BK432 hb; clear hb hg) | ((with_reducible refine gate_dst (N := 8) rfl ?_); (try (refine gate_guard (by rfl) ?_; dsimp only)); refine bx_ HB rfl (N := 8) rfl (cs := #[.slice none 0 0, .slice none 0 0]) (t := 31) hr_ ?_; clear HB; intro gb434 w10 hg hb BK434 GW434 HB; have NB431_434 := ng_ BK431 hg; have NB434_431 := ns_ (ng_ BK431 hg); have NB432_434 := ng_ BK432 hg; have NB434_432 := ns_ (ng_ BK432 hg); have NB433_434 := ng_ BK433 hg; have NB434_433 := ns_ (ng_ BK433 hg); replace BK431 := bb_ BK431 hb; replace BK432 := bb_ BK432 hb; replace BK433 := bb_ BK433 hb; clear hb hg) | ((with_reducible refine gate_dst (N := 9) rfl ?_); (try (refine gate_guard (by rfl) ?_; dsimp only)); refine bx_ HB rfl (N := 9) rfl (cs := #[.int .i64 0, .int .i64 0, .int .i64 0, .int .i64 0]) (t := 74) hr_ ?_; clear HB; intro gb435 w11 hg hb BK435 GW435 HB; have NB431_435 := ng_ BK431 hg; have NB435_431 := ns_ (ng_ BK431 hg); have NB432_435 := ng_ BK432 hg; have NB435_432 := ns_ (ng_ BK432 hg); have NB433_435 := ng_ BK433 hg; have NB435_433 := ns_ (ng_ BK433 hg); have NB434_435 := ng_ BK434 hg; have NB435_434 := ns_ (ng_ BK434 hg); replace BK431 := bb_ BK431 hb; replace BK432 := bb_ BK432 hb; replace BK433 := bb_ BK433 hb; replace BK434 := bb_ BK434 hb; clear hb hg; have hnb12 := NB431_432.out; have hnc12 := NB432_431.out; have hnb13 := NB431_433.out; have hnc13 := NB433_431.out; have hnb14 := NB431_434.out; have hnc14 := NB434_431.out; have hnb15 := NB431_435.out; have hnc15 := NB435_431.out; obtain ⟨hcz16_0, hcz16_1, hfz16_0, hfz16_1⟩ := cz2_ BK431) | ((with_reducible refine gate_callee (f := 103) rfl ?_); refine goesL_ (some 15) rfl rfl Try.func103 (by kernel_rfl) rfl #[.agg #[.slice A0_0 l0_0.length c0_0, .slice A0_1 l0_1.length c0_1]] rfl al_ ?_; (with_reducible refine (impl_copyMem.calls k _ _ l0_0 _ _ l0_1 t436 t439 _ ?side1 ?side2 ?side3 ?side4 A5.out).mono ?_); (case side1 => exact cb_ (Kd.C_below HR0_0.out HB.out)); (case side2 => exact HC0_0.out); (case side3 => exact cb_ (Kd.C_below HR0_1.out HB.out)); (case side4 => exact HC0_1.out); rintro e w17 ⟨v437, v440, rfl, ho0, ho1, hb⟩; refine ⟨_, rfl, ?_⟩; have HO438 := A_ (Kd.R_lower (Kd.R_newM (M := fun k_ => (w.heap.size ≤ k_)) ho0 (below_size (hb_ HB)) (fun k_ h_ => h_)) (below_size (hb_ HB))); have HO441 := A_ (Kd.S_lower (Kd.S_mono (ok' := fun k_ => (w.heap.size ≤ k_) ∧ some k_ ≠ (v437 : Value).ownBlock ∧ k_ ≠ gb431 ∧ k_ ≠ gb432 ∧ k_ ≠ gb433 ∧ k_ ≠ gb434 ∧ k_ ≠ gb435) ((Kd.S_bound (Kd.S_apart' ho1 (Kd.R_typed ho0) (by decide)))) (fun k_ hk_ => ⟨(Nat.le_trans (below_size (hb_ HB)) hk_.2.1), hk_.1.2, (Kd.freshB (g := gb431) (o := .cells #[.slice A0_0 l0_0.length c0_0, .slice A0_1 l0_1.length c0_1] 31 (0, 0)) (bk_ BK431) k_ hk_.2.1), (Kd.freshB (g := gb432) (o := .cells #[.int .i64 a1] 3 (0, 0)) (bk_ BK432) k_ hk_.2.1), (Kd.freshB (g := gb433) (o := .cells #[.int .i64 a3_0, .slice A3_1 l3_1.length c3_1] 49 (0, 0)) (bk_ BK433) k_ hk_.2.1), (Kd.freshB (g := gb434) (o := .cells #[.slice none 0 0, .slice none 0 0] 31 (0, 0)) (bk_ BK434) k_ hk_.2.1), (Kd.freshB (g := gb435) (o := .cells #[.int .i64 0, .int .i64 0, .int .i64 0, .int .i64 0] 74 (0, 0)) (bk_ BK435) k_ hk_.2.1)⟩)) (below_size (hb_ HB))); replace BK431 := bb_ BK431 hb; replace BK432 := bb_ BK432 hb; replace BK433 := bb_ BK433 hb; replace BK434 := bb_ BK434 hb; replace BK435 := bb_ BK435 hb; replace HB := hs_ HB hb; (try clear hb); (try clear hb2); (try clear hk); (try clear hi); (try clear ho0); (try clear ho1)) | ((with_reducible refine gate_dst (N := 11) rfl ?_); (try (refine gate_guard (by rfl) ?_; dsimp only)); refine bx_ HB rfl (N := 11) rfl (cs := #[.slice none 0 0, .slice none 0 0]) (t := 31) hr_ ?_; clear HB; intro gb442 w18 hg hb BK442 GW442 HB; have NB431_442 := ng_ BK431 hg; have NB442_431 := ns_ (ng_ BK431 hg); have NB432_442 := ng_ BK432 hg; have NB442_432 := ns_ (ng_ BK432 hg); have NB433_442 := ng_ BK433 hg; have NB442_433 := ns_ (ng_ BK433 hg); have NB434_442 := ng_ BK434 hg; have NB442_434 := ns_ (ng_ BK434 hg); have NB435_442 := ng_ BK435 hg; have NB442_435 := ns_ (ng_ BK435 hg); replace HO438 := A_ (Kd.R_below (rb_ HO438.out) hb); replace HO441 := A_ (Kd.S_below (Kd.S_elderB (sb_ HO441.out) gb442 (Nat.le_of_eq hg.symm)) hb); replace BK431 := bb_ BK431 hb; replace BK432 := bb_ BK432 hb; replace BK433 := bb_ BK433 hb; replace BK434 := bb_ BK434 hb; replace BK435 := bb_ BK435 hb; clear hb hg; obtain ⟨Ao19, co19, eo19⟩ := Kd.R_slice HO438.out; subst eo19; have hnb20 := NB442_431.out; have hnc20 := NB431_442.out; have hnb21 := NB442_432.out; have hnc21 := NB432_442.out; have hnb22 := NB442_433.out; have hnc22 := NB433_442.out; have hnb23 := NB442_434.out; have hnc23 := NB434_442.out; have hnb24 := NB442_435.out; have hnc24 := NB435_442.out; obtain ⟨hcz25_0, hcz25_1, hfz25_0, hfz25_1⟩ := cz2_ BK442; obtain ⟨Ao26, co26, eo26⟩ := Kd.S_slice HO441.out; subst eo26))
 (try simp only [Act.put, List.setIfInBounds_toArray, List.set_cons_zero, List.set_cons_succ])
 go_cut [33] (fun v33 wc => ∃ (kq : Nat) (x33_5 : Bool), v33 = .bool x33_5 ∧ Aside0 (impl_Begin.j0 kq l2 x33_5 l0_0 l0_1 a1 a3_0 l3_1 t436 t439 = some (r1, r2, r3, r4, r5, r6, r7)) ∧ Aside0 (kq ≤ k) ∧ Aside0 (Kd.R k95 95 wc w.heap.size (fun k_ => (w.heap.size ≤ k_)) (.slice Ao19 t436.length co19) t436) ∧ Aside0 (Kd.S k119 119 wc w.heap.size (fun k_ => (w.heap.size ≤ k_) ∧ some k_ ≠ ((.slice Ao19 t436.length co19) : Value).ownBlock ∧ k_ ≠ gb431 ∧ k_ ≠ gb432 ∧ k_ ≠ gb433 ∧ k_ ≠ gb434 ∧ k_ ≠ gb435 ∧ k_ ≠ gb442) (.slice Ao26 t439.length co26) t439) ∧ Aside0 (wc.heap[gb431]? = some (.cells #[(.slice A0_0 l0_0.length c0_0), (.slice A0_1 l0_1.length c0_1)] 31 (0, 0))) ∧ Aside0 (wc.heap[gb432]? = some (.cells #[.int .i64 a1] 3 (0, 0))) ∧ Aside0 (wc.heap[gb433]? = some (.cells #[.int .i64 a3_0, (.slice A3_1 l3_1.length c3_1)] 49 (0, 0))) ∧ Aside0 (wc.heap[gb434]? = some (.cells #[(.slice none 0 0), (.slice none 0 0)] 31 (0, 0))) ∧ Aside0 (wc.heap[gb435]? = some (.cells #[.int .i64 0, .int .i64 0, .int .i64 0, .int .i64 0] 74 (0, 0))) ∧ Aside0 (wc.heap[gb442]? = some (.cells #[(.slice Ao19 t436.length co19), (.slice Ao26 t439.length co26)] 31 (0, 0))) ∧ Aside0 (Below w.heap.size w wc))
 case first =>
  have H := HC6.out
  clear HC6
  replace H := bs_ H
  obtain ⟨t443, A27, H⟩ := H
  by_cases c28 : t443 = true
  ·
   subst c28
   replace H := it_ H
   replace H := bs_ H
   obtain ⟨t444, A29, H⟩ := H
   by_cases c30 : t444 = true
   ·
    subst c30
    replace H := it_ H
    replace H := bs_ H
    obtain ⟨t445, A31, H⟩ := H
    replace H' := A_ H; clear H
    have hnb32 := NB431_432.out
    have hnc32 := NB432_431.out
    have hnb33 := NB431_433.out
    have hnc33 := NB433_431.out
    have hnb34 := NB431_434.out
    have hnc34 := NB434_431.out
    have hnb35 := NB431_435.out
    have hnc35 := NB435_431.out
    have hnb36 := NB431_442.out
    have hnc36 := NB442_431.out
    obtain ⟨hcz37_0, hcz37_1, hfz37_0, hfz37_1⟩ := cz2_ BK431
    go_wp2_with (first | ((with_reducible refine gate_callee (f := 58) rfl ?_); refine goesL_ (some 17) rfl rfl Try.func58 (by kernel_rfl) rfl #[.agg #[.slice A0_0 l0_0.length c0_0, .slice A0_1 l0_1.length c0_1]] rfl al_ ?_; (with_reducible refine (impl_MemOk.calls k _ _ l0_0 _ _ l0_1 true _ ?side1 ?side2 ?side3 ?side4 A27.out).mono ?_); (case side1 => exact Kd.C_below HR0_0.out (hb_ HB)); (case side2 => exact HC0_0.out); (case side3 => exact Kd.C_below HR0_1.out (hb_ HB)); (case side4 => exact HC0_1.out); rintro e w38 ⟨rfl, hb⟩; refine ⟨_, rfl, ?_⟩; replace HO438 := A_ (Kd.R_below (by (with_reducible repeat (first | apply Kd.R_alloc | apply Kd.R_drewN | apply Kd.R_drew)); exact (Kd.R_mono (Kd.R_far (p := ⟨gb442, 1, none⟩) (Kd.R_far (p := ⟨gb442, 0, none⟩) (Kd.R_types HO438.out BK442.out (by decide)) (fun _ hk => hk.2) (.slice Ao19 t436.length co19)) (fun _ hk => hk.2) (.slice Ao26 t439.length co26)) (fun _ h_ => h_.1))) hb); replace HO441 := A_ (Kd.S_below (by (with_reducible repeat (first | apply Kd.S_alloc | apply Kd.S_drewN | apply Kd.S_drew)); exact (Kd.S_mono (Kd.S_far (p := ⟨gb442, 1, none⟩) (Kd.S_far (p := ⟨gb442, 0, none⟩) (Kd.S_mono HO441.out (fun k_ hk => (⟨hk, hk.2⟩ : _ ∧ k_ ≠ gb442))) (fun _ hk => hk.2) (.slice Ao19 t436.length co19)) (fun _ hk => hk.2) (.slice Ao26 t439.length co26)) (fun _ h_ => h_.1))) hb); replace BK431 := bb_ BK431 hb; replace BK432 := bb_ BK432 hb; replace BK433 := bb_ BK433 hb; replace BK434 := bb_ BK434 hb; replace BK435 := bb_ BK435 hb; replace BK442 := bq_ (o' := .cells #[.slice Ao19 t436.length co19, .slice Ao26 t439.length co26] 31 (0, 0)) BK442 hb; replace HB := hs_ HB hb; (try clear hb); (try clear hb2); (try clear hk); (try clear hi); have hnb39 := NB432_433.out; have hnc39 := NB433_432.out; have hnb40 := NB432_434.out; have hnc40 := NB434_432.out; have hnb41 := NB432_435.out; have hnc41 := NB435_432.out; have hnb42 := NB432_442.out; have hnc42 := NB442_432.out; obtain ⟨hcz43_0, hfz43_0⟩ := cz1_ BK432; obtain ⟨hcz44_0, hcz44_1, hfz44_0, hfz44_1⟩ := cz2_ BK431) | (go_at_call 93; (with_reducible refine (impl_from.calls a1 0 (wrap64 ((l0_1.length : Int) - 1)) true _ A29.out).mono ?_); rintro e w' ⟨rfl, ⟨nd, rfl⟩⟩) | (go_at_call 59; (with_reducible refine (slices_ContainsFuncBegin_c1.calls k _ _ l0_0 a1 ⟨gb432, 0, none⟩ t445 _ ?cap_ ?side1 ?side2 A31.out).mono ?_); (case cap_ => exact (blk_cell (bk_ BK432) 0).trans rfl); (case side1 => exact cb_ (Kd.C_below HR0_0.out (hb_ HB))); (case side2 => exact HC0_0.out); rintro e w45 ⟨rfl, hb⟩; replace HO438 := A_ (Kd.R_below (rb_ HO438.out) hb); replace HO441 := A_ (Kd.S_below (sb_ HO441.out) hb); replace BK431 := bb_ BK431 hb; replace BK432 := bb_ BK432 hb; replace BK433 := bb_ BK433 hb; replace BK434 := bb_ BK434 hb; replace BK435 := bb_ BK435 hb; replace BK442 := bb_ BK442 hb; replace HB := hs_ HB hb; (try clear hb); (try clear hb2); (try clear hk); (try clear hi)))
    go_meet
    case rel => exact ⟨_, (t445), rt_, H', ⟨by first | omega | exact Nat.le_refl _⟩, ⟨by (with_reducible repeat (first | apply Kd.R_alloc | apply Kd.R_drewN | apply Kd.R_drew)); exact Kd.R_mono HO438.out (fun _ hk => hk.1)⟩, ⟨by (with_reducible repeat (first | apply Kd.S_alloc | apply Kd.S_drewN | apply Kd.S_drew)); exact Kd.S_mono HO441.out (fun _ hk => ⟨hk.1.1, ⟨hk.1.2.1, ⟨hk.1.2.2.1, ⟨hk.1.2.2.2.1, ⟨hk.1.2.2.2.2.1, ⟨hk.1.2.2.2.2.2.1, ⟨hk.1.2.2.2.2.2.2, hk.2⟩⟩⟩⟩⟩⟩⟩)⟩, ⟨bk_ BK431⟩, ⟨bk_ BK432⟩, ⟨bk_ BK433⟩, ⟨bk_ BK434⟩, ⟨bk_ BK435⟩, ⟨bk_ BK442⟩, ⟨hb_ HB⟩⟩
   obtain rfl := Bool.eq_false_iff.mpr c30
   replace H := iF_ H
   replace H' := A_ H; clear H
   have hnb46 := NB431_432.out
   have hnc46 := NB432_431.out
   have hnb47 := NB431_433.out
   have hnc47 := NB433_431.out
   have hnb48 := NB431_434.out
   have hnc48 := NB434_431.out
   have hnb49 := NB431_435.out
   have hnc49 := NB435_431.out
   have hnb50 := NB431_442.out
   have hnc50 := NB442_431.out
   obtain ⟨hcz51_0, hcz51_1, hfz51_0, hfz51_1⟩ := cz2_ BK431
   go_wp2_with (first | ((with_reducible refine gate_callee (f := 58) rfl ?_); refine goesL_ (some 17) rfl rfl Try.func58 (by kernel_rfl) rfl #[.agg #[.slice A0_0 l0_0.length c0_0, .slice A0_1 l0_1.length c0_1]] rfl al_ ?_; (with_reducible refine (impl_MemOk.calls k _ _ l0_0 _ _ l0_1 true _ ?side1 ?side2 ?side3 ?side4 A27.out).mono ?_); (case side1 => exact Kd.C_below HR0_0.out (hb_ HB)); (case side2 => exact HC0_0.out); (case side3 => exact Kd.C_below HR0_1.out (hb_ HB)); (case side4 => exact HC0_1.out); rintro e w52 ⟨rfl, hb⟩; refine ⟨_, rfl, ?_⟩; replace HO438 := A_ (Kd.R_below (by (with_reducible repeat (first | apply Kd.R_alloc | apply Kd.R_drewN | apply Kd.R_drew)); exact (Kd.R_mono (Kd.R_far (p := ⟨gb442, 1, none⟩) (Kd.R_far (p := ⟨gb442, 0, none⟩) (Kd.R_types HO438.out BK442.out (by decide)) (fun _ hk => hk.2) (.slice Ao19 t436.length co19)) (fun _ hk => hk.2) (.slice Ao26 t439.length co26)) (fun _ h_ => h_.1))) hb); replace HO441 := A_ (Kd.S_below (by (with_reducible repeat (first | apply Kd.S_alloc | apply Kd.S_drewN | apply Kd.S_drew)); exact (Kd.S_mono (Kd.S_far (p := ⟨gb442, 1, none⟩) (Kd.S_far (p := ⟨gb442, 0, none⟩) (Kd.S_mono HO441.out (fun k_ hk => (⟨hk, hk.2⟩ : _ ∧ k_ ≠ gb442))) (fun _ hk => hk.2) (.slice Ao19 t436.length co19)) (fun _ hk => hk.2) (.slice Ao26 t439.length co26)) (fun _ h_ => h_.1))) hb); replace BK431 := bb_ BK431 hb; replace BK432 := bb_ BK432 hb; replace BK433 := bb_ BK433 hb; replace BK434 := bb_ BK434 hb; replace BK435 := bb_ BK435 hb; replace BK442 := bq_ (o' := .cells #[.slice Ao19 t436.length co19, .slice Ao26 t439.length co26] 31 (0, 0)) BK442 hb; replace HB := hs_ HB hb; (try clear hb); (try clear hb2); (try clear hk); (try clear hi); have hnb53 := NB432_433.out; have hnc53 := NB433_432.out; have hnb54 := NB432_434.out; have hnc54 := NB434_432.out; have hnb55 := NB432_435.out; have hnc55 := NB435_432.out; have hnb56 := NB432_442.out; have hnc56 := NB442_432.out; obtain ⟨hcz57_0, hfz57_0⟩ := cz1_ BK432; obtain ⟨hcz58_0, hcz58_1, hfz58_0, hfz58_1⟩ := cz2_ BK431) | (go_at_call 93; (with_reducible refine (impl_from.calls a1 0 (wrap64 ((l0_1.length : Int) - 1)) false _ A29.out).mono ?_); rintro e w' ⟨rfl, ⟨nd, rfl⟩⟩))
   go_meet
   case rel => exact ⟨_, (true), rt_, H', ⟨by first | omega | exact Nat.le_refl _⟩, ⟨by (with_reducible repeat (first | apply Kd.R_alloc | apply Kd.R_drewN | apply Kd.R_drew)); exact Kd.R_mono HO438.out (fun _ hk => hk.1)⟩, ⟨by (with_reducible repeat (first | apply Kd.S_alloc | apply Kd.S_drewN | apply Kd.S_drew)); exact Kd.S_mono HO441.out (fun _ hk => ⟨hk.1.1, ⟨hk.1.2.1, ⟨hk.1.2.2.1, ⟨hk.1.2.2.2.1, ⟨hk.1.2.2.2.2.1, ⟨hk.1.2.2.2.2.2.1, ⟨hk.1.2.2.2.2.2.2, hk.2⟩⟩⟩⟩⟩⟩⟩)⟩, ⟨bk_ BK431⟩, ⟨bk_ BK432⟩, ⟨bk_ BK433⟩, ⟨bk_ BK434⟩, ⟨bk_ BK435⟩, ⟨bk_ BK442⟩, ⟨hb_ HB⟩⟩
  obtain rfl := Bool.eq_false_iff.mpr c28
  replace H := iF_ H
  replace H' := A_ H; clear H
  have hnb59 := NB431_432.out
  have hnc59 := NB432_431.out
  have hnb60 := NB431_433.out
  have hnc60 := NB433_431.out
  have hnb61 := NB431_434.out
  have hnc61 := NB434_431.out
  have hnb62 := NB431_435.out
  have hnc62 := NB435_431.out
  have hnb63 := NB431_442.out
  have hnc63 := NB442_431.out
  obtain ⟨hcz64_0, hcz64_1, hfz64_0, hfz64_1⟩ := cz2_ BK431
  go_wp2_with (first | ((with_reducible refine gate_callee (f := 58) rfl ?_); refine goesL_ (some 17) rfl rfl Try.func58 (by kernel_rfl) rfl #[.agg #[.slice A0_0 l0_0.length c0_0, .slice A0_1 l0_1.length c0_1]] rfl al_ ?_; (with_reducible refine (impl_MemOk.calls k _ _ l0_0 _ _ l0_1 false _ ?side1 ?side2 ?side3 ?side4 A27.out).mono ?_); (case side1 => exact Kd.C_below HR0_0.out (hb_ HB)); (case side2 => exact HC0_0.out); (case side3 => exact Kd.C_below HR0_1.out (hb_ HB)); (case side4 => exact HC0_1.out); rintro e w65 ⟨rfl, hb⟩; refine ⟨_, rfl, ?_⟩; replace HO438 := A_ (Kd.R_below (by (with_reducible repeat (first | apply Kd.R_alloc | apply Kd.R_drewN | apply Kd.R_drew)); exact (Kd.R_mono (Kd.R_far (p := ⟨gb442, 1, none⟩) (Kd.R_far (p := ⟨gb442, 0, none⟩) (Kd.R_types HO438.out BK442.out (by decide)) (fun _ hk => hk.2) (.slice Ao19 t436.length co19)) (fun _ hk => hk.2) (.slice Ao26 t439.length co26)) (fun _ h_ => h_.1))) hb); replace HO441 := A_ (Kd.S_below (by (with_reducible repeat (first | apply Kd.S_alloc | apply Kd.S_drewN | apply Kd.S_drew)); exact (Kd.S_mono (Kd.S_far (p := ⟨gb442, 1, none⟩) (Kd.S_far (p := ⟨gb442, 0, none⟩) (Kd.S_mono HO441.out (fun k_ hk => (⟨hk, hk.2⟩ : _ ∧ k_ ≠ gb442))) (fun _ hk => hk.2) (.slice Ao19 t436.length co19)) (fun _ hk => hk.2) (.slice Ao26 t439.length co26)) (fun _ h_ => h_.1))) hb); replace BK431 := bb_ BK431 hb; replace BK432 := bb_ BK432 hb; replace BK433 := bb_ BK433 hb; replace BK434 := bb_ BK434 hb; replace BK435 := bb_ BK435 hb; replace BK442 := bq_ (o' := .cells #[.slice Ao19 t436.length co19, .slice Ao26 t439.length co26] 31 (0, 0)) BK442 hb; replace HB := hs_ HB hb; (try clear hb); (try clear hb2); (try clear hk); (try clear hi)))
  go_meet
  case rel => exact ⟨_, (true), rt_, H', ⟨by first | omega | exact Nat.le_refl _⟩, ⟨by (with_reducible repeat (first | apply Kd.R_alloc | apply Kd.R_drewN | apply Kd.R_drew)); exact Kd.R_mono HO438.out (fun _ hk => hk.1)⟩, ⟨by (with_reducible repeat (first | apply Kd.S_alloc | apply Kd.S_drewN | apply Kd.S_drew)); exact Kd.S_mono HO441.out (fun _ hk => ⟨hk.1.1, ⟨hk.1.2.1, ⟨hk.1.2.2.1, ⟨hk.1.2.2.2.1, ⟨hk.1.2.2.2.2.1, ⟨hk.1.2.2.2.2.2.1, ⟨hk.1.2.2.2.2.2.2, hk.2⟩⟩⟩⟩⟩⟩⟩)⟩, ⟨bk_ BK431⟩, ⟨bk_ BK432⟩, ⟨bk_ BK433⟩, ⟨bk_ BK434⟩, ⟨bk_ BK435⟩, ⟨bk_ BK442⟩, ⟨hb_ HB⟩⟩
 case rest =>
  clear HC6
  try clear c2
  try clear c28
  try clear c30
  obtain ⟨kq, x33_5, rfl, HA, HJ5, HO_443000, HO_443001, BK431, BK432, BK433, BK434, BK435, BK442, HB⟩ := hcut
  cases kq with
  | zero => exact absurd HA.out (by simp [impl_Begin.j0])
  | succ kj5 =>
   have H := HA.out
   clear HA
   simp only [impl_Begin.j0] at H
   by_cases c66 : x33_5 = true
   ·
    subst c66
    replace H := it_ H
    simp only [Option.some.injEq, Prod.mk.injEq] at H
    obtain ⟨rfl, rfl, rfl, rfl, rfl, rfl, rfl⟩ := H
    have hnb67 := NB442_431.out
    have hnc67 := NB431_442.out
    have hnb68 := NB442_432.out
    have hnc68 := NB432_442.out
    have hnb69 := NB442_433.out
    have hnc69 := NB433_442.out
    have hnb70 := NB442_434.out
    have hnc70 := NB434_442.out
    have hnb71 := NB442_435.out
    have hnc71 := NB435_442.out
    obtain ⟨hcz72_0, hcz72_1, hfz72_0, hfz72_1⟩ := cz2_ BK442
    have hnb73 := NB434_431.out
    have hnc73 := NB431_434.out
    have hnb74 := NB434_432.out
    have hnc74 := NB432_434.out
    have hnb75 := NB434_433.out
    have hnc75 := NB433_434.out
    have hnb76 := NB434_435.out
    have hnc76 := NB435_434.out
    obtain ⟨hcz77_0, hcz77_1, hfz77_0, hfz77_1⟩ := cz2_ BK434
    have hnb78 := NB435_431.out
    have hnc78 := NB431_435.out
    have hnb79 := NB435_432.out
    have hnc79 := NB432_435.out
    have hnb80 := NB435_433.out
    have hnc80 := NB433_435.out
    obtain ⟨hcz81_0, hcz81_1, hcz81_2, hcz81_3, hfz81_0, hfz81_1, hfz81_2, hfz81_3⟩ := cz4_ BK435
    go_wp2
    refine bodyPost_ret (results_list (rs := [.cell 8 31, .cell 9 74, .tmp 10]) rfl (by simp) (.cell gb434 31 #[.slice Ao19 t436.length co19, .slice Ao26 t439.length co26] (0, 0) _ rfl (bp_ BK434) Try.underlying31 rfl (by kernel_rfl) (.cell gb435 74 #[.int .i64 0, .int .i64 0, .int .i64 0, .int .i64 0] (0, 0) _ rfl (bp_ BK435) Try.underlying74 rfl (by kernel_rfl) (.tmp .nil)))) rfl ?_
    exact ⟨_, _, rs_, by (with_reducible repeat (first | apply Kd.R_alloc | apply Kd.R_drewN | apply Kd.R_drew)); exact Kd.R_mono (Kd.R_far (p := ⟨gb435, 3, none⟩) (Kd.R_far (p := ⟨gb435, 2, none⟩) (Kd.R_far (p := ⟨gb435, 1, none⟩) (Kd.R_far (p := ⟨gb435, 0, none⟩) (Kd.R_far (p := ⟨gb434, 1, none⟩) (Kd.R_far (p := ⟨gb434, 0, none⟩) (Kd.R_types (Kd.R_types HO_443000.out BK434.out (by decide)) BK435.out (by decide)) (fun _ hk => hk.1.2) (.slice Ao19 t436.length co19)) (fun _ hk => hk.1.2) (.slice Ao26 t439.length co26)) (fun _ hk => hk.2) (.int .i64 0)) (fun _ hk => hk.2) (.int .i64 0)) (fun _ hk => hk.2) (.int .i64 0)) (fun _ hk => hk.2) (.int .i64 0)) (fun _ hk => hk.1.1), by (with_reducible repeat (first | apply Kd.S_alloc | apply Kd.S_drewN | apply Kd.S_drew)); exact Kd.S_mono (Kd.S_far (p := ⟨gb435, 3, none⟩) (Kd.S_far (p := ⟨gb435, 2, none⟩) (Kd.S_far (p := ⟨gb435, 1, none⟩) (Kd.S_far (p := ⟨gb435, 0, none⟩) (Kd.S_far (p := ⟨gb434, 1, none⟩) (Kd.S_far (p := ⟨gb434, 0, none⟩) (Kd.S_mono (Kd.S_mono HO_443001.out (fun k_ hk => (⟨hk, hk.2.2.2.2.2.1⟩ : _ ∧ k_ ≠ gb434))) (fun k_ hk => (⟨hk, hk.1.2.2.2.2.2.2.1⟩ : _ ∧ k_ ≠ gb435))) (fun _ hk => hk.1.2) (.slice Ao19 t436.length co19)) (fun _ hk => hk.1.2) (.slice Ao26 t439.length co26)) (fun _ hk => hk.2) (.int .i64 0)) (fun _ hk => hk.2) (.int .i64 0)) (fun _ hk => hk.2) (.int .i64 0)) (fun _ hk => hk.2) (.int .i64 0)) (fun _ hk => ⟨hk.1.1.1, hk.1.1.2.1⟩), hb_ HB⟩
   obtain rfl := Bool.eq_false_iff.mpr c66
   replace H := iF_ H
   replace H := ix_ H
   obtain ⟨c82b0, H⟩ := H
   replace H := ix_ H
   obtain ⟨c83b0, H⟩ := H
   replace H := bs_ H
   obtain ⟨⟨t447, t450⟩, A84, H⟩ := H
   dsimp only at H
   replace H := bs_ H
   obtain ⟨t454, A85, H⟩ := H
   replace H := bs_ H
   obtain ⟨⟨t457, t458⟩, A86, H⟩ := H
   dsimp only at H
   replace H := ix_ H
   obtain ⟨c87b0, H⟩ := H
   obtain ⟨y461, hy461⟩ : ∃ y_ : List (S119), y_ = (t450.set (a1 : Int).toNat (⟨wrap64 (((rd_T119 l0_1 a1).f0) + 1), 1, t454, (⟨t457, t458⟩ : S49)⟩ : S119)) := ⟨_, rfl⟩
   replace H : ((impl_MemOk.f kj5 t447 y461).bind fun t462 => (if t462 = true then (some (t447, y461, a1, wrap64 (((rd_T119 l0_1 a1).f0) + 1), 0, 0, true)) else (some (t436, t439, 0, 0, 0, 0, false)))) = some (r1, r2, r3, r4, r5, r6, r7) := by first | (rw [hy461]; with_reducible exact H) | (have H2_ := (Option.bind_some _ _).symm.trans H; rw [hy461]; with_reducible exact H2_) | (have H2_ := (Option.bind_some _ _).symm.trans H; with_reducible exact H2_) | with_reducible exact H | (rw [hy461]; exact H) | exact H
   have Ny461 := A_ hy461
   clear hy461
   replace H := bs_ H
   obtain ⟨t462, A89, H⟩ := H
   have HC_ := A_ H
   clear H
   have hnb91 := NB431_432.out
   have hnc91 := NB432_431.out
   have hnb92 := NB431_433.out
   have hnc92 := NB433_431.out
   have hnb93 := NB431_434.out
   have hnc93 := NB434_431.out
   have hnb94 := NB431_435.out
   have hnc94 := NB435_431.out
   have hnb95 := NB431_442.out
   have hnc95 := NB442_431.out
   obtain ⟨hcz96_0, hcz96_1, hfz96_0, hfz96_1⟩ := cz2_ BK431
   have hnb97 := NB432_433.out
   have hnc97 := NB433_432.out
   have hnb98 := NB432_434.out
   have hnc98 := NB434_432.out
   have hnb99 := NB432_435.out
   have hnc99 := NB435_432.out
   have hnb100 := NB432_442.out
   have hnc100 := NB442_432.out
   obtain ⟨hcz101_0, hfz101_0⟩ := cz1_ BK432
   obtain ⟨ad446, A446_2, c446_2, A446_4, c446_4, p446, q446, rfl, hx446_0, hx446_1, hx446_2, hx446_3, hx446_4, HC446_2, HR446_2, HC446_4, HR446_4⟩ := ab_T119 HB HR0_1 a1
   try go_wp2_with (first | ((with_reducible refine gate_callee (f := 103) rfl ?_); refine goesL_ (some 44) rfl rfl Try.func103 (by kernel_rfl) rfl #[.agg #[.slice A0_0 l0_0.length c0_0, .slice (some ad446) l0_1.length c0_1]] rfl al_ ?_; (with_reducible refine (impl_copyMem.calls kj5 _ _ l0_0 _ _ l0_1 t447 t450 _ ?side1 ?side2 ?side3 ?side4 A84.out).mono ?_); (case side1 => exact cb_ (Kd.C_below HR0_0.out HB.out)); (case side2 => exact HC0_0.out); (case side3 => exact cb_ (Kd.C_below HR0_1.out HB.out)); (case side4 => exact HC0_1.out); rintro e w102 ⟨v448, v451, rfl, ho0, ho1, hb⟩; refine ⟨_, rfl, ?_⟩; have HO449 := A_ (Kd.R_lower (Kd.R_new' (Kd.R_newM (M := fun k_ => (w.heap.size ≤ k_)) ho0 (below_size (hb_ HB)) (fun k_ h_ => h_)) (Kd.R_lt (rb_ HO_443000.out))) (below_size (hb_ HB))); have HO452 := A_ (Kd.S_lower (Kd.S_mono (ok' := fun k_ => (w.heap.size ≤ k_) ∧ some k_ ≠ (v448 : Value).ownBlock ∧ some k_ ≠ (.slice Ao19 t436.length co19 : Value).ownBlock ∧ some k_ ≠ (.slice Ao26 t439.length co26 : Value).ownBlock ∧ k_ ≠ gb431 ∧ k_ ≠ gb432 ∧ k_ ≠ gb433 ∧ k_ ≠ gb434 ∧ k_ ≠ gb435 ∧ k_ ≠ gb442) ((Kd.S_bound (Kd.S_apart' ho1 (Kd.R_typed ho0) (by decide)))) (fun k_ hk_ => ⟨(Nat.le_trans (below_size (hb_ HB)) hk_.2.1), hk_.1.2, (Kd.fresh' (Kd.R_lt (rb_ HO_443000.out)) k_ hk_.2.1), (Kd.fresh' (Kd.S_lt (sb_ HO_443001.out)) k_ hk_.2.1), (Kd.freshB (g := gb431) (o := .cells #[.slice A0_0 l0_0.length c0_0, .slice (some ad446) l0_1.length c0_1] 31 (0, 0)) (bk_ BK431) k_ hk_.2.1), (Kd.freshB (g := gb432) (o := .cells #[.int .i64 a1] 3 (0, 0)) (bk_ BK432) k_ hk_.2.1), (Kd.freshB (g := gb433) (o := .cells #[.int .i64 a3_0, .slice A3_1 l3_1.length c3_1] 49 (0, 0)) (bk_ BK433) k_ hk_.2.1), (Kd.freshB (g := gb434) (o := .cells #[.slice none 0 0, .slice none 0 0] 31 (0, 0)) (bk_ BK434) k_ hk_.2.1), (Kd.freshB (g := gb435) (o := .cells #[.int .i64 0, .int .i64 0, .int .i64 0, .int .i64 0] 74 (0, 0)) (bk_ BK435) k_ hk_.2.1), (Kd.freshB (g := gb442) (o := .cells #[.slice Ao19 t436.length co19, .slice Ao26 t439.length co26] 31 (0, 0)) (bk_ BK442) k_ hk_.2.1)⟩)) (below_size (hb_ HB))); replace HO_443000 := A_ (Kd.R_elder' (rb_ HO_443000.out) (Kd.R_base ho0) hb); replace HO_443001 := A_ (Kd.S_mono (Kd.S_told (Kd.S_told (Kd.S_old (sb_ HO_443001.out) hb) (Kd.R_base ho0)) (Kd.S_base ho1)) (fun _ h_ => h_.1)); replace BK431 := bb_ BK431 hb; replace BK432 := bb_ BK432 hb; replace BK433 := bb_ BK433 hb; replace BK434 := bb_ BK434 hb; replace BK435 := bb_ BK435 hb; replace BK442 := bb_ BK442 hb; replace HB := hs_ HB hb; (try clear hb); (try clear hb2); (try clear hk); (try clear hi); (try clear ho0); (try clear ho1)) | ((with_reducible refine gate_dst (N := 13) rfl ?_); (try (refine gate_guard (by rfl) ?_; dsimp only)); refine bx_ HB rfl (N := 13) rfl (cs := #[.slice none 0 0, .slice none 0 0]) (t := 31) hr_ ?_; clear HB; intro gb453 w103 hg hb BK453 GW453 HB; have NB431_453 := ng_ BK431 hg; have NB453_431 := ns_ (ng_ BK431 hg); have NB432_453 := ng_ BK432 hg; have NB453_432 := ns_ (ng_ BK432 hg); have NB433_453 := ng_ BK433 hg; have NB453_433 := ns_ (ng_ BK433 hg); have NB434_453 := ng_ BK434 hg; have NB453_434 := ns_ (ng_ BK434 hg); have NB435_453 := ng_ BK435 hg; have NB453_435 := ns_ (ng_ BK435 hg); have NB442_453 := ng_ BK442 hg; have NB453_442 := ns_ (ng_ BK442 hg); replace HO_443000 := A_ (Kd.R_below (rb_ HO_443000.out) hb); replace HO_443001 := A_ (Kd.S_below (Kd.S_elderB (sb_ HO_443001.out) gb453 (Nat.le_of_eq hg.symm)) hb); replace HO449 := A_ (Kd.R_below (rb_ HO449.out) hb); replace HO452 := A_ (Kd.S_below (Kd.S_elderB (sb_ HO452.out) gb453 (Nat.le_of_eq hg.symm)) hb); replace BK431 := bb_ BK431 hb; replace BK432 := bb_ BK432 hb; replace BK433 := bb_ BK433 hb; replace BK434 := bb_ BK434 hb; replace BK435 := bb_ BK435 hb; replace BK442 := bb_ BK442 hb; clear hb hg; obtain ⟨Ao104, co104, eo104⟩ := Kd.R_slice HO449.out; subst eo104; have hnb105 := NB453_431.out; have hnc105 := NB431_453.out; have hnb106 := NB453_432.out; have hnc106 := NB432_453.out; have hnb107 := NB453_433.out; have hnc107 := NB433_453.out; have hnb108 := NB453_434.out; have hnc108 := NB434_453.out; have hnb109 := NB453_435.out; have hnc109 := NB435_453.out; have hnb110 := NB453_442.out; have hnc110 := NB442_453.out; obtain ⟨hcz111_0, hcz111_1, hfz111_0, hfz111_1⟩ := cz2_ BK453; obtain ⟨Ao112, co112, eo112⟩ := Kd.S_slice HO452.out; subst eo112))
   have n0_ : Aside0 (Kd.R k95 95 ((w103.setCell ⟨gb453, 0, none⟩ (.slice Ao104 t447.length co104)).setCell ⟨gb453, 1, none⟩ (.slice Ao112 t450.length co112)) w.heap.size (fun k_ => (w.heap.size ≤ k_) ∧ some k_ ≠ (.slice Ao104 t447.length co104 : Value).ownBlock) (.slice Ao19 t436.length co19) t436) := ⟨by (with_reducible repeat (first | apply Kd.R_alloc | apply Kd.R_drewN | apply Kd.R_drew)); exact Kd.R_mono (Kd.R_far (p := ⟨gb453, 1, none⟩) (Kd.R_far (p := ⟨gb453, 0, none⟩) (Kd.R_types HO_443000.out BK453.out (by decide)) (fun _ hk => hk.2) (.slice Ao104 t447.length co104)) (fun _ hk => hk.2) (.slice Ao112 t450.length co112)) (fun _ hk => ⟨hk.1.1, hk.1.2⟩)⟩
   have n1_ : Aside0 (Kd.S k119 119 ((w103.setCell ⟨gb453, 0, none⟩ (.slice Ao104 t447.length co104)).setCell ⟨gb453, 1, none⟩ (.slice Ao112 t450.length co112)) w.heap.size (fun k_ => (w.heap.size ≤ k_) ∧ some k_ ≠ (.slice Ao19 t436.length co19 : Value).ownBlock ∧ some k_ ≠ (.slice Ao104 t447.length co104 : Value).ownBlock ∧ some k_ ≠ (.slice Ao112 t450.length co112 : Value).ownBlock ∧ k_ ≠ gb431 ∧ k_ ≠ gb432 ∧ k_ ≠ gb433 ∧ k_ ≠ gb434 ∧ k_ ≠ gb435 ∧ k_ ≠ gb442 ∧ k_ ≠ gb453) (.slice Ao26 t439.length co26) t439) := ⟨by (with_reducible repeat (first | apply Kd.S_alloc | apply Kd.S_drewN | apply Kd.S_drew)); exact Kd.S_mono (Kd.S_far (p := ⟨gb453, 1, none⟩) (Kd.S_far (p := ⟨gb453, 0, none⟩) (Kd.S_mono HO_443001.out (fun k_ hk => (⟨hk, hk.2⟩ : _ ∧ k_ ≠ gb453))) (fun _ hk => hk.2) (.slice Ao104 t447.length co104)) (fun _ hk => hk.2) (.slice Ao112 t450.length co112)) (fun _ hk => ⟨hk.1.1.1.1.1, ⟨hk.1.1.1.1.2.1, ⟨hk.1.1.1.2, ⟨hk.1.1.2, ⟨hk.1.1.1.1.2.2.1, ⟨hk.1.1.1.1.2.2.2.1, ⟨hk.1.1.1.1.2.2.2.2.1, ⟨hk.1.1.1.1.2.2.2.2.2.1, ⟨hk.1.1.1.1.2.2.2.2.2.2.1, ⟨hk.1.1.1.1.2.2.2.2.2.2.2, hk.1.2⟩⟩⟩⟩⟩⟩⟩⟩⟩⟩)⟩
   have n2_ : Aside0 (Kd.R k95 95 ((w103.setCell ⟨gb453, 0, none⟩ (.slice Ao104 t447.length co104)).setCell ⟨gb453, 1, none⟩ (.slice Ao112 t450.length co112)) w.heap.size (fun k_ => (w.heap.size ≤ k_) ∧ some k_ ≠ (.slice Ao19 t436.length co19 : Value).ownBlock) (.slice Ao104 t447.length co104) t447) := ⟨by (with_reducible repeat (first | apply Kd.R_alloc | apply Kd.R_drewN | apply Kd.R_drew)); exact Kd.R_mono (Kd.R_far (p := ⟨gb453, 1, none⟩) (Kd.R_far (p := ⟨gb453, 0, none⟩) (Kd.R_types HO449.out BK453.out (by decide)) (fun _ hk => hk.2) (.slice Ao104 t447.length co104)) (fun _ hk => hk.2) (.slice Ao112 t450.length co112)) (fun _ hk => ⟨hk.1.1.1, hk.1.2⟩)⟩
   have n3_ : Aside0 (Kd.S k119 119 ((w103.setCell ⟨gb453, 0, none⟩ (.slice Ao104 t447.length co104)).setCell ⟨gb453, 1, none⟩ (.slice Ao112 t450.length co112)) w.heap.size (fun k_ => (w.heap.size ≤ k_) ∧ some k_ ≠ (.slice Ao19 t436.length co19 : Value).ownBlock ∧ some k_ ≠ (.slice Ao26 t439.length co26 : Value).ownBlock ∧ some k_ ≠ (.slice Ao104 t447.length co104 : Value).ownBlock ∧ k_ ≠ gb431 ∧ k_ ≠ gb432 ∧ k_ ≠ gb433 ∧ k_ ≠ gb434 ∧ k_ ≠ gb435 ∧ k_ ≠ gb442 ∧ k_ ≠ gb453) (.slice Ao112 t450.length co112) t450) := ⟨by (with_reducible repeat (first | apply Kd.S_alloc | apply Kd.S_drewN | apply Kd.S_drew)); exact Kd.S_mono (Kd.S_far (p := ⟨gb453, 1, none⟩) (Kd.S_far (p := ⟨gb453, 0, none⟩) (Kd.S_mono HO452.out (fun k_ hk => (⟨hk, hk.2⟩ : _ ∧ k_ ≠ gb453))) (fun _ hk => hk.2) (.slice Ao104 t447.length co104)) (fun _ hk => hk.2) (.slice Ao112 t450.length co112)) (fun _ hk => ⟨hk.1.1.1, ⟨hk.1.1.2.2.1, ⟨hk.1.1.2.2.2.1, ⟨hk.1.1.2.1, ⟨hk.1.1.2.2.2.2.1, ⟨hk.1.1.2.2.2.2.2.1, ⟨hk.1.1.2.2.2.2.2.2.1, ⟨hk.1.1.2.2.2.2.2.2.2.1, ⟨hk.1.1.2.2.2.2.2.2.2.2.1, ⟨hk.1.1.2.2.2.2.2.2.2.2.2, hk.1.2⟩⟩⟩⟩⟩⟩⟩⟩⟩⟩)⟩
   have n4_ : Aside0 (((w103.setCell ⟨gb453, 0, none⟩ (.slice Ao104 t447.length co104)).setCell ⟨gb453, 1, none⟩ (.slice Ao112 t450.length co112)).heap[gb431]? = some (.cells #[.slice A0_0 l0_0.length c0_0, .slice (some ad446) l0_1.length c0_1] 31 (0, 0))) := ⟨bk_ BK431⟩
   have n5_ : Aside0 (((w103.setCell ⟨gb453, 0, none⟩ (.slice Ao104 t447.length co104)).setCell ⟨gb453, 1, none⟩ (.slice Ao112 t450.length co112)).heap[gb432]? = some (.cells #[.int .i64 a1] 3 (0, 0))) := ⟨bk_ BK432⟩
   have n6_ : Aside0 (((w103.setCell ⟨gb453, 0, none⟩ (.slice Ao104 t447.length co104)).setCell ⟨gb453, 1, none⟩ (.slice Ao112 t450.length co112)).heap[gb433]? = some (.cells #[.int .i64 a3_0, .slice A3_1 l3_1.length c3_1] 49 (0, 0))) := ⟨bk_ BK433⟩
   have n7_ : Aside0 (((w103.setCell ⟨gb453, 0, none⟩ (.slice Ao104 t447.length co104)).setCell ⟨gb453, 1, none⟩ (.slice Ao112 t450.length co112)).heap[gb434]? = some (.cells #[.slice none 0 0, .slice none 0 0] 31 (0, 0))) := ⟨bk_ BK434⟩
   have n8_ : Aside0 (((w103.setCell ⟨gb453, 0, none⟩ (.slice Ao104 t447.length co104)).setCell ⟨gb453, 1, none⟩ (.slice Ao112 t450.length co112)).heap[gb435]? = some (.cells #[.int .i64 0, .int .i64 0, .int .i64 0, .int .i64 0] 74 (0, 0))) := ⟨bk_ BK435⟩
   have n9_ : Aside0 (((w103.setCell ⟨gb453, 0, none⟩ (.slice Ao104 t447.length co104)).setCell ⟨gb453, 1, none⟩ (.slice Ao112 t450.length co112)).heap[gb442]? = some (.cells #[.slice Ao19 t436.length co19, .slice Ao26 t439.length co26] 31 (0, 0))) := ⟨bk_ BK442⟩
   have n10_ : Aside0 (((w103.setCell ⟨gb453, 0, none⟩ (.slice Ao104 t447.length co104)).setCell ⟨gb453, 1, none⟩ (.slice Ao112 t450.length co112)).heap[gb453]? = some (.cells #[.slice Ao104 t447.length co104, .slice Ao112 t450.length co112] 31 (0, 0))) := ⟨bp_ BK453⟩
   have n11_ : Aside0 (Below w.heap.size w ((w103.setCell ⟨gb453, 0, none⟩ (.slice Ao104 t447.length co104)).setCell ⟨gb453, 1, none⟩ (.slice Ao112 t450.length co112))) := ⟨hb_ HB⟩
   (try clear HO_443000)
   (try clear HO_443001)
   (try clear HO449)
   (try clear HO452)
   (try clear BK431)
   (try clear BK432)
   (try clear BK433)
   (try clear BK434)
   (try clear BK435)
   (try clear BK442)
   (try clear BK453)
   (try clear HB)
   generalize ((w103.setCell ⟨gb453, 0, none⟩ (.slice Ao104 t447.length co104)).setCell ⟨gb453, 1, none⟩ (.slice Ao112 t450.length co112)) = w113 at n0_ n1_ n2_ n3_ n4_ n5_ n6_ n7_ n8_ n9_ n10_ n11_ ⊢
   have HO_443000 := n0_
   have HO_443001 := n1_
   have HO449 := n2_
   have HO452 := n3_
   have BK431 := n4_
   have BK432 := n5_
   have BK433 := n6_
   have BK434 := n7_
   have BK435 := n8_
   have BK442 := n9_
   have BK453 := n10_
   have HB := n11_
   clear n0_ n1_ n2_ n3_ n4_ n5_ n6_ n7_ n8_ n9_ n10_ n11_
   replace HO_443000 := A_ (Kd.R_drew HO_443000.out)
   replace HO_443001 := A_ (Kd.S_drew HO_443001.out)
   replace HO449 := A_ (Kd.R_drew HO449.out)
   replace HO452 := A_ (Kd.S_drew HO452.out)
   replace BK431 := A_ (blk_drew BK431.out)
   replace BK432 := A_ (blk_drew BK432.out)
   replace BK433 := A_ (blk_drew BK433.out)
   replace BK434 := A_ (blk_drew BK434.out)
   replace BK435 := A_ (blk_drew BK435.out)
   replace BK442 := A_ (blk_drew BK442.out)
   replace BK453 := A_ (blk_drew BK453.out)
   replace HB := A_ (below_drew1 HB.out)
   refine start_ (n := 11) (S := fun w' => w'.cell? ⟨gb453, 0, none⟩ = some (.slice Ao104 t447.length co104) ∧ w'.cell? ⟨gb453, 1, none⟩ = some (.slice Ao112 t450.length co112) ∧ w'.cell? ⟨gb432, 0, none⟩ = some (.int .i64 a1) ∧ w'.cell? ⟨gb433, 0, none⟩ = some (.int .i64 a3_0) ∧ w'.cell? ⟨gb433, 1, none⟩ = some (.slice A3_1 l3_1.length c3_1)) (ds := [10]) (bt_ 0 11) (by kernel_rfl) rfl rfl ⟨(blk_cell BK453.out 0).trans rfl, (blk_cell BK453.out 1).trans rfl, (blk_cell BK432.out 0).trans rfl, (blk_cell BK433.out 0).trans rfl, (blk_cell BK433.out 1).trans rfl⟩ (fun hHeld => ?_); refine with_tabW impl_Begin.tab6 impl_Begin.bits6 (fun HT_ HW_ => ?_)
   generalize w113.drew = w114 at HO_443000 HO_443001 HO449 HO452 BK431 BK432 BK433 BK434 BK435 BK442 BK453 HB hHeld ⊢
   refine pu_ 0 45 (bt_ 1 11) ?_
   refine pu_ 3 48 (bt_ 9 11) ?_
   refine pu_ 4 49 (bt_ 25 11) ?_
   refine tk5_ 1 46 (bt_ 27 11) hHeld ?_
   refine tk5_ 2 47 (bt_ 31 11) hHeld ?_
   refine tk5_ 6 51 (bt_ 95 11) hHeld ?_
   refine one_ (i := 5) (N := some 50) (bt_ 127 11) rfl rfl (one_of HT_.out (by kernel_rfl)) (by decide) (fun K hK => ?_)
   refine goes_ Try.func105 (by kernel_rfl) rfl #[.slice A2 l2.length c2] (by rfl) rfl rfl al_ ?_
   with_reducible refine (impl_Entry.calls _ _ l2 t454 _ ?side1 ?side2 A85.out).mono ?_
   (case side1 => exact cb_ (Kd.C_below HR2.out HB.out))
   (case side2 => exact HC2.out)
   rintro e w115 ⟨v455, rfl, ho0, hb⟩
   refine ⟨_, rfl, ?_⟩
   have HO456 := A_ (Kd.R_lower (Kd.R_newM (M := fun k_ => (w.heap.size ≤ k_)) ho0 (below_size (hb_ HB)) (fun k_ h_ => h_)) (below_size (hb_ HB)))
   replace HO_443000 := A_ (Kd.R_below (rb_ HO_443000.out) hb)
   replace HO_443001 := A_ (Kd.S_elder' (sb_ HO_443001.out) (Kd.R_base ho0) hb)
   replace HO449 := A_ (Kd.R_below (rb_ HO449.out) hb)
   replace HO452 := A_ (Kd.S_elder' (sb_ HO452.out) (Kd.R_base ho0) hb)
   replace BK431 := bb_ BK431 hb
   replace BK432 := bb_ BK432 hb
   replace BK433 := bb_ BK433 hb
   replace BK434 := bb_ BK434 hb
   replace BK435 := bb_ BK435 hb
   replace BK442 := bb_ BK442 hb
   replace BK453 := bb_ BK453 hb
   replace HB := hs_ HB hb
   (try clear hb)
   (try clear hb2)
   (try clear hk)
   (try clear hi)
   (try clear ho0)
   refine hK.out _ _ ⟨(blk_cell BK453.out 0).trans rfl, (blk_cell BK453.out 1).trans rfl, (blk_cell BK432.out 0).trans rfl, (blk_cell BK433.out 0).trans rfl, (blk_cell BK433.out 1).trans rfl⟩ (fun hHeld => ?_)
   clear hK K
   refine norm_ (a' := ?_) ?_ ?_
   rotate_left
   ·
    show Act.put _ (some 50) _ = _
    simp only [Act.put, List.setIfInBounds_toArray, List.set_cons_zero, List.set_cons_succ, i64_w, i32_w]
    rfl
   refine one_ (i := 7) (N := some 52) (bt_ 255 11) rfl rfl (one_of HT_.out (by kernel_rfl)) (by decide) (fun K hK => ?_)
   refine goes_ Try.func106 (by kernel_rfl) rfl #[.agg #[.int .i64 a3_0, .slice A3_1 l3_1.length c3_1]] (by rfl) rfl rfl al_ ?_
   with_reducible refine (impl_copyRes.calls a3_0 _ _ l3_1 t457 t458 _ ?side1 ?side2 A86.out).mono ?_
   (case side1 => exact cb_ (Kd.C_below HR3_1.out HB.out))
   (case side2 => exact HC3_1.out)
   rintro e w116 ⟨v459, rfl, ho0, hb⟩
   refine ⟨_, rfl, ?_⟩
   have HO460 := A_ (Kd.R_lower (Kd.R_newB (Kd.R_newM (M := fun k_ => (w.heap.size ≤ k_)) ho0 (below_size (hb_ HB)) (fun k_ h_ => h_)) (g := gb432) (o := .cells #[.int .i64 a1] 3 (0, 0)) (bk_ BK432)) (below_size (hb_ HB)))
   replace HO_443000 := A_ (Kd.R_below (rb_ HO_443000.out) hb)
   replace HO_443001 := A_ (Kd.S_elder' (sb_ HO_443001.out) (Kd.R_base ho0) hb)
   replace HO449 := A_ (Kd.R_below (rb_ HO449.out) hb)
   replace HO452 := A_ (Kd.S_elder' (sb_ HO452.out) (Kd.R_base ho0) hb)
   replace HO456 := A_ (Kd.R_below (rb_ HO456.out) hb)
   replace BK431 := bb_ BK431 hb
   replace BK432 := bb_ BK432 hb
   replace BK433 := bb_ BK433 hb
   replace BK434 := bb_ BK434 hb
   replace BK435 := bb_ BK435 hb
   replace BK442 := bb_ BK442 hb
   replace BK453 := bb_ BK453 hb
   replace HB := hs_ HB hb
   (try clear hb)
   (try clear hb2)
   (try clear hk)
   (try clear hi)
   (try clear ho0)
   obtain ⟨Ao117, co117, eo117⟩ := Kd.R_slice HO460.out
   (first | subst eo117 | (injection eo117 with f1_ f2_ f3_; have f4_ := f1_.symm; have f5_ := f3_.symm; clear f1_ f2_ f3_; subst f4_; subst f5_))
   obtain ⟨Ao118, co118, eo118⟩ := Kd.R_slice HO456.out
   (first | subst eo118 | (injection eo118 with f1_ f2_ f3_; have f4_ := f1_.symm; have f5_ := f3_.symm; clear f1_ f2_ f3_; subst f4_; subst f5_))
   have p88 : 0 ≤ (a1 : Int) := od_
   have q88 : (a1 : Int) < ((t450.length : Int) : Int) := od_
   obtain ⟨go88, co88, eo88, gb88, gl88, cl88, HG88⟩ := Kd.S_form HO452.out (by omega)
   (first | cases eo88 | (injection eo88 with ea_ en_ ec_; (first | subst ea_ | (injection ea_ with ea_; subst ea_)); subst ec_; clear en_))
   have GB88 := A_ gb88
   have GG88 := A_ HG88
   clear gb88 gl88 HG88
   obtain ⟨oki88, ce88, hcl88, hM88, hcc88, hfr88, hok88, hH88⟩ := Kd.S_elem HO452.out z119 (a1 : Int) p88 q88
   obtain ⟨ux88_2, ux88_4, rfl, ge88_2, ge88_4⟩ := k119_openM hM88
   obtain ⟨ua88_2, uc88_2, rfl⟩ := Kd.R_slice ge88_2
   obtain ⟨ua88_4, uc88_4, rfl⟩ := Kd.R_slice ge88_4
   have hx88_0 : World.cell? _ ⟨go88, (a1 : Int).toNat * 5, none⟩ = some (.int .i64 ((rd_T119 t450 a1).f0)) := hcc88 0 _ rfl
   have hx88_1 : World.cell? _ ⟨go88, (a1 : Int).toNat * 5 + 1, none⟩ = some (.int .i64 ((rd_T119 t450 a1).f1)) := hcc88 1 _ rfl
   have hx88_2 : World.cell? _ ⟨go88, (a1 : Int).toNat * 5 + 2, none⟩ = some (.slice ua88_2 ((rd_T119 t450 a1).f2).length uc88_2) := hcc88 2 _ rfl
   have hx88_3 : World.cell? _ ⟨go88, (a1 : Int).toNat * 5 + 3, none⟩ = some (.int .i64 ((rd_T119 t450 a1).f3.f0)) := hcc88 3 _ rfl
   have hx88_4 : World.cell? _ ⟨go88, (a1 : Int).toNat * 5 + 4, none⟩ = some (.slice ua88_4 ((rd_T119 t450 a1).f3.f1).length uc88_4) := hcc88 4 _ rfl
   have hf88_0 : World.frozen? _ ⟨go88, (a1 : Int).toNat * 5, none⟩ = false := hfr88 0
   have hf88_1 : World.frozen? _ ⟨go88, (a1 : Int).toNat * 5 + 1, none⟩ = false := hfr88 1
   have hf88_2 : World.frozen? _ ⟨go88, (a1 : Int).toNat * 5 + 2, none⟩ = false := hfr88 2
   have hf88_3 : World.frozen? _ ⟨go88, (a1 : Int).toNat * 5 + 3, none⟩ = false := hfr88 3
   have hf88_4 : World.frozen? _ ⟨go88, (a1 : Int).toNat * 5 + 4, none⟩ = false := hfr88 4
   clear hcl88 hcc88 hfr88 hM88
   (try clear hok88)
   (try clear hH88)
   replace p88 := eq_true p88
   replace q88 := eq_true q88
   have HX119 := A_ (show Kd.S k119 119 _ w.heap.size (fun k_ => (w.heap.size ≤ k_) ∧ some k_ ≠ (.slice Ao19 t436.length co19 : Value).ownBlock ∧ some k_ ≠ (.slice Ao26 t439.length co26 : Value).ownBlock ∧ some k_ ≠ (.slice Ao104 t447.length co104 : Value).ownBlock ∧ some k_ ≠ (.slice Ao118 t454.length co118 : Value).ownBlock ∧ some k_ ≠ (.slice Ao117 t458.length co117 : Value).ownBlock ∧ k_ ≠ gb431 ∧ k_ ≠ gb432 ∧ k_ ≠ gb433 ∧ k_ ≠ gb434 ∧ k_ ≠ gb435 ∧ k_ ≠ gb442 ∧ k_ ≠ gb453) (.slice (some ⟨go88, 0, none⟩) t450.length co112) t450 from (Kd.S_mono (HO452.out) (fun k_ hk => ⟨hk.1.1.1, ⟨hk.1.1.2.1, ⟨hk.1.1.2.2.1, ⟨hk.1.1.2.2.2.1, ⟨hk.1.2, ⟨hk.2, ⟨hk.1.1.2.2.2.2.1, ⟨hk.1.1.2.2.2.2.2.1, ⟨hk.1.1.2.2.2.2.2.2.1, ⟨hk.1.1.2.2.2.2.2.2.2.1, ⟨hk.1.1.2.2.2.2.2.2.2.2.1, ⟨hk.1.1.2.2.2.2.2.2.2.2.2.1, hk.1.1.2.2.2.2.2.2.2.2.2.2⟩⟩⟩⟩⟩⟩⟩⟩⟩⟩⟩⟩)))
   replace HX119 := A_ (show Kd.S k119 119 _ w.heap.size (fun k_ => ((w.heap.size ≤ k_) ∧ some k_ ≠ (.slice Ao19 t436.length co19 : Value).ownBlock ∧ some k_ ≠ (.slice Ao26 t439.length co26 : Value).ownBlock ∧ some k_ ≠ (.slice Ao104 t447.length co104 : Value).ownBlock ∧ k_ ≠ gb431 ∧ k_ ≠ gb432 ∧ k_ ≠ gb433 ∧ k_ ≠ gb434 ∧ k_ ≠ gb435 ∧ k_ ≠ gb442 ∧ k_ ≠ gb453) ∧ ¬ (some k_ = (.slice Ao118 t454.length co118 : Value).ownBlock ∨ some k_ = (.slice Ao117 t458.length co117 : Value).ownBlock)) (.slice (some ⟨go88, 0, none⟩) t450.length co112) t450 from Kd.S_mono HX119.out (fun k_ hk => ⟨⟨hk.1, hk.2.1, hk.2.2.1, hk.2.2.2.1, hk.2.2.2.2.2.2.1, hk.2.2.2.2.2.2.2.1, hk.2.2.2.2.2.2.2.2.1, hk.2.2.2.2.2.2.2.2.2.1, hk.2.2.2.2.2.2.2.2.2.2.1, hk.2.2.2.2.2.2.2.2.2.2.2.1, hk.2.2.2.2.2.2.2.2.2.2.2.2⟩, fun h_ => Or.elim h_ (fun e_ => hk.2.2.2.2.1 e_) (fun e_ => hk.2.2.2.2.2.1 e_)⟩))
   obtain ⟨oki119, ce119, hcl119, hM119, hcc119, hfr119, hok119, hH119⟩ := Kd.S_elem HX119.out z119 (a1 : Int) (od_) (by have h_ : (a1 : Int) < ((t450.length : Int) : Int) := od_; first | exact h_ | (have e_ := (Kd.S_reads' HO452.out).1; omega) | simpa using h_)
   obtain ⟨ux119_2, ux119_4, rfl, ge119_2, ge119_4⟩ := k119_openM hM119
   have HP119 := impl_Begin.set5 (Kd.S_seg (ok := fun k_ => (w.heap.size ≤ k_) ∧ some k_ ≠ (.slice Ao19 t436.length co19 : Value).ownBlock ∧ some k_ ≠ (.slice Ao26 t439.length co26 : Value).ownBlock ∧ some k_ ≠ (.slice Ao104 t447.length co104 : Value).ownBlock ∧ k_ ≠ gb431 ∧ k_ ≠ gb432 ∧ k_ ≠ gb433 ∧ k_ ≠ gb434 ∧ k_ ≠ gb435 ∧ k_ ≠ gb442 ∧ k_ ≠ gb453) (okg := fun k_ => (some k_ = (.slice Ao118 t454.length co118 : Value).ownBlock ∨ some k_ = (.slice Ao117 t458.length co117 : Value).ownBlock)) hH119 (od_) (by have h_ : (a1 : Int) < ((t450.length : Int) : Int) := od_; first | exact h_ | (have e_ := (Kd.S_reads' HO452.out).1; omega) | simpa using h_) (seg := [.int .i64 (wrap64 (((rd_T119 l0_1 a1).f0) + 1)), .int .i64 1, .slice Ao118 t454.length co118, .int .i64 t457, .slice Ao117 t458.length co117]) (j := 0) (show 5 ≤ 5 from by decide) (x' := (⟨wrap64 (((rd_T119 l0_1 a1).f0) + 1), 1, t454, (⟨t457, t458⟩ : S49)⟩ : S119)) (k119_mkM _ _ (fun k_ => (some k_ = (.slice Ao118 t454.length co118 : Value).ownBlock ∨ some k_ = (.slice Ao117 t458.length co117 : Value).ownBlock)) (⟨wrap64 (((rd_T119 l0_1 a1).f0) + 1), 1, t454, (⟨t457, t458⟩ : S49)⟩ : S119) (Kd.R_mono (Kd.R_tight rfl HO456.out) (fun _ h_ => Or.inl h_)) (Kd.R_mono (Kd.R_tight rfl HO460.out) (fun _ h_ => Or.inr h_))) (fun _ h_ => Or.inr h_) (fun k_ h_ => Or.elim h_ (fun e_ => ((Kd.R_mono (ok' := (fun k_ => ((fun k_ => (w.heap.size ≤ k_) ∧ some k_ ≠ (.slice Ao19 t436.length co19 : Value).ownBlock ∧ some k_ ≠ (.slice Ao26 t439.length co26 : Value).ownBlock ∧ some k_ ≠ (.slice Ao104 t447.length co104 : Value).ownBlock ∧ k_ ≠ gb431 ∧ k_ ≠ gb432 ∧ k_ ≠ gb433 ∧ k_ ≠ gb434 ∧ k_ ≠ gb435 ∧ k_ ≠ gb442 ∧ k_ ≠ gb453)) k_ ∧ k_ ≠ go88)) (Kd.R_types (Kd.R_types (Kd.R_types (Kd.R_types (Kd.R_types (Kd.R_types (Kd.R_types (Kd.R_apart' (Kd.R_apart' (Kd.R_apart' (Kd.R_apart' (HO456.out) (Kd.R_typed HO_443000.out) (by decide)) (Kd.S_typed HO_443001.out) (by decide)) (Kd.R_typed HO449.out) (by decide)) (Kd.S_typed HO452.out) (by decide)) BK431.out (by decide)) BK432.out (by decide)) BK433.out (by decide)) BK434.out (by decide)) BK435.out (by decide)) BK442.out (by decide)) BK453.out (by decide)) (fun k_ hk => ⟨⟨hk.1.1.1.1.1.1.1.1.1.1.1.1, ⟨hk.1.1.1.1.1.1.1.1.1.1.2, ⟨hk.1.1.1.1.1.1.1.1.1.2, ⟨hk.1.1.1.1.1.1.1.1.2, ⟨hk.1.1.1.1.1.1.2, ⟨hk.1.1.1.1.1.2, ⟨hk.1.1.1.1.2, ⟨hk.1.1.1.2, ⟨hk.1.1.2, ⟨hk.1.2, hk.2⟩⟩⟩⟩⟩⟩⟩⟩⟩⟩, fun e_ => (hk.1.1.1.1.1.1.1.2) (by rw [e_]; rfl)⟩))).1 k_ e_.symm) (fun e_ => ((Kd.R_mono (ok' := (fun k_ => ((fun k_ => (w.heap.size ≤ k_) ∧ some k_ ≠ (.slice Ao19 t436.length co19 : Value).ownBlock ∧ some k_ ≠ (.slice Ao26 t439.length co26 : Value).ownBlock ∧ some k_ ≠ (.slice Ao104 t447.length co104 : Value).ownBlock ∧ k_ ≠ gb431 ∧ k_ ≠ gb432 ∧ k_ ≠ gb433 ∧ k_ ≠ gb434 ∧ k_ ≠ gb435 ∧ k_ ≠ gb442 ∧ k_ ≠ gb453)) k_ ∧ k_ ≠ go88)) (Kd.R_types (Kd.R_types (Kd.R_types (Kd.R_types (Kd.R_types (Kd.R_types (Kd.R_apart' (Kd.R_apart' (Kd.R_apart' (Kd.R_apart' (HO460.out) (Kd.R_typed HO_443000.out) (by decide)) (Kd.S_typed HO_443001.out) (by decide)) (Kd.R_typed HO449.out) (by decide)) (Kd.S_typed HO452.out) (by decide)) BK431.out (by decide)) BK433.out (by decide)) BK434.out (by decide)) BK435.out (by decide)) BK442.out (by decide)) BK453.out (by decide)) (fun k_ hk => ⟨⟨hk.1.1.1.1.1.1.1.1.1.1.1.1, ⟨hk.1.1.1.1.1.1.1.1.1.2, ⟨hk.1.1.1.1.1.1.1.1.2, ⟨hk.1.1.1.1.1.1.1.2, ⟨hk.1.1.1.1.1.2, ⟨hk.1.1.1.1.1.1.1.1.1.1.2, ⟨hk.1.1.1.1.2, ⟨hk.1.1.1.2, ⟨hk.1.1.2, ⟨hk.1.2, hk.2⟩⟩⟩⟩⟩⟩⟩⟩⟩⟩, fun e_ => (hk.1.1.1.1.1.1.2) (by rw [e_]; rfl)⟩))).1 k_ e_.symm))).1
   rw [← Ny461.out] at HP119
   have HQ119 := A_ HP119
   clear hcl119 hcc119 hfr119 hM119 HP119
   (try clear hok119)
   (try clear hH119)
   refine hK.out _ _ ⟨(blk_cell BK453.out 0).trans rfl, (blk_cell BK453.out 1).trans rfl, (blk_cell BK432.out 0).trans rfl, (blk_cell BK433.out 0).trans rfl, (blk_cell BK433.out 1).trans rfl⟩ (fun hHeld => ?_)
   clear hK K
   refine norm_ (a' := ?_) ?_ ?_
   rotate_left
   ·
    show Act.put _ (some 52) _ = _
    simp only [Act.put, List.setIfInBounds_toArray, List.set_cons_zero, List.set_cons_succ, i64_w, i32_w]
    rfl
   refine pu_ 8 53 (bt_ 511 11) ?_
   refine pu_ 9 54 (bt_ 1023 11) ?_
   refine last_ (i := 10) (N := none) (bt_ 2047 11) rfl rfl (one_of HT_.out (by kernel_rfl)) (by decide) (fun K hK => ?_)
   refine skip_ (w1 := ?_) (by rfl) rfl ?_ ?_
   rotate_left
   ·
    go_simp
    rfl
   refine hK.out _ _ ?_
   clear hK K
   refine done_ (done_of HT_.out (by kernel_rfl)) ?_
   have n0_ : Aside0 (Kd.R k95 95 (((((w116.setCell ⟨go88, (a1 : Int).toNat * 5, none⟩ (.int .i64 (wrap64 (((rd_T119 l0_1 a1).f0) + 1)))).setCell ⟨go88, (a1 : Int).toNat * 5 + 1, none⟩ (.int .i64 1)).setCell ⟨go88, (a1 : Int).toNat * 5 + 2, none⟩ (.slice Ao118 t454.length co118)).setCell ⟨go88, (a1 : Int).toNat * 5 + 3, none⟩ (.int .i64 t457)).setCell ⟨go88, (a1 : Int).toNat * 5 + 4, none⟩ (.slice Ao117 t458.length co117)) w.heap.size (fun k_ => (w.heap.size ≤ k_) ∧ some k_ ≠ (.slice Ao104 t447.length co104 : Value).ownBlock) (.slice Ao19 t436.length co19) t436) := ⟨by (with_reducible repeat (first | apply Kd.R_alloc | apply Kd.R_drewN | apply Kd.R_drew)); exact Kd.R_mono (Kd.R_far (p := ⟨go88, (a1 : Int).toNat * 5 + 4, none⟩) (Kd.R_far (p := ⟨go88, (a1 : Int).toNat * 5 + 3, none⟩) (Kd.R_far (p := ⟨go88, (a1 : Int).toNat * 5 + 2, none⟩) (Kd.R_far (p := ⟨go88, (a1 : Int).toNat * 5 + 1, none⟩) (Kd.R_far (p := ⟨go88, (a1 : Int).toNat * 5, none⟩) (Kd.R_types HO_443000.out GG88.out (by decide)) (fun _ hk => hk.2) (.int .i64 (wrap64 (((rd_T119 l0_1 a1).f0) + 1)))) (fun _ hk => hk.2) (.int .i64 1)) (fun _ hk => hk.2) (.slice Ao118 t454.length co118)) (fun _ hk => hk.2) (.int .i64 t457)) (fun _ hk => hk.2) (.slice Ao117 t458.length co117)) (fun _ hk => ⟨hk.1.1, hk.1.2⟩)⟩
   have n1_ : Aside0 (Kd.S k119 119 (((((w116.setCell ⟨go88, (a1 : Int).toNat * 5, none⟩ (.int .i64 (wrap64 (((rd_T119 l0_1 a1).f0) + 1)))).setCell ⟨go88, (a1 : Int).toNat * 5 + 1, none⟩ (.int .i64 1)).setCell ⟨go88, (a1 : Int).toNat * 5 + 2, none⟩ (.slice Ao118 t454.length co118)).setCell ⟨go88, (a1 : Int).toNat * 5 + 3, none⟩ (.int .i64 t457)).setCell ⟨go88, (a1 : Int).toNat * 5 + 4, none⟩ (.slice Ao117 t458.length co117)) w.heap.size (fun k_ => (w.heap.size ≤ k_) ∧ some k_ ≠ (.slice Ao19 t436.length co19 : Value).ownBlock ∧ some k_ ≠ (.slice Ao104 t447.length co104 : Value).ownBlock ∧ some k_ ≠ (.slice (some ⟨go88, 0, none⟩) t450.length co112 : Value).ownBlock ∧ k_ ≠ gb431 ∧ k_ ≠ gb432 ∧ k_ ≠ gb433 ∧ k_ ≠ gb434 ∧ k_ ≠ gb435 ∧ k_ ≠ gb442 ∧ k_ ≠ gb453) (.slice Ao26 t439.length co26) t439) := ⟨by (with_reducible repeat (first | apply Kd.S_alloc | apply Kd.S_drewN | apply Kd.S_drew)); exact Kd.S_mono (Kd.S_far (p := ⟨go88, (a1 : Int).toNat * 5 + 4, none⟩) (Kd.S_far (p := ⟨go88, (a1 : Int).toNat * 5 + 3, none⟩) (Kd.S_far (p := ⟨go88, (a1 : Int).toNat * 5 + 2, none⟩) (Kd.S_far (p := ⟨go88, (a1 : Int).toNat * 5 + 1, none⟩) (Kd.S_far (p := ⟨go88, (a1 : Int).toNat * 5, none⟩) (Kd.S_mono HO_443001.out (fun k_ hk => (⟨hk, fun e_ => hk.1.1.2.2.2.1 (by rw [e_]; rfl)⟩ : _ ∧ k_ ≠ go88))) (fun _ hk => hk.2) (.int .i64 (wrap64 (((rd_T119 l0_1 a1).f0) + 1)))) (fun _ hk => hk.2) (.int .i64 1)) (fun _ hk => hk.2) (.slice Ao118 t454.length co118)) (fun _ hk => hk.2) (.int .i64 t457)) (fun _ hk => hk.2) (.slice Ao117 t458.length co117)) (fun _ hk => ⟨hk.1.1.1.1, ⟨hk.1.1.1.2.1, ⟨hk.1.1.1.2.2.1, ⟨hk.1.1.1.2.2.2.1, ⟨hk.1.1.1.2.2.2.2.1, ⟨hk.1.1.1.2.2.2.2.2.1, ⟨hk.1.1.1.2.2.2.2.2.2.1, ⟨hk.1.1.1.2.2.2.2.2.2.2.1, ⟨hk.1.1.1.2.2.2.2.2.2.2.2.1, ⟨hk.1.1.1.2.2.2.2.2.2.2.2.2.1, hk.1.1.1.2.2.2.2.2.2.2.2.2.2⟩⟩⟩⟩⟩⟩⟩⟩⟩⟩)⟩
   have n2_ : Aside0 (Kd.R k95 95 (((((w116.setCell ⟨go88, (a1 : Int).toNat * 5, none⟩ (.int .i64 (wrap64 (((rd_T119 l0_1 a1).f0) + 1)))).setCell ⟨go88, (a1 : Int).toNat * 5 + 1, none⟩ (.int .i64 1)).setCell ⟨go88, (a1 : Int).toNat * 5 + 2, none⟩ (.slice Ao118 t454.length co118)).setCell ⟨go88, (a1 : Int).toNat * 5 + 3, none⟩ (.int .i64 t457)).setCell ⟨go88, (a1 : Int).toNat * 5 + 4, none⟩ (.slice Ao117 t458.length co117)) w.heap.size (fun k_ => (w.heap.size ≤ k_) ∧ some k_ ≠ (.slice Ao19 t436.length co19 : Value).ownBlock) (.slice Ao104 t447.length co104) t447) := ⟨by (with_reducible repeat (first | apply Kd.R_alloc | apply Kd.R_drewN | apply Kd.R_drew)); exact Kd.R_mono (Kd.R_far (p := ⟨go88, (a1 : Int).toNat * 5 + 4, none⟩) (Kd.R_far (p := ⟨go88, (a1 : Int).toNat * 5 + 3, none⟩) (Kd.R_far (p := ⟨go88, (a1 : Int).toNat * 5 + 2, none⟩) (Kd.R_far (p := ⟨go88, (a1 : Int).toNat * 5 + 1, none⟩) (Kd.R_far (p := ⟨go88, (a1 : Int).toNat * 5, none⟩) (Kd.R_types HO449.out GG88.out (by decide)) (fun _ hk => hk.2) (.int .i64 (wrap64 (((rd_T119 l0_1 a1).f0) + 1)))) (fun _ hk => hk.2) (.int .i64 1)) (fun _ hk => hk.2) (.slice Ao118 t454.length co118)) (fun _ hk => hk.2) (.int .i64 t457)) (fun _ hk => hk.2) (.slice Ao117 t458.length co117)) (fun _ hk => ⟨hk.1.1, hk.1.2⟩)⟩
   have n3_ : Aside0 (Kd.S k119 119 (((((w116.setCell ⟨go88, (a1 : Int).toNat * 5, none⟩ (.int .i64 (wrap64 (((rd_T119 l0_1 a1).f0) + 1)))).setCell ⟨go88, (a1 : Int).toNat * 5 + 1, none⟩ (.int .i64 1)).setCell ⟨go88, (a1 : Int).toNat * 5 + 2, none⟩ (.slice Ao118 t454.length co118)).setCell ⟨go88, (a1 : Int).toNat * 5 + 3, none⟩ (.int .i64 t457)).setCell ⟨go88, (a1 : Int).toNat * 5 + 4, none⟩ (.slice Ao117 t458.length co117)) w.heap.size (fun k_ => (w.heap.size ≤ k_) ∧ some k_ ≠ (.slice Ao19 t436.length co19 : Value).ownBlock ∧ some k_ ≠ (.slice Ao26 t439.length co26 : Value).ownBlock ∧ some k_ ≠ (.slice Ao104 t447.length co104 : Value).ownBlock ∧ k_ ≠ gb431 ∧ k_ ≠ gb432 ∧ k_ ≠ gb433 ∧ k_ ≠ gb434 ∧ k_ ≠ gb435 ∧ k_ ≠ gb442 ∧ k_ ≠ gb453) (.slice (some ⟨go88, 0, none⟩) t450.length co112) y461) := ⟨sb_ HQ119.out⟩
   have n4_ : Aside0 ((((((w116.setCell ⟨go88, (a1 : Int).toNat * 5, none⟩ (.int .i64 (wrap64 (((rd_T119 l0_1 a1).f0) + 1)))).setCell ⟨go88, (a1 : Int).toNat * 5 + 1, none⟩ (.int .i64 1)).setCell ⟨go88, (a1 : Int).toNat * 5 + 2, none⟩ (.slice Ao118 t454.length co118)).setCell ⟨go88, (a1 : Int).toNat * 5 + 3, none⟩ (.int .i64 t457)).setCell ⟨go88, (a1 : Int).toNat * 5 + 4, none⟩ (.slice Ao117 t458.length co117)).heap[gb431]? = some (.cells #[.slice A0_0 l0_0.length c0_0, .slice (some ad446) l0_1.length c0_1] 31 (0, 0))) := ⟨by (with_reducible repeat (first | refine blk_drewN ?_ _ | refine blk_drew ?_ | refine blk_alloc ?_ _)); refine blk_far ?_ (by have h_ := Kd.S_away HQ119.out (fun _ hk => hk.2.2.2.2.1); intro e_; exact h_ (by rw [e_]; rfl)) _; (with_reducible repeat (first | refine blk_drewN ?_ _ | refine blk_drew ?_ | refine blk_alloc ?_ _)); refine blk_far ?_ (by have h_ := Kd.S_away HQ119.out (fun _ hk => hk.2.2.2.2.1); intro e_; exact h_ (by rw [e_]; rfl)) _; (with_reducible repeat (first | refine blk_drewN ?_ _ | refine blk_drew ?_ | refine blk_alloc ?_ _)); refine blk_far ?_ (by have h_ := Kd.S_away HQ119.out (fun _ hk => hk.2.2.2.2.1); intro e_; exact h_ (by rw [e_]; rfl)) _; (with_reducible repeat (first | refine blk_drewN ?_ _ | refine blk_drew ?_ | refine blk_alloc ?_ _)); refine blk_far ?_ (by have h_ := Kd.S_away HQ119.out (fun _ hk => hk.2.2.2.2.1); intro e_; exact h_ (by rw [e_]; rfl)) _; (with_reducible repeat (first | refine blk_drewN ?_ _ | refine blk_drew ?_ | refine blk_alloc ?_ _)); refine blk_far ?_ (by have h_ := Kd.S_away HQ119.out (fun _ hk => hk.2.2.2.2.1); intro e_; exact h_ (by rw [e_]; rfl)) _; (with_reducible repeat (first | refine blk_drewN ?_ _ | refine blk_drew ?_ | refine blk_alloc ?_ _)); exact BK431.out⟩
   have n5_ : Aside0 ((((((w116.setCell ⟨go88, (a1 : Int).toNat * 5, none⟩ (.int .i64 (wrap64 (((rd_T119 l0_1 a1).f0) + 1)))).setCell ⟨go88, (a1 : Int).toNat * 5 + 1, none⟩ (.int .i64 1)).setCell ⟨go88, (a1 : Int).toNat * 5 + 2, none⟩ (.slice Ao118 t454.length co118)).setCell ⟨go88, (a1 : Int).toNat * 5 + 3, none⟩ (.int .i64 t457)).setCell ⟨go88, (a1 : Int).toNat * 5 + 4, none⟩ (.slice Ao117 t458.length co117)).heap[gb432]? = some (.cells #[.int .i64 a1] 3 (0, 0))) := ⟨by (with_reducible repeat (first | refine blk_drewN ?_ _ | refine blk_drew ?_ | refine blk_alloc ?_ _)); refine blk_far ?_ (by have h_ := Kd.S_away HQ119.out (fun _ hk => hk.2.2.2.2.2.1); intro e_; exact h_ (by rw [e_]; rfl)) _; (with_reducible repeat (first | refine blk_drewN ?_ _ | refine blk_drew ?_ | refine blk_alloc ?_ _)); refine blk_far ?_ (by have h_ := Kd.S_away HQ119.out (fun _ hk => hk.2.2.2.2.2.1); intro e_; exact h_ (by rw [e_]; rfl)) _; (with_reducible repeat (first | refine blk_drewN ?_ _ | refine blk_drew ?_ | refine blk_alloc ?_ _)); refine blk_far ?_ (by have h_ := Kd.S_away HQ119.out (fun _ hk => hk.2.2.2.2.2.1); intro e_; exact h_ (by rw [e_]; rfl)) _; (with_reducible repeat (first | refine blk_drewN ?_ _ | refine blk_drew ?_ | refine blk_alloc ?_ _)); refine blk_far ?_ (by have h_ := Kd.S_away HQ119.out (fun _ hk => hk.2.2.2.2.2.1); intro e_; exact h_ (by rw [e_]; rfl)) _; (with_reducible repeat (first | refine blk_drewN ?_ _ | refine blk_drew ?_ | refine blk_alloc ?_ _)); refine blk_far ?_ (by have h_ := Kd.S_away HQ119.out (fun _ hk => hk.2.2.2.2.2.1); intro e_; exact h_ (by rw [e_]; rfl)) _; (with_reducible repeat (first | refine blk_drewN ?_ _ | refine blk_drew ?_ | refine blk_alloc ?_ _)); exact BK432.out⟩
   have n6_ : Aside0 ((((((w116.setCell ⟨go88, (a1 : Int).toNat * 5, none⟩ (.int .i64 (wrap64 (((rd_T119 l0_1 a1).f0) + 1)))).setCell ⟨go88, (a1 : Int).toNat * 5 + 1, none⟩ (.int .i64 1)).setCell ⟨go88, (a1 : Int).toNat * 5 + 2, none⟩ (.slice Ao118 t454.length co118)).setCell ⟨go88, (a1 : Int).toNat * 5 + 3, none⟩ (.int .i64 t457)).setCell ⟨go88, (a1 : Int).toNat * 5 + 4, none⟩ (.slice Ao117 t458.length co117)).heap[gb433]? = some (.cells #[.int .i64 a3_0, .slice A3_1 l3_1.length c3_1] 49 (0, 0))) := ⟨by (with_reducible repeat (first | refine blk_drewN ?_ _ | refine blk_drew ?_ | refine blk_alloc ?_ _)); refine blk_far ?_ (by have h_ := Kd.S_away HQ119.out (fun _ hk => hk.2.2.2.2.2.2.1); intro e_; exact h_ (by rw [e_]; rfl)) _; (with_reducible repeat (first | refine blk_drewN ?_ _ | refine blk_drew ?_ | refine blk_alloc ?_ _)); refine blk_far ?_ (by have h_ := Kd.S_away HQ119.out (fun _ hk => hk.2.2.2.2.2.2.1); intro e_; exact h_ (by rw [e_]; rfl)) _; (with_reducible repeat (first | refine blk_drewN ?_ _ | refine blk_drew ?_ | refine blk_alloc ?_ _)); refine blk_far ?_ (by have h_ := Kd.S_away HQ119.out (fun _ hk => hk.2.2.2.2.2.2.1); intro e_; exact h_ (by rw [e_]; rfl)) _; (with_reducible repeat (first | refine blk_drewN ?_ _ | refine blk_drew ?_ | refine blk_alloc ?_ _)); refine blk_far ?_ (by have h_ := Kd.S_away HQ119.out (fun _ hk => hk.2.2.2.2.2.2.1); intro e_; exact h_ (by rw [e_]; rfl)) _; (with_reducible repeat (first | refine blk_drewN ?_ _ | refine blk_drew ?_ | refine blk_alloc ?_ _)); refine blk_far ?_ (by have h_ := Kd.S_away HQ119.out (fun _ hk => hk.2.2.2.2.2.2.1); intro e_; exact h_ (by rw [e_]; rfl)) _; (with_reducible repeat (first | refine blk_drewN ?_ _ | refine blk_drew ?_ | refine blk_alloc ?_ _)); exact BK433.out⟩
   have n7_ : Aside0 ((((((w116.setCell ⟨go88, (a1 : Int).toNat * 5, none⟩ (.int .i64 (wrap64 (((rd_T119 l0_1 a1).f0) + 1)))).setCell ⟨go88, (a1 : Int).toNat * 5 + 1, none⟩ (.int .i64 1)).setCell ⟨go88, (a1 : Int).toNat * 5 + 2, none⟩ (.slice Ao118 t454.length co118)).setCell ⟨go88, (a1 : Int).toNat * 5 + 3, none⟩ (.int .i64 t457)).setCell ⟨go88, (a1 : Int).toNat * 5 + 4, none⟩ (.slice Ao117 t458.length co117)).heap[gb434]? = some (.cells #[.slice none 0 0, .slice none 0 0] 31 (0, 0))) := ⟨by (with_reducible repeat (first | refine blk_drewN ?_ _ | refine blk_drew ?_ | refine blk_alloc ?_ _)); refine blk_far ?_ (by have h_ := Kd.S_away HQ119.out (fun _ hk => hk.2.2.2.2.2.2.2.1); intro e_; exact h_ (by rw [e_]; rfl)) _; (with_reducible repeat (first | refine blk_drewN ?_ _ | refine blk_drew ?_ | refine blk_alloc ?_ _)); refine blk_far ?_ (by have h_ := Kd.S_away HQ119.out (fun _ hk => hk.2.2.2.2.2.2.2.1); intro e_; exact h_ (by rw [e_]; rfl)) _; (with_reducible repeat (first | refine blk_drewN ?_ _ | refine blk_drew ?_ | refine blk_alloc ?_ _)); refine blk_far ?_ (by have h_ := Kd.S_away HQ119.out (fun _ hk => hk.2.2.2.2.2.2.2.1); intro e_; exact h_ (by rw [e_]; rfl)) _; (with_reducible repeat (first | refine blk_drewN ?_ _ | refine blk_drew ?_ | refine blk_alloc ?_ _)); refine blk_far ?_ (by have h_ := Kd.S_away HQ119.out (fun _ hk => hk.2.2.2.2.2.2.2.1); intro e_; exact h_ (by rw [e_]; rfl)) _; (with_reducible repeat (first | refine blk_drewN ?_ _ | refine blk_drew ?_ | refine blk_alloc ?_ _)); refine blk_far ?_ (by have h_ := Kd.S_away HQ119.out (fun _ hk => hk.2.2.2.2.2.2.2.1); intro e_; exact h_ (by rw [e_]; rfl)) _; (with_reducible repeat (first | refine blk_drewN ?_ _ | refine blk_drew ?_ | refine blk_alloc ?_ _)); exact BK434.out⟩
   have n8_ : Aside0 ((((((w116.setCell ⟨go88, (a1 : Int).toNat * 5, none⟩ (.int .i64 (wrap64 (((rd_T119 l0_1 a1).f0) + 1)))).setCell ⟨go88, (a1 : Int).toNat * 5 + 1, none⟩ (.int .i64 1)).setCell ⟨go88, (a1 : Int).toNat * 5 + 2, none⟩ (.slice Ao118 t454.length co118)).setCell ⟨go88, (a1 : Int).toNat * 5 + 3, none⟩ (.int .i64 t457)).setCell ⟨go88, (a1 : Int).toNat * 5 + 4, none⟩ (.slice Ao117 t458.length co117)).heap[gb435]? = some (.cells #[.int .i64 0, .int .i64 0, .int .i64 0, .int .i64 0] 74 (0, 0))) := ⟨by (with_reducible repeat (first | refine blk_drewN ?_ _ | refine blk_drew ?_ | refine blk_alloc ?_ _)); refine blk_far ?_ (by have h_ := Kd.S_away HQ119.out (fun _ hk => hk.2.2.2.2.2.2.2.2.1); intro e_; exact h_ (by rw [e_]; rfl)) _; (with_reducible repeat (first | refine blk_drewN ?_ _ | refine blk_drew ?_ | refine blk_alloc ?_ _)); refine blk_far ?_ (by have h_ := Kd.S_away HQ119.out (fun _ hk => hk.2.2.2.2.2.2.2.2.1); intro e_; exact h_ (by rw [e_]; rfl)) _; (with_reducible repeat (first | refine blk_drewN ?_ _ | refine blk_drew ?_ | refine blk_alloc ?_ _)); refine blk_far ?_ (by have h_ := Kd.S_away HQ119.out (fun _ hk => hk.2.2.2.2.2.2.2.2.1); intro e_; exact h_ (by rw [e_]; rfl)) _; (with_reducible repeat (first | refine blk_drewN ?_ _ | refine blk_drew ?_ | refine blk_alloc ?_ _)); refine blk_far ?_ (by have h_ := Kd.S_away HQ119.out (fun _ hk => hk.2.2.2.2.2.2.2.2.1); intro e_; exact h_ (by rw [e_]; rfl)) _; (with_reducible repeat (first | refine blk_drewN ?_ _ | refine blk_drew ?_ | refine blk_alloc ?_ _)); refine blk_far ?_ (by have h_ := Kd.S_away HQ119.out (fun _ hk => hk.2.2.2.2.2.2.2.2.1); intro e_; exact h_ (by rw [e_]; rfl)) _; (with_reducible repeat (first | refine blk_drewN ?_ _ | refine blk_drew ?_ | refine blk_alloc ?_ _)); exact BK435.out⟩
   have n9_ : Aside0 ((((((w116.setCell ⟨go88, (a1 : Int).toNat * 5, none⟩ (.int .i64 (wrap64 (((rd_T119 l0_1 a1).f0) + 1)))).setCell ⟨go88, (a1 : Int).toNat * 5 + 1, none⟩ (.int .i64 1)).setCell ⟨go88, (a1 : Int).toNat * 5 + 2, none⟩ (.slice Ao118 t454.length co118)).setCell ⟨go88, (a1 : Int).toNat * 5 + 3, none⟩ (.int .i64 t457)).setCell ⟨go88, (a1 : Int).toNat * 5 + 4, none⟩ (.slice Ao117 t458.length co117)).heap[gb442]? = some (.cells #[.slice Ao19 t436.length co19, .slice Ao26 t439.length co26] 31 (0, 0))) := ⟨by (with_reducible repeat (first | refine blk_drewN ?_ _ | refine blk_drew ?_ | refine blk_alloc ?_ _)); refine blk_far ?_ (by have h_ := Kd.S_away HQ119.out (fun _ hk => hk.2.2.2.2.2.2.2.2.2.1); intro e_; exact h_ (by rw [e_]; rfl)) _; (with_reducible repeat (first | refine blk_drewN ?_ _ | refine blk_drew ?_ | refine blk_alloc ?_ _)); refine blk_far ?_ (by have h_ := Kd.S_away HQ119.out (fun _ hk => hk.2.2.2.2.2.2.2.2.2.1); intro e_; exact h_ (by rw [e_]; rfl)) _; (with_reducible repeat (first | refine blk_drewN ?_ _ | refine blk_drew ?_ | refine blk_alloc ?_ _)); refine blk_far ?_ (by have h_ := Kd.S_away HQ119.out (fun _ hk => hk.2.2.2.2.2.2.2.2.2.1); intro e_; exact h_ (by rw [e_]; rfl)) _; (with_reducible repeat (first | refine blk_drewN ?_ _ | refine blk_drew ?_ | refine blk_alloc ?_ _)); refine blk_far ?_ (by have h_ := Kd.S_away HQ119.out (fun _ hk => hk.2.2.2.2.2.2.2.2.2.1); intro e_; exact h_ (by rw [e_]; rfl)) _; (with_reducible repeat (first | refine blk_drewN ?_ _ | refine blk_drew ?_ | refine blk_alloc ?_ _)); refine blk_far ?_ (by have h_ := Kd.S_away HQ119.out (fun _ hk => hk.2.2.2.2.2.2.2.2.2.1); intro e_; exact h_ (by rw [e_]; rfl)) _; (with_reducible repeat (first | refine blk_drewN ?_ _ | refine blk_drew ?_ | refine blk_alloc ?_ _)); exact BK442.out⟩
   have n10_ : Aside0 ((((((w116.setCell ⟨go88, (a1 : Int).toNat * 5, none⟩ (.int .i64 (wrap64 (((rd_T119 l0_1 a1).f0) + 1)))).setCell ⟨go88, (a1 : Int).toNat * 5 + 1, none⟩ (.int .i64 1)).setCell ⟨go88, (a1 : Int).toNat * 5 + 2, none⟩ (.slice Ao118 t454.length co118)).setCell ⟨go88, (a1 : Int).toNat * 5 + 3, none⟩ (.int .i64 t457)).setCell ⟨go88, (a1 : Int).toNat * 5 + 4, none⟩ (.slice Ao117 t458.length co117)).heap[gb453]? = some (.cells #[.slice Ao104 t447.length co104, .slice (some ⟨go88, 0, none⟩) t450.length co112] 31 (0, 0))) := ⟨by (with_reducible repeat (first | refine blk_drewN ?_ _ | refine blk_drew ?_ | refine blk_alloc ?_ _)); refine blk_far ?_ (by have h_ := Kd.S_away HQ119.out (fun _ hk => hk.2.2.2.2.2.2.2.2.2.2); intro e_; exact h_ (by rw [e_]; rfl)) _; (with_reducible repeat (first | refine blk_drewN ?_ _ | refine blk_drew ?_ | refine blk_alloc ?_ _)); refine blk_far ?_ (by have h_ := Kd.S_away HQ119.out (fun _ hk => hk.2.2.2.2.2.2.2.2.2.2); intro e_; exact h_ (by rw [e_]; rfl)) _; (with_reducible repeat (first | refine blk_drewN ?_ _ | refine blk_drew ?_ | refine blk_alloc ?_ _)); refine blk_far ?_ (by have h_ := Kd.S_away HQ119.out (fun _ hk => hk.2.2.2.2.2.2.2.2.2.2); intro e_; exact h_ (by rw [e_]; rfl)) _; (with_reducible repeat (first | refine blk_drewN ?_ _ | refine blk_drew ?_ | refine blk_alloc ?_ _)); refine blk_far ?_ (by have h_ := Kd.S_away HQ119.out (fun _ hk => hk.2.2.2.2.2.2.2.2.2.2); intro e_; exact h_ (by rw [e_]; rfl)) _; (with_reducible repeat (first | refine blk_drewN ?_ _ | refine blk_drew ?_ | refine blk_alloc ?_ _)); refine blk_far ?_ (by have h_ := Kd.S_away HQ119.out (fun _ hk => hk.2.2.2.2.2.2.2.2.2.2); intro e_; exact h_ (by rw [e_]; rfl)) _; (with_reducible repeat (first | refine blk_drewN ?_ _ | refine blk_drew ?_ | refine blk_alloc ?_ _)); exact BK453.out⟩
   have n11_ : Aside0 (Below w.heap.size w (((((w116.setCell ⟨go88, (a1 : Int).toNat * 5, none⟩ (.int .i64 (wrap64 (((rd_T119 l0_1 a1).f0) + 1)))).setCell ⟨go88, (a1 : Int).toNat * 5 + 1, none⟩ (.int .i64 1)).setCell ⟨go88, (a1 : Int).toNat * 5 + 2, none⟩ (.slice Ao118 t454.length co118)).setCell ⟨go88, (a1 : Int).toNat * 5 + 3, none⟩ (.int .i64 t457)).setCell ⟨go88, (a1 : Int).toNat * 5 + 4, none⟩ (.slice Ao117 t458.length co117))) := ⟨hb_ HB⟩
   (try clear HO_443000)
   (try clear HO_443001)
   (try clear HO449)
   (try clear HO452)
   (try clear BK431)
   (try clear BK432)
   (try clear BK433)
   (try clear BK434)
   (try clear BK435)
   (try clear BK442)
   (try clear BK453)
   (try clear HB)
   generalize (((((w116.setCell ⟨go88, (a1 : Int).toNat * 5, none⟩ (.int .i64 (wrap64 (((rd_T119 l0_1 a1).f0) + 1)))).setCell ⟨go88, (a1 : Int).toNat * 5 + 1, none⟩ (.int .i64 1)).setCell ⟨go88, (a1 : Int).toNat * 5 + 2, none⟩ (.slice Ao118 t454.length co118)).setCell ⟨go88, (a1 : Int).toNat * 5 + 3, none⟩ (.int .i64 t457)).setCell ⟨go88, (a1 : Int).toNat * 5 + 4, none⟩ (.slice Ao117 t458.length co117)) = w120 at n0_ n1_ n2_ n3_ n4_ n5_ n6_ n7_ n8_ n9_ n10_ n11_ ⊢
   have HO_443000 := n0_
   have HO_443001 := n1_
   have HO449 := n2_
   have HO452 := n3_
   have BK431 := n4_
   have BK432 := n5_
   have BK433 := n6_
   have BK434 := n7_
   have BK435 := n8_
   have BK442 := n9_
   have BK453 := n10_
   have HB := n11_
   clear n0_ n1_ n2_ n3_ n4_ n5_ n6_ n7_ n8_ n9_ n10_ n11_
   have H := HC_.out
   clear HC_
   by_cases c90 : t462 = true
   ·
    subst c90
    replace H := it_ H
    simp only [Option.some.injEq, Prod.mk.injEq] at H
    obtain ⟨rfl, rfl, rfl, rfl, rfl, rfl, rfl⟩ := H
    obtain ⟨hcz121_0, hcz121_1, hfz121_0, hfz121_1⟩ := cz2_ BK453
    try go_wp2_with (first | ((with_reducible refine gate_callee (f := 58) rfl ?_); refine goesL_ (some 56) rfl rfl Try.func58 (by kernel_rfl) rfl #[.agg #[.slice Ao104 t447.length co104, .slice (some ⟨go88, 0, none⟩) y461.length co112]] rfl (by (try simp only [List.map_toArray, List.map_cons, List.map_nil]); first | done | (rw [show y461.length = t450.length from (Kd.S_reads' HO452.out).1.symm] <;> rfl) | rfl | (simp only [List.length_drop, List.length_take]; rfl)) ?_; (with_reducible refine (impl_MemOk.calls kj5 _ _ t447 _ _ y461 true _ ?side1 ?side2 ?side3 ?side4 A89.out).mono ?_); (case side1 => repeat (first | exact (Kd.R_reads' HO449.out).2.2 | (with_reducible refine Kd.C_alloc ?_ _) | (with_reducible refine Kd.C_drewN ?_ _) | (with_reducible refine Kd.C_drew ?_))); (case side2 => exact (Kd.R_reads' HO449.out).2.1); (case side3 => repeat (first | exact (Kd.S_reads' HO452.out).2.2 | (with_reducible refine Kd.C_alloc ?_ _) | (with_reducible refine Kd.C_drewN ?_ _) | (with_reducible refine Kd.C_drew ?_))); (case side4 => rw [show y461.length = t450.length from (Kd.S_reads' HO452.out).1.symm]; exact (Kd.S_reads' HO452.out).2.1); rintro e w122 ⟨rfl, hb⟩; refine ⟨_, rfl, ?_⟩; replace HO_443000 := A_ (Kd.R_below (rb_ HO_443000.out) hb); replace HO_443001 := A_ (Kd.S_below (sb_ HO_443001.out) hb); replace HO449 := A_ (Kd.R_below (rb_ HO449.out) hb); replace HO452 := A_ (Kd.S_below (sb_ HO452.out) hb); replace BK431 := bb_ BK431 hb; replace BK432 := bb_ BK432 hb; replace BK433 := bb_ BK433 hb; replace BK434 := bb_ BK434 hb; replace BK435 := bb_ BK435 hb; replace BK442 := bb_ BK442 hb; replace BK453 := bb_ BK453 hb; replace HB := hs_ HB hb; (try clear hb); (try clear hb2); (try clear hk); (try clear hi)))
    replace HO_443000 := A_ (Kd.R_drew HO_443000.out)
    replace HO_443001 := A_ (Kd.S_drew HO_443001.out)
    replace HO449 := A_ (Kd.R_drew HO449.out)
    replace HO452 := A_ (Kd.S_drew HO452.out)
    replace BK431 := A_ (blk_drew BK431.out)
    replace BK432 := A_ (blk_drew BK432.out)
    replace BK433 := A_ (blk_drew BK433.out)
    replace BK434 := A_ (blk_drew BK434.out)
    replace BK435 := A_ (blk_drew BK435.out)
    replace BK442 := A_ (blk_drew BK442.out)
    replace BK453 := A_ (blk_drew BK453.out)
    replace HB := A_ (below_drew1 HB.out)
    refine start_ (n := 7) (S := fun w' => w'.cell? ⟨gb453, 0, none⟩ = some (.slice Ao104 t447.length co104) ∧ w'.cell? ⟨gb453, 1, none⟩ = some (.slice (some ⟨go88, 0, none⟩) t450.length co112) ∧ w'.cell? ⟨gb432, 0, none⟩ = some (.int .i64 a1)) (ds := []) (bt_ 0 7) (by kernel_rfl) rfl rfl ⟨(blk_cell BK453.out 0).trans rfl, (blk_cell BK453.out 1).trans rfl, (blk_cell BK432.out 0).trans rfl⟩ (fun hHeld => ?_)
    generalize w122.drew = w123 at HO_443000 HO_443001 HO449 HO452 BK431 BK432 BK433 BK434 BK435 BK442 BK453 HB hHeld ⊢
    refine pure_ (i := 2) (N := some 62) (v := ?_) (a' := ?_) (bt_ 4 7) rfl rfl (by kernel_rfl) (fun _ _ _ h => h) (Or.inl ⟨by rfl, ?_⟩) ?_ ?_
    rotate_left
    ·
     intro w'
     go_simp
     with_reducible rfl
    rotate_left
    ·
     simp only [Act.put, List.setIfInBounds_toArray, List.set_cons_zero, List.set_cons_succ, i64_w, i32_w]
     rfl
    refine take_ (i := 0) (N := some 60) (v := ?_) (a' := ?_) (bt_ 5 7) rfl rfl (by kernel_rfl) (fun _ _ _ h => h) (Or.inl ⟨by rfl, ?_⟩) hHeld ?_ ?_
    rotate_left
    ·
     rintro w' ⟨s0, s1, s2⟩
     go_simp
     with_reducible rfl
    rotate_left
    ·
     simp only [Act.put, List.setIfInBounds_toArray, List.set_cons_zero, List.set_cons_succ, i64_w, i32_w]
     rfl
    refine take_ (i := 1) (N := some 61) (v := ?_) (a' := ?_) (bt_ 7 7) rfl rfl (by kernel_rfl) (fun _ _ _ h => h) (Or.inl ⟨by rfl, ?_⟩) hHeld ?_ ?_
    rotate_left
    ·
     rintro w' ⟨s0, s1, s2⟩
     go_simp
     with_reducible rfl
    rotate_left
    ·
     simp only [Act.put, List.setIfInBounds_toArray, List.set_cons_zero, List.set_cons_succ, i64_w, i32_w]
     rfl
    refine pure_ (i := 3) (N := some 63) (v := ?_) (a' := ?_) (bt_ 15 7) rfl rfl (by kernel_rfl) (fun _ _ _ h => h) (Or.inl ⟨by rfl, ?_⟩) ?_ ?_
    rotate_left
    ·
     intro w'
     go_simp
     with_reducible rfl
    rotate_left
    ·
     simp only [Act.put, List.setIfInBounds_toArray, List.set_cons_zero, List.set_cons_succ, i64_w, i32_w]
     rfl
    refine one_ (i := 4) (N := none) (bt_ 31 7) rfl rfl (by kernel_rfl) (by decide) (fun K hK => ?_)
    have hs124 : w123.cell? ⟨gb434, 0, none⟩ = some (.slice none 0 0) := (blk_cell BK434.out 0).trans rfl
    have hfs124 := blk_frozen BK434.out 0
    have hns124_0 := NB431_434.out
    have hns124_1 := NB432_434.out
    have hns124_2 := NB433_434.out
    have hns124_4 := NB435_434.out
    have hns124_5 := NB442_434.out
    have hns124_6 := NB453_434.out
    have hms124_0 := NB434_431.out
    have hms124_1 := NB434_432.out
    have hms124_2 := NB434_433.out
    have hms124_4 := NB434_435.out
    have hms124_5 := NB434_442.out
    have hms124_6 := NB434_453.out
    have hs125 : w123.cell? ⟨gb434, 1, none⟩ = some (.slice none 0 0) := (blk_cell BK434.out 1).trans rfl
    have hfs125 := blk_frozen BK434.out 1
    have hns125_0 := NB431_434.out
    have hns125_1 := NB432_434.out
    have hns125_2 := NB433_434.out
    have hns125_4 := NB435_434.out
    have hns125_5 := NB442_434.out
    have hns125_6 := NB453_434.out
    have hms125_0 := NB434_431.out
    have hms125_1 := NB434_432.out
    have hms125_2 := NB434_433.out
    have hms125_4 := NB434_435.out
    have hms125_5 := NB434_442.out
    have hms125_6 := NB434_453.out
    refine skip_ (w1 := ?_) (by rfl) rfl ?_ ?_
    rotate_left
    ·
     go_simp
     rfl
    refine hK.out _ _ ⟨((cell_far (p := ⟨gb434, _, none⟩) NB453_434.out _).trans (((cell_far (p := ⟨gb434, _, none⟩) NB453_434.out _).trans (hHeld.1)))), ((cell_far (p := ⟨gb434, _, none⟩) NB453_434.out _).trans (((cell_far (p := ⟨gb434, _, none⟩) NB453_434.out _).trans (hHeld.2.1)))), ((cell_far (p := ⟨gb434, _, none⟩) NB432_434.out _).trans (((cell_far (p := ⟨gb434, _, none⟩) NB432_434.out _).trans (hHeld.2.2))))⟩ (fun hHeld => ?_)
    clear hK K
    refine one_ (i := 5) (N := none) (bt_ 63 7) rfl rfl (by kernel_rfl) (by decide) (fun K hK => ?_)
    have hs126 : w123.cell? ⟨gb435, 0, none⟩ = some (.int .i64 0) := (blk_cell BK435.out 0).trans rfl
    have hfs126 := blk_frozen BK435.out 0
    have hns126_0 := NB431_435.out
    have hns126_1 := NB432_435.out
    have hns126_2 := NB433_435.out
    have hns126_3 := NB434_435.out
    have hns126_5 := NB442_435.out
    have hns126_6 := NB453_435.out
    have hms126_0 := NB435_431.out
    have hms126_1 := NB435_432.out
    have hms126_2 := NB435_433.out
    have hms126_3 := NB435_434.out
    have hms126_5 := NB435_442.out
    have hms126_6 := NB435_453.out
    have hs127 : w123.cell? ⟨gb435, 1, none⟩ = some (.int .i64 0) := (blk_cell BK435.out 1).trans rfl
    have hfs127 := blk_frozen BK435.out 1
    have hns127_0 := NB431_435.out
    have hns127_1 := NB432_435.out
    have hns127_2 := NB433_435.out
    have hns127_3 := NB434_435.out
    have hns127_5 := NB442_435.out
    have hns127_6 := NB453_435.out
    have hms127_0 := NB435_431.out
    have hms127_1 := NB435_432.out
    have hms127_2 := NB435_433.out
    have hms127_3 := NB435_434.out
    have hms127_5 := NB435_442.out
    have hms127_6 := NB435_453.out
    have hs128 : w123.cell? ⟨gb435, 2, none⟩ = some (.int .i64 0) := (blk_cell BK435.out 2).trans rfl
    have hfs128 := blk_frozen BK435.out 2
    have hns128_0 := NB431_435.out
    have hns128_1 := NB432_435.out
    have hns128_2 := NB433_435.out
    have hns128_3 := NB434_435.out
    have hns128_5 := NB442_435.out
    have hns128_6 := NB453_435.out
    have hms128_0 := NB435_431.out
    have hms128_1 := NB435_432.out
    have hms128_2 := NB435_433.out
    have hms128_3 := NB435_434.out
    have hms128_5 := NB435_442.out
    have hms128_6 := NB435_453.out
    have hs129 : w123.cell? ⟨gb435, 3, none⟩ = some (.int .i64 0) := (blk_cell BK435.out 3).trans rfl
    have hfs129 := blk_frozen BK435.out 3
    have hns129_0 := NB431_435.out
    have hns129_1 := NB432_435.out
    have hns129_2 := NB433_435.out
    have hns129_3 := NB434_435.out
    have hns129_5 := NB442_435.out
    have hns129_6 := NB453_435.out
    have hms129_0 := NB435_431.out
    have hms129_1 := NB435_432.out
    have hms129_2 := NB435_433.out
    have hms129_3 := NB435_434.out
    have hms129_5 := NB435_442.out
    have hms129_6 := NB435_453.out
    refine skip_ (w1 := ?_) (by rfl) rfl ?_ ?_
    rotate_left
    ·
     go_simp
     rfl
    refine hK.out _ _ ⟨((cell_far (p := ⟨gb435, _, none⟩) NB453_435.out _).trans (((cell_far (p := ⟨gb435, _, none⟩) NB453_435.out _).trans (((cell_far (p := ⟨gb435, _, none⟩) NB453_435.out _).trans (((cell_far (p := ⟨gb435, _, none⟩) NB453_435.out _).trans (hHeld.1)))))))), ((cell_far (p := ⟨gb435, _, none⟩) NB453_435.out _).trans (((cell_far (p := ⟨gb435, _, none⟩) NB453_435.out _).trans (((cell_far (p := ⟨gb435, _, none⟩) NB453_435.out _).trans (((cell_far (p := ⟨gb435, _, none⟩) NB453_435.out _).trans (hHeld.2.1)))))))), ((cell_far (p := ⟨gb435, _, none⟩) NB432_435.out _).trans (((cell_far (p := ⟨gb435, _, none⟩) NB432_435.out _).trans (((cell_far (p := ⟨gb435, _, none⟩) NB432_435.out _).trans (((cell_far (p := ⟨gb435, _, none⟩) NB432_435.out _).trans (hHeld.2.2))))))))⟩ (fun hHeld => ?_)
    clear hK K
    refine pure_ (i := 6) (N := some 10) (v := ?_) (a' := ?_) (bt_ 127 7) rfl rfl (by kernel_rfl) (fun _ _ _ h => h) (Or.inl ⟨by rfl, ?_⟩) ?_ ?_
    rotate_left
    ·
     intro w'
     go_simp
     with_reducible rfl
    rotate_left
    ·
     simp only [Act.put, List.setIfInBounds_toArray, List.set_cons_zero, List.set_cons_succ, i64_w, i32_w]
     rfl
    refine done_ (by kernel_rfl) ?_
    try go_wp2
    refine bodyPost_ret (results_list (rs := [.cell 8 31, .cell 9 74, .tmp 10]) rfl (by simp) (.cell gb434 31 #[.slice Ao104 t447.length co104, .slice (some ⟨go88, 0, none⟩) t450.length co112] (0, 0) _ rfl (bp_ BK434) Try.underlying31 rfl (by kernel_rfl) (.cell gb435 74 #[.int .i64 a1, .int .i64 (wrap64 (((rd_T119 l0_1 a1).f0) + 1)), .int .i64 0, .int .i64 0] (0, 0) _ rfl (bp_ BK435) Try.underlying74 rfl (by kernel_rfl) (.tmp .nil)))) rfl ?_
    exact ⟨_, _, rs_, by (with_reducible repeat (first | apply Kd.R_alloc | apply Kd.R_drewN | apply Kd.R_drew)); exact Kd.R_mono (Kd.R_far (p := ⟨gb435, 3, none⟩) (Kd.R_far (p := ⟨gb435, 2, none⟩) (Kd.R_far (p := ⟨gb435, 1, none⟩) (Kd.R_far (p := ⟨gb435, 0, none⟩) (Kd.R_far (p := ⟨gb434, 1, none⟩) (Kd.R_far (p := ⟨gb434, 0, none⟩) (Kd.R_types (Kd.R_types HO449.out BK434.out (by decide)) BK435.out (by decide)) (fun _ hk => hk.1.2) (.slice Ao104 t447.length co104)) (fun _ hk => hk.1.2) (.slice (some ⟨go88, 0, none⟩) t450.length co112)) (fun _ hk => hk.2) (.int .i64 a1)) (fun _ hk => hk.2) (.int .i64 (wrap64 (((rd_T119 l0_1 a1).f0) + 1)))) (fun _ hk => hk.2) (.int .i64 0)) (fun _ hk => hk.2) (.int .i64 0)) (fun _ hk => hk.1.1.1), by (with_reducible repeat (first | apply Kd.S_alloc | apply Kd.S_drewN | apply Kd.S_drew)); exact Kd.S_mono (Kd.S_far (p := ⟨gb435, 3, none⟩) (Kd.S_far (p := ⟨gb435, 2, none⟩) (Kd.S_far (p := ⟨gb435, 1, none⟩) (Kd.S_far (p := ⟨gb435, 0, none⟩) (Kd.S_far (p := ⟨gb434, 1, none⟩) (Kd.S_far (p := ⟨gb434, 0, none⟩) (Kd.S_mono (Kd.S_mono HO452.out (fun k_ hk => (⟨hk, hk.2.2.2.2.2.2.2.1⟩ : _ ∧ k_ ≠ gb434))) (fun k_ hk => (⟨hk, hk.1.2.2.2.2.2.2.2.2.1⟩ : _ ∧ k_ ≠ gb435))) (fun _ hk => hk.1.2) (.slice Ao104 t447.length co104)) (fun _ hk => hk.1.2) (.slice (some ⟨go88, 0, none⟩) t450.length co112)) (fun _ hk => hk.2) (.int .i64 a1)) (fun _ hk => hk.2) (.int .i64 (wrap64 (((rd_T119 l0_1 a1).f0) + 1)))) (fun _ hk => hk.2) (.int .i64 0)) (fun _ hk => hk.2) (.int .i64 0)) (fun _ hk => ⟨hk.1.1.1, hk.1.1.2.2.2.1⟩), hb_ HB⟩
   obtain rfl := Bool.eq_false_iff.mpr c90
   replace H := iF_ H
   simp only [Option.some.injEq, Prod.mk.injEq] at H
   obtain ⟨rfl, rfl, rfl, rfl, rfl, rfl, rfl⟩ := H
   obtain ⟨hcz160_0, hcz160_1, hfz160_0, hfz160_1⟩ := cz2_ BK453
   try go_wp2_with (first | ((with_reducible refine gate_callee (f := 58) rfl ?_); refine goesL_ (some 56) rfl rfl Try.func58 (by kernel_rfl) rfl #[.agg #[.slice Ao104 t447.length co104, .slice (some ⟨go88, 0, none⟩) y461.length co112]] rfl (by (try simp only [List.map_toArray, List.map_cons, List.map_nil]); first | done | (rw [show y461.length = t450.length from (Kd.S_reads' HO452.out).1.symm] <;> rfl) | rfl | (simp only [List.length_drop, List.length_take]; rfl)) ?_; (with_reducible refine (impl_MemOk.calls kj5 _ _ t447 _ _ y461 false _ ?side1 ?side2 ?side3 ?side4 A89.out).mono ?_); (case side1 => repeat (first | exact (Kd.R_reads' HO449.out).2.2 | (with_reducible refine Kd.C_alloc ?_ _) | (with_reducible refine Kd.C_drewN ?_ _) | (with_reducible refine Kd.C_drew ?_))); (case side2 => exact (Kd.R_reads' HO449.out).2.1); (case side3 => repeat (first | exact (Kd.S_reads' HO452.out).2.2 | (with_reducible refine Kd.C_alloc ?_ _) | (with_reducible refine Kd.C_drewN ?_ _) | (with_reducible refine Kd.C_drew ?_))); (case side4 => rw [show y461.length = t450.length from (Kd.S_reads' HO452.out).1.symm]; exact (Kd.S_reads' HO452.out).2.1); rintro e w161 ⟨rfl, hb⟩; refine ⟨_, rfl, ?_⟩; replace HO_443000 := A_ (Kd.R_below (rb_ HO_443000.out) hb); replace HO_443001 := A_ (Kd.S_below (sb_ HO_443001.out) hb); replace HO449 := A_ (Kd.R_below (rb_ HO449.out) hb); replace HO452 := A_ (Kd.S_below (sb_ HO452.out) hb); replace BK431 := bb_ BK431 hb; replace BK432 := bb_ BK432 hb; replace BK433 := bb_ BK433 hb; replace BK434 := bb_ BK434 hb; replace BK435 := bb_ BK435 hb; replace BK442 := bb_ BK442 hb; replace BK453 := bb_ BK453 hb; replace HB := hs_ HB hb; (try clear hb); (try clear hb2); (try clear hk); (try clear hi); have hnb162 := NB442_433.out; have hnc162 := NB433_442.out; have hnb163 := NB442_434.out; have hnc163 := NB434_442.out; have hnb164 := NB442_435.out; have hnc164 := NB435_442.out; obtain ⟨hcz165_0, hcz165_1, hfz165_0, hfz165_1⟩ := cz2_ BK442; have hnb166 := NB434_433.out; have hnc166 := NB433_434.out; have hnb167 := NB434_435.out; have hnc167 := NB435_434.out; obtain ⟨hcz168_0, hcz168_1, hfz168_0, hfz168_1⟩ := cz2_ BK434; have hnb169 := NB435_433.out; have hnc169 := NB433_435.out; obtain ⟨hcz170_0, hcz170_1, hcz170_2, hcz170_3, hfz170_0, hfz170_1, hfz170_2, hfz170_3⟩ := cz4_ BK435))
   refine bodyPost_ret (results_list (rs := [.cell 8 31, .cell 9 74, .tmp 10]) rfl (by simp) (.cell gb434 31 #[.slice Ao19 t436.length co19, .slice Ao26 t439.length co26] (0, 0) _ rfl (bp_ BK434) Try.underlying31 rfl (by kernel_rfl) (.cell gb435 74 #[.int .i64 0, .int .i64 0, .int .i64 0, .int .i64 0] (0, 0) _ rfl (bp_ BK435) Try.underlying74 rfl (by kernel_rfl) (.tmp .nil)))) rfl ?_
   exact ⟨_, _, rs_, by (with_reducible repeat (first | apply Kd.R_alloc | apply Kd.R_drewN | apply Kd.R_drew)); exact Kd.R_mono (Kd.R_far (p := ⟨gb435, 3, none⟩) (Kd.R_far (p := ⟨gb435, 2, none⟩) (Kd.R_far (p := ⟨gb435, 1, none⟩) (Kd.R_far (p := ⟨gb435, 0, none⟩) (Kd.R_far (p := ⟨gb434, 1, none⟩) (Kd.R_far (p := ⟨gb434, 0, none⟩) (Kd.R_types (Kd.R_types HO_443000.out BK434.out (by decide)) BK435.out (by decide)) (fun _ hk => hk.1.2) (.slice Ao19 t436.length co19)) (fun _ hk => hk.1.2) (.slice Ao26 t439.length co26)) (fun _ hk => hk.2) (.int .i64 0)) (fun _ hk => hk.2) (.int .i64 0)) (fun _ hk => hk.2) (.int .i64 0)) (fun _ hk => hk.2) (.int .i64 0)) (fun _ hk => hk.1.1.1), by (with_reducible repeat (first | apply Kd.S_alloc | apply Kd.S_drewN | apply Kd.S_drew)); exact Kd.S_mono (Kd.S_far (p := ⟨gb435, 3, none⟩) (Kd.S_far (p := ⟨gb435, 2, none⟩) (Kd.S_far (p := ⟨gb435, 1, none⟩) (Kd.S_far (p := ⟨gb435, 0, none⟩) (Kd.S_far (p := ⟨gb434, 1, none⟩) (Kd.S_far (p := ⟨gb434, 0, none⟩) (Kd.S_mono (Kd.S_mono HO_443001.out (fun k_ hk => (⟨hk, hk.2.2.2.2.2.2.2.1⟩ : _ ∧ k_ ≠ gb434))) (fun k_ hk => (⟨hk, hk.1.2.2.2.2.2.2.2.2.1⟩ : _ ∧ k_ ≠ gb435))) (fun _ hk => hk.1.2) (.slice Ao19 t436.length co19)) (fun _ hk => hk.1.2) (.slice Ao26 t439.length co26)) (fun _ hk => hk.2) (.int .i64 0)) (fun _ hk => hk.2) (.int .i64 0)) (fun _ hk => hk.2) (.int .i64 0)) (fun _ hk => hk.2) (.int .i64 0)) (fun _ hk => ⟨hk.1.1.1, hk.1.1.2.1⟩), hb_ HB⟩

end Go.Proofs.Ytmkhghbalnadlaa.PFnExactBegin
