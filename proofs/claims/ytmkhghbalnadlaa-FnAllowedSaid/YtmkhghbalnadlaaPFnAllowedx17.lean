/- Contracts of functions of the program: each says that the call does what a plain Lean function tells. Made by programs of this session and of the kit. No condition beyond the hypotheses that each theorem names. -/
import Derived.Test.YtmkhghbalnadlaaPFnAllowedx0
import Derived.Test.YtmkhghbalnadlaaPFnAllowedx13
import Derived.Test.YtmkhghbalnadlaaPFnAllowedx14
import Derived.Test.YtmkhghbalnadlaaPFnAllowedx15
namespace Go.Proofs.Ytmkhghbalnadlaa.PFnAllowed
open Go.RowKit Go.Proofs.YtmkhghbalnadlaaW.PrintWords Go.Proofs.YtmkhghbalnadlaaW.PrintLast Go.Proofs.YtmkhghbalnadlaaW.PrintMore
attribute [local go_sem] max2_int min2_int max_two min_two max_three min_three max_four min_four   -- for this text's walks alone
set_option linter.unusedVariables false
set_option linter.unusedSimpArgs false

/-! ### spec_DrawResSame: function 29 -/
def spec_DrawResSame.f (k : Nat) (l0 : List Int) : Option (Int × List Int × Int × List Int) := (spec_l1New.f k l0).bind fun bt456 => ((spec_l3DrawRight.f k bt456.1 bt456.2.1 bt456.2.2).bind fun bt460 => ((spec_l4DrawRight.f k bt456.1 bt460.2.2.1 bt460.2.2.2).bind fun bt467 => ((spec_l4DrawRes.f k bt456.1 bt467.2.2.2.1 bt467.2.2.2.2 bt460.1 bt460.2.1 bt467.1 bt467.2.1 bt467.2.2.1).bind fun bt472 => ((spec_l1Once.f bt456.1 bt472.2.2.1 bt472.2.2.2 2).bind fun bt479 => (if bt479.1 = true then ((some (([] : List Int) : List Int)).bind fun y482 => (if y482.length + bt472.2.1.length < 17592186044416 then (some (bt472.1, bt472.2.1, bt472.1, (y482 ++ bt472.2.1))) else (none))) else ((spec_l4DrawRight.f k bt456.1 bt479.2.1 bt479.2.2).bind fun bt488 => ((spec_l4DrawRes.f k bt456.1 bt488.2.2.2.1 bt488.2.2.2.2 bt460.1 bt460.2.1 bt488.1 bt488.2.1 bt488.2.2.1).bind fun bt493 => (some (bt472.1, bt472.2.1, bt493.1, bt493.2.1)))))))))
theorem spec_DrawResSame.mono : ∀ a0 k, LeO (spec_DrawResSame.f k a0) (spec_DrawResSame.f (k + 1) a0) := by
 intro a0 k
 unfold spec_DrawResSame.f
 repeat' first | (with_reducible first | apply spec_l1New.mono | apply spec_l3DrawRight.mono | apply spec_l4DrawRes.mono | apply spec_l4DrawRight.mono | apply LeO.refl | apply LeO.none | apply LeO.ite | refine LeO.bind ?_ (fun _ => ?_)) | apply spec_l1New.mono | apply spec_l3DrawRight.mono | apply spec_l4DrawRes.mono | apply spec_l4DrawRight.mono | apply LeO.none | apply LeO.ite | refine LeO.bind ?_ (fun _ => ?_)
def spec_DrawResSame.T5 : Bool × List (List Nat × List Nat) := (true, [([], []), ([], []), ([1], [1]), ([], []), ([], []), ([4], [4]), ([3, 5], [3, 5]), ([2, 6], [2, 6]), ([0, 6, 0], [0]), ([7, 8, 0, 1, 2, 3, 4, 5, 6, 7, 8], [7])])
def spec_DrawResSame.B5 : List Nat := [0, 0, 2, 0, 0, 16, 56, 126, 121, 511]
theorem spec_DrawResSame.tab5 : rtab .any (opsOf Try.f29 5) = spec_DrawResSame.T5 := by kernel_rfl
theorem spec_DrawResSame.bits5 : waitsOk spec_DrawResSame.T5.2 spec_DrawResSame.B5 = true := by kernel_rfl
def spec_DrawResSame.T6 : Bool × List (List Nat × List Nat) := (true, [([], []), ([], []), ([], []), ([], []), ([3], [3]), ([1, 2, 4, 4], [1, 2, 4]), ([0, 5, 0], [0]), ([5, 6, 0, 1, 2, 3, 4, 5, 6], [5])])
def spec_DrawResSame.B6 : List Nat := [0, 0, 0, 0, 8, 30, 63, 127]
theorem spec_DrawResSame.tab6 : rtab .any (opsOf Try.f29 6) = spec_DrawResSame.T6 := by kernel_rfl
theorem spec_DrawResSame.bits6 : waitsOk spec_DrawResSame.T6.2 spec_DrawResSame.B6 = true := by kernel_rfl
set_option maxHeartbeats 8000000 in
set_option maxRecDepth 100000 in
theorem spec_DrawResSame.calls (k : Nat) (A0 : Option Addr) (c0 : Nat) (l0 : List Int) (r1 : Int) (r2 : List Int) (r3 : Int) (r4 : List Int) (w : World) (hr0 : Kd.C (Kd.int .u8) w A0 l0.length l0) (hc0 : l0.length ≤ c0) (h : spec_DrawResSame.f k l0 = some (r1, r2, r3, r4)) :
    Calls Try.prog 29 #[.slice A0 l0.length c0] w fun e w' => ∃ v1_ v3_ : Value, e = .returned (.tuple #[.agg #[.int .i64 r1, v1_], .agg #[.int .i64 r3, v3_]]) ∧ Kd.R (Kd.int .i64) 3 w' w.heap.size (fun k_ => some k_ ≠ (v3_ : Value).ownBlock) v1_ r2 ∧ Kd.R (Kd.int .i64) 3 w' w.heap.size (fun k_ => some k_ ≠ (v1_ : Value).ownBlock) v3_ r4 ∧ Below w.heap.size w w' := by
 have hu49 := Try.underlying49
 have hu44 := Try.underlying44
 have HR0 := A_ hr0
 have HC0 := A_ hc0
 clear hr0 hc0
 have HB := A_ (Below.refl w.heap.size w)
 have H : ((spec_l1New.f k l0).bind fun bt456 => ((spec_l3DrawRight.f k bt456.1 bt456.2.1 bt456.2.2).bind fun bt460 => ((spec_l4DrawRight.f k bt456.1 bt460.2.2.1 bt460.2.2.2).bind fun bt467 => ((spec_l4DrawRes.f k bt456.1 bt467.2.2.2.1 bt467.2.2.2.2 bt460.1 bt460.2.1 bt467.1 bt467.2.1 bt467.2.2.1).bind fun bt472 => ((spec_l1Once.f bt456.1 bt472.2.2.1 bt472.2.2.2 2).bind fun bt479 => (if bt479.1 = true then ((some (([] : List Int) : List Int)).bind fun y482 => (if y482.length + bt472.2.1.length < 17592186044416 then (some (bt472.1, bt472.2.1, bt472.1, (y482 ++ bt472.2.1))) else (none))) else ((spec_l4DrawRight.f k bt456.1 bt479.2.1 bt479.2.2).bind fun bt488 => ((spec_l4DrawRes.f k bt456.1 bt488.2.2.2.1 bt488.2.2.2.2 bt460.1 bt460.2.1 bt488.1 bt488.2.1 bt488.2.2.1).bind fun bt493 => (some (bt472.1, bt472.2.1, bt493.1, bt493.2.1)))))))))) = some (r1, r2, r3, r4) := h
 clear h
 replace H := bs_ H
 obtain ⟨⟨t456, t457, t458⟩, A2, H⟩ := H
 dsimp only at H
 replace H := bs_ H
 obtain ⟨⟨t460, t463, t464, t465⟩, A3, H⟩ := H
 dsimp only at H
 replace H := bs_ H
 obtain ⟨⟨t467, t468, t469, t470, t471⟩, A4, H⟩ := H
 dsimp only at H
 replace H := bs_ H
 obtain ⟨⟨t472, t473, t476, t477⟩, A5, H⟩ := H
 dsimp only at H
 replace H := bs_ H
 obtain ⟨⟨t479, t480, t481⟩, A6, H⟩ := H
 dsimp only at H
 by_cases c7 : t479 = true
 ·
  subst c7
  replace H := it_ H
  obtain ⟨y482, hy482⟩ : ∃ y_ : List Int, y_ = (([] : List Int)) := ⟨_, rfl⟩
  replace H : (if y482.length + t473.length < 17592186044416 then (some (t472, t473, t472, (y482 ++ t473))) else (none)) = some (r1, r2, r3, r4) := by first | (rw [hy482]; with_reducible exact H) | (have H2_ := (Option.bind_some _ _).symm.trans H; rw [hy482]; with_reducible exact H2_) | (have H2_ := (Option.bind_some _ _).symm.trans H; with_reducible exact H2_) | with_reducible exact H | (rw [hy482]; exact H) | exact H
  have Ny482 := A_ hy482
  clear hy482
  by_cases c8 : y482.length + t473.length < 17592186044416
  ·
   rw [if_pos c8] at H
   have LMc8 := A_ c8
   clear c8
   obtain ⟨y485, hy485⟩ : ∃ y_ : List Int, y_ = (y482 ++ t473) := ⟨_, rfl⟩
   replace H : (some (t472, t473, t472, y485)) = some (r1, r2, r3, r4) := by first | (rw [hy485]; with_reducible exact H) | (have H2_ := (Option.bind_some _ _).symm.trans H; rw [hy485]; with_reducible exact H2_) | (have H2_ := (Option.bind_some _ _).symm.trans H; with_reducible exact H2_) | with_reducible exact H | (rw [hy485]; exact H) | exact H
   have Ny485 := A_ hy485
   clear hy485
   simp only [Option.some.injEq, Prod.mk.injEq] at H
   obtain ⟨rfl, rfl, rfl, rfl⟩ := H
   go_enter Try.func29, Try.ntmps29
   try go_wp2_with (first | ((with_reducible refine gate_dst (N := 2) rfl ?_); refine bx_ HB rfl (N := 2) rfl (cs := #[.int .i64 0, .slice none 0 0]) (t := 49) hr_ ?_; clear HB; intro gb454 w9 hg hb BK454 GW454 HB; clear hb hg) | ((with_reducible refine gate_dst (N := 3) rfl ?_); refine bx_ HB rfl (N := 3) rfl (cs := #[.int .i64 0, .slice none 0 0]) (t := 49) hr_ ?_; clear HB; intro gb455 w10 hg hb BK455 GW455 HB; have NB454_455 := ng_ BK454 hg; have NB455_454 := ns_ (ng_ BK454 hg); replace BK454 := bb_ BK454 hb; clear hb hg) | ((with_reducible refine gate_callee (f := 70) rfl ?_); refine Y21_ ?_; clear BK454 BK455 HB; intro w11 g459 HI459 NB459_454 NB454_459 NB459_455 NB455_459 BK454 BK455 HB) | ((with_reducible refine gate_callee (f := 77) rfl ?_); refine Y22_ ?_; clear BK454 BK455 HI459 HB; intro w12 v461 HO462 BK454 BK455 HI459 HB) | ((with_reducible refine gate_dst (N := 5) rfl ?_); refine box_event rfl (N := 5) rfl (cs := #[.slice none 0 0, .int .i64 0]) (t := 44) hr_ ?_; intro gb466 hg w13 hbox hb; have n0_ := A_ (Kd.R_below (rb_ HO462.out) hb); have n1_ := bb_ BK454 hb; have n2_ := bb_ BK455 hb; have n3_ := A_ (IsS147.below (by repeat (first | (with_reducible first | exact HI459.out | apply IsS147.alloc | apply IsS147.drewN | apply IsS147.drew | apply IsS147.set_1 | apply IsS147.set_2 | refine IsS147.far ?_ NB459_454.out _ | refine IsS147.far ?_ NB459_455.out _) | exact HI459.out)) hb); have n4_ := A_ (below_step (by repeat (first | (with_reducible first | exact HB.out | apply below_alloc | apply pw_below_drewN | apply below_drew1 | refine below_set ?_ (IsS147.ge HI459.out) | refine below_set ?_ GW454.out | refine below_set ?_ GW455.out) | exact HB.out)) hb); have n5_ := A_ hbox; have n6_ := A_ ((by rw [hg]; exact (below_size (by repeat (first | (with_reducible first | exact HB.out | apply below_alloc | apply pw_below_drewN | apply below_drew1 | refine below_set ?_ (IsS147.ge HI459.out) | refine below_set ?_ GW454.out | refine below_set ?_ GW455.out) | exact HB.out))) : w.heap.size ≤ gb466)); have n7_ := A_ ((by rw [hg]; exact (below_size (by repeat (first | (with_reducible first | exact HB.out | apply below_alloc | apply pw_below_drewN | apply below_drew1 | refine below_set ?_ (IsS147.ge HI459.out) | refine below_set ?_ GW454.out | refine below_set ?_ GW455.out) | exact HB.out))) : w.heap.size ≤ gb466)); have n8_ := ng_ BK454 hg; have n9_ := ns_ (ng_ BK454 hg); have n10_ := ng_ BK455 hg; have n11_ := ns_ (ng_ BK455 hg); have n12_ := A_ ((by rw [hg]; exact Nat.ne_of_lt (IsS147.lt (show IsS147 w _ g459 t456 t464 t465 from by repeat (first | (with_reducible first | exact HI459.out | apply IsS147.alloc | apply IsS147.drewN | apply IsS147.drew | apply IsS147.set_1 | apply IsS147.set_2 | refine IsS147.far ?_ NB459_454.out _ | refine IsS147.far ?_ NB459_455.out _) | exact HI459.out))) : g459 ≠ gb466)); have n13_ := A_ ((by rw [hg]; exact Nat.ne_of_gt (IsS147.lt (show IsS147 w _ g459 t456 t464 t465 from by repeat (first | (with_reducible first | exact HI459.out | apply IsS147.alloc | apply IsS147.drewN | apply IsS147.drew | apply IsS147.set_1 | apply IsS147.set_2 | refine IsS147.far ?_ NB459_454.out _ | refine IsS147.far ?_ NB459_455.out _) | exact HI459.out))) : gb466 ≠ g459)); clear HO462; clear BK454; clear BK455; clear HI459; clear HB; have HO462 := n0_; have BK454 := n1_; have BK455 := n2_; have HI459 := n3_; have HB := n4_; have BK466 := n5_; have GW466 := n6_; have GE466 := n7_; have NB454_466 := n8_; have NB466_454 := n9_; have NB455_466 := n10_; have NB466_455 := n11_; have NB459_466 := n12_; have NB466_459 := n13_; clear n0_ n1_ n2_ n3_ n4_ n5_ n6_ n7_ n8_ n9_ n10_ n11_ n12_ n13_; clear hb hbox hg; obtain ⟨Ao14, co14, eo14⟩ := Kd.R_slice HO462.out; subst eo14; have hnb15 := NB466_454.out; have hnc15 := NB454_466.out; have hnb16 := NB466_455.out; have hnc16 := NB455_466.out; have hnb17 := NB466_459.out; have hnc17 := NB459_466.out; obtain ⟨hcz18_0, hcz18_1, hfz18_0, hfz18_1⟩ := cz2_ BK466))
   have n0_ : Aside0 (Kd.R (Kd.int .i64) 3 ((w13.setCell ⟨gb466, 0, none⟩ (.slice Ao14 t460.length co14)).setCell ⟨gb466, 1, none⟩ (.int .i64 t463)) w.heap.size (fun _ => True) (.slice Ao14 t460.length co14) t460) := ⟨by (with_reducible repeat (first | apply Kd.R_alloc | apply Kd.R_drewN | apply Kd.R_drew)); exact Kd.R_mono (Kd.R_far (p := ⟨gb466, 1, none⟩) (Kd.R_far (p := ⟨gb466, 0, none⟩) (Kd.R_types HO462.out BK466.out (by decide)) (fun _ hk => hk.2) (.slice Ao14 t460.length co14)) (fun _ hk => hk.2) (.int .i64 t463)) (fun _ hk => trivial)⟩
   have n1_ : Aside0 (((w13.setCell ⟨gb466, 0, none⟩ (.slice Ao14 t460.length co14)).setCell ⟨gb466, 1, none⟩ (.int .i64 t463)).heap[gb454]? = some (.cells #[.int .i64 0, .slice none 0 0] 49 (0, 0))) := ⟨bk_ BK454⟩
   have n2_ : Aside0 (((w13.setCell ⟨gb466, 0, none⟩ (.slice Ao14 t460.length co14)).setCell ⟨gb466, 1, none⟩ (.int .i64 t463)).heap[gb455]? = some (.cells #[.int .i64 0, .slice none 0 0] 49 (0, 0))) := ⟨bk_ BK455⟩
   have n3_ : Aside0 (((w13.setCell ⟨gb466, 0, none⟩ (.slice Ao14 t460.length co14)).setCell ⟨gb466, 1, none⟩ (.int .i64 t463)).heap[gb466]? = some (.cells #[.slice Ao14 t460.length co14, .int .i64 t463] 44 (0, 0))) := ⟨bp_ BK466⟩
   have n4_ : Aside0 (IsS147 w ((w13.setCell ⟨gb466, 0, none⟩ (.slice Ao14 t460.length co14)).setCell ⟨gb466, 1, none⟩ (.int .i64 t463)) g459 t456 t464 t465) := ⟨by repeat (first | (with_reducible first | exact HI459.out | apply IsS147.alloc | apply IsS147.drewN | apply IsS147.drew | apply IsS147.set_1 | apply IsS147.set_2 | refine IsS147.far ?_ NB459_454.out _ | refine IsS147.far ?_ NB459_455.out _ | refine IsS147.far ?_ NB459_466.out _) | exact HI459.out)⟩
   have n5_ : Aside0 (Below w.heap.size w ((w13.setCell ⟨gb466, 0, none⟩ (.slice Ao14 t460.length co14)).setCell ⟨gb466, 1, none⟩ (.int .i64 t463))) := ⟨by repeat (first | (with_reducible first | exact HB.out | apply below_alloc | apply pw_below_drewN | apply below_drew1 | refine below_set ?_ (IsS147.ge HI459.out) | refine below_set ?_ GW454.out | refine below_set ?_ GW455.out | refine below_set ?_ GE466.out) | exact HB.out)⟩
   (try clear HO462)
   (try clear BK454)
   (try clear BK455)
   (try clear BK466)
   (try clear HI459)
   (try clear HB)
   generalize ((w13.setCell ⟨gb466, 0, none⟩ (.slice Ao14 t460.length co14)).setCell ⟨gb466, 1, none⟩ (.int .i64 t463)) = w19 at n0_ n1_ n2_ n3_ n4_ n5_ ⊢
   have HO462 := n0_
   have BK454 := n1_
   have BK455 := n2_
   have BK466 := n3_
   have HI459 := n4_
   have HB := n5_
   clear n0_ n1_ n2_ n3_ n4_ n5_
   replace HO462 := A_ (Kd.R_drew HO462.out)
   replace BK454 := A_ (blk_drew BK454.out)
   replace BK455 := A_ (blk_drew BK455.out)
   replace BK466 := A_ (blk_drew BK466.out)
   replace HI459 := A_ (IsS147.drew HI459.out)
   replace HB := A_ (below_drew1 HB.out)
   refine start_ (n := 7) (S := fun w' => w'.cell? ⟨gb466, 0, none⟩ = some (.slice Ao14 t460.length co14) ∧ w'.cell? ⟨gb466, 1, none⟩ = some (.int .i64 t463)) (ds := []) (bt_ 0 7) (by kernel_rfl) rfl rfl ⟨(blk_cell BK466.out 0).trans rfl, (blk_cell BK466.out 1).trans rfl⟩ (fun hHeld => ?_)
   generalize w19.drew = w20 at HO462 BK454 BK455 BK466 HI459 HB hHeld ⊢
   refine pure_ (i := 0) (N := some 11) (v := ?_) (a' := ?_) (bt_ 1 7) rfl rfl (by kernel_rfl) (fun _ _ _ h => h) (Or.inl ⟨by rfl, ?_⟩) ?_ ?_
   rotate_left
   ·
    intro w'
    go_simp
    with_reducible rfl
   rotate_left
   ·
    simp only [Act.put, List.setIfInBounds_toArray, List.set_cons_zero, List.set_cons_succ, i64_w, i32_w]
    rfl
   refine pure_ (i := 2) (N := some 13) (v := ?_) (a' := ?_) (bt_ 5 7) rfl rfl (by kernel_rfl) (fun _ _ _ h => h) (Or.inl ⟨by rfl, ?_⟩) ?_ ?_
   rotate_left
   ·
    intro w'
    go_simp
    with_reducible rfl
   rotate_left
   ·
    simp only [Act.put, List.setIfInBounds_toArray, List.set_cons_zero, List.set_cons_succ, i64_w, i32_w]
    rfl
   refine take_ (i := 1) (N := some 12) (v := ?_) (a' := ?_) (bt_ 7 7) rfl rfl (by kernel_rfl) (fun _ _ _ h => h) (Or.inl ⟨by rfl, ?_⟩) hHeld ?_ ?_
   rotate_left
   ·
    rintro w' ⟨s0, s1⟩
    go_simp
    with_reducible rfl
   rotate_left
   ·
    simp only [Act.put, List.setIfInBounds_toArray, List.set_cons_zero, List.set_cons_succ, i64_w, i32_w]
    rfl
   refine join_ (σ := Value × Nat) 1 (bt_ 63 7) (fun s_ => [(14, .agg #[.int .i64 t467, .int .i64 t468, .int .i64 t469]), (15, .agg #[.int .i64 t472, s_.1]), (6, .pointer (some ⟨s_.2, 0, none⟩))]) (fun s_ w' => (w'.cell? ⟨gb466, 0, none⟩ = some (.slice Ao14 t460.length co14) ∧ w'.cell? ⟨gb466, 1, none⟩ = some (.int .i64 t463)) ∧ (Kd.R (Kd.int .i64) 3 w' w.heap.size (fun k_ => some k_ ≠ (s_.1 : Value).ownBlock) (.slice Ao14 t460.length co14) t460) ∧ (Kd.R (Kd.int .i64) 3 w' w.heap.size (fun k_ => some k_ ≠ (.slice Ao14 t460.length co14 : Value).ownBlock) s_.1 t473) ∧ (w'.heap[gb454]? = some (.cells #[.int .i64 0, .slice none 0 0] 49 (0, 0))) ∧ (w'.heap[gb455]? = some (.cells #[.int .i64 0, .slice none 0 0] 49 (0, 0))) ∧ (w'.heap[gb466]? = some (.cells #[.slice Ao14 t460.length co14, .int .i64 t463] 44 (0, 0))) ∧ (w'.heap[s_.2]? = some (.cells #[.int .i64 0, .slice none 0 0] 49 (0, 0))) ∧ (w.heap.size ≤ s_.2) ∧ (w.heap.size ≤ s_.2) ∧ (g459 ≠ s_.2) ∧ (s_.2 ≠ g459) ∧ (gb454 ≠ s_.2) ∧ (s_.2 ≠ gb454) ∧ (gb455 ≠ s_.2) ∧ (s_.2 ≠ gb455) ∧ (gb466 ≠ s_.2) ∧ (s_.2 ≠ gb466) ∧ (IsS147 w w' g459 t456 t476 t477) ∧ (Below w.heap.size w w')) ?_ ?_
   rotate_left
   ·
    intro hCont
    refine two_ (i := 3) (j := 5) (Ni := some 14) (Nj := some 6) (bt_ 15 7) (bt_ 39 7) rfl rfl rfl rfl (by kernel_rfl) (by decide) (by decide) (fun K hK => ?_) (fun K hK => ?_)
    ·
     skip
     refine goes_ Try.func78 (by kernel_rfl) rfl #[.pointer (some ⟨g459, 0, none⟩)] (by rfl) rfl rfl al_ ?_
     with_reducible refine (spec_l4DrawRight.calls k g459 t456 t464 t465 t467 t468 t469 t470 t471 w _ ?side1 ?side2 A4.out).mono ?_
     (case side1 => repeat (first | (with_reducible first | exact HI459.out | apply IsS147.alloc | apply IsS147.drewN | apply IsS147.drew | apply IsS147.set_1 | apply IsS147.set_2 | refine IsS147.far ?_ NB459_454.out _ | refine IsS147.far ?_ NB459_455.out _ | refine IsS147.far ?_ NB459_466.out _) | exact HI459.out))
     (case side2 => repeat (first | (with_reducible first | exact HB.out | apply below_alloc | apply pw_below_drewN | apply below_drew1 | refine below_set ?_ (IsS147.ge HI459.out) | refine below_set ?_ GW454.out | refine below_set ?_ GW455.out | refine below_set ?_ GE466.out) | exact HB.out))
     rintro e w21 ⟨rfl, hi, hb, hk⟩
     refine ⟨_, rfl, ?_⟩
     replace BK454 := A_ (KeepBut.blk hk (g' := gb454) (o := .cells #[.int .i64 0, .slice none 0 0] 49 (0, 0)) (bk_ BK454) NB454_459.out (by simp))
     replace BK455 := A_ (KeepBut.blk hk (g' := gb455) (o := .cells #[.int .i64 0, .slice none 0 0] 49 (0, 0)) (bk_ BK455) NB455_459.out (by simp))
     replace HO462 := A_ (Kd.R_mono (Kd.R_keep (IsS147.apart (show IsS147 w _ g459 t456 t464 t465 from by repeat (first | (with_reducible first | exact HI459.out | apply IsS147.alloc | apply IsS147.drewN | apply IsS147.drew | apply IsS147.set_1 | apply IsS147.set_2 | refine IsS147.far ?_ NB459_454.out _ | refine IsS147.far ?_ NB459_455.out _ | refine IsS147.far ?_ NB459_466.out _) | exact HI459.out)) (rb_ HO462.out) (by decide)) hk (fun _ h => h.2)) (fun _ h => h.1))
     replace BK466 := A_ (KeepBut.blk hk (g' := gb466) (o := .cells #[.slice Ao14 t460.length co14, .int .i64 t463] 44 (0, 0)) (bk_ BK466) NB466_459.out (by simp))
     replace HI459 := A_ hi
     replace HB := A_ hb
     (try clear hb)
     (try clear hb2)
     (try clear hk)
     (try clear hi)
     refine hK.out _ _ ⟨(blk_cell BK466.out 0).trans rfl, (blk_cell BK466.out 1).trans rfl⟩ (fun hHeld => ?_)
     clear hK K
     refine norm_ (a' := ?_) ?_ ?_
     rotate_left
     ·
      show Act.put _ (some 14) _ = _
      simp only [Act.put, List.setIfInBounds_toArray, List.set_cons_zero, List.set_cons_succ, i64_w, i32_w]
      rfl
     refine two_ (i := 4) (j := 5) (Ni := some 15) (Nj := some 6) (bt_ 31 7) (bt_ 47 7) rfl rfl rfl rfl (by kernel_rfl) (by decide) (by decide) (fun K hK => ?_) (fun K hK => ?_)
     ·
      skip
      refine goes_ Try.func73 (by kernel_rfl) rfl #[.pointer (some ⟨g459, 0, none⟩), .agg #[.slice Ao14 t460.length co14, .int .i64 t463], .agg #[.int .i64 t467, .int .i64 t468, .int .i64 t469]] (by rfl) rfl rfl al_ ?_
      with_reducible refine (spec_l4DrawRes.calls k g459 t456 t470 t471 _ _ t460 t463 t467 t468 t469 t472 t473 t476 t477 w _ ?side1 ?side2 ?side3 ?side4 ?side5 A5.out).mono ?_
      (case side1 => repeat (first | (with_reducible first | exact HI459.out | apply IsS147.alloc | apply IsS147.drewN | apply IsS147.drew | apply IsS147.set_1 | apply IsS147.set_2 | refine IsS147.far ?_ NB459_454.out _ | refine IsS147.far ?_ NB459_455.out _ | refine IsS147.far ?_ NB459_466.out _) | exact HI459.out))
      (case side2 => repeat (first | (with_reducible first | exact HB.out | apply below_alloc | apply pw_below_drewN | apply below_drew1 | refine below_set ?_ (IsS147.ge HI459.out) | refine below_set ?_ GW454.out | refine below_set ?_ GW455.out | refine below_set ?_ GE466.out) | exact HB.out))
      (case side3 => repeat (first | exact (Kd.R_reads' HO462.out).2.2 | (with_reducible refine Kd.C_alloc ?_ _) | (with_reducible refine Kd.C_drewN ?_ _) | (with_reducible refine Kd.C_drew ?_)))
      (case side4 => exact (Kd.R_reads' HO462.out).2.1)
      (case side5 => exact far_slice (IsS147.own_ne HI459.out HO462.out (by decide)))
      rintro e w22 ⟨v474, rfl, ho0, hi, hb, hk⟩
      refine ⟨_, rfl, ?_⟩
      have HO475 := A_ (Kd.R_lower (Kd.R_new' ho0 (Kd.R_lt (rb_ HO462.out))) (below_size (by repeat (first | (with_reducible first | exact HB.out | apply below_alloc | apply pw_below_drewN | apply below_drew1 | refine below_set ?_ (IsS147.ge HI459.out) | refine below_set ?_ GW454.out | refine below_set ?_ GW455.out | refine below_set ?_ GE466.out) | exact HB.out))))
      replace BK454 := A_ (KeepBut.blk hk (g' := gb454) (o := .cells #[.int .i64 0, .slice none 0 0] 49 (0, 0)) (bk_ BK454) NB454_459.out (by simp))
      replace BK455 := A_ (KeepBut.blk hk (g' := gb455) (o := .cells #[.int .i64 0, .slice none 0 0] 49 (0, 0)) (bk_ BK455) NB455_459.out (by simp))
      replace HO462 := A_ (Kd.R_mono (Kd.R_told (Kd.R_oldK (IsS147.apart (show IsS147 w _ g459 t456 t470 t471 from by repeat (first | (with_reducible first | exact HI459.out | apply IsS147.alloc | apply IsS147.drewN | apply IsS147.drew | apply IsS147.set_1 | apply IsS147.set_2 | refine IsS147.far ?_ NB459_454.out _ | refine IsS147.far ?_ NB459_455.out _ | refine IsS147.far ?_ NB459_466.out _) | exact HI459.out)) (rb_ HO462.out) (by decide)) hk) (Kd.R_base ho0)) (fun _ h_ => h_.1))
      replace BK466 := A_ (KeepBut.blk hk (g' := gb466) (o := .cells #[.slice Ao14 t460.length co14, .int .i64 t463] 44 (0, 0)) (bk_ BK466) NB466_459.out (by simp))
      replace HI459 := A_ hi
      replace HB := A_ hb
      (try clear hb)
      (try clear hb2)
      (try clear hk)
      (try clear hi)
      (try clear ho0)
      refine hK.out _ _ ⟨(blk_cell BK466.out 0).trans rfl, (blk_cell BK466.out 1).trans rfl⟩ (fun hHeld => ?_)
      clear hK K
      refine norm_ (a' := ?_) ?_ ?_
      rotate_left
      ·
       show Act.put _ (some 15) _ = _
       simp only [Act.put, List.setIfInBounds_toArray, List.set_cons_zero, List.set_cons_succ, i64_w, i32_w]
       rfl
      refine one_ (i := 5) (N := some 6) (bt_ 63 7) rfl rfl (by kernel_rfl) (by decide) (fun K hK => ?_)
      refine box_step ?hg (N := 6) ?hd (cs := #[.int .i64 0, .slice none 0 0]) (t := 49) ?hr ?_; (case hd => rfl); (case hg => rfl); (case hr => first | (go_simp; done) | (go_simp; rfl))
      intro gb478 hg w23 hbox hb
      have n0_ := A_ (Kd.R_below (rb_ HO462.out) hb)
      have n1_ := A_ (Kd.R_below (rb_ HO475.out) hb)
      have n2_ := bb_ BK454 hb
      have n3_ := bb_ BK455 hb
      have n4_ := A_ (IsS147.below (by repeat (first | (with_reducible first | exact HI459.out | apply IsS147.alloc | apply IsS147.drewN | apply IsS147.drew | apply IsS147.set_1 | apply IsS147.set_2 | refine IsS147.far ?_ NB459_454.out _ | refine IsS147.far ?_ NB459_455.out _ | refine IsS147.far ?_ NB459_466.out _) | exact HI459.out)) hb)
      have n5_ := bb_ BK466 hb
      have n6_ := A_ (below_step (by repeat (first | (with_reducible first | exact HB.out | apply below_alloc | apply pw_below_drewN | apply below_drew1 | refine below_set ?_ (IsS147.ge HI459.out) | refine below_set ?_ GW454.out | refine below_set ?_ GW455.out | refine below_set ?_ GE466.out) | exact HB.out)) hb)
      have n7_ := A_ hbox
      have n8_ := A_ ((by rw [hg]; exact (below_size (by repeat (first | (with_reducible first | exact HB.out | apply below_alloc | apply pw_below_drewN | apply below_drew1 | refine below_set ?_ (IsS147.ge HI459.out) | refine below_set ?_ GW454.out | refine below_set ?_ GW455.out | refine below_set ?_ GE466.out) | exact HB.out))) : w.heap.size ≤ gb478))
      have n9_ := A_ ((by rw [hg]; exact (below_size (by repeat (first | (with_reducible first | exact HB.out | apply below_alloc | apply pw_below_drewN | apply below_drew1 | refine below_set ?_ (IsS147.ge HI459.out) | refine below_set ?_ GW454.out | refine below_set ?_ GW455.out | refine below_set ?_ GE466.out) | exact HB.out))) : w.heap.size ≤ gb478))
      have n10_ := ng_ BK454 hg
      have n11_ := ns_ (ng_ BK454 hg)
      have n12_ := ng_ BK455 hg
      have n13_ := ns_ (ng_ BK455 hg)
      have n14_ := ng_ BK466 hg
      have n15_ := ns_ (ng_ BK466 hg)
      have n16_ := A_ ((by rw [hg]; exact Nat.ne_of_lt (IsS147.lt (show IsS147 w _ g459 t456 t476 t477 from by repeat (first | (with_reducible first | exact HI459.out | apply IsS147.alloc | apply IsS147.drewN | apply IsS147.drew | apply IsS147.set_1 | apply IsS147.set_2 | refine IsS147.far ?_ NB459_454.out _ | refine IsS147.far ?_ NB459_455.out _ | refine IsS147.far ?_ NB459_466.out _) | exact HI459.out))) : g459 ≠ gb478))
      have n17_ := A_ ((by rw [hg]; exact Nat.ne_of_gt (IsS147.lt (show IsS147 w _ g459 t456 t476 t477 from by repeat (first | (with_reducible first | exact HI459.out | apply IsS147.alloc | apply IsS147.drewN | apply IsS147.drew | apply IsS147.set_1 | apply IsS147.set_2 | refine IsS147.far ?_ NB459_454.out _ | refine IsS147.far ?_ NB459_455.out _ | refine IsS147.far ?_ NB459_466.out _) | exact HI459.out))) : gb478 ≠ g459))
      clear HO462 HO475 BK454 BK455 HI459 BK466 HB
      have HO462 := n0_
      have HO475 := n1_
      have BK454 := n2_
      have BK455 := n3_
      have HI459 := n4_
      have BK466 := n5_
      have HB := n6_
      have BK478 := n7_
      have GW478 := n8_
      have GE478 := n9_
      have NB454_478 := n10_
      have NB478_454 := n11_
      have NB455_478 := n12_
      have NB478_455 := n13_
      have NB466_478 := n14_
      have NB478_466 := n15_
      have NB459_478 := n16_
      have NB478_459 := n17_
      clear n0_ n1_ n2_ n3_ n4_ n5_ n6_ n7_ n8_ n9_ n10_ n11_ n12_ n13_ n14_ n15_ n16_ n17_ hb hbox hg
      refine hK.out _ _ ⟨(blk_cell BK466.out 0).trans rfl, (blk_cell BK466.out 1).trans rfl⟩ (fun hHeld => ?_)
      clear hK K
      refine norm_ (a' := ?_) ?_ ?_
      rotate_left
      ·
       show Act.put _ (some 6) _ = _
       simp only [Act.put, List.setIfInBounds_toArray, List.set_cons_zero, List.set_cons_succ, i64_w, i32_w]
       rfl
      exact norm_ (by simp only [putAll, Act.put, List.setIfInBounds_toArray, List.set_cons_zero, List.set_cons_succ]) (hCont (v474, gb478) _ ⟨hHeld, (by (with_reducible repeat (first | apply Kd.R_alloc | apply Kd.R_drewN | apply Kd.R_drew)); exact Kd.R_mono HO462.out (fun _ hk => hk.2)), (by (with_reducible repeat (first | apply Kd.R_alloc | apply Kd.R_drewN | apply Kd.R_drew)); exact Kd.R_mono HO475.out (fun _ hk => hk.2)), (bk_ BK454), (bk_ BK455), (bk_ BK466), (bk_ BK478), GW478.out, GE478.out, NB459_478.out, NB478_459.out, NB454_478.out, NB478_454.out, NB455_478.out, NB478_455.out, NB466_478.out, NB478_466.out, (by repeat (first | (with_reducible first | exact HI459.out | apply IsS147.alloc | apply IsS147.drewN | apply IsS147.drew | apply IsS147.set_1 | apply IsS147.set_2 | refine IsS147.far ?_ NB459_454.out _ | refine IsS147.far ?_ NB459_455.out _ | refine IsS147.far ?_ NB459_466.out _ | refine IsS147.far ?_ NB459_478.out _) | exact HI459.out)), (by repeat (first | (with_reducible first | exact HB.out | apply below_alloc | apply pw_below_drewN | apply below_drew1 | refine below_set ?_ (IsS147.ge HI459.out) | refine below_set ?_ GW454.out | refine below_set ?_ GW455.out | refine below_set ?_ GE466.out | refine below_set ?_ GE478.out) | exact HB.out))⟩)
     skip
     refine box_step ?hg (N := 6) ?hd (cs := #[.int .i64 0, .slice none 0 0]) (t := 49) ?hr ?_; (case hd => rfl); (case hg => rfl); (case hr => first | (go_simp; done) | (go_simp; rfl))
     intro gb478 hg w22 hbox hb
     have n0_ := A_ (Kd.R_below (rb_ HO462.out) hb)
     have n1_ := bb_ BK454 hb
     have n2_ := bb_ BK455 hb
     have n3_ := A_ (IsS147.below (by repeat (first | (with_reducible first | exact HI459.out | apply IsS147.alloc | apply IsS147.drewN | apply IsS147.drew | apply IsS147.set_1 | apply IsS147.set_2 | refine IsS147.far ?_ NB459_454.out _ | refine IsS147.far ?_ NB459_455.out _ | refine IsS147.far ?_ NB459_466.out _) | exact HI459.out)) hb)
     have n4_ := bb_ BK466 hb
     have n5_ := A_ (below_step (by repeat (first | (with_reducible first | exact HB.out | apply below_alloc | apply pw_below_drewN | apply below_drew1 | refine below_set ?_ (IsS147.ge HI459.out) | refine below_set ?_ GW454.out | refine below_set ?_ GW455.out | refine below_set ?_ GE466.out) | exact HB.out)) hb)
     have n6_ := A_ hbox
     have n7_ := A_ ((by rw [hg]; exact (below_size (by repeat (first | (with_reducible first | exact HB.out | apply below_alloc | apply pw_below_drewN | apply below_drew1 | refine below_set ?_ (IsS147.ge HI459.out) | refine below_set ?_ GW454.out | refine below_set ?_ GW455.out | refine below_set ?_ GE466.out) | exact HB.out))) : w.heap.size ≤ gb478))
     have n8_ := A_ ((by rw [hg]; exact (below_size (by repeat (first | (with_reducible first | exact HB.out | apply below_alloc | apply pw_below_drewN | apply below_drew1 | refine below_set ?_ (IsS147.ge HI459.out) | refine below_set ?_ GW454.out | refine below_set ?_ GW455.out | refine below_set ?_ GE466.out) | exact HB.out))) : w.heap.size ≤ gb478))
     have n9_ := ng_ BK454 hg
     have n10_ := ns_ (ng_ BK454 hg)
     have n11_ := ng_ BK455 hg
     have n12_ := ns_ (ng_ BK455 hg)
     have n13_ := ng_ BK466 hg
     have n14_ := ns_ (ng_ BK466 hg)
     have n15_ := A_ ((by rw [hg]; exact Nat.ne_of_lt (IsS147.lt (show IsS147 w _ g459 t456 t470 t471 from by repeat (first | (with_reducible first | exact HI459.out | apply IsS147.alloc | apply IsS147.drewN | apply IsS147.drew | apply IsS147.set_1 | apply IsS147.set_2 | refine IsS147.far ?_ NB459_454.out _ | refine IsS147.far ?_ NB459_455.out _ | refine IsS147.far ?_ NB459_466.out _) | exact HI459.out))) : g459 ≠ gb478))
     have n16_ := A_ ((by rw [hg]; exact Nat.ne_of_gt (IsS147.lt (show IsS147 w _ g459 t456 t470 t471 from by repeat (first | (with_reducible first | exact HI459.out | apply IsS147.alloc | apply IsS147.drewN | apply IsS147.drew | apply IsS147.set_1 | apply IsS147.set_2 | refine IsS147.far ?_ NB459_454.out _ | refine IsS147.far ?_ NB459_455.out _ | refine IsS147.far ?_ NB459_466.out _) | exact HI459.out))) : gb478 ≠ g459))
     clear HO462 BK454 BK455 HI459 BK466 HB
     have HO462 := n0_
     have BK454 := n1_
     have BK455 := n2_
     have HI459 := n3_
     have BK466 := n4_
     have HB := n5_
     have BK478 := n6_
     have GW478 := n7_
     have GE478 := n8_
     have NB454_478 := n9_
     have NB478_454 := n10_
     have NB455_478 := n11_
     have NB478_455 := n12_
     have NB466_478 := n13_
     have NB478_466 := n14_
     have NB459_478 := n15_
     have NB478_459 := n16_
     clear n0_ n1_ n2_ n3_ n4_ n5_ n6_ n7_ n8_ n9_ n10_ n11_ n12_ n13_ n14_ n15_ n16_ hb hbox hg
     refine hK.out _ _ ⟨(blk_cell BK466.out 0).trans rfl, (blk_cell BK466.out 1).trans rfl⟩ (fun hHeld => ?_)
     clear hK K
     refine norm_ (a' := ?_) ?_ ?_
     rotate_left
     ·
      show Act.put _ (some 6) _ = _
      simp only [Act.put, List.setIfInBounds_toArray, List.set_cons_zero, List.set_cons_succ, i64_w, i32_w]
      rfl
     refine one_ (i := 4) (N := some 15) (bt_ 63 7) rfl rfl (by kernel_rfl) (by decide) (fun K hK => ?_)
     refine goes_ Try.func73 (by kernel_rfl) rfl #[.pointer (some ⟨g459, 0, none⟩), .agg #[.slice Ao14 t460.length co14, .int .i64 t463], .agg #[.int .i64 t467, .int .i64 t468, .int .i64 t469]] (by rfl) rfl rfl al_ ?_
     with_reducible refine (spec_l4DrawRes.calls k g459 t456 t470 t471 _ _ t460 t463 t467 t468 t469 t472 t473 t476 t477 w _ ?side1 ?side2 ?side3 ?side4 ?side5 A5.out).mono ?_
     (case side1 => repeat (first | (with_reducible first | exact HI459.out | apply IsS147.alloc | apply IsS147.drewN | apply IsS147.drew | apply IsS147.set_1 | apply IsS147.set_2 | refine IsS147.far ?_ NB459_454.out _ | refine IsS147.far ?_ NB459_455.out _ | refine IsS147.far ?_ NB459_466.out _ | refine IsS147.far ?_ NB459_478.out _) | exact HI459.out))
     (case side2 => repeat (first | (with_reducible first | exact HB.out | apply below_alloc | apply pw_below_drewN | apply below_drew1 | refine below_set ?_ (IsS147.ge HI459.out) | refine below_set ?_ GW454.out | refine below_set ?_ GW455.out | refine below_set ?_ GE466.out | refine below_set ?_ GE478.out) | exact HB.out))
     (case side3 => repeat (first | exact (Kd.R_reads' HO462.out).2.2 | (with_reducible refine Kd.C_alloc ?_ _) | (with_reducible refine Kd.C_drewN ?_ _) | (with_reducible refine Kd.C_drew ?_)))
     (case side4 => exact (Kd.R_reads' HO462.out).2.1)
     (case side5 => exact far_slice (IsS147.own_ne HI459.out HO462.out (by decide)))
     rintro e w23 ⟨v474, rfl, ho0, hi, hb, hk⟩
     refine ⟨_, rfl, ?_⟩
     have HO475 := A_ (Kd.R_lower (Kd.R_new' ho0 (Kd.R_lt (rb_ HO462.out))) (below_size (by repeat (first | (with_reducible first | exact HB.out | apply below_alloc | apply pw_below_drewN | apply below_drew1 | refine below_set ?_ (IsS147.ge HI459.out) | refine below_set ?_ GW454.out | refine below_set ?_ GW455.out | refine below_set ?_ GE466.out | refine below_set ?_ GE478.out) | exact HB.out))))
     replace BK454 := A_ (KeepBut.blk hk (g' := gb454) (o := .cells #[.int .i64 0, .slice none 0 0] 49 (0, 0)) (bk_ BK454) NB454_459.out (by simp))
     replace BK455 := A_ (KeepBut.blk hk (g' := gb455) (o := .cells #[.int .i64 0, .slice none 0 0] 49 (0, 0)) (bk_ BK455) NB455_459.out (by simp))
     replace HO462 := A_ (Kd.R_mono (Kd.R_told (Kd.R_oldK (IsS147.apart (show IsS147 w _ g459 t456 t470 t471 from by repeat (first | (with_reducible first | exact HI459.out | apply IsS147.alloc | apply IsS147.drewN | apply IsS147.drew | apply IsS147.set_1 | apply IsS147.set_2 | refine IsS147.far ?_ NB459_454.out _ | refine IsS147.far ?_ NB459_455.out _ | refine IsS147.far ?_ NB459_466.out _ | refine IsS147.far ?_ NB459_478.out _) | exact HI459.out)) (rb_ HO462.out) (by decide)) hk) (Kd.R_base ho0)) (fun _ h_ => h_.1))
     replace BK466 := A_ (KeepBut.blk hk (g' := gb466) (o := .cells #[.slice Ao14 t460.length co14, .int .i64 t463] 44 (0, 0)) (bk_ BK466) NB466_459.out (by simp))
     replace BK478 := A_ (KeepBut.blk hk (g' := gb478) (o := .cells #[.int .i64 0, .slice none 0 0] 49 (0, 0)) (bk_ BK478) NB478_459.out (by simp))
     replace HI459 := A_ hi
     replace HB := A_ hb
     (try clear hb)
     (try clear hb2)
     (try clear hk)
     (try clear hi)
     (try clear ho0)
     refine hK.out _ _ ⟨(blk_cell BK466.out 0).trans rfl, (blk_cell BK466.out 1).trans rfl⟩ (fun hHeld => ?_)
     clear hK K
     refine norm_ (a' := ?_) ?_ ?_
     rotate_left
     ·
      show Act.put _ (some 15) _ = _
      simp only [Act.put, List.setIfInBounds_toArray, List.set_cons_zero, List.set_cons_succ, i64_w, i32_w]
      rfl
     exact norm_ (by simp only [putAll, Act.put, List.setIfInBounds_toArray, List.set_cons_zero, List.set_cons_succ]) (hCont (v474, gb478) _ ⟨hHeld, (by (with_reducible repeat (first | apply Kd.R_alloc | apply Kd.R_drewN | apply Kd.R_drew)); exact Kd.R_mono HO462.out (fun _ hk => hk.2)), (by (with_reducible repeat (first | apply Kd.R_alloc | apply Kd.R_drewN | apply Kd.R_drew)); exact Kd.R_mono HO475.out (fun _ hk => hk.2)), (bk_ BK454), (bk_ BK455), (bk_ BK466), (bk_ BK478), GW478.out, GE478.out, NB459_478.out, NB478_459.out, NB454_478.out, NB478_454.out, NB455_478.out, NB478_455.out, NB466_478.out, NB478_466.out, (by repeat (first | (with_reducible first | exact HI459.out | apply IsS147.alloc | apply IsS147.drewN | apply IsS147.drew | apply IsS147.set_1 | apply IsS147.set_2 | refine IsS147.far ?_ NB459_454.out _ | refine IsS147.far ?_ NB459_455.out _ | refine IsS147.far ?_ NB459_466.out _ | refine IsS147.far ?_ NB459_478.out _) | exact HI459.out)), (by repeat (first | (with_reducible first | exact HB.out | apply below_alloc | apply pw_below_drewN | apply below_drew1 | refine below_set ?_ (IsS147.ge HI459.out) | refine below_set ?_ GW454.out | refine below_set ?_ GW455.out | refine below_set ?_ GE466.out | refine below_set ?_ GE478.out) | exact HB.out))⟩)
    skip
    refine box_step ?hg (N := 6) ?hd (cs := #[.int .i64 0, .slice none 0 0]) (t := 49) ?hr ?_; (case hd => rfl); (case hg => rfl); (case hr => first | (go_simp; done) | (go_simp; rfl))
    intro gb478 hg w21 hbox hb
    have n0_ := A_ (Kd.R_below (rb_ HO462.out) hb)
    have n1_ := bb_ BK454 hb
    have n2_ := bb_ BK455 hb
    have n3_ := A_ (IsS147.below (by repeat (first | (with_reducible first | exact HI459.out | apply IsS147.alloc | apply IsS147.drewN | apply IsS147.drew | apply IsS147.set_1 | apply IsS147.set_2 | refine IsS147.far ?_ NB459_454.out _ | refine IsS147.far ?_ NB459_455.out _ | refine IsS147.far ?_ NB459_466.out _) | exact HI459.out)) hb)
    have n4_ := bb_ BK466 hb
    have n5_ := A_ (below_step (by repeat (first | (with_reducible first | exact HB.out | apply below_alloc | apply pw_below_drewN | apply below_drew1 | refine below_set ?_ (IsS147.ge HI459.out) | refine below_set ?_ GW454.out | refine below_set ?_ GW455.out | refine below_set ?_ GE466.out) | exact HB.out)) hb)
    have n6_ := A_ hbox
    have n7_ := A_ ((by rw [hg]; exact (below_size (by repeat (first | (with_reducible first | exact HB.out | apply below_alloc | apply pw_below_drewN | apply below_drew1 | refine below_set ?_ (IsS147.ge HI459.out) | refine below_set ?_ GW454.out | refine below_set ?_ GW455.out | refine below_set ?_ GE466.out) | exact HB.out))) : w.heap.size ≤ gb478))
    have n8_ := A_ ((by rw [hg]; exact (below_size (by repeat (first | (with_reducible first | exact HB.out | apply below_alloc | apply pw_below_drewN | apply below_drew1 | refine below_set ?_ (IsS147.ge HI459.out) | refine below_set ?_ GW454.out | refine below_set ?_ GW455.out | refine below_set ?_ GE466.out) | exact HB.out))) : w.heap.size ≤ gb478))
    have n9_ := ng_ BK454 hg
    have n10_ := ns_ (ng_ BK454 hg)
    have n11_ := ng_ BK455 hg
    have n12_ := ns_ (ng_ BK455 hg)
    have n13_ := ng_ BK466 hg
    have n14_ := ns_ (ng_ BK466 hg)
    have n15_ := A_ ((by rw [hg]; exact Nat.ne_of_lt (IsS147.lt (show IsS147 w _ g459 t456 t464 t465 from by repeat (first | (with_reducible first | exact HI459.out | apply IsS147.alloc | apply IsS147.drewN | apply IsS147.drew | apply IsS147.set_1 | apply IsS147.set_2 | refine IsS147.far ?_ NB459_454.out _ | refine IsS147.far ?_ NB459_455.out _ | refine IsS147.far ?_ NB459_466.out _) | exact HI459.out))) : g459 ≠ gb478))
    have n16_ := A_ ((by rw [hg]; exact Nat.ne_of_gt (IsS147.lt (show IsS147 w _ g459 t456 t464 t465 from by repeat (first | (with_reducible first | exact HI459.out | apply IsS147.alloc | apply IsS147.drewN | apply IsS147.drew | apply IsS147.set_1 | apply IsS147.set_2 | refine IsS147.far ?_ NB459_454.out _ | refine IsS147.far ?_ NB459_455.out _ | refine IsS147.far ?_ NB459_466.out _) | exact HI459.out))) : gb478 ≠ g459))
    clear HO462 BK454 BK455 HI459 BK466 HB
    have HO462 := n0_
    have BK454 := n1_
    have BK455 := n2_
    have HI459 := n3_
    have BK466 := n4_
    have HB := n5_
    have BK478 := n6_
    have GW478 := n7_
    have GE478 := n8_
    have NB454_478 := n9_
    have NB478_454 := n10_
    have NB455_478 := n11_
    have NB478_455 := n12_
    have NB466_478 := n13_
    have NB478_466 := n14_
    have NB459_478 := n15_
    have NB478_459 := n16_
    clear n0_ n1_ n2_ n3_ n4_ n5_ n6_ n7_ n8_ n9_ n10_ n11_ n12_ n13_ n14_ n15_ n16_ hb hbox hg
    refine hK.out _ _ ⟨(blk_cell BK466.out 0).trans rfl, (blk_cell BK466.out 1).trans rfl⟩ (fun hHeld => ?_)
    clear hK K
    refine norm_ (a' := ?_) ?_ ?_
    rotate_left
    ·
     show Act.put _ (some 6) _ = _
     simp only [Act.put, List.setIfInBounds_toArray, List.set_cons_zero, List.set_cons_succ, i64_w, i32_w]
     rfl
    refine one_ (i := 3) (N := some 14) (bt_ 47 7) rfl rfl (by kernel_rfl) (by decide) (fun K hK => ?_)
    refine goes_ Try.func78 (by kernel_rfl) rfl #[.pointer (some ⟨g459, 0, none⟩)] (by rfl) rfl rfl al_ ?_
    with_reducible refine (spec_l4DrawRight.calls k g459 t456 t464 t465 t467 t468 t469 t470 t471 w _ ?side1 ?side2 A4.out).mono ?_
    (case side1 => repeat (first | (with_reducible first | exact HI459.out | apply IsS147.alloc | apply IsS147.drewN | apply IsS147.drew | apply IsS147.set_1 | apply IsS147.set_2 | refine IsS147.far ?_ NB459_454.out _ | refine IsS147.far ?_ NB459_455.out _ | refine IsS147.far ?_ NB459_466.out _ | refine IsS147.far ?_ NB459_478.out _) | exact HI459.out))
    (case side2 => repeat (first | (with_reducible first | exact HB.out | apply below_alloc | apply pw_below_drewN | apply below_drew1 | refine below_set ?_ (IsS147.ge HI459.out) | refine below_set ?_ GW454.out | refine below_set ?_ GW455.out | refine below_set ?_ GE466.out | refine below_set ?_ GE478.out) | exact HB.out))
    rintro e w22 ⟨rfl, hi, hb, hk⟩
    refine ⟨_, rfl, ?_⟩
    replace BK454 := A_ (KeepBut.blk hk (g' := gb454) (o := .cells #[.int .i64 0, .slice none 0 0] 49 (0, 0)) (bk_ BK454) NB454_459.out (by simp))
    replace BK455 := A_ (KeepBut.blk hk (g' := gb455) (o := .cells #[.int .i64 0, .slice none 0 0] 49 (0, 0)) (bk_ BK455) NB455_459.out (by simp))
    replace HO462 := A_ (Kd.R_mono (Kd.R_keep (IsS147.apart (show IsS147 w _ g459 t456 t464 t465 from by repeat (first | (with_reducible first | exact HI459.out | apply IsS147.alloc | apply IsS147.drewN | apply IsS147.drew | apply IsS147.set_1 | apply IsS147.set_2 | refine IsS147.far ?_ NB459_454.out _ | refine IsS147.far ?_ NB459_455.out _ | refine IsS147.far ?_ NB459_466.out _ | refine IsS147.far ?_ NB459_478.out _) | exact HI459.out)) (rb_ HO462.out) (by decide)) hk (fun _ h => h.2)) (fun _ h => h.1))
    replace BK466 := A_ (KeepBut.blk hk (g' := gb466) (o := .cells #[.slice Ao14 t460.length co14, .int .i64 t463] 44 (0, 0)) (bk_ BK466) NB466_459.out (by simp))
    replace BK478 := A_ (KeepBut.blk hk (g' := gb478) (o := .cells #[.int .i64 0, .slice none 0 0] 49 (0, 0)) (bk_ BK478) NB478_459.out (by simp))
    replace HI459 := A_ hi
    replace HB := A_ hb
    (try clear hb)
    (try clear hb2)
    (try clear hk)
    (try clear hi)
    refine hK.out _ _ ⟨(blk_cell BK466.out 0).trans rfl, (blk_cell BK466.out 1).trans rfl⟩ (fun hHeld => ?_)
    clear hK K
    refine norm_ (a' := ?_) ?_ ?_
    rotate_left
    ·
     show Act.put _ (some 14) _ = _
     simp only [Act.put, List.setIfInBounds_toArray, List.set_cons_zero, List.set_cons_succ, i64_w, i32_w]
     rfl
    refine one_ (i := 4) (N := some 15) (bt_ 63 7) rfl rfl (by kernel_rfl) (by decide) (fun K hK => ?_)
    refine goes_ Try.func73 (by kernel_rfl) rfl #[.pointer (some ⟨g459, 0, none⟩), .agg #[.slice Ao14 t460.length co14, .int .i64 t463], .agg #[.int .i64 t467, .int .i64 t468, .int .i64 t469]] (by rfl) rfl rfl al_ ?_
    with_reducible refine (spec_l4DrawRes.calls k g459 t456 t470 t471 _ _ t460 t463 t467 t468 t469 t472 t473 t476 t477 w _ ?side1 ?side2 ?side3 ?side4 ?side5 A5.out).mono ?_
    (case side1 => repeat (first | (with_reducible first | exact HI459.out | apply IsS147.alloc | apply IsS147.drewN | apply IsS147.drew | apply IsS147.set_1 | apply IsS147.set_2 | refine IsS147.far ?_ NB459_454.out _ | refine IsS147.far ?_ NB459_455.out _ | refine IsS147.far ?_ NB459_466.out _ | refine IsS147.far ?_ NB459_478.out _) | exact HI459.out))
    (case side2 => repeat (first | (with_reducible first | exact HB.out | apply below_alloc | apply pw_below_drewN | apply below_drew1 | refine below_set ?_ (IsS147.ge HI459.out) | refine below_set ?_ GW454.out | refine below_set ?_ GW455.out | refine below_set ?_ GE466.out | refine below_set ?_ GE478.out) | exact HB.out))
    (case side3 => repeat (first | exact (Kd.R_reads' HO462.out).2.2 | (with_reducible refine Kd.C_alloc ?_ _) | (with_reducible refine Kd.C_drewN ?_ _) | (with_reducible refine Kd.C_drew ?_)))
    (case side4 => exact (Kd.R_reads' HO462.out).2.1)
    (case side5 => exact far_slice (IsS147.own_ne HI459.out HO462.out (by decide)))
    rintro e w23 ⟨v474, rfl, ho0, hi, hb, hk⟩
    refine ⟨_, rfl, ?_⟩
    have HO475 := A_ (Kd.R_lower (Kd.R_new' ho0 (Kd.R_lt (rb_ HO462.out))) (below_size (by repeat (first | (with_reducible first | exact HB.out | apply below_alloc | apply pw_below_drewN | apply below_drew1 | refine below_set ?_ (IsS147.ge HI459.out) | refine below_set ?_ GW454.out | refine below_set ?_ GW455.out | refine below_set ?_ GE466.out | refine below_set ?_ GE478.out) | exact HB.out))))
    replace BK454 := A_ (KeepBut.blk hk (g' := gb454) (o := .cells #[.int .i64 0, .slice none 0 0] 49 (0, 0)) (bk_ BK454) NB454_459.out (by simp))
    replace BK455 := A_ (KeepBut.blk hk (g' := gb455) (o := .cells #[.int .i64 0, .slice none 0 0] 49 (0, 0)) (bk_ BK455) NB455_459.out (by simp))
    replace HO462 := A_ (Kd.R_mono (Kd.R_told (Kd.R_oldK (IsS147.apart (show IsS147 w _ g459 t456 t470 t471 from by repeat (first | (with_reducible first | exact HI459.out | apply IsS147.alloc | apply IsS147.drewN | apply IsS147.drew | apply IsS147.set_1 | apply IsS147.set_2 | refine IsS147.far ?_ NB459_454.out _ | refine IsS147.far ?_ NB459_455.out _ | refine IsS147.far ?_ NB459_466.out _ | refine IsS147.far ?_ NB459_478.out _) | exact HI459.out)) (rb_ HO462.out) (by decide)) hk) (Kd.R_base ho0)) (fun _ h_ => h_.1))
    replace BK466 := A_ (KeepBut.blk hk (g' := gb466) (o := .cells #[.slice Ao14 t460.length co14, .int .i64 t463] 44 (0, 0)) (bk_ BK466) NB466_459.out (by simp))
    replace BK478 := A_ (KeepBut.blk hk (g' := gb478) (o := .cells #[.int .i64 0, .slice none 0 0] 49 (0, 0)) (bk_ BK478) NB478_459.out (by simp))
    replace HI459 := A_ hi
    replace HB := A_ hb
    (try clear hb)
    (try clear hb2)
    (try clear hk)
    (try clear hi)
    (try clear ho0)
    refine hK.out _ _ ⟨(blk_cell BK466.out 0).trans rfl, (blk_cell BK466.out 1).trans rfl⟩ (fun hHeld => ?_)
    clear hK K
    refine norm_ (a' := ?_) ?_ ?_
    rotate_left
    ·
     show Act.put _ (some 15) _ = _
     simp only [Act.put, List.setIfInBounds_toArray, List.set_cons_zero, List.set_cons_succ, i64_w, i32_w]
     rfl
    exact norm_ (by simp only [putAll, Act.put, List.setIfInBounds_toArray, List.set_cons_zero, List.set_cons_succ]) (hCont (v474, gb478) _ ⟨hHeld, (by (with_reducible repeat (first | apply Kd.R_alloc | apply Kd.R_drewN | apply Kd.R_drew)); exact Kd.R_mono HO462.out (fun _ hk => hk.2)), (by (with_reducible repeat (first | apply Kd.R_alloc | apply Kd.R_drewN | apply Kd.R_drew)); exact Kd.R_mono HO475.out (fun _ hk => hk.2)), (bk_ BK454), (bk_ BK455), (bk_ BK466), (bk_ BK478), GW478.out, GE478.out, NB459_478.out, NB478_459.out, NB454_478.out, NB478_454.out, NB455_478.out, NB478_455.out, NB466_478.out, NB478_466.out, (by repeat (first | (with_reducible first | exact HI459.out | apply IsS147.alloc | apply IsS147.drewN | apply IsS147.drew | apply IsS147.set_1 | apply IsS147.set_2 | refine IsS147.far ?_ NB459_454.out _ | refine IsS147.far ?_ NB459_455.out _ | refine IsS147.far ?_ NB459_466.out _ | refine IsS147.far ?_ NB459_478.out _) | exact HI459.out)), (by repeat (first | (with_reducible first | exact HB.out | apply below_alloc | apply pw_below_drewN | apply below_drew1 | refine below_set ?_ (IsS147.ge HI459.out) | refine below_set ?_ GW454.out | refine below_set ?_ GW455.out | refine below_set ?_ GE466.out | refine below_set ?_ GE478.out) | exact HB.out))⟩)
   rintro ⟨v474, gb478⟩ w24 ⟨hS_, h0_, h1_, h2_, h3_, h4_, h5_, h6_, h7_, h8_, h9_, h10_, h11_, h12_, h13_, h14_, h15_, h16_, h17_⟩
   (try dsimp only at h0_ h1_ h2_ h3_ h4_ h5_ h6_ h7_ h8_ h9_ h10_ h11_ h12_ h13_ h14_ h15_ h16_ h17_)
   clear HO462 BK454 BK455 BK466 HI459 HB
   have HO462 := A_ h0_
   have HO475 := A_ h1_
   have BK454 := A_ h2_
   have BK455 := A_ h3_
   have BK466 := A_ h4_
   have BK478 := A_ h5_
   have GW478 := A_ h6_
   have GE478 := A_ h7_
   have NB459_478 := A_ h8_
   have NB478_459 := A_ h9_
   have NB454_478 := A_ h10_
   have NB478_454 := A_ h11_
   have NB455_478 := A_ h12_
   have NB478_455 := A_ h13_
   have NB466_478 := A_ h14_
   have NB478_466 := A_ h15_
   have HI459 := A_ h16_
   have HB := A_ h17_
   clear h0_ h1_ h2_ h3_ h4_ h5_ h6_ h7_ h8_ h9_ h10_ h11_ h12_ h13_ h14_ h15_ h16_ h17_
   (try dsimp only at hS_)
   have hHeld := hS_
   obtain ⟨Ao26, co26, eo26⟩ := Kd.R_slice HO475.out
   (first | subst eo26 | (injection eo26 with f1_ f2_ f3_; have f4_ := f1_.symm; have f5_ := f3_.symm; clear f1_ f2_ f3_; subst f4_; subst f5_))
   refine norm_ (a' := ?_) ?_ ?_
   rotate_left
   ·
    simp only [putAll, Act.put, List.setIfInBounds_toArray, List.set_cons_zero, List.set_cons_succ]
    rfl
   refine one_ (i := 6) (N := none) (bt_ 127 7) rfl rfl (by kernel_rfl) (by decide) (fun K hK => ?_)
   have hs25 : w24.cell? ⟨gb478, 0, none⟩ = some (.int .i64 0) := (blk_cell BK478.out 0).trans rfl
   have hfs25 := blk_frozen BK478.out 0
   have hns25_0 := NB454_478.out
   have hns25_1 := NB455_478.out
   have hns25_2 := NB466_478.out
   have hms25_0 := NB478_454.out
   have hms25_1 := NB478_455.out
   have hms25_2 := NB478_466.out
   have hs27 : w24.cell? ⟨gb478, 1, none⟩ = some (.slice none 0 0) := (blk_cell BK478.out 1).trans rfl
   have hfs27 := blk_frozen BK478.out 1
   have hns27_0 := NB454_478.out
   have hns27_1 := NB455_478.out
   have hns27_2 := NB466_478.out
   have hms27_0 := NB478_454.out
   have hms27_1 := NB478_455.out
   have hms27_2 := NB478_466.out
   refine skip_ (w1 := ?_) (by rfl) rfl ?_ ?_
   rotate_left
   ·
    go_simp
    rfl
   refine hK.out _ _ ⟨((cell_far (p := ⟨gb478, _, none⟩) NB466_478.out _).trans (((cell_far (p := ⟨gb478, _, none⟩) NB466_478.out _).trans (hHeld.1)))), ((cell_far (p := ⟨gb478, _, none⟩) NB466_478.out _).trans (((cell_far (p := ⟨gb478, _, none⟩) NB466_478.out _).trans (hHeld.2))))⟩ (fun hHeld => ?_)
   clear hK K
   refine done_ (by kernel_rfl) ?_
   try go_wp2_with (first | ((with_reducible refine gate_callee (f := 79) rfl ?_); refine goesL_ (some 17) rfl rfl Try.func79 (by kernel_rfl) rfl #[.pointer (some ⟨g459, 0, none⟩), .int .i64 2] rfl al_ ?_; (with_reducible refine (spec_l1Once.calls g459 t456 t476 t477 2 true t480 t481 w _ ?side1 ?side2 A6.out).mono ?_); (case side1 => repeat (first | (with_reducible first | exact HI459.out | apply IsS147.alloc | apply IsS147.drewN | apply IsS147.drew | apply IsS147.set_1 | apply IsS147.set_2 | refine IsS147.far ?_ NB459_454.out _ | refine IsS147.far ?_ NB459_455.out _ | refine IsS147.far ?_ NB459_466.out _ | refine IsS147.far ?_ NB459_478.out _) | exact HI459.out)); (case side2 => repeat (first | (with_reducible first | exact HB.out | apply below_alloc | apply pw_below_drewN | apply below_drew1 | refine below_set ?_ (IsS147.ge HI459.out) | refine below_set ?_ GW454.out | refine below_set ?_ GW455.out | refine below_set ?_ GE466.out | refine below_set ?_ GE478.out) | exact HB.out)); rintro e w28 ⟨rfl, hi, hb, hk⟩; refine ⟨_, rfl, ?_⟩; replace BK454 := A_ (KeepBut.blk hk (g' := gb454) (o := .cells #[.int .i64 0, .slice none 0 0] 49 (0, 0)) (bk_ BK454) NB454_459.out (by simp)); replace BK455 := A_ (KeepBut.blk hk (g' := gb455) (o := .cells #[.int .i64 0, .slice none 0 0] 49 (0, 0)) (bk_ BK455) NB455_459.out (by simp)); replace HO462 := A_ (Kd.R_mono (Kd.R_keep (IsS147.apart (show IsS147 w _ g459 t456 t476 t477 from by repeat (first | (with_reducible first | exact HI459.out | apply IsS147.alloc | apply IsS147.drewN | apply IsS147.drew | apply IsS147.set_1 | apply IsS147.set_2 | refine IsS147.far ?_ NB459_454.out _ | refine IsS147.far ?_ NB459_455.out _ | refine IsS147.far ?_ NB459_466.out _ | refine IsS147.far ?_ NB459_478.out _) | exact HI459.out)) (by (with_reducible repeat (first | apply Kd.R_alloc | apply Kd.R_drewN | apply Kd.R_drew)); exact (Kd.R_mono (Kd.R_far (p := ⟨gb478, 1, none⟩) (Kd.R_far (p := ⟨gb478, 0, none⟩) (Kd.R_types HO462.out BK478.out (by decide)) (fun _ hk => hk.2) (.int .i64 t472)) (fun _ hk => hk.2) (.slice Ao26 t473.length co26)) (fun _ h_ => h_.1))) (by decide)) hk (fun _ h => h.2)) (fun _ h => h.1)); replace BK466 := A_ (KeepBut.blk hk (g' := gb466) (o := .cells #[.slice Ao14 t460.length co14, .int .i64 t463] 44 (0, 0)) (bk_ BK466) NB466_459.out (by simp)); replace HO475 := A_ (Kd.R_mono (Kd.R_keep (IsS147.apart (show IsS147 w _ g459 t456 t476 t477 from by repeat (first | (with_reducible first | exact HI459.out | apply IsS147.alloc | apply IsS147.drewN | apply IsS147.drew | apply IsS147.set_1 | apply IsS147.set_2 | refine IsS147.far ?_ NB459_454.out _ | refine IsS147.far ?_ NB459_455.out _ | refine IsS147.far ?_ NB459_466.out _ | refine IsS147.far ?_ NB459_478.out _) | exact HI459.out)) (by (with_reducible repeat (first | apply Kd.R_alloc | apply Kd.R_drewN | apply Kd.R_drew)); exact (Kd.R_mono (Kd.R_far (p := ⟨gb478, 1, none⟩) (Kd.R_far (p := ⟨gb478, 0, none⟩) (Kd.R_types HO475.out BK478.out (by decide)) (fun _ hk => hk.2) (.int .i64 t472)) (fun _ hk => hk.2) (.slice Ao26 t473.length co26)) (fun _ h_ => h_.1))) (by decide)) hk (fun _ h => h.2)) (fun _ h => h.1)); replace BK478 := A_ (KeepBut.blk hk (g' := gb478) (o := .cells #[.int .i64 t472, .slice Ao26 t473.length co26] 49 (0, 0)) (bp_ BK478) NB478_459.out (by simp)); replace HI459 := A_ hi; replace HB := A_ hb; (try clear hb); (try clear hb2); (try clear hk); (try clear hi)))
   replace HO462 := A_ (Kd.R_drew HO462.out)
   replace HO475 := A_ (Kd.R_drew HO475.out)
   replace BK454 := A_ (blk_drew BK454.out)
   replace BK455 := A_ (blk_drew BK455.out)
   replace BK466 := A_ (blk_drew BK466.out)
   replace BK478 := A_ (blk_drew BK478.out)
   replace HI459 := A_ (IsS147.drew HI459.out)
   replace HB := A_ (below_drew1 HB.out)
   refine start_ (n := 10) (S := fun w' => w'.cell? ⟨gb478, 0, none⟩ = some (.int .i64 t472) ∧ w'.cell? ⟨gb478, 1, none⟩ = some (.slice Ao26 t473.length co26)) (ds := []) (bt_ 0 10) (by kernel_rfl) rfl rfl ⟨(blk_cell BK478.out 0).trans rfl, (blk_cell BK478.out 1).trans rfl⟩ (fun hHeld => ?_); refine with_tabW spec_DrawResSame.tab5 spec_DrawResSame.bits5 (fun HT_ HW_ => ?_)
   generalize w28.drew = w29 at HO462 HO475 BK454 BK455 BK466 BK478 HI459 HB hHeld ⊢
   refine pu_ 1 19 (bt_ 2 10) ?_
   refine pu_ 4 22 (bt_ 18 10) ?_
   refine tk2_ 0 18 (bt_ 19 10) hHeld ?_
   refine tk2_ 2 20 (bt_ 23 10) hHeld ?_
   refine tk2_ 5 23 (bt_ 55 10) hHeld ?_
   refine one_ (i := 3) (N := some 21) (bt_ 63 10) rfl rfl (one_of HT_.out (by kernel_rfl)) (by decide) (fun K hK => ?_)
   refine Kd.R_lit_step (Kd.int .i64) _ 3 ?hg (N := 21) ?hd (xs := ([] : List Int)) (inner := []) (ok := fun _ => True) (okp := fun _ => True) ?hr ?hp (fun _ hk => hk) trivial (Below.refl _ _) (Nat.le_refl _) (by simp) ?_; (case hd => rfl); (case hg => rfl); (case hr => first | (go_simp; done) | (go_simp; rfl)); (case hp => exact (Reps.none _ _))
   intro v483 w30 ho31 hb hg_ hnew_
   clear hg_ hnew_
   (first | rw [← Ny482.out] at ho31 | (simp only [Int.reduceToNat] at ho31; rw [← Ny482.out] at ho31))
   have n0_ := A_ (Kd.R_elder' (rb_ HO462.out) (Kd.R_base ho31) hb)
   have n1_ := A_ (Kd.R_elder' (rb_ HO475.out) (Kd.R_base ho31) hb)
   have n2_ := A_ (Kd.R_lower (Kd.R_new' (Kd.R_new' ho31 (Kd.R_lt (rb_ HO462.out))) (Kd.R_lt (rb_ HO475.out))) (below_size (by repeat (first | (with_reducible first | exact HB.out | apply below_alloc | apply pw_below_drewN | apply below_drew1 | refine below_set ?_ (IsS147.ge HI459.out) | refine below_set ?_ GW454.out | refine below_set ?_ GW455.out | refine below_set ?_ GE466.out | refine below_set ?_ GE478.out) | exact HB.out))))
   have n3_ := bb_ BK454 hb
   have n4_ := bb_ BK455 hb
   have n5_ := A_ (IsS147.below (by repeat (first | (with_reducible first | exact HI459.out | apply IsS147.alloc | apply IsS147.drewN | apply IsS147.drew | apply IsS147.set_1 | apply IsS147.set_2 | refine IsS147.far ?_ NB459_454.out _ | refine IsS147.far ?_ NB459_455.out _ | refine IsS147.far ?_ NB459_466.out _ | refine IsS147.far ?_ NB459_478.out _) | exact HI459.out)) hb)
   have n6_ := bb_ BK466 hb
   have n7_ := bb_ BK478 hb
   have n8_ := A_ (below_step (by repeat (first | (with_reducible first | exact HB.out | apply below_alloc | apply pw_below_drewN | apply below_drew1 | refine below_set ?_ (IsS147.ge HI459.out) | refine below_set ?_ GW454.out | refine below_set ?_ GW455.out | refine below_set ?_ GE466.out | refine below_set ?_ GE478.out) | exact HB.out)) hb)
   clear HO462 HO475 BK454 BK455 HI459 BK466 BK478 HB
   have HO462 := n0_
   have HO475 := n1_
   have HO484 := n2_
   have BK454 := n3_
   have BK455 := n4_
   have HI459 := n5_
   have BK466 := n6_
   have BK478 := n7_
   have HB := n8_
   clear n0_ n1_ n2_ n3_ n4_ n5_ n6_ n7_ n8_ hb ho31
   refine hK.out _ _ ⟨(blk_cell BK478.out 0).trans rfl, (blk_cell BK478.out 1).trans rfl⟩ (fun hHeld => ?_)
   clear hK K
   refine norm_ (a' := ?_) ?_ ?_
   rotate_left
   ·
    show Act.put _ (some 21) _ = _
    simp only [Act.put, List.setIfInBounds_toArray, List.set_cons_zero, List.set_cons_succ, i64_w, i32_w]
    rfl
   refine one_ (i := 6) (N := some 24) (bt_ 127 10) rfl rfl (one_of HT_.out (by kernel_rfl)) (by decide) (fun K hK => ?_)
   refine Kd.R_append_rows_step (Kd.int .i64) (w0 := w) w.heap.size (by rfl) (.tmp 21) (.tmp 23) 35 3 (.int .i64 0) 8 rfl Try.underlying35 info3 rfl (by decide) (by omega) v483 y482 t473 _ _ _ (fun k_ => some k_ ≠ (.slice Ao14 t460.length co14 : Value).ownBlock ∧ some k_ ≠ (.slice Ao26 t473.length co26 : Value).ownBlock) (fun _ => False) rfl rfl ?aO ?aR (fun _ _ h => h) (fun _ h => h.elim) ?aF ?aB ?aS ?aL ?_
   (case aR => repeat (first | exact (Kd.R_reads' HO475.out).2.2 | (with_reducible refine Kd.C_alloc ?_ _) | (with_reducible refine Kd.C_drewN ?_ _) | (with_reducible refine Kd.C_drew ?_)))
   (case aB => exact (by repeat (first | (with_reducible first | exact HB.out | apply below_alloc | apply pw_below_drewN | apply below_drew1 | refine below_set ?_ (IsS147.ge HI459.out) | refine below_set ?_ GW454.out | refine below_set ?_ GW455.out | refine below_set ?_ GE466.out | refine below_set ?_ GE478.out) | exact HB.out)))
   (case aF => exact (fun k_ hk => ⟨Kd.fresh' (Kd.R_lt (rb_ HO462.out)) k_ hk, Kd.fresh' (Kd.R_lt (rb_ HO475.out)) k_ hk⟩))
   (case aO => exact (by (with_reducible repeat (first | apply Kd.R_alloc | apply Kd.R_drewN | apply Kd.R_drew)); exact Kd.R_mono HO484.out (fun _ hk => ⟨hk.1.2, hk.2⟩)))
   (case aS => exact (below_size (by repeat (first | (with_reducible first | exact HB.out | apply below_alloc | apply pw_below_drewN | apply below_drew1 | refine below_set ?_ (IsS147.ge HI459.out) | refine below_set ?_ GW454.out | refine below_set ?_ GW455.out | refine below_set ?_ GE466.out | refine below_set ?_ GE478.out) | exact HB.out))))
   (case aL => have := LMc8.out; omega)
   intro v486 w32 ho hb hg hat
   rw [← Ny485.out] at ho
   have HO487 := A_ ho
   replace BK454 := A_ (blk_grown (g := gb454) (o := .cells #[.int .i64 0, .slice none 0 0] 49 (0, 0)) (bk_ BK454) hg (Kd.R_ne HO484.out BK454.out (by decide)))
   replace BK455 := A_ (blk_grown (g := gb455) (o := .cells #[.int .i64 0, .slice none 0 0] 49 (0, 0)) (bk_ BK455) hg (Kd.R_ne HO484.out BK455.out (by decide)))
   replace HI459 := A_ (IsS147.grown (by repeat (first | (with_reducible first | exact HI459.out | apply IsS147.alloc | apply IsS147.drewN | apply IsS147.drew | apply IsS147.set_1 | apply IsS147.set_2 | refine IsS147.far ?_ NB459_454.out _ | refine IsS147.far ?_ NB459_455.out _ | refine IsS147.far ?_ NB459_466.out _ | refine IsS147.far ?_ NB459_478.out _) | exact HI459.out)) hg (IsS147.own_ne HI459.out HO484.out (by decide)))
   replace HO462 := A_ (Kd.R_after (ok := (fun k_ => some k_ ≠ (.slice Ao26 t473.length co26 : Value).ownBlock)) (rb_ HO462.out) hg hat)
   replace BK466 := A_ (blk_grown (g := gb466) (o := .cells #[.slice Ao14 t460.length co14, .int .i64 t463] 44 (0, 0)) (bk_ BK466) hg (Kd.R_ne HO484.out BK466.out (by decide)))
   replace HO475 := A_ (Kd.R_after (ok := (fun k_ => some k_ ≠ (.slice Ao14 t460.length co14 : Value).ownBlock)) (rb_ HO475.out) hg hat)
   replace BK478 := A_ (blk_grown (g := gb478) (o := .cells #[.int .i64 t472, .slice Ao26 t473.length co26] 49 (0, 0)) (bk_ BK478) hg (Kd.R_ne HO484.out BK478.out (by decide)))
   replace HB := A_ hb
   clear HO484 ho hb hg hat
   obtain ⟨Ao33, co33, eo33⟩ := Kd.R_slice HO487.out
   (first | subst eo33 | (injection eo33 with f1_ f2_ f3_; have f4_ := f1_.symm; have f5_ := f3_.symm; clear f1_ f2_ f3_; subst f4_; subst f5_))
   refine hK.out _ _ ⟨(blk_cell BK478.out 0).trans rfl, (blk_cell BK478.out 1).trans rfl⟩ (fun hHeld => ?_)
   clear hK K
   refine norm_ (a' := ?_) ?_ ?_
   rotate_left
   ·
    show Act.put _ (some 24) _ = _
    simp only [Act.put, List.setIfInBounds_toArray, List.set_cons_zero, List.set_cons_succ, i64_w, i32_w]
    rfl
   refine pu_ 7 25 (bt_ 255 10) ?_
   refine one_ (i := 8) (N := none) (bt_ 511 10) rfl rfl (one_of HT_.out (by kernel_rfl)) (by decide) (fun K hK => ?_)
   have hs34 : w32.cell? ⟨gb454, 0, none⟩ = some (.int .i64 0) := (blk_cell BK454.out 0).trans rfl
   have hfs34 := blk_frozen BK454.out 0
   have hns34_1 := NB455_454.out
   have hns34_2 := NB466_454.out
   have hns34_3 := NB478_454.out
   have hms34_1 := NB454_455.out
   have hms34_2 := NB454_466.out
   have hms34_3 := NB454_478.out
   have hs35 : w32.cell? ⟨gb454, 1, none⟩ = some (.slice none 0 0) := (blk_cell BK454.out 1).trans rfl
   have hfs35 := blk_frozen BK454.out 1
   have hns35_1 := NB455_454.out
   have hns35_2 := NB466_454.out
   have hns35_3 := NB478_454.out
   have hms35_1 := NB454_455.out
   have hms35_2 := NB454_466.out
   have hms35_3 := NB454_478.out
   refine skip_ (w1 := ?_) (by rfl) rfl ?_ ?_
   rotate_left
   ·
    go_simp
    rfl
   refine hK.out _ _ ⟨((cell_far (p := ⟨gb454, _, none⟩) NB478_454.out _).trans (((cell_far (p := ⟨gb454, _, none⟩) NB478_454.out _).trans (hHeld.1)))), ((cell_far (p := ⟨gb454, _, none⟩) NB478_454.out _).trans (((cell_far (p := ⟨gb454, _, none⟩) NB478_454.out _).trans (hHeld.2))))⟩ (fun hHeld => ?_)
   clear hK K
   refine one_ (i := 9) (N := none) (bt_ 1023 10) rfl rfl (one_of HT_.out (by kernel_rfl)) (by decide) (fun K hK => ?_)
   have hs36 : w32.cell? ⟨gb455, 0, none⟩ = some (.int .i64 0) := (blk_cell BK455.out 0).trans rfl
   have hfs36 := blk_frozen BK455.out 0
   have hns36_0 := NB454_455.out
   have hns36_2 := NB466_455.out
   have hns36_3 := NB478_455.out
   have hms36_0 := NB455_454.out
   have hms36_2 := NB455_466.out
   have hms36_3 := NB455_478.out
   have hs37 : w32.cell? ⟨gb455, 1, none⟩ = some (.slice none 0 0) := (blk_cell BK455.out 1).trans rfl
   have hfs37 := blk_frozen BK455.out 1
   have hns37_0 := NB454_455.out
   have hns37_2 := NB466_455.out
   have hns37_3 := NB478_455.out
   have hms37_0 := NB455_454.out
   have hms37_2 := NB455_466.out
   have hms37_3 := NB455_478.out
   refine skip_ (w1 := ?_) (by rfl) rfl ?_ ?_
   rotate_left
   ·
    go_simp
    rfl
   refine hK.out _ _ ⟨((cell_far (p := ⟨gb455, _, none⟩) NB478_455.out _).trans (((cell_far (p := ⟨gb455, _, none⟩) NB478_455.out _).trans (hHeld.1)))), ((cell_far (p := ⟨gb455, _, none⟩) NB478_455.out _).trans (((cell_far (p := ⟨gb455, _, none⟩) NB478_455.out _).trans (hHeld.2))))⟩ (fun hHeld => ?_)
   clear hK K
   refine done_ (done_of HT_.out (by kernel_rfl)) ?_
   try go_wp2
   refine bodyPost_ret (results_cc rfl _ _ gb454 gb455 49 49 #[.int .i64 t472, .slice Ao26 t473.length co26] #[.int .i64 t472, .slice Ao33 y485.length co33] (0, 0) (0, 0) _ _ rfl (bp_ BK454) Try.underlying49 rfl (by kernel_rfl) rfl (bp_ BK455) Try.underlying49 rfl (by kernel_rfl)) rfl ?_
   exact ⟨_, _, rs_, by (with_reducible repeat (first | apply Kd.R_alloc | apply Kd.R_drewN | apply Kd.R_drew)); exact Kd.R_mono (Kd.R_far (p := ⟨gb455, 1, none⟩) (Kd.R_far (p := ⟨gb455, 0, none⟩) (Kd.R_far (p := ⟨gb454, 1, none⟩) (Kd.R_far (p := ⟨gb454, 0, none⟩) (Kd.R_types (Kd.R_types HO475.out BK454.out (by decide)) BK455.out (by decide)) (fun _ hk => hk.1.2) (.int .i64 t472)) (fun _ hk => hk.1.2) (.slice Ao26 t473.length co26)) (fun _ hk => hk.2) (.int .i64 t472)) (fun _ hk => hk.2) (.slice Ao33 y485.length co33)) (fun _ hk => hk.1.1.2), by (with_reducible repeat (first | apply Kd.R_alloc | apply Kd.R_drewN | apply Kd.R_drew)); exact Kd.R_mono (Kd.R_far (p := ⟨gb455, 1, none⟩) (Kd.R_far (p := ⟨gb455, 0, none⟩) (Kd.R_far (p := ⟨gb454, 1, none⟩) (Kd.R_far (p := ⟨gb454, 0, none⟩) (Kd.R_types (Kd.R_types HO487.out BK454.out (by decide)) BK455.out (by decide)) (fun _ hk => hk.1.2) (.int .i64 t472)) (fun _ hk => hk.1.2) (.slice Ao26 t473.length co26)) (fun _ hk => hk.2) (.int .i64 t472)) (fun _ hk => hk.2) (.slice Ao33 y485.length co33)) (fun _ hk => hk.1.1.2), by repeat (first | (with_reducible first | exact HB.out | apply below_alloc | apply pw_below_drewN | apply below_drew1 | refine below_set ?_ (IsS147.ge HI459.out) | refine below_set ?_ GW454.out | refine below_set ?_ GW455.out | refine below_set ?_ GE466.out | refine below_set ?_ GE478.out) | exact HB.out)⟩
  rw [if_neg c8] at H
  exact absurd H (by simp)
 obtain rfl := Bool.eq_false_iff.mpr c7
 replace H := iF_ H
 replace H := bs_ H
 obtain ⟨⟨t488, t489, t490, t491, t492⟩, A38, H⟩ := H
 dsimp only at H
 replace H := bs_ H
 obtain ⟨⟨t493, t494, t497, t498⟩, A39, H⟩ := H
 dsimp only at H
 simp only [Option.some.injEq, Prod.mk.injEq] at H
 obtain ⟨rfl, rfl, rfl, rfl⟩ := H
 go_enter Try.func29, Try.ntmps29
 try go_wp2_with (first | ((with_reducible refine gate_dst (N := 2) rfl ?_); refine bx_ HB rfl (N := 2) rfl (cs := #[.int .i64 0, .slice none 0 0]) (t := 49) hr_ ?_; clear HB; intro gb454 w40 hg hb BK454 GW454 HB; clear hb hg) | ((with_reducible refine gate_dst (N := 3) rfl ?_); refine bx_ HB rfl (N := 3) rfl (cs := #[.int .i64 0, .slice none 0 0]) (t := 49) hr_ ?_; clear HB; intro gb455 w41 hg hb BK455 GW455 HB; have NB454_455 := ng_ BK454 hg; have NB455_454 := ns_ (ng_ BK454 hg); replace BK454 := bb_ BK454 hb; clear hb hg) | ((with_reducible refine gate_callee (f := 70) rfl ?_); refine Y21_ ?_; clear BK454 BK455 HB; intro w42 g459 HI459 NB459_454 NB454_459 NB459_455 NB455_459 BK454 BK455 HB) | ((with_reducible refine gate_callee (f := 77) rfl ?_); refine Y22_ ?_; clear BK454 BK455 HI459 HB; intro w43 v461 HO462 BK454 BK455 HI459 HB) | ((with_reducible refine gate_dst (N := 5) rfl ?_); refine box_event rfl (N := 5) rfl (cs := #[.slice none 0 0, .int .i64 0]) (t := 44) hr_ ?_; intro gb466 hg w44 hbox hb; have n0_ := A_ (Kd.R_below (rb_ HO462.out) hb); have n1_ := bb_ BK454 hb; have n2_ := bb_ BK455 hb; have n3_ := A_ (IsS147.below (by repeat (first | (with_reducible first | exact HI459.out | apply IsS147.alloc | apply IsS147.drewN | apply IsS147.drew | apply IsS147.set_1 | apply IsS147.set_2 | refine IsS147.far ?_ NB459_454.out _ | refine IsS147.far ?_ NB459_455.out _) | exact HI459.out)) hb); have n4_ := A_ (below_step (by repeat (first | (with_reducible first | exact HB.out | apply below_alloc | apply pw_below_drewN | apply below_drew1 | refine below_set ?_ (IsS147.ge HI459.out) | refine below_set ?_ GW454.out | refine below_set ?_ GW455.out) | exact HB.out)) hb); have n5_ := A_ hbox; have n6_ := A_ ((by rw [hg]; exact (below_size (by repeat (first | (with_reducible first | exact HB.out | apply below_alloc | apply pw_below_drewN | apply below_drew1 | refine below_set ?_ (IsS147.ge HI459.out) | refine below_set ?_ GW454.out | refine below_set ?_ GW455.out) | exact HB.out))) : w.heap.size ≤ gb466)); have n7_ := A_ ((by rw [hg]; exact (below_size (by repeat (first | (with_reducible first | exact HB.out | apply below_alloc | apply pw_below_drewN | apply below_drew1 | refine below_set ?_ (IsS147.ge HI459.out) | refine below_set ?_ GW454.out | refine below_set ?_ GW455.out) | exact HB.out))) : w.heap.size ≤ gb466)); have n8_ := ng_ BK454 hg; have n9_ := ns_ (ng_ BK454 hg); have n10_ := ng_ BK455 hg; have n11_ := ns_ (ng_ BK455 hg); have n12_ := A_ ((by rw [hg]; exact Nat.ne_of_lt (IsS147.lt (show IsS147 w _ g459 t456 t464 t465 from by repeat (first | (with_reducible first | exact HI459.out | apply IsS147.alloc | apply IsS147.drewN | apply IsS147.drew | apply IsS147.set_1 | apply IsS147.set_2 | refine IsS147.far ?_ NB459_454.out _ | refine IsS147.far ?_ NB459_455.out _) | exact HI459.out))) : g459 ≠ gb466)); have n13_ := A_ ((by rw [hg]; exact Nat.ne_of_gt (IsS147.lt (show IsS147 w _ g459 t456 t464 t465 from by repeat (first | (with_reducible first | exact HI459.out | apply IsS147.alloc | apply IsS147.drewN | apply IsS147.drew | apply IsS147.set_1 | apply IsS147.set_2 | refine IsS147.far ?_ NB459_454.out _ | refine IsS147.far ?_ NB459_455.out _) | exact HI459.out))) : gb466 ≠ g459)); clear HO462; clear BK454; clear BK455; clear HI459; clear HB; have HO462 := n0_; have BK454 := n1_; have BK455 := n2_; have HI459 := n3_; have HB := n4_; have BK466 := n5_; have GW466 := n6_; have GE466 := n7_; have NB454_466 := n8_; have NB466_454 := n9_; have NB455_466 := n10_; have NB466_455 := n11_; have NB459_466 := n12_; have NB466_459 := n13_; clear n0_ n1_ n2_ n3_ n4_ n5_ n6_ n7_ n8_ n9_ n10_ n11_ n12_ n13_; clear hb hbox hg; obtain ⟨Ao45, co45, eo45⟩ := Kd.R_slice HO462.out; subst eo45; have hnb46 := NB466_454.out; have hnc46 := NB454_466.out; have hnb47 := NB466_455.out; have hnc47 := NB455_466.out; have hnb48 := NB466_459.out; have hnc48 := NB459_466.out; obtain ⟨hcz49_0, hcz49_1, hfz49_0, hfz49_1⟩ := cz2_ BK466))
 have n0_ : Aside0 (Kd.R (Kd.int .i64) 3 ((w44.setCell ⟨gb466, 0, none⟩ (.slice Ao45 t460.length co45)).setCell ⟨gb466, 1, none⟩ (.int .i64 t463)) w.heap.size (fun _ => True) (.slice Ao45 t460.length co45) t460) := ⟨by (with_reducible repeat (first | apply Kd.R_alloc | apply Kd.R_drewN | apply Kd.R_drew)); exact Kd.R_mono (Kd.R_far (p := ⟨gb466, 1, none⟩) (Kd.R_far (p := ⟨gb466, 0, none⟩) (Kd.R_types HO462.out BK466.out (by decide)) (fun _ hk => hk.2) (.slice Ao45 t460.length co45)) (fun _ hk => hk.2) (.int .i64 t463)) (fun _ hk => trivial)⟩
 have n1_ : Aside0 (((w44.setCell ⟨gb466, 0, none⟩ (.slice Ao45 t460.length co45)).setCell ⟨gb466, 1, none⟩ (.int .i64 t463)).heap[gb454]? = some (.cells #[.int .i64 0, .slice none 0 0] 49 (0, 0))) := ⟨bk_ BK454⟩
 have n2_ : Aside0 (((w44.setCell ⟨gb466, 0, none⟩ (.slice Ao45 t460.length co45)).setCell ⟨gb466, 1, none⟩ (.int .i64 t463)).heap[gb455]? = some (.cells #[.int .i64 0, .slice none 0 0] 49 (0, 0))) := ⟨bk_ BK455⟩
 have n3_ : Aside0 (((w44.setCell ⟨gb466, 0, none⟩ (.slice Ao45 t460.length co45)).setCell ⟨gb466, 1, none⟩ (.int .i64 t463)).heap[gb466]? = some (.cells #[.slice Ao45 t460.length co45, .int .i64 t463] 44 (0, 0))) := ⟨bp_ BK466⟩
 have n4_ : Aside0 (IsS147 w ((w44.setCell ⟨gb466, 0, none⟩ (.slice Ao45 t460.length co45)).setCell ⟨gb466, 1, none⟩ (.int .i64 t463)) g459 t456 t464 t465) := ⟨by repeat (first | (with_reducible first | exact HI459.out | apply IsS147.alloc | apply IsS147.drewN | apply IsS147.drew | apply IsS147.set_1 | apply IsS147.set_2 | refine IsS147.far ?_ NB459_454.out _ | refine IsS147.far ?_ NB459_455.out _ | refine IsS147.far ?_ NB459_466.out _) | exact HI459.out)⟩
 have n5_ : Aside0 (Below w.heap.size w ((w44.setCell ⟨gb466, 0, none⟩ (.slice Ao45 t460.length co45)).setCell ⟨gb466, 1, none⟩ (.int .i64 t463))) := ⟨by repeat (first | (with_reducible first | exact HB.out | apply below_alloc | apply pw_below_drewN | apply below_drew1 | refine below_set ?_ (IsS147.ge HI459.out) | refine below_set ?_ GW454.out | refine below_set ?_ GW455.out | refine below_set ?_ GE466.out) | exact HB.out)⟩
 (try clear HO462)
 (try clear BK454)
 (try clear BK455)
 (try clear BK466)
 (try clear HI459)
 (try clear HB)
 generalize ((w44.setCell ⟨gb466, 0, none⟩ (.slice Ao45 t460.length co45)).setCell ⟨gb466, 1, none⟩ (.int .i64 t463)) = w50 at n0_ n1_ n2_ n3_ n4_ n5_ ⊢
 have HO462 := n0_
 have BK454 := n1_
 have BK455 := n2_
 have BK466 := n3_
 have HI459 := n4_
 have HB := n5_
 clear n0_ n1_ n2_ n3_ n4_ n5_
 replace HO462 := A_ (Kd.R_drew HO462.out)
 replace BK454 := A_ (blk_drew BK454.out)
 replace BK455 := A_ (blk_drew BK455.out)
 replace BK466 := A_ (blk_drew BK466.out)
 replace HI459 := A_ (IsS147.drew HI459.out)
 replace HB := A_ (below_drew1 HB.out)
 refine start_ (n := 7) (S := fun w' => w'.cell? ⟨gb466, 0, none⟩ = some (.slice Ao45 t460.length co45) ∧ w'.cell? ⟨gb466, 1, none⟩ = some (.int .i64 t463)) (ds := []) (bt_ 0 7) (by kernel_rfl) rfl rfl ⟨(blk_cell BK466.out 0).trans rfl, (blk_cell BK466.out 1).trans rfl⟩ (fun hHeld => ?_)
 generalize w50.drew = w51 at HO462 BK454 BK455 BK466 HI459 HB hHeld ⊢
 refine pure_ (i := 0) (N := some 11) (v := ?_) (a' := ?_) (bt_ 1 7) rfl rfl (by kernel_rfl) (fun _ _ _ h => h) (Or.inl ⟨by rfl, ?_⟩) ?_ ?_
 rotate_left
 ·
  intro w'
  go_simp
  with_reducible rfl
 rotate_left
 ·
  simp only [Act.put, List.setIfInBounds_toArray, List.set_cons_zero, List.set_cons_succ, i64_w, i32_w]
  rfl
 refine pure_ (i := 2) (N := some 13) (v := ?_) (a' := ?_) (bt_ 5 7) rfl rfl (by kernel_rfl) (fun _ _ _ h => h) (Or.inl ⟨by rfl, ?_⟩) ?_ ?_
 rotate_left
 ·
  intro w'
  go_simp
  with_reducible rfl
 rotate_left
 ·
  simp only [Act.put, List.setIfInBounds_toArray, List.set_cons_zero, List.set_cons_succ, i64_w, i32_w]
  rfl
 refine take_ (i := 1) (N := some 12) (v := ?_) (a' := ?_) (bt_ 7 7) rfl rfl (by kernel_rfl) (fun _ _ _ h => h) (Or.inl ⟨by rfl, ?_⟩) hHeld ?_ ?_
 rotate_left
 ·
  rintro w' ⟨s0, s1⟩
  go_simp
  with_reducible rfl
 rotate_left
 ·
  simp only [Act.put, List.setIfInBounds_toArray, List.set_cons_zero, List.set_cons_succ, i64_w, i32_w]
  rfl
 refine join_ (σ := Value × Nat) 1 (bt_ 63 7) (fun s_ => [(14, .agg #[.int .i64 t467, .int .i64 t468, .int .i64 t469]), (15, .agg #[.int .i64 t472, s_.1]), (6, .pointer (some ⟨s_.2, 0, none⟩))]) (fun s_ w' => (w'.cell? ⟨gb466, 0, none⟩ = some (.slice Ao45 t460.length co45) ∧ w'.cell? ⟨gb466, 1, none⟩ = some (.int .i64 t463)) ∧ (Kd.R (Kd.int .i64) 3 w' w.heap.size (fun k_ => some k_ ≠ (s_.1 : Value).ownBlock) (.slice Ao45 t460.length co45) t460) ∧ (Kd.R (Kd.int .i64) 3 w' w.heap.size (fun k_ => some k_ ≠ (.slice Ao45 t460.length co45 : Value).ownBlock) s_.1 t473) ∧ (w'.heap[gb454]? = some (.cells #[.int .i64 0, .slice none 0 0] 49 (0, 0))) ∧ (w'.heap[gb455]? = some (.cells #[.int .i64 0, .slice none 0 0] 49 (0, 0))) ∧ (w'.heap[gb466]? = some (.cells #[.slice Ao45 t460.length co45, .int .i64 t463] 44 (0, 0))) ∧ (w'.heap[s_.2]? = some (.cells #[.int .i64 0, .slice none 0 0] 49 (0, 0))) ∧ (w.heap.size ≤ s_.2) ∧ (w.heap.size ≤ s_.2) ∧ (g459 ≠ s_.2) ∧ (s_.2 ≠ g459) ∧ (gb454 ≠ s_.2) ∧ (s_.2 ≠ gb454) ∧ (gb455 ≠ s_.2) ∧ (s_.2 ≠ gb455) ∧ (gb466 ≠ s_.2) ∧ (s_.2 ≠ gb466) ∧ (IsS147 w w' g459 t456 t476 t477) ∧ (Below w.heap.size w w')) ?_ ?_
 rotate_left
 ·
  intro hCont
  refine two_ (i := 3) (j := 5) (Ni := some 14) (Nj := some 6) (bt_ 15 7) (bt_ 39 7) rfl rfl rfl rfl (by kernel_rfl) (by decide) (by decide) (fun K hK => ?_) (fun K hK => ?_)
  ·
   skip
   refine goes_ Try.func78 (by kernel_rfl) rfl #[.pointer (some ⟨g459, 0, none⟩)] (by rfl) rfl rfl al_ ?_
   with_reducible refine (spec_l4DrawRight.calls k g459 t456 t464 t465 t467 t468 t469 t470 t471 w _ ?side1 ?side2 A4.out).mono ?_
   (case side1 => repeat (first | (with_reducible first | exact HI459.out | apply IsS147.alloc | apply IsS147.drewN | apply IsS147.drew | apply IsS147.set_1 | apply IsS147.set_2 | refine IsS147.far ?_ NB459_454.out _ | refine IsS147.far ?_ NB459_455.out _ | refine IsS147.far ?_ NB459_466.out _) | exact HI459.out))
   (case side2 => repeat (first | (with_reducible first | exact HB.out | apply below_alloc | apply pw_below_drewN | apply below_drew1 | refine below_set ?_ (IsS147.ge HI459.out) | refine below_set ?_ GW454.out | refine below_set ?_ GW455.out | refine below_set ?_ GE466.out) | exact HB.out))
   rintro e w52 ⟨rfl, hi, hb, hk⟩
   refine ⟨_, rfl, ?_⟩
   replace BK454 := A_ (KeepBut.blk hk (g' := gb454) (o := .cells #[.int .i64 0, .slice none 0 0] 49 (0, 0)) (bk_ BK454) NB454_459.out (by simp))
   replace BK455 := A_ (KeepBut.blk hk (g' := gb455) (o := .cells #[.int .i64 0, .slice none 0 0] 49 (0, 0)) (bk_ BK455) NB455_459.out (by simp))
   replace HO462 := A_ (Kd.R_mono (Kd.R_keep (IsS147.apart (show IsS147 w _ g459 t456 t464 t465 from by repeat (first | (with_reducible first | exact HI459.out | apply IsS147.alloc | apply IsS147.drewN | apply IsS147.drew | apply IsS147.set_1 | apply IsS147.set_2 | refine IsS147.far ?_ NB459_454.out _ | refine IsS147.far ?_ NB459_455.out _ | refine IsS147.far ?_ NB459_466.out _) | exact HI459.out)) (rb_ HO462.out) (by decide)) hk (fun _ h => h.2)) (fun _ h => h.1))
   replace BK466 := A_ (KeepBut.blk hk (g' := gb466) (o := .cells #[.slice Ao45 t460.length co45, .int .i64 t463] 44 (0, 0)) (bk_ BK466) NB466_459.out (by simp))
   replace HI459 := A_ hi
   replace HB := A_ hb
   (try clear hb)
   (try clear hb2)
   (try clear hk)
   (try clear hi)
   refine hK.out _ _ ⟨(blk_cell BK466.out 0).trans rfl, (blk_cell BK466.out 1).trans rfl⟩ (fun hHeld => ?_)
   clear hK K
   refine norm_ (a' := ?_) ?_ ?_
   rotate_left
   ·
    show Act.put _ (some 14) _ = _
    simp only [Act.put, List.setIfInBounds_toArray, List.set_cons_zero, List.set_cons_succ, i64_w, i32_w]
    rfl
   refine two_ (i := 4) (j := 5) (Ni := some 15) (Nj := some 6) (bt_ 31 7) (bt_ 47 7) rfl rfl rfl rfl (by kernel_rfl) (by decide) (by decide) (fun K hK => ?_) (fun K hK => ?_)
   ·
    skip
    refine goes_ Try.func73 (by kernel_rfl) rfl #[.pointer (some ⟨g459, 0, none⟩), .agg #[.slice Ao45 t460.length co45, .int .i64 t463], .agg #[.int .i64 t467, .int .i64 t468, .int .i64 t469]] (by rfl) rfl rfl al_ ?_
    with_reducible refine (spec_l4DrawRes.calls k g459 t456 t470 t471 _ _ t460 t463 t467 t468 t469 t472 t473 t476 t477 w _ ?side1 ?side2 ?side3 ?side4 ?side5 A5.out).mono ?_
    (case side1 => repeat (first | (with_reducible first | exact HI459.out | apply IsS147.alloc | apply IsS147.drewN | apply IsS147.drew | apply IsS147.set_1 | apply IsS147.set_2 | refine IsS147.far ?_ NB459_454.out _ | refine IsS147.far ?_ NB459_455.out _ | refine IsS147.far ?_ NB459_466.out _) | exact HI459.out))
    (case side2 => repeat (first | (with_reducible first | exact HB.out | apply below_alloc | apply pw_below_drewN | apply below_drew1 | refine below_set ?_ (IsS147.ge HI459.out) | refine below_set ?_ GW454.out | refine below_set ?_ GW455.out | refine below_set ?_ GE466.out) | exact HB.out))
    (case side3 => repeat (first | exact (Kd.R_reads' HO462.out).2.2 | (with_reducible refine Kd.C_alloc ?_ _) | (with_reducible refine Kd.C_drewN ?_ _) | (with_reducible refine Kd.C_drew ?_)))
    (case side4 => exact (Kd.R_reads' HO462.out).2.1)
    (case side5 => exact far_slice (IsS147.own_ne HI459.out HO462.out (by decide)))
    rintro e w53 ⟨v474, rfl, ho0, hi, hb, hk⟩
    refine ⟨_, rfl, ?_⟩
    have HO475 := A_ (Kd.R_lower (Kd.R_new' ho0 (Kd.R_lt (rb_ HO462.out))) (below_size (by repeat (first | (with_reducible first | exact HB.out | apply below_alloc | apply pw_below_drewN | apply below_drew1 | refine below_set ?_ (IsS147.ge HI459.out) | refine below_set ?_ GW454.out | refine below_set ?_ GW455.out | refine below_set ?_ GE466.out) | exact HB.out))))
    replace BK454 := A_ (KeepBut.blk hk (g' := gb454) (o := .cells #[.int .i64 0, .slice none 0 0] 49 (0, 0)) (bk_ BK454) NB454_459.out (by simp))
    replace BK455 := A_ (KeepBut.blk hk (g' := gb455) (o := .cells #[.int .i64 0, .slice none 0 0] 49 (0, 0)) (bk_ BK455) NB455_459.out (by simp))
    replace HO462 := A_ (Kd.R_mono (Kd.R_told (Kd.R_oldK (IsS147.apart (show IsS147 w _ g459 t456 t470 t471 from by repeat (first | (with_reducible first | exact HI459.out | apply IsS147.alloc | apply IsS147.drewN | apply IsS147.drew | apply IsS147.set_1 | apply IsS147.set_2 | refine IsS147.far ?_ NB459_454.out _ | refine IsS147.far ?_ NB459_455.out _ | refine IsS147.far ?_ NB459_466.out _) | exact HI459.out)) (rb_ HO462.out) (by decide)) hk) (Kd.R_base ho0)) (fun _ h_ => h_.1))
    replace BK466 := A_ (KeepBut.blk hk (g' := gb466) (o := .cells #[.slice Ao45 t460.length co45, .int .i64 t463] 44 (0, 0)) (bk_ BK466) NB466_459.out (by simp))
    replace HI459 := A_ hi
    replace HB := A_ hb
    (try clear hb)
    (try clear hb2)
    (try clear hk)
    (try clear hi)
    (try clear ho0)
    refine hK.out _ _ ⟨(blk_cell BK466.out 0).trans rfl, (blk_cell BK466.out 1).trans rfl⟩ (fun hHeld => ?_)
    clear hK K
    refine norm_ (a' := ?_) ?_ ?_
    rotate_left
    ·
     show Act.put _ (some 15) _ = _
     simp only [Act.put, List.setIfInBounds_toArray, List.set_cons_zero, List.set_cons_succ, i64_w, i32_w]
     rfl
    refine one_ (i := 5) (N := some 6) (bt_ 63 7) rfl rfl (by kernel_rfl) (by decide) (fun K hK => ?_)
    refine box_step ?hg (N := 6) ?hd (cs := #[.int .i64 0, .slice none 0 0]) (t := 49) ?hr ?_; (case hd => rfl); (case hg => rfl); (case hr => first | (go_simp; done) | (go_simp; rfl))
    intro gb478 hg w54 hbox hb
    have n0_ := A_ (Kd.R_below (rb_ HO462.out) hb)
    have n1_ := A_ (Kd.R_below (rb_ HO475.out) hb)
    have n2_ := bb_ BK454 hb
    have n3_ := bb_ BK455 hb
    have n4_ := A_ (IsS147.below (by repeat (first | (with_reducible first | exact HI459.out | apply IsS147.alloc | apply IsS147.drewN | apply IsS147.drew | apply IsS147.set_1 | apply IsS147.set_2 | refine IsS147.far ?_ NB459_454.out _ | refine IsS147.far ?_ NB459_455.out _ | refine IsS147.far ?_ NB459_466.out _) | exact HI459.out)) hb)
    have n5_ := bb_ BK466 hb
    have n6_ := A_ (below_step (by repeat (first | (with_reducible first | exact HB.out | apply below_alloc | apply pw_below_drewN | apply below_drew1 | refine below_set ?_ (IsS147.ge HI459.out) | refine below_set ?_ GW454.out | refine below_set ?_ GW455.out | refine below_set ?_ GE466.out) | exact HB.out)) hb)
    have n7_ := A_ hbox
    have n8_ := A_ ((by rw [hg]; exact (below_size (by repeat (first | (with_reducible first | exact HB.out | apply below_alloc | apply pw_below_drewN | apply below_drew1 | refine below_set ?_ (IsS147.ge HI459.out) | refine below_set ?_ GW454.out | refine below_set ?_ GW455.out | refine below_set ?_ GE466.out) | exact HB.out))) : w.heap.size ≤ gb478))
    have n9_ := A_ ((by rw [hg]; exact (below_size (by repeat (first | (with_reducible first | exact HB.out | apply below_alloc | apply pw_below_drewN | apply below_drew1 | refine below_set ?_ (IsS147.ge HI459.out) | refine below_set ?_ GW454.out | refine below_set ?_ GW455.out | refine below_set ?_ GE466.out) | exact HB.out))) : w.heap.size ≤ gb478))
    have n10_ := ng_ BK454 hg
    have n11_ := ns_ (ng_ BK454 hg)
    have n12_ := ng_ BK455 hg
    have n13_ := ns_ (ng_ BK455 hg)
    have n14_ := ng_ BK466 hg
    have n15_ := ns_ (ng_ BK466 hg)
    have n16_ := A_ ((by rw [hg]; exact Nat.ne_of_lt (IsS147.lt (show IsS147 w _ g459 t456 t476 t477 from by repeat (first | (with_reducible first | exact HI459.out | apply IsS147.alloc | apply IsS147.drewN | apply IsS147.drew | apply IsS147.set_1 | apply IsS147.set_2 | refine IsS147.far ?_ NB459_454.out _ | refine IsS147.far ?_ NB459_455.out _ | refine IsS147.far ?_ NB459_466.out _) | exact HI459.out))) : g459 ≠ gb478))
    have n17_ := A_ ((by rw [hg]; exact Nat.ne_of_gt (IsS147.lt (show IsS147 w _ g459 t456 t476 t477 from by repeat (first | (with_reducible first | exact HI459.out | apply IsS147.alloc | apply IsS147.drewN | apply IsS147.drew | apply IsS147.set_1 | apply IsS147.set_2 | refine IsS147.far ?_ NB459_454.out _ | refine IsS147.far ?_ NB459_455.out _ | refine IsS147.far ?_ NB459_466.out _) | exact HI459.out))) : gb478 ≠ g459))
    clear HO462 HO475 BK454 BK455 HI459 BK466 HB
    have HO462 := n0_
    have HO475 := n1_
    have BK454 := n2_
    have BK455 := n3_
    have HI459 := n4_
    have BK466 := n5_
    have HB := n6_
    have BK478 := n7_
    have GW478 := n8_
    have GE478 := n9_
    have NB454_478 := n10_
    have NB478_454 := n11_
    have NB455_478 := n12_
    have NB478_455 := n13_
    have NB466_478 := n14_
    have NB478_466 := n15_
    have NB459_478 := n16_
    have NB478_459 := n17_
    clear n0_ n1_ n2_ n3_ n4_ n5_ n6_ n7_ n8_ n9_ n10_ n11_ n12_ n13_ n14_ n15_ n16_ n17_ hb hbox hg
    refine hK.out _ _ ⟨(blk_cell BK466.out 0).trans rfl, (blk_cell BK466.out 1).trans rfl⟩ (fun hHeld => ?_)
    clear hK K
    refine norm_ (a' := ?_) ?_ ?_
    rotate_left
    ·
     show Act.put _ (some 6) _ = _
     simp only [Act.put, List.setIfInBounds_toArray, List.set_cons_zero, List.set_cons_succ, i64_w, i32_w]
     rfl
    exact norm_ (by simp only [putAll, Act.put, List.setIfInBounds_toArray, List.set_cons_zero, List.set_cons_succ]) (hCont (v474, gb478) _ ⟨hHeld, (by (with_reducible repeat (first | apply Kd.R_alloc | apply Kd.R_drewN | apply Kd.R_drew)); exact Kd.R_mono HO462.out (fun _ hk => hk.2)), (by (with_reducible repeat (first | apply Kd.R_alloc | apply Kd.R_drewN | apply Kd.R_drew)); exact Kd.R_mono HO475.out (fun _ hk => hk.2)), (bk_ BK454), (bk_ BK455), (bk_ BK466), (bk_ BK478), GW478.out, GE478.out, NB459_478.out, NB478_459.out, NB454_478.out, NB478_454.out, NB455_478.out, NB478_455.out, NB466_478.out, NB478_466.out, (by repeat (first | (with_reducible first | exact HI459.out | apply IsS147.alloc | apply IsS147.drewN | apply IsS147.drew | apply IsS147.set_1 | apply IsS147.set_2 | refine IsS147.far ?_ NB459_454.out _ | refine IsS147.far ?_ NB459_455.out _ | refine IsS147.far ?_ NB459_466.out _ | refine IsS147.far ?_ NB459_478.out _) | exact HI459.out)), (by repeat (first | (with_reducible first | exact HB.out | apply below_alloc | apply pw_below_drewN | apply below_drew1 | refine below_set ?_ (IsS147.ge HI459.out) | refine below_set ?_ GW454.out | refine below_set ?_ GW455.out | refine below_set ?_ GE466.out | refine below_set ?_ GE478.out) | exact HB.out))⟩)
   skip
   refine box_step ?hg (N := 6) ?hd (cs := #[.int .i64 0, .slice none 0 0]) (t := 49) ?hr ?_; (case hd => rfl); (case hg => rfl); (case hr => first | (go_simp; done) | (go_simp; rfl))
   intro gb478 hg w53 hbox hb
   have n0_ := A_ (Kd.R_below (rb_ HO462.out) hb)
   have n1_ := bb_ BK454 hb
   have n2_ := bb_ BK455 hb
   have n3_ := A_ (IsS147.below (by repeat (first | (with_reducible first | exact HI459.out | apply IsS147.alloc | apply IsS147.drewN | apply IsS147.drew | apply IsS147.set_1 | apply IsS147.set_2 | refine IsS147.far ?_ NB459_454.out _ | refine IsS147.far ?_ NB459_455.out _ | refine IsS147.far ?_ NB459_466.out _) | exact HI459.out)) hb)
   have n4_ := bb_ BK466 hb
   have n5_ := A_ (below_step (by repeat (first | (with_reducible first | exact HB.out | apply below_alloc | apply pw_below_drewN | apply below_drew1 | refine below_set ?_ (IsS147.ge HI459.out) | refine below_set ?_ GW454.out | refine below_set ?_ GW455.out | refine below_set ?_ GE466.out) | exact HB.out)) hb)
   have n6_ := A_ hbox
   have n7_ := A_ ((by rw [hg]; exact (below_size (by repeat (first | (with_reducible first | exact HB.out | apply below_alloc | apply pw_below_drewN | apply below_drew1 | refine below_set ?_ (IsS147.ge HI459.out) | refine below_set ?_ GW454.out | refine below_set ?_ GW455.out | refine below_set ?_ GE466.out) | exact HB.out))) : w.heap.size ≤ gb478))
   have n8_ := A_ ((by rw [hg]; exact (below_size (by repeat (first | (with_reducible first | exact HB.out | apply below_alloc | apply pw_below_drewN | apply below_drew1 | refine below_set ?_ (IsS147.ge HI459.out) | refine below_set ?_ GW454.out | refine below_set ?_ GW455.out | refine below_set ?_ GE466.out) | exact HB.out))) : w.heap.size ≤ gb478))
   have n9_ := ng_ BK454 hg
   have n10_ := ns_ (ng_ BK454 hg)
   have n11_ := ng_ BK455 hg
   have n12_ := ns_ (ng_ BK455 hg)
   have n13_ := ng_ BK466 hg
   have n14_ := ns_ (ng_ BK466 hg)
   have n15_ := A_ ((by rw [hg]; exact Nat.ne_of_lt (IsS147.lt (show IsS147 w _ g459 t456 t470 t471 from by repeat (first | (with_reducible first | exact HI459.out | apply IsS147.alloc | apply IsS147.drewN | apply IsS147.drew | apply IsS147.set_1 | apply IsS147.set_2 | refine IsS147.far ?_ NB459_454.out _ | refine IsS147.far ?_ NB459_455.out _ | refine IsS147.far ?_ NB459_466.out _) | exact HI459.out))) : g459 ≠ gb478))
   have n16_ := A_ ((by rw [hg]; exact Nat.ne_of_gt (IsS147.lt (show IsS147 w _ g459 t456 t470 t471 from by repeat (first | (with_reducible first | exact HI459.out | apply IsS147.alloc | apply IsS147.drewN | apply IsS147.drew | apply IsS147.set_1 | apply IsS147.set_2 | refine IsS147.far ?_ NB459_454.out _ | refine IsS147.far ?_ NB459_455.out _ | refine IsS147.far ?_ NB459_466.out _) | exact HI459.out))) : gb478 ≠ g459))
   clear HO462 BK454 BK455 HI459 BK466 HB
   have HO462 := n0_
   have BK454 := n1_
   have BK455 := n2_
   have HI459 := n3_
   have BK466 := n4_
   have HB := n5_
   have BK478 := n6_
   have GW478 := n7_
   have GE478 := n8_
   have NB454_478 := n9_
   have NB478_454 := n10_
   have NB455_478 := n11_
   have NB478_455 := n12_
   have NB466_478 := n13_
   have NB478_466 := n14_
   have NB459_478 := n15_
   have NB478_459 := n16_
   clear n0_ n1_ n2_ n3_ n4_ n5_ n6_ n7_ n8_ n9_ n10_ n11_ n12_ n13_ n14_ n15_ n16_ hb hbox hg
   refine hK.out _ _ ⟨(blk_cell BK466.out 0).trans rfl, (blk_cell BK466.out 1).trans rfl⟩ (fun hHeld => ?_)
   clear hK K
   refine norm_ (a' := ?_) ?_ ?_
   rotate_left
   ·
    show Act.put _ (some 6) _ = _
    simp only [Act.put, List.setIfInBounds_toArray, List.set_cons_zero, List.set_cons_succ, i64_w, i32_w]
    rfl
   refine one_ (i := 4) (N := some 15) (bt_ 63 7) rfl rfl (by kernel_rfl) (by decide) (fun K hK => ?_)
   refine goes_ Try.func73 (by kernel_rfl) rfl #[.pointer (some ⟨g459, 0, none⟩), .agg #[.slice Ao45 t460.length co45, .int .i64 t463], .agg #[.int .i64 t467, .int .i64 t468, .int .i64 t469]] (by rfl) rfl rfl al_ ?_
   with_reducible refine (spec_l4DrawRes.calls k g459 t456 t470 t471 _ _ t460 t463 t467 t468 t469 t472 t473 t476 t477 w _ ?side1 ?side2 ?side3 ?side4 ?side5 A5.out).mono ?_
   (case side1 => repeat (first | (with_reducible first | exact HI459.out | apply IsS147.alloc | apply IsS147.drewN | apply IsS147.drew | apply IsS147.set_1 | apply IsS147.set_2 | refine IsS147.far ?_ NB459_454.out _ | refine IsS147.far ?_ NB459_455.out _ | refine IsS147.far ?_ NB459_466.out _ | refine IsS147.far ?_ NB459_478.out _) | exact HI459.out))
   (case side2 => repeat (first | (with_reducible first | exact HB.out | apply below_alloc | apply pw_below_drewN | apply below_drew1 | refine below_set ?_ (IsS147.ge HI459.out) | refine below_set ?_ GW454.out | refine below_set ?_ GW455.out | refine below_set ?_ GE466.out | refine below_set ?_ GE478.out) | exact HB.out))
   (case side3 => repeat (first | exact (Kd.R_reads' HO462.out).2.2 | (with_reducible refine Kd.C_alloc ?_ _) | (with_reducible refine Kd.C_drewN ?_ _) | (with_reducible refine Kd.C_drew ?_)))
   (case side4 => exact (Kd.R_reads' HO462.out).2.1)
   (case side5 => exact far_slice (IsS147.own_ne HI459.out HO462.out (by decide)))
   rintro e w54 ⟨v474, rfl, ho0, hi, hb, hk⟩
   refine ⟨_, rfl, ?_⟩
   have HO475 := A_ (Kd.R_lower (Kd.R_new' ho0 (Kd.R_lt (rb_ HO462.out))) (below_size (by repeat (first | (with_reducible first | exact HB.out | apply below_alloc | apply pw_below_drewN | apply below_drew1 | refine below_set ?_ (IsS147.ge HI459.out) | refine below_set ?_ GW454.out | refine below_set ?_ GW455.out | refine below_set ?_ GE466.out | refine below_set ?_ GE478.out) | exact HB.out))))
   replace BK454 := A_ (KeepBut.blk hk (g' := gb454) (o := .cells #[.int .i64 0, .slice none 0 0] 49 (0, 0)) (bk_ BK454) NB454_459.out (by simp))
   replace BK455 := A_ (KeepBut.blk hk (g' := gb455) (o := .cells #[.int .i64 0, .slice none 0 0] 49 (0, 0)) (bk_ BK455) NB455_459.out (by simp))
   replace HO462 := A_ (Kd.R_mono (Kd.R_told (Kd.R_oldK (IsS147.apart (show IsS147 w _ g459 t456 t470 t471 from by repeat (first | (with_reducible first | exact HI459.out | apply IsS147.alloc | apply IsS147.drewN | apply IsS147.drew | apply IsS147.set_1 | apply IsS147.set_2 | refine IsS147.far ?_ NB459_454.out _ | refine IsS147.far ?_ NB459_455.out _ | refine IsS147.far ?_ NB459_466.out _ | refine IsS147.far ?_ NB459_478.out _) | exact HI459.out)) (rb_ HO462.out) (by decide)) hk) (Kd.R_base ho0)) (fun _ h_ => h_.1))
   replace BK466 := A_ (KeepBut.blk hk (g' := gb466) (o := .cells #[.slice Ao45 t460.length co45, .int .i64 t463] 44 (0, 0)) (bk_ BK466) NB466_459.out (by simp))
   replace BK478 := A_ (KeepBut.blk hk (g' := gb478) (o := .cells #[.int .i64 0, .slice none 0 0] 49 (0, 0)) (bk_ BK478) NB478_459.out (by simp))
   replace HI459 := A_ hi
   replace HB := A_ hb
   (try clear hb)
   (try clear hb2)
   (try clear hk)
   (try clear hi)
   (try clear ho0)
   refine hK.out _ _ ⟨(blk_cell BK466.out 0).trans rfl, (blk_cell BK466.out 1).trans rfl⟩ (fun hHeld => ?_)
   clear hK K
   refine norm_ (a' := ?_) ?_ ?_
   rotate_left
   ·
    show Act.put _ (some 15) _ = _
    simp only [Act.put, List.setIfInBounds_toArray, List.set_cons_zero, List.set_cons_succ, i64_w, i32_w]
    rfl
   exact norm_ (by simp only [putAll, Act.put, List.setIfInBounds_toArray, List.set_cons_zero, List.set_cons_succ]) (hCont (v474, gb478) _ ⟨hHeld, (by (with_reducible repeat (first | apply Kd.R_alloc | apply Kd.R_drewN | apply Kd.R_drew)); exact Kd.R_mono HO462.out (fun _ hk => hk.2)), (by (with_reducible repeat (first | apply Kd.R_alloc | apply Kd.R_drewN | apply Kd.R_drew)); exact Kd.R_mono HO475.out (fun _ hk => hk.2)), (bk_ BK454), (bk_ BK455), (bk_ BK466), (bk_ BK478), GW478.out, GE478.out, NB459_478.out, NB478_459.out, NB454_478.out, NB478_454.out, NB455_478.out, NB478_455.out, NB466_478.out, NB478_466.out, (by repeat (first | (with_reducible first | exact HI459.out | apply IsS147.alloc | apply IsS147.drewN | apply IsS147.drew | apply IsS147.set_1 | apply IsS147.set_2 | refine IsS147.far ?_ NB459_454.out _ | refine IsS147.far ?_ NB459_455.out _ | refine IsS147.far ?_ NB459_466.out _ | refine IsS147.far ?_ NB459_478.out _) | exact HI459.out)), (by repeat (first | (with_reducible first | exact HB.out | apply below_alloc | apply pw_below_drewN | apply below_drew1 | refine below_set ?_ (IsS147.ge HI459.out) | refine below_set ?_ GW454.out | refine below_set ?_ GW455.out | refine below_set ?_ GE466.out | refine below_set ?_ GE478.out) | exact HB.out))⟩)
  skip
  refine box_step ?hg (N := 6) ?hd (cs := #[.int .i64 0, .slice none 0 0]) (t := 49) ?hr ?_; (case hd => rfl); (case hg => rfl); (case hr => first | (go_simp; done) | (go_simp; rfl))
  intro gb478 hg w52 hbox hb
  have n0_ := A_ (Kd.R_below (rb_ HO462.out) hb)
  have n1_ := bb_ BK454 hb
  have n2_ := bb_ BK455 hb
  have n3_ := A_ (IsS147.below (by repeat (first | (with_reducible first | exact HI459.out | apply IsS147.alloc | apply IsS147.drewN | apply IsS147.drew | apply IsS147.set_1 | apply IsS147.set_2 | refine IsS147.far ?_ NB459_454.out _ | refine IsS147.far ?_ NB459_455.out _ | refine IsS147.far ?_ NB459_466.out _) | exact HI459.out)) hb)
  have n4_ := bb_ BK466 hb
  have n5_ := A_ (below_step (by repeat (first | (with_reducible first | exact HB.out | apply below_alloc | apply pw_below_drewN | apply below_drew1 | refine below_set ?_ (IsS147.ge HI459.out) | refine below_set ?_ GW454.out | refine below_set ?_ GW455.out | refine below_set ?_ GE466.out) | exact HB.out)) hb)
  have n6_ := A_ hbox
  have n7_ := A_ ((by rw [hg]; exact (below_size (by repeat (first | (with_reducible first | exact HB.out | apply below_alloc | apply pw_below_drewN | apply below_drew1 | refine below_set ?_ (IsS147.ge HI459.out) | refine below_set ?_ GW454.out | refine below_set ?_ GW455.out | refine below_set ?_ GE466.out) | exact HB.out))) : w.heap.size ≤ gb478))
  have n8_ := A_ ((by rw [hg]; exact (below_size (by repeat (first | (with_reducible first | exact HB.out | apply below_alloc | apply pw_below_drewN | apply below_drew1 | refine below_set ?_ (IsS147.ge HI459.out) | refine below_set ?_ GW454.out | refine below_set ?_ GW455.out | refine below_set ?_ GE466.out) | exact HB.out))) : w.heap.size ≤ gb478))
  have n9_ := ng_ BK454 hg
  have n10_ := ns_ (ng_ BK454 hg)
  have n11_ := ng_ BK455 hg
  have n12_ := ns_ (ng_ BK455 hg)
  have n13_ := ng_ BK466 hg
  have n14_ := ns_ (ng_ BK466 hg)
  have n15_ := A_ ((by rw [hg]; exact Nat.ne_of_lt (IsS147.lt (show IsS147 w _ g459 t456 t464 t465 from by repeat (first | (with_reducible first | exact HI459.out | apply IsS147.alloc | apply IsS147.drewN | apply IsS147.drew | apply IsS147.set_1 | apply IsS147.set_2 | refine IsS147.far ?_ NB459_454.out _ | refine IsS147.far ?_ NB459_455.out _ | refine IsS147.far ?_ NB459_466.out _) | exact HI459.out))) : g459 ≠ gb478))
  have n16_ := A_ ((by rw [hg]; exact Nat.ne_of_gt (IsS147.lt (show IsS147 w _ g459 t456 t464 t465 from by repeat (first | (with_reducible first | exact HI459.out | apply IsS147.alloc | apply IsS147.drewN | apply IsS147.drew | apply IsS147.set_1 | apply IsS147.set_2 | refine IsS147.far ?_ NB459_454.out _ | refine IsS147.far ?_ NB459_455.out _ | refine IsS147.far ?_ NB459_466.out _) | exact HI459.out))) : gb478 ≠ g459))
  clear HO462 BK454 BK455 HI459 BK466 HB
  have HO462 := n0_
  have BK454 := n1_
  have BK455 := n2_
  have HI459 := n3_
  have BK466 := n4_
  have HB := n5_
  have BK478 := n6_
  have GW478 := n7_
  have GE478 := n8_
  have NB454_478 := n9_
  have NB478_454 := n10_
  have NB455_478 := n11_
  have NB478_455 := n12_
  have NB466_478 := n13_
  have NB478_466 := n14_
  have NB459_478 := n15_
  have NB478_459 := n16_
  clear n0_ n1_ n2_ n3_ n4_ n5_ n6_ n7_ n8_ n9_ n10_ n11_ n12_ n13_ n14_ n15_ n16_ hb hbox hg
  refine hK.out _ _ ⟨(blk_cell BK466.out 0).trans rfl, (blk_cell BK466.out 1).trans rfl⟩ (fun hHeld => ?_)
  clear hK K
  refine norm_ (a' := ?_) ?_ ?_
  rotate_left
  ·
   show Act.put _ (some 6) _ = _
   simp only [Act.put, List.setIfInBounds_toArray, List.set_cons_zero, List.set_cons_succ, i64_w, i32_w]
   rfl
  refine one_ (i := 3) (N := some 14) (bt_ 47 7) rfl rfl (by kernel_rfl) (by decide) (fun K hK => ?_)
  refine goes_ Try.func78 (by kernel_rfl) rfl #[.pointer (some ⟨g459, 0, none⟩)] (by rfl) rfl rfl al_ ?_
  with_reducible refine (spec_l4DrawRight.calls k g459 t456 t464 t465 t467 t468 t469 t470 t471 w _ ?side1 ?side2 A4.out).mono ?_
  (case side1 => repeat (first | (with_reducible first | exact HI459.out | apply IsS147.alloc | apply IsS147.drewN | apply IsS147.drew | apply IsS147.set_1 | apply IsS147.set_2 | refine IsS147.far ?_ NB459_454.out _ | refine IsS147.far ?_ NB459_455.out _ | refine IsS147.far ?_ NB459_466.out _ | refine IsS147.far ?_ NB459_478.out _) | exact HI459.out))
  (case side2 => repeat (first | (with_reducible first | exact HB.out | apply below_alloc | apply pw_below_drewN | apply below_drew1 | refine below_set ?_ (IsS147.ge HI459.out) | refine below_set ?_ GW454.out | refine below_set ?_ GW455.out | refine below_set ?_ GE466.out | refine below_set ?_ GE478.out) | exact HB.out))
  rintro e w53 ⟨rfl, hi, hb, hk⟩
  refine ⟨_, rfl, ?_⟩
  replace BK454 := A_ (KeepBut.blk hk (g' := gb454) (o := .cells #[.int .i64 0, .slice none 0 0] 49 (0, 0)) (bk_ BK454) NB454_459.out (by simp))
  replace BK455 := A_ (KeepBut.blk hk (g' := gb455) (o := .cells #[.int .i64 0, .slice none 0 0] 49 (0, 0)) (bk_ BK455) NB455_459.out (by simp))
  replace HO462 := A_ (Kd.R_mono (Kd.R_keep (IsS147.apart (show IsS147 w _ g459 t456 t464 t465 from by repeat (first | (with_reducible first | exact HI459.out | apply IsS147.alloc | apply IsS147.drewN | apply IsS147.drew | apply IsS147.set_1 | apply IsS147.set_2 | refine IsS147.far ?_ NB459_454.out _ | refine IsS147.far ?_ NB459_455.out _ | refine IsS147.far ?_ NB459_466.out _ | refine IsS147.far ?_ NB459_478.out _) | exact HI459.out)) (rb_ HO462.out) (by decide)) hk (fun _ h => h.2)) (fun _ h => h.1))
  replace BK466 := A_ (KeepBut.blk hk (g' := gb466) (o := .cells #[.slice Ao45 t460.length co45, .int .i64 t463] 44 (0, 0)) (bk_ BK466) NB466_459.out (by simp))
  replace BK478 := A_ (KeepBut.blk hk (g' := gb478) (o := .cells #[.int .i64 0, .slice none 0 0] 49 (0, 0)) (bk_ BK478) NB478_459.out (by simp))
  replace HI459 := A_ hi
  replace HB := A_ hb
  (try clear hb)
  (try clear hb2)
  (try clear hk)
  (try clear hi)
  refine hK.out _ _ ⟨(blk_cell BK466.out 0).trans rfl, (blk_cell BK466.out 1).trans rfl⟩ (fun hHeld => ?_)
  clear hK K
  refine norm_ (a' := ?_) ?_ ?_
  rotate_left
  ·
   show Act.put _ (some 14) _ = _
   simp only [Act.put, List.setIfInBounds_toArray, List.set_cons_zero, List.set_cons_succ, i64_w, i32_w]
   rfl
  refine one_ (i := 4) (N := some 15) (bt_ 63 7) rfl rfl (by kernel_rfl) (by decide) (fun K hK => ?_)
  refine goes_ Try.func73 (by kernel_rfl) rfl #[.pointer (some ⟨g459, 0, none⟩), .agg #[.slice Ao45 t460.length co45, .int .i64 t463], .agg #[.int .i64 t467, .int .i64 t468, .int .i64 t469]] (by rfl) rfl rfl al_ ?_
  with_reducible refine (spec_l4DrawRes.calls k g459 t456 t470 t471 _ _ t460 t463 t467 t468 t469 t472 t473 t476 t477 w _ ?side1 ?side2 ?side3 ?side4 ?side5 A5.out).mono ?_
  (case side1 => repeat (first | (with_reducible first | exact HI459.out | apply IsS147.alloc | apply IsS147.drewN | apply IsS147.drew | apply IsS147.set_1 | apply IsS147.set_2 | refine IsS147.far ?_ NB459_454.out _ | refine IsS147.far ?_ NB459_455.out _ | refine IsS147.far ?_ NB459_466.out _ | refine IsS147.far ?_ NB459_478.out _) | exact HI459.out))
  (case side2 => repeat (first | (with_reducible first | exact HB.out | apply below_alloc | apply pw_below_drewN | apply below_drew1 | refine below_set ?_ (IsS147.ge HI459.out) | refine below_set ?_ GW454.out | refine below_set ?_ GW455.out | refine below_set ?_ GE466.out | refine below_set ?_ GE478.out) | exact HB.out))
  (case side3 => repeat (first | exact (Kd.R_reads' HO462.out).2.2 | (with_reducible refine Kd.C_alloc ?_ _) | (with_reducible refine Kd.C_drewN ?_ _) | (with_reducible refine Kd.C_drew ?_)))
  (case side4 => exact (Kd.R_reads' HO462.out).2.1)
  (case side5 => exact far_slice (IsS147.own_ne HI459.out HO462.out (by decide)))
  rintro e w54 ⟨v474, rfl, ho0, hi, hb, hk⟩
  refine ⟨_, rfl, ?_⟩
  have HO475 := A_ (Kd.R_lower (Kd.R_new' ho0 (Kd.R_lt (rb_ HO462.out))) (below_size (by repeat (first | (with_reducible first | exact HB.out | apply below_alloc | apply pw_below_drewN | apply below_drew1 | refine below_set ?_ (IsS147.ge HI459.out) | refine below_set ?_ GW454.out | refine below_set ?_ GW455.out | refine below_set ?_ GE466.out | refine below_set ?_ GE478.out) | exact HB.out))))
  replace BK454 := A_ (KeepBut.blk hk (g' := gb454) (o := .cells #[.int .i64 0, .slice none 0 0] 49 (0, 0)) (bk_ BK454) NB454_459.out (by simp))
  replace BK455 := A_ (KeepBut.blk hk (g' := gb455) (o := .cells #[.int .i64 0, .slice none 0 0] 49 (0, 0)) (bk_ BK455) NB455_459.out (by simp))
  replace HO462 := A_ (Kd.R_mono (Kd.R_told (Kd.R_oldK (IsS147.apart (show IsS147 w _ g459 t456 t470 t471 from by repeat (first | (with_reducible first | exact HI459.out | apply IsS147.alloc | apply IsS147.drewN | apply IsS147.drew | apply IsS147.set_1 | apply IsS147.set_2 | refine IsS147.far ?_ NB459_454.out _ | refine IsS147.far ?_ NB459_455.out _ | refine IsS147.far ?_ NB459_466.out _ | refine IsS147.far ?_ NB459_478.out _) | exact HI459.out)) (rb_ HO462.out) (by decide)) hk) (Kd.R_base ho0)) (fun _ h_ => h_.1))
  replace BK466 := A_ (KeepBut.blk hk (g' := gb466) (o := .cells #[.slice Ao45 t460.length co45, .int .i64 t463] 44 (0, 0)) (bk_ BK466) NB466_459.out (by simp))
  replace BK478 := A_ (KeepBut.blk hk (g' := gb478) (o := .cells #[.int .i64 0, .slice none 0 0] 49 (0, 0)) (bk_ BK478) NB478_459.out (by simp))
  replace HI459 := A_ hi
  replace HB := A_ hb
  (try clear hb)
  (try clear hb2)
  (try clear hk)
  (try clear hi)
  (try clear ho0)
  refine hK.out _ _ ⟨(blk_cell BK466.out 0).trans rfl, (blk_cell BK466.out 1).trans rfl⟩ (fun hHeld => ?_)
  clear hK K
  refine norm_ (a' := ?_) ?_ ?_
  rotate_left
  ·
   show Act.put _ (some 15) _ = _
   simp only [Act.put, List.setIfInBounds_toArray, List.set_cons_zero, List.set_cons_succ, i64_w, i32_w]
   rfl
  exact norm_ (by simp only [putAll, Act.put, List.setIfInBounds_toArray, List.set_cons_zero, List.set_cons_succ]) (hCont (v474, gb478) _ ⟨hHeld, (by (with_reducible repeat (first | apply Kd.R_alloc | apply Kd.R_drewN | apply Kd.R_drew)); exact Kd.R_mono HO462.out (fun _ hk => hk.2)), (by (with_reducible repeat (first | apply Kd.R_alloc | apply Kd.R_drewN | apply Kd.R_drew)); exact Kd.R_mono HO475.out (fun _ hk => hk.2)), (bk_ BK454), (bk_ BK455), (bk_ BK466), (bk_ BK478), GW478.out, GE478.out, NB459_478.out, NB478_459.out, NB454_478.out, NB478_454.out, NB455_478.out, NB478_455.out, NB466_478.out, NB478_466.out, (by repeat (first | (with_reducible first | exact HI459.out | apply IsS147.alloc | apply IsS147.drewN | apply IsS147.drew | apply IsS147.set_1 | apply IsS147.set_2 | refine IsS147.far ?_ NB459_454.out _ | refine IsS147.far ?_ NB459_455.out _ | refine IsS147.far ?_ NB459_466.out _ | refine IsS147.far ?_ NB459_478.out _) | exact HI459.out)), (by repeat (first | (with_reducible first | exact HB.out | apply below_alloc | apply pw_below_drewN | apply below_drew1 | refine below_set ?_ (IsS147.ge HI459.out) | refine below_set ?_ GW454.out | refine below_set ?_ GW455.out | refine below_set ?_ GE466.out | refine below_set ?_ GE478.out) | exact HB.out))⟩)
 rintro ⟨v474, gb478⟩ w55 ⟨hS_, h0_, h1_, h2_, h3_, h4_, h5_, h6_, h7_, h8_, h9_, h10_, h11_, h12_, h13_, h14_, h15_, h16_, h17_⟩
 (try dsimp only at h0_ h1_ h2_ h3_ h4_ h5_ h6_ h7_ h8_ h9_ h10_ h11_ h12_ h13_ h14_ h15_ h16_ h17_)
 clear HO462 BK454 BK455 BK466 HI459 HB
 have HO462 := A_ h0_
 have HO475 := A_ h1_
 have BK454 := A_ h2_
 have BK455 := A_ h3_
 have BK466 := A_ h4_
 have BK478 := A_ h5_
 have GW478 := A_ h6_
 have GE478 := A_ h7_
 have NB459_478 := A_ h8_
 have NB478_459 := A_ h9_
 have NB454_478 := A_ h10_
 have NB478_454 := A_ h11_
 have NB455_478 := A_ h12_
 have NB478_455 := A_ h13_
 have NB466_478 := A_ h14_
 have NB478_466 := A_ h15_
 have HI459 := A_ h16_
 have HB := A_ h17_
 clear h0_ h1_ h2_ h3_ h4_ h5_ h6_ h7_ h8_ h9_ h10_ h11_ h12_ h13_ h14_ h15_ h16_ h17_
 (try dsimp only at hS_)
 have hHeld := hS_
 obtain ⟨Ao57, co57, eo57⟩ := Kd.R_slice HO475.out
 (first | subst eo57 | (injection eo57 with f1_ f2_ f3_; have f4_ := f1_.symm; have f5_ := f3_.symm; clear f1_ f2_ f3_; subst f4_; subst f5_))
 refine norm_ (a' := ?_) ?_ ?_
 rotate_left
 ·
  simp only [putAll, Act.put, List.setIfInBounds_toArray, List.set_cons_zero, List.set_cons_succ]
  rfl
 refine one_ (i := 6) (N := none) (bt_ 127 7) rfl rfl (by kernel_rfl) (by decide) (fun K hK => ?_)
 have hs56 : w55.cell? ⟨gb478, 0, none⟩ = some (.int .i64 0) := (blk_cell BK478.out 0).trans rfl
 have hfs56 := blk_frozen BK478.out 0
 have hns56_0 := NB454_478.out
 have hns56_1 := NB455_478.out
 have hns56_2 := NB466_478.out
 have hms56_0 := NB478_454.out
 have hms56_1 := NB478_455.out
 have hms56_2 := NB478_466.out
 have hs58 : w55.cell? ⟨gb478, 1, none⟩ = some (.slice none 0 0) := (blk_cell BK478.out 1).trans rfl
 have hfs58 := blk_frozen BK478.out 1
 have hns58_0 := NB454_478.out
 have hns58_1 := NB455_478.out
 have hns58_2 := NB466_478.out
 have hms58_0 := NB478_454.out
 have hms58_1 := NB478_455.out
 have hms58_2 := NB478_466.out
 refine skip_ (w1 := ?_) (by rfl) rfl ?_ ?_
 rotate_left
 ·
  go_simp
  rfl
 refine hK.out _ _ ⟨((cell_far (p := ⟨gb478, _, none⟩) NB466_478.out _).trans (((cell_far (p := ⟨gb478, _, none⟩) NB466_478.out _).trans (hHeld.1)))), ((cell_far (p := ⟨gb478, _, none⟩) NB466_478.out _).trans (((cell_far (p := ⟨gb478, _, none⟩) NB466_478.out _).trans (hHeld.2))))⟩ (fun hHeld => ?_)
 clear hK K
 refine done_ (by kernel_rfl) ?_
 try go_wp2_with (first | ((with_reducible refine gate_callee (f := 79) rfl ?_); refine goesL_ (some 17) rfl rfl Try.func79 (by kernel_rfl) rfl #[.pointer (some ⟨g459, 0, none⟩), .int .i64 2] rfl al_ ?_; (with_reducible refine (spec_l1Once.calls g459 t456 t476 t477 2 false t480 t481 w _ ?side1 ?side2 A6.out).mono ?_); (case side1 => repeat (first | (with_reducible first | exact HI459.out | apply IsS147.alloc | apply IsS147.drewN | apply IsS147.drew | apply IsS147.set_1 | apply IsS147.set_2 | refine IsS147.far ?_ NB459_454.out _ | refine IsS147.far ?_ NB459_455.out _ | refine IsS147.far ?_ NB459_466.out _ | refine IsS147.far ?_ NB459_478.out _) | exact HI459.out)); (case side2 => repeat (first | (with_reducible first | exact HB.out | apply below_alloc | apply pw_below_drewN | apply below_drew1 | refine below_set ?_ (IsS147.ge HI459.out) | refine below_set ?_ GW454.out | refine below_set ?_ GW455.out | refine below_set ?_ GE466.out | refine below_set ?_ GE478.out) | exact HB.out)); rintro e w59 ⟨rfl, hi, hb, hk⟩; refine ⟨_, rfl, ?_⟩; replace BK454 := A_ (KeepBut.blk hk (g' := gb454) (o := .cells #[.int .i64 0, .slice none 0 0] 49 (0, 0)) (bk_ BK454) NB454_459.out (by simp)); replace BK455 := A_ (KeepBut.blk hk (g' := gb455) (o := .cells #[.int .i64 0, .slice none 0 0] 49 (0, 0)) (bk_ BK455) NB455_459.out (by simp)); replace HO462 := A_ (Kd.R_mono (Kd.R_keep (IsS147.apart (show IsS147 w _ g459 t456 t476 t477 from by repeat (first | (with_reducible first | exact HI459.out | apply IsS147.alloc | apply IsS147.drewN | apply IsS147.drew | apply IsS147.set_1 | apply IsS147.set_2 | refine IsS147.far ?_ NB459_454.out _ | refine IsS147.far ?_ NB459_455.out _ | refine IsS147.far ?_ NB459_466.out _ | refine IsS147.far ?_ NB459_478.out _) | exact HI459.out)) (by (with_reducible repeat (first | apply Kd.R_alloc | apply Kd.R_drewN | apply Kd.R_drew)); exact (Kd.R_mono (Kd.R_far (p := ⟨gb478, 1, none⟩) (Kd.R_far (p := ⟨gb478, 0, none⟩) (Kd.R_types HO462.out BK478.out (by decide)) (fun _ hk => hk.2) (.int .i64 t472)) (fun _ hk => hk.2) (.slice Ao57 t473.length co57)) (fun _ h_ => h_.1))) (by decide)) hk (fun _ h => h.2)) (fun _ h => h.1)); replace BK466 := A_ (KeepBut.blk hk (g' := gb466) (o := .cells #[.slice Ao45 t460.length co45, .int .i64 t463] 44 (0, 0)) (bk_ BK466) NB466_459.out (by simp)); replace HO475 := A_ (Kd.R_mono (Kd.R_keep (IsS147.apart (show IsS147 w _ g459 t456 t476 t477 from by repeat (first | (with_reducible first | exact HI459.out | apply IsS147.alloc | apply IsS147.drewN | apply IsS147.drew | apply IsS147.set_1 | apply IsS147.set_2 | refine IsS147.far ?_ NB459_454.out _ | refine IsS147.far ?_ NB459_455.out _ | refine IsS147.far ?_ NB459_466.out _ | refine IsS147.far ?_ NB459_478.out _) | exact HI459.out)) (by (with_reducible repeat (first | apply Kd.R_alloc | apply Kd.R_drewN | apply Kd.R_drew)); exact (Kd.R_mono (Kd.R_far (p := ⟨gb478, 1, none⟩) (Kd.R_far (p := ⟨gb478, 0, none⟩) (Kd.R_types HO475.out BK478.out (by decide)) (fun _ hk => hk.2) (.int .i64 t472)) (fun _ hk => hk.2) (.slice Ao57 t473.length co57)) (fun _ h_ => h_.1))) (by decide)) hk (fun _ h => h.2)) (fun _ h => h.1)); replace BK478 := A_ (KeepBut.blk hk (g' := gb478) (o := .cells #[.int .i64 t472, .slice Ao57 t473.length co57] 49 (0, 0)) (bp_ BK478) NB478_459.out (by simp)); replace HI459 := A_ hi; replace HB := A_ hb; (try clear hb); (try clear hb2); (try clear hk); (try clear hi)))
 replace HO462 := A_ (Kd.R_drew HO462.out)
 replace HO475 := A_ (Kd.R_drew HO475.out)
 replace BK454 := A_ (blk_drew BK454.out)
 replace BK455 := A_ (blk_drew BK455.out)
 replace BK466 := A_ (blk_drew BK466.out)
 replace BK478 := A_ (blk_drew BK478.out)
 replace HI459 := A_ (IsS147.drew HI459.out)
 replace HB := A_ (below_drew1 HB.out)
 refine start_ (n := 8) (S := fun w' => w'.cell? ⟨gb478, 0, none⟩ = some (.int .i64 t472) ∧ w'.cell? ⟨gb478, 1, none⟩ = some (.slice Ao57 t473.length co57) ∧ w'.cell? ⟨gb466, 0, none⟩ = some (.slice Ao45 t460.length co45) ∧ w'.cell? ⟨gb466, 1, none⟩ = some (.int .i64 t463)) (ds := []) (bt_ 0 8) (by kernel_rfl) rfl rfl ⟨(blk_cell BK478.out 0).trans rfl, (blk_cell BK478.out 1).trans rfl, (blk_cell BK466.out 0).trans rfl, (blk_cell BK466.out 1).trans rfl⟩ (fun hHeld => ?_); refine with_tabW spec_DrawResSame.tab6 spec_DrawResSame.bits6 (fun HT_ HW_ => ?_)
 generalize w59.drew = w60 at HO462 HO475 BK454 BK455 BK466 BK478 HI459 HB hHeld ⊢
 refine pu_ 1 27 (bt_ 2 8) ?_
 refine pu_ 3 29 (bt_ 10 8) ?_
 refine tk4_ 0 26 (bt_ 11 8) hHeld ?_
 refine tk4_ 2 28 (bt_ 15 8) hHeld ?_
 refine one_ (i := 4) (N := some 30) (bt_ 31 8) rfl rfl (one_of HT_.out (by kernel_rfl)) (by decide) (fun K hK => ?_)
 refine goes_ Try.func78 (by kernel_rfl) rfl #[.pointer (some ⟨g459, 0, none⟩)] (by rfl) rfl rfl al_ ?_
 with_reducible refine (spec_l4DrawRight.calls k g459 t456 t480 t481 t488 t489 t490 t491 t492 w _ ?side1 ?side2 A38.out).mono ?_
 (case side1 => repeat (first | (with_reducible first | exact HI459.out | apply IsS147.alloc | apply IsS147.drewN | apply IsS147.drew | apply IsS147.set_1 | apply IsS147.set_2 | refine IsS147.far ?_ NB459_454.out _ | refine IsS147.far ?_ NB459_455.out _ | refine IsS147.far ?_ NB459_466.out _ | refine IsS147.far ?_ NB459_478.out _) | exact HI459.out))
 (case side2 => repeat (first | (with_reducible first | exact HB.out | apply below_alloc | apply pw_below_drewN | apply below_drew1 | refine below_set ?_ (IsS147.ge HI459.out) | refine below_set ?_ GW454.out | refine below_set ?_ GW455.out | refine below_set ?_ GE466.out | refine below_set ?_ GE478.out) | exact HB.out))
 rintro e w61 ⟨rfl, hi, hb, hk⟩
 refine ⟨_, rfl, ?_⟩
 replace BK454 := A_ (KeepBut.blk hk (g' := gb454) (o := .cells #[.int .i64 0, .slice none 0 0] 49 (0, 0)) (bk_ BK454) NB454_459.out (by simp))
 replace BK455 := A_ (KeepBut.blk hk (g' := gb455) (o := .cells #[.int .i64 0, .slice none 0 0] 49 (0, 0)) (bk_ BK455) NB455_459.out (by simp))
 replace HO462 := A_ (Kd.R_mono (Kd.R_keep (IsS147.apart (show IsS147 w _ g459 t456 t480 t481 from by repeat (first | (with_reducible first | exact HI459.out | apply IsS147.alloc | apply IsS147.drewN | apply IsS147.drew | apply IsS147.set_1 | apply IsS147.set_2 | refine IsS147.far ?_ NB459_454.out _ | refine IsS147.far ?_ NB459_455.out _ | refine IsS147.far ?_ NB459_466.out _ | refine IsS147.far ?_ NB459_478.out _) | exact HI459.out)) (rb_ HO462.out) (by decide)) hk (fun _ h => h.2)) (fun _ h => h.1))
 replace BK466 := A_ (KeepBut.blk hk (g' := gb466) (o := .cells #[.slice Ao45 t460.length co45, .int .i64 t463] 44 (0, 0)) (bk_ BK466) NB466_459.out (by simp))
 replace HO475 := A_ (Kd.R_mono (Kd.R_keep (IsS147.apart (show IsS147 w _ g459 t456 t480 t481 from by repeat (first | (with_reducible first | exact HI459.out | apply IsS147.alloc | apply IsS147.drewN | apply IsS147.drew | apply IsS147.set_1 | apply IsS147.set_2 | refine IsS147.far ?_ NB459_454.out _ | refine IsS147.far ?_ NB459_455.out _ | refine IsS147.far ?_ NB459_466.out _ | refine IsS147.far ?_ NB459_478.out _) | exact HI459.out)) (rb_ HO475.out) (by decide)) hk (fun _ h => h.2)) (fun _ h => h.1))
 replace BK478 := A_ (KeepBut.blk hk (g' := gb478) (o := .cells #[.int .i64 t472, .slice Ao57 t473.length co57] 49 (0, 0)) (bk_ BK478) NB478_459.out (by simp))
 replace HI459 := A_ hi
 replace HB := A_ hb
 (try clear hb)
 (try clear hb2)
 (try clear hk)
 (try clear hi)
 refine hK.out _ _ ⟨(blk_cell BK478.out 0).trans rfl, (blk_cell BK478.out 1).trans rfl, (blk_cell BK466.out 0).trans rfl, (blk_cell BK466.out 1).trans rfl⟩ (fun hHeld => ?_)
 clear hK K
 refine norm_ (a' := ?_) ?_ ?_
 rotate_left
 ·
  show Act.put _ (some 30) _ = _
  simp only [Act.put, List.setIfInBounds_toArray, List.set_cons_zero, List.set_cons_succ, i64_w, i32_w]
  rfl
 refine one_ (i := 5) (N := some 31) (bt_ 63 8) rfl rfl (one_of HT_.out (by kernel_rfl)) (by decide) (fun K hK => ?_)
 refine goes_ Try.func73 (by kernel_rfl) rfl #[.pointer (some ⟨g459, 0, none⟩), .agg #[.slice Ao45 t460.length co45, .int .i64 t463], .agg #[.int .i64 t488, .int .i64 t489, .int .i64 t490]] (by rfl) rfl rfl al_ ?_
 with_reducible refine (spec_l4DrawRes.calls k g459 t456 t491 t492 _ _ t460 t463 t488 t489 t490 t493 t494 t497 t498 w _ ?side1 ?side2 ?side3 ?side4 ?side5 A39.out).mono ?_
 (case side1 => repeat (first | (with_reducible first | exact HI459.out | apply IsS147.alloc | apply IsS147.drewN | apply IsS147.drew | apply IsS147.set_1 | apply IsS147.set_2 | refine IsS147.far ?_ NB459_454.out _ | refine IsS147.far ?_ NB459_455.out _ | refine IsS147.far ?_ NB459_466.out _ | refine IsS147.far ?_ NB459_478.out _) | exact HI459.out))
 (case side2 => repeat (first | (with_reducible first | exact HB.out | apply below_alloc | apply pw_below_drewN | apply below_drew1 | refine below_set ?_ (IsS147.ge HI459.out) | refine below_set ?_ GW454.out | refine below_set ?_ GW455.out | refine below_set ?_ GE466.out | refine below_set ?_ GE478.out) | exact HB.out))
 (case side3 => repeat (first | exact (Kd.R_reads' HO462.out).2.2 | (with_reducible refine Kd.C_alloc ?_ _) | (with_reducible refine Kd.C_drewN ?_ _) | (with_reducible refine Kd.C_drew ?_)))
 (case side4 => exact (Kd.R_reads' HO462.out).2.1)
 (case side5 => exact far_slice (IsS147.own_ne HI459.out HO462.out (by decide)))
 rintro e w62 ⟨v495, rfl, ho0, hi, hb, hk⟩
 refine ⟨_, rfl, ?_⟩
 have HO496 := A_ (Kd.R_lower (Kd.R_new' (Kd.R_new' ho0 (Kd.R_lt (rb_ HO462.out))) (Kd.R_lt (rb_ HO475.out))) (below_size (by repeat (first | (with_reducible first | exact HB.out | apply below_alloc | apply pw_below_drewN | apply below_drew1 | refine below_set ?_ (IsS147.ge HI459.out) | refine below_set ?_ GW454.out | refine below_set ?_ GW455.out | refine below_set ?_ GE466.out | refine below_set ?_ GE478.out) | exact HB.out))))
 replace BK454 := A_ (KeepBut.blk hk (g' := gb454) (o := .cells #[.int .i64 0, .slice none 0 0] 49 (0, 0)) (bk_ BK454) NB454_459.out (by simp))
 replace BK455 := A_ (KeepBut.blk hk (g' := gb455) (o := .cells #[.int .i64 0, .slice none 0 0] 49 (0, 0)) (bk_ BK455) NB455_459.out (by simp))
 replace HO462 := A_ (Kd.R_mono (Kd.R_told (Kd.R_oldK (IsS147.apart (show IsS147 w _ g459 t456 t491 t492 from by repeat (first | (with_reducible first | exact HI459.out | apply IsS147.alloc | apply IsS147.drewN | apply IsS147.drew | apply IsS147.set_1 | apply IsS147.set_2 | refine IsS147.far ?_ NB459_454.out _ | refine IsS147.far ?_ NB459_455.out _ | refine IsS147.far ?_ NB459_466.out _ | refine IsS147.far ?_ NB459_478.out _) | exact HI459.out)) (rb_ HO462.out) (by decide)) hk) (Kd.R_base ho0)) (fun _ h_ => h_.1))
 replace BK466 := A_ (KeepBut.blk hk (g' := gb466) (o := .cells #[.slice Ao45 t460.length co45, .int .i64 t463] 44 (0, 0)) (bk_ BK466) NB466_459.out (by simp))
 replace HO475 := A_ (Kd.R_mono (Kd.R_told (Kd.R_oldK (IsS147.apart (show IsS147 w _ g459 t456 t491 t492 from by repeat (first | (with_reducible first | exact HI459.out | apply IsS147.alloc | apply IsS147.drewN | apply IsS147.drew | apply IsS147.set_1 | apply IsS147.set_2 | refine IsS147.far ?_ NB459_454.out _ | refine IsS147.far ?_ NB459_455.out _ | refine IsS147.far ?_ NB459_466.out _ | refine IsS147.far ?_ NB459_478.out _) | exact HI459.out)) (rb_ HO475.out) (by decide)) hk) (Kd.R_base ho0)) (fun _ h_ => h_.1))
 replace BK478 := A_ (KeepBut.blk hk (g' := gb478) (o := .cells #[.int .i64 t472, .slice Ao57 t473.length co57] 49 (0, 0)) (bk_ BK478) NB478_459.out (by simp))
 replace HI459 := A_ hi
 replace HB := A_ hb
 (try clear hb)
 (try clear hb2)
 (try clear hk)
 (try clear hi)
 (try clear ho0)
 obtain ⟨Ao66, co66, eo66⟩ := Kd.R_slice HO496.out
 (first | subst eo66 | (injection eo66 with f1_ f2_ f3_; have f4_ := f1_.symm; have f5_ := f3_.symm; clear f1_ f2_ f3_; subst f4_; subst f5_))
 refine hK.out _ _ ⟨(blk_cell BK478.out 0).trans rfl, (blk_cell BK478.out 1).trans rfl, (blk_cell BK466.out 0).trans rfl, (blk_cell BK466.out 1).trans rfl⟩ (fun hHeld => ?_)
 clear hK K
 refine norm_ (a' := ?_) ?_ ?_
 rotate_left
 ·
  show Act.put _ (some 31) _ = _
  simp only [Act.put, List.setIfInBounds_toArray, List.set_cons_zero, List.set_cons_succ, i64_w, i32_w]
  rfl
 refine one_ (i := 6) (N := none) (bt_ 127 8) rfl rfl (one_of HT_.out (by kernel_rfl)) (by decide) (fun K hK => ?_)
 have hs63 : w62.cell? ⟨gb454, 0, none⟩ = some (.int .i64 0) := (blk_cell BK454.out 0).trans rfl
 have hfs63 := blk_frozen BK454.out 0
 have hns63_1 := NB455_454.out
 have hns63_2 := NB466_454.out
 have hns63_3 := NB478_454.out
 have hms63_1 := NB454_455.out
 have hms63_2 := NB454_466.out
 have hms63_3 := NB454_478.out
 have hs64 : w62.cell? ⟨gb454, 1, none⟩ = some (.slice none 0 0) := (blk_cell BK454.out 1).trans rfl
 have hfs64 := blk_frozen BK454.out 1
 have hns64_1 := NB455_454.out
 have hns64_2 := NB466_454.out
 have hns64_3 := NB478_454.out
 have hms64_1 := NB454_455.out
 have hms64_2 := NB454_466.out
 have hms64_3 := NB454_478.out
 refine skip_ (w1 := ?_) (by rfl) rfl ?_ ?_
 rotate_left
 ·
  go_simp
  rfl
 refine hK.out _ _ ⟨((cell_far (p := ⟨gb454, _, none⟩) NB478_454.out _).trans (((cell_far (p := ⟨gb454, _, none⟩) NB478_454.out _).trans (hHeld.1)))), ((cell_far (p := ⟨gb454, _, none⟩) NB478_454.out _).trans (((cell_far (p := ⟨gb454, _, none⟩) NB478_454.out _).trans (hHeld.2.1)))), ((cell_far (p := ⟨gb454, _, none⟩) NB466_454.out _).trans (((cell_far (p := ⟨gb454, _, none⟩) NB466_454.out _).trans (hHeld.2.2.1)))), ((cell_far (p := ⟨gb454, _, none⟩) NB466_454.out _).trans (((cell_far (p := ⟨gb454, _, none⟩) NB466_454.out _).trans (hHeld.2.2.2))))⟩ (fun hHeld => ?_)
 clear hK K
 refine one_ (i := 7) (N := none) (bt_ 255 8) rfl rfl (one_of HT_.out (by kernel_rfl)) (by decide) (fun K hK => ?_)
 have hs65 : w62.cell? ⟨gb455, 0, none⟩ = some (.int .i64 0) := (blk_cell BK455.out 0).trans rfl
 have hfs65 := blk_frozen BK455.out 0
 have hns65_0 := NB454_455.out
 have hns65_2 := NB466_455.out
 have hns65_3 := NB478_455.out
 have hms65_0 := NB455_454.out
 have hms65_2 := NB455_466.out
 have hms65_3 := NB455_478.out
 have hs67 : w62.cell? ⟨gb455, 1, none⟩ = some (.slice none 0 0) := (blk_cell BK455.out 1).trans rfl
 have hfs67 := blk_frozen BK455.out 1
 have hns67_0 := NB454_455.out
 have hns67_2 := NB466_455.out
 have hns67_3 := NB478_455.out
 have hms67_0 := NB455_454.out
 have hms67_2 := NB455_466.out
 have hms67_3 := NB455_478.out
 refine skip_ (w1 := ?_) (by rfl) rfl ?_ ?_
 rotate_left
 ·
  go_simp
  rfl
 refine hK.out _ _ ⟨((cell_far (p := ⟨gb455, _, none⟩) NB478_455.out _).trans (((cell_far (p := ⟨gb455, _, none⟩) NB478_455.out _).trans (hHeld.1)))), ((cell_far (p := ⟨gb455, _, none⟩) NB478_455.out _).trans (((cell_far (p := ⟨gb455, _, none⟩) NB478_455.out _).trans (hHeld.2.1)))), ((cell_far (p := ⟨gb455, _, none⟩) NB466_455.out _).trans (((cell_far (p := ⟨gb455, _, none⟩) NB466_455.out _).trans (hHeld.2.2.1)))), ((cell_far (p := ⟨gb455, _, none⟩) NB466_455.out _).trans (((cell_far (p := ⟨gb455, _, none⟩) NB466_455.out _).trans (hHeld.2.2.2))))⟩ (fun hHeld => ?_)
 clear hK K
 refine done_ (done_of HT_.out (by kernel_rfl)) ?_
 try go_wp2
 refine bodyPost_ret (results_cc rfl _ _ gb454 gb455 49 49 #[.int .i64 t472, .slice Ao57 t473.length co57] #[.int .i64 t493, .slice Ao66 t494.length co66] (0, 0) (0, 0) _ _ rfl (bp_ BK454) Try.underlying49 rfl (by kernel_rfl) rfl (bp_ BK455) Try.underlying49 rfl (by kernel_rfl)) rfl ?_
 exact ⟨_, _, rs_, by (with_reducible repeat (first | apply Kd.R_alloc | apply Kd.R_drewN | apply Kd.R_drew)); exact Kd.R_mono (Kd.R_far (p := ⟨gb455, 1, none⟩) (Kd.R_far (p := ⟨gb455, 0, none⟩) (Kd.R_far (p := ⟨gb454, 1, none⟩) (Kd.R_far (p := ⟨gb454, 0, none⟩) (Kd.R_types (Kd.R_types HO475.out BK454.out (by decide)) BK455.out (by decide)) (fun _ hk => hk.1.2) (.int .i64 t472)) (fun _ hk => hk.1.2) (.slice Ao57 t473.length co57)) (fun _ hk => hk.2) (.int .i64 t493)) (fun _ hk => hk.2) (.slice Ao66 t494.length co66)) (fun _ hk => hk.1.1.2), by (with_reducible repeat (first | apply Kd.R_alloc | apply Kd.R_drewN | apply Kd.R_drew)); exact Kd.R_mono (Kd.R_far (p := ⟨gb455, 1, none⟩) (Kd.R_far (p := ⟨gb455, 0, none⟩) (Kd.R_far (p := ⟨gb454, 1, none⟩) (Kd.R_far (p := ⟨gb454, 0, none⟩) (Kd.R_types (Kd.R_types HO496.out BK454.out (by decide)) BK455.out (by decide)) (fun _ hk => hk.1.2) (.int .i64 t472)) (fun _ hk => hk.1.2) (.slice Ao57 t473.length co57)) (fun _ hk => hk.2) (.int .i64 t493)) (fun _ hk => hk.2) (.slice Ao66 t494.length co66)) (fun _ hk => hk.1.1.2), by repeat (first | (with_reducible first | exact HB.out | apply below_alloc | apply pw_below_drewN | apply below_drew1 | refine below_set ?_ (IsS147.ge HI459.out) | refine below_set ?_ GW454.out | refine below_set ?_ GW455.out | refine below_set ?_ GE466.out | refine below_set ?_ GE478.out) | exact HB.out)⟩

end Go.Proofs.Ytmkhghbalnadlaa.PFnAllowed
