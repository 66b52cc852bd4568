/- Contracts of functions of the program: each says that the call does what a plain Lean function tells. Made by programs of this session and of the kit. No condition beyond the hypotheses that each theorem names. -/
import Derived.Test.YtmkhghbalnadlaaPFnExactBeginx0
import Derived.Test.YtmkhghbalnadlaaPFnExactBeginx8
namespace Go.Proofs.Ytmkhghbalnadlaa.PFnExactBegin
open Go.RowKit Go.Proofs.YtmkhghbalnadlaaW.PrintWords Go.Proofs.YtmkhghbalnadlaaW.PrintLast Go.Proofs.YtmkhghbalnadlaaW.PrintMore
attribute [local go_sem] max2_int min2_int max_two min_two max_three min_three max_four min_four   -- for this text's walks alone
set_option linter.unusedVariables false
set_option linter.unusedSimpArgs false

/-! ### spec_l7Copy: function 100 -/
def spec_l7Copy.f (k : Nat) (l0_0 : List (S95)) (l0_1 : List (S119)) : Option ((List (S95)) × (List (S119))) := (some (([] : List (S95)) : List (S95))).bind fun y306 => (if y306.length + l0_0.length < 5864062014805 then ((spec_l6Descs.f k l0_1).bind fun t312 => (some ((y306 ++ l0_0), t312))) else (none))
def spec_l7Copy.T1 : Bool × List (List Nat × List Nat) := (true, [([], []), ([], []), ([1], [1]), ([0, 2], [0, 2]), ([], []), ([4], [4]), ([5, 3], [5]), ([3, 6], [3, 6]), ([7, 6, 0, 1, 2, 3, 4, 5, 6, 7], [7])])
def spec_l7Copy.B1 : List Nat := [0, 0, 2, 7, 0, 16, 63, 127, 255]
theorem spec_l7Copy.tab1 : rtab .any (opsOf Try.f100 1) = spec_l7Copy.T1 := by kernel_rfl
theorem spec_l7Copy.bits1 : waitsOk spec_l7Copy.T1.2 spec_l7Copy.B1 = true := by kernel_rfl
set_option maxHeartbeats 8000000 in
set_option maxRecDepth 100000 in
theorem spec_l7Copy.calls (k : Nat) (A0_0 : Option Addr) (c0_0 : Nat) (l0_0 : List (S95)) (A0_1 : Option Addr) (c0_1 : Nat) (l0_1 : List (S119)) (r1 : List (S95)) (r2 : List (S119)) (w : World) (hr0_0 : Kd.C k95 w A0_0 l0_0.length l0_0) (hc0_0 : l0_0.length ≤ c0_0) (hr0_1 : Kd.C k119 w A0_1 l0_1.length l0_1) (hc0_1 : l0_1.length ≤ c0_1) (h : spec_l7Copy.f k l0_0 l0_1 = some (r1, r2)) :
    Calls Try.prog 100 #[.agg #[.slice A0_0 l0_0.length c0_0, .slice A0_1 l0_1.length c0_1]] w fun e w' => ∃ v0_ v1_ : Value, e = .returned (.agg #[v0_, v1_]) ∧ Kd.R k95 95 w' w.heap.size (fun _ => True) v0_ r1 ∧ Kd.S k119 119 w' w.heap.size (fun _ => True) v1_ r2 ∧ Below w.heap.size w w' := by
 have hu31 := Try.underlying31
 have HR0_0 := A_ hr0_0
 have HC0_0 := A_ hc0_0
 clear hr0_0 hc0_0
 have HR0_1 := A_ hr0_1
 have HC0_1 := A_ hc0_1
 clear hr0_1 hc0_1
 have HB := A_ (Below.refl w.heap.size w)
 have H : ((some (([] : List (S95)) : List (S95))).bind fun y306 => (if y306.length + l0_0.length < 5864062014805 then ((spec_l6Descs.f k l0_1).bind fun t312 => (some ((y306 ++ l0_0), t312))) else (none))) = some (r1, r2) := h
 clear h
 obtain ⟨y306, hy306⟩ : ∃ y_ : List (S95), y_ = (([] : List (S95))) := ⟨_, rfl⟩
 replace H : (if y306.length + l0_0.length < 5864062014805 then ((spec_l6Descs.f k l0_1).bind fun t312 => (some ((y306 ++ l0_0), t312))) else (none)) = some (r1, r2) := by first | (rw [hy306]; with_reducible exact H) | (have H2_ := (Option.bind_some _ _).symm.trans H; rw [hy306]; with_reducible exact H2_) | (have H2_ := (Option.bind_some _ _).symm.trans H; with_reducible exact H2_) | with_reducible exact H | (rw [hy306]; exact H) | exact H
 have Ny306 := A_ hy306
 clear hy306
 by_cases c2 : y306.length + l0_0.length < 5864062014805
 ·
  rw [if_pos c2] at H
  have LMc2 := A_ c2
  clear c2
  obtain ⟨y309, hy309⟩ : ∃ y_ : List (S95), y_ = (y306 ++ l0_0) := ⟨_, rfl⟩
  replace H : ((spec_l6Descs.f k l0_1).bind fun t312 => (some (y309, t312))) = some (r1, r2) := by first | (rw [hy309]; with_reducible exact H) | (have H2_ := (Option.bind_some _ _).symm.trans H; rw [hy309]; with_reducible exact H2_) | (have H2_ := (Option.bind_some _ _).symm.trans H; with_reducible exact H2_) | with_reducible exact H | (rw [hy309]; exact H) | exact H
  have Ny309 := A_ hy309
  clear hy309
  replace H := bs_ H
  obtain ⟨t312, A3, H⟩ := H
  simp only [Option.some.injEq, Prod.mk.injEq] at H
  obtain ⟨rfl, rfl⟩ := H
  go_enter Try.func100, Try.ntmps100
  try go_wp2_with (first | ((with_reducible refine gate_dst (N := 1) rfl ?_); refine bx_ HB rfl (N := 1) rfl (cs := #[.slice A0_0 l0_0.length c0_0, .slice A0_1 l0_1.length c0_1]) (t := 31) hr_ ?_; clear HB; intro gb304 w4 hg hb BK304 GW304 HB; clear hb hg) | ((with_reducible refine gate_dst (N := 2) rfl ?_); refine bx_ HB rfl (N := 2) rfl (cs := #[.slice none 0 0, .slice none 0 0]) (t := 31) hr_ ?_; clear HB; intro gb305 w5 hg hb BK305 GW305 HB; have NB304_305 := ng_ BK304 hg; have NB305_304 := ns_ (ng_ BK304 hg); replace BK304 := bb_ BK304 hb; clear hb hg))
  replace BK304 := A_ (blk_drew BK304.out)
  replace BK305 := A_ (blk_drew BK305.out)
  replace HB := A_ (below_drew1 HB.out)
  refine start_ (n := 9) (S := fun w' => w'.cell? ⟨gb304, 0, none⟩ = some (.slice A0_0 l0_0.length c0_0) ∧ w'.cell? ⟨gb304, 1, none⟩ = some (.slice A0_1 l0_1.length c0_1)) (ds := []) (bt_ 0 9) (by kernel_rfl) rfl rfl ⟨(blk_cell BK304.out 0).trans rfl, (blk_cell BK304.out 1).trans rfl⟩ (fun hHeld => ?_); refine with_tabW spec_l7Copy.tab1 spec_l7Copy.bits1 (fun HT_ HW_ => ?_)
  generalize w5.drew = w6 at BK304 BK305 HB hHeld ⊢
  refine pu_ 1 4 (bt_ 2 9) ?_
  refine pu_ 4 7 (bt_ 18 9) ?_
  refine tk2_ 2 5 (bt_ 22 9) hHeld ?_
  refine tk2_ 5 8 (bt_ 54 9) hHeld ?_
  refine one_ (i := 0) (N := some 3) (bt_ 55 9) rfl rfl (one_of HT_.out (by kernel_rfl)) (by decide) (fun K hK => ?_)
  refine Kd.R_lit_step k95 _ 95 ?hg (N := 3) ?hd (xs := ([] : List (S95))) (inner := []) (ok := fun _ => True) (okp := fun _ => True) ?hr ?hp (fun _ hk => hk) trivial (Below.refl _ _) (Nat.le_refl _) (by simp) ?_; (case hd => rfl); (case hg => rfl); (case hr => first | (go_simp; done) | (go_simp; rfl)); (case hp => exact (Reps.none _ _))
  intro v307 w7 ho8 hb hg_ hnew_
  clear hg_ hnew_
  (first | rw [← Ny306.out] at ho8 | (simp only [Int.reduceToNat] at ho8; rw [← Ny306.out] at ho8))
  have HO308 := A_ (Kd.R_lower ho8 (below_size (hb_ HB)))
  replace BK304 := bb_ BK304 hb
  replace BK305 := bb_ BK305 hb
  replace HB := hs_ HB hb
  clear hb ho8
  refine hK.out _ _ ⟨(blk_cell BK304.out 0).trans rfl, (blk_cell BK304.out 1).trans rfl⟩ (fun hHeld => ?_)
  clear hK K
  refine norm_ (a' := ?_) ?_ ?_
  rotate_left
  ·
   show Act.put _ (some 3) _ = _
   simp only [Act.put, List.setIfInBounds_toArray, List.set_cons_zero, List.set_cons_succ, i64_w, i32_w]
   rfl
  refine one_ (i := 3) (N := some 6) (bt_ 63 9) rfl rfl (one_of HT_.out (by kernel_rfl)) (by decide) (fun K hK => ?_)
  refine Kd.R_append_rows_step k95 (w0 := w) w.heap.size (by rfl) (.tmp 3) (.tmp 5) 28 95 (.agg #[(.int .i64 0), (.int .i64 0), (.int .i64 0)]) 24 rfl Try.underlying28 info95 rfl (by decide) (by omega) v307 y306 l0_0 _ _ _ (fun _ => True) (fun _ => False) rfl rfl ?aO ?aR (fun _ _ h => h) (fun _ h => h.elim) ?aF ?aB ?aS ?aL ?_
  (case aR => exact cb_ (Kd.C_below HR0_0.out HB.out))
  (case aB => exact (hb_ HB))
  (case aF => exact (fun _ _ => trivial))
  (case aO => exact (rb_ HO308.out))
  (case aS => exact (below_size (hb_ HB)))
  (case aL => have := LMc2.out; omega)
  intro v310 w9 ho hb hg hat
  rw [← Ny309.out] at ho
  have HO311 := A_ ho
  replace BK304 := A_ (blk_grown (g := gb304) (o := .cells #[.slice A0_0 l0_0.length c0_0, .slice A0_1 l0_1.length c0_1] 31 (0, 0)) (bk_ BK304) hg (Kd.R_ne HO308.out BK304.out (by decide)))
  replace BK305 := A_ (blk_grown (g := gb305) (o := .cells #[.slice none 0 0, .slice none 0 0] 31 (0, 0)) (bk_ BK305) hg (Kd.R_ne HO308.out BK305.out (by decide)))
  replace HB := A_ hb
  clear HO308 ho hb hg hat
  refine hK.out _ _ ⟨(blk_cell BK304.out 0).trans rfl, (blk_cell BK304.out 1).trans rfl⟩ (fun hHeld => ?_)
  clear hK K
  refine norm_ (a' := ?_) ?_ ?_
  rotate_left
  ·
   show Act.put _ (some 6) _ = _
   simp only [Act.put, List.setIfInBounds_toArray, List.set_cons_zero, List.set_cons_succ, i64_w, i32_w]
   rfl
  refine one_ (i := 6) (N := some 9) (bt_ 127 9) rfl rfl (one_of HT_.out (by kernel_rfl)) (by decide) (fun K hK => ?_)
  refine goes_ Try.func147 (by kernel_rfl) rfl #[.slice A0_1 l0_1.length c0_1] (by rfl) rfl rfl al_ ?_
  with_reducible refine (spec_l6Descs.calls k _ _ l0_1 t312 _ ?side1 ?side2 A3.out).mono ?_
  (case side1 => exact cb_ (Kd.C_below HR0_1.out HB.out))
  (case side2 => exact HC0_1.out)
  rintro e w10 ⟨v313, rfl, ho0, hb⟩
  refine ⟨_, rfl, ?_⟩
  have HO314 := A_ (Kd.S_lower ho0 (below_size (hb_ HB)))
  replace HO311 := A_ (Kd.R_below (rb_ HO311.out) hb)
  replace BK304 := bb_ BK304 hb
  replace BK305 := bb_ BK305 hb
  replace HB := hs_ HB hb
  (try clear hb)
  (try clear hb2)
  (try clear hk)
  (try clear hi)
  (try clear ho0)
  obtain ⟨Ao11, co11, eo11⟩ := Kd.S_slice HO314.out
  (first | subst eo11 | (injection eo11 with f1_ f2_ f3_; have f4_ := f1_.symm; have f5_ := f3_.symm; clear f1_ f2_ f3_; subst f4_; subst f5_))
  obtain ⟨Ao12, co12, eo12⟩ := Kd.R_slice HO311.out
  (first | subst eo12 | (injection eo12 with f1_ f2_ f3_; have f4_ := f1_.symm; have f5_ := f3_.symm; clear f1_ f2_ f3_; subst f4_; subst f5_))
  refine hK.out _ _ ⟨(blk_cell BK304.out 0).trans rfl, (blk_cell BK304.out 1).trans rfl⟩ (fun hHeld => ?_)
  clear hK K
  refine norm_ (a' := ?_) ?_ ?_
  rotate_left
  ·
   show Act.put _ (some 9) _ = _
   simp only [Act.put, List.setIfInBounds_toArray, List.set_cons_zero, List.set_cons_succ, i64_w, i32_w]
   rfl
  refine pu_ 7 10 (bt_ 255 9) ?_
  refine one_ (i := 8) (N := none) (bt_ 511 9) rfl rfl (one_of HT_.out (by kernel_rfl)) (by decide) (fun K hK => ?_)
  have hs13 : w10.cell? ⟨gb305, 0, none⟩ = some (.slice none 0 0) := (blk_cell BK305.out 0).trans rfl
  have hfs13 := blk_frozen BK305.out 0
  have hns13_0 := NB304_305.out
  have hms13_0 := NB305_304.out
  have hs14 : w10.cell? ⟨gb305, 1, none⟩ = some (.slice none 0 0) := (blk_cell BK305.out 1).trans rfl
  have hfs14 := blk_frozen BK305.out 1
  have hns14_0 := NB304_305.out
  have hms14_0 := NB305_304.out
  refine skip_ (w1 := ?_) (by rfl) rfl ?_ ?_
  rotate_left
  ·
   go_simp
   rfl
  refine hK.out _ _ ⟨((cell_far (p := ⟨gb305, _, none⟩) NB304_305.out _).trans (((cell_far (p := ⟨gb305, _, none⟩) NB304_305.out _).trans (hHeld.1)))), ((cell_far (p := ⟨gb305, _, none⟩) NB304_305.out _).trans (((cell_far (p := ⟨gb305, _, none⟩) NB304_305.out _).trans (hHeld.2))))⟩ (fun hHeld => ?_)
  clear hK K
  refine done_ (done_of HT_.out (by kernel_rfl)) ?_
  try go_wp2
  refine bodyPost_ret (results_cell_row rfl _ _ gb305 31 #[.slice Ao12 y309.length co12, .slice Ao11 t312.length co11] (0, 0) _ rfl (bp_ BK305) Try.underlying31 rfl (by kernel_rfl)) rfl ?_
  exact ⟨_, _, rs_, by (with_reducible repeat (first | apply Kd.R_alloc | apply Kd.R_drewN | apply Kd.R_drew)); exact Kd.R_mono (Kd.R_far (p := ⟨gb305, 1, none⟩) (Kd.R_far (p := ⟨gb305, 0, none⟩) (Kd.R_types HO311.out BK305.out (by decide)) (fun _ hk => hk.2) (.slice Ao12 y309.length co12)) (fun _ hk => hk.2) (.slice Ao11 t312.length co11)) (fun _ hk => trivial), by (with_reducible repeat (first | apply Kd.S_alloc | apply Kd.S_drewN | apply Kd.S_drew)); exact Kd.S_mono (Kd.S_far (p := ⟨gb305, 1, none⟩) (Kd.S_far (p := ⟨gb305, 0, none⟩) (Kd.S_types HO314.out BK305.out (by decide)) (fun _ hk => hk.2) (.slice Ao12 y309.length co12)) (fun _ hk => hk.2) (.slice Ao11 t312.length co11)) (fun _ hk => trivial), hb_ HB⟩
 rw [if_neg c2] at H
 exact absurd H (by simp)

end Go.Proofs.Ytmkhghbalnadlaa.PFnExactBegin
