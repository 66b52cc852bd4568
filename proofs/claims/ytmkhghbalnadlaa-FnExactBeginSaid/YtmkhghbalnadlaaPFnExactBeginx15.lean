/- Contracts of functions of the program: each says that the call does what a plain Lean function tells. Made by programs of this session and of the kit. No condition beyond the hypotheses that each theorem names. -/
import Derived.Test.YtmkhghbalnadlaaPFnExactBeginx0
namespace Go.Proofs.Ytmkhghbalnadlaa.PFnExactBegin
open Go.RowKit Go.Proofs.YtmkhghbalnadlaaW.PrintWords Go.Proofs.YtmkhghbalnadlaaW.PrintLast Go.Proofs.YtmkhghbalnadlaaW.PrintMore
attribute [local go_sem] max2_int min2_int max_two min_two max_three min_three max_four min_four   -- for this text's walks alone
set_option linter.unusedVariables false
set_option linter.unusedSimpArgs false

/-! ### laws_eqHelp: function 46 -/
def laws_eqHelp.f (a0_0 : Int) (a0_1 : Int) (a0_2 : Int) (a0_3 : Int) (a1_0 : Int) (a1_1 : Int) (a1_2 : Int) (a1_3 : Int) : Option (Bool) := if a0_0 = a1_0 then (if a0_1 = a1_1 then (if a0_2 = a1_2 then (if a0_3 = a1_3 then (some true) else (none)) else (none)) else (none)) else (none)
set_option maxHeartbeats 8000000 in
set_option maxRecDepth 100000 in
theorem laws_eqHelp.calls (a0_0 : Int) (a0_1 : Int) (a0_2 : Int) (a0_3 : Int) (a1_0 : Int) (a1_1 : Int) (a1_2 : Int) (a1_3 : Int) (r : Bool) (w : World) (h : laws_eqHelp.f a0_0 a0_1 a0_2 a0_3 a1_0 a1_1 a1_2 a1_3 = some r) :
    Calls Try.prog 46 #[.agg #[.int .i64 a0_0, .int .i64 a0_1, .int .i64 a0_2, .int .i64 a0_3], .agg #[.int .i64 a1_0, .int .i64 a1_1, .int .i64 a1_2, .int .i64 a1_3]] w fun e w' => e = .returned (.bool r) ∧ Below w.heap.size w w' := by
 have hu74 := Try.underlying74
 have HB := A_ (Below.refl w.heap.size w)
 have H : (if a0_0 = a1_0 then (if a0_1 = a1_1 then (if a0_2 = a1_2 then (if a0_3 = a1_3 then (some true) else (none)) else (none)) else (none)) else (none)) = some r := h
 clear h
 replace H := iy_ H
 obtain ⟨c3b0, c3b1, H⟩ := H
 replace H := iy_ H
 obtain ⟨c4b0, c4b1, H⟩ := H
 replace H := iy_ H
 obtain ⟨c5b0, c5b1, H⟩ := H
 replace H := iy_ H
 obtain ⟨c6b0, c6b1, H⟩ := H
 obtain rfl := Option.some.inj H
 go_enter Try.func46, Try.ntmps46
 go_wp2_with (first | ((with_reducible refine gate_dst (N := 2) rfl ?_); refine bx_ HB rfl (N := 2) rfl (cs := #[.int .i64 a0_0, .int .i64 a0_1, .int .i64 a0_2, .int .i64 a0_3]) (t := 74) hr_ ?_; clear HB; intro gb463 w7 hg hb BK463 GW463 HB; clear hb hg) | ((with_reducible refine gate_dst (N := 3) rfl ?_); refine bx_ HB rfl (N := 3) rfl (cs := #[.int .i64 a1_0, .int .i64 a1_1, .int .i64 a1_2, .int .i64 a1_3]) (t := 74) hr_ ?_; clear HB; intro gb464 w8 hg hb BK464 GW464 HB; have NB463_464 := ng_ BK463 hg; have NB464_463 := ns_ (ng_ BK463 hg); replace BK463 := bb_ BK463 hb; clear hb hg; have hnb9 := NB463_464.out; have hnc9 := NB464_463.out; obtain ⟨hcz10_0, hcz10_1, hcz10_2, hcz10_3, hfz10_0, hfz10_1, hfz10_2, hfz10_3⟩ := cz4_ BK463; obtain ⟨hcz11_0, hcz11_1, hcz11_2, hcz11_3, hfz11_0, hfz11_1, hfz11_2, hfz11_3⟩ := cz4_ BK464))
 go_ret
 exact ⟨rs_, hb_ HB⟩

set_option maxRecDepth 100000 in
theorem z0_ {p : Prop} (h : p := by
 intro hJ200
 refine join_ (σ := Value × Value × Nat × Nat) 10 (bt_ 12335 17) (fun s_ => [(42, .agg #[s_.1, s_.2.1]), (10, .pointer (some ⟨s_.2.2.1, 0, none⟩)), (11, .pointer (some ⟨s_.2.2.2, 0, none⟩))]) (fun s_ w' => (w'.cell? ⟨gb465, 0, none⟩ = some (.slice A0_0 l0_0.length c0_0) ∧ w'.cell? ⟨gb465, 1, none⟩ = some (.slice A0_1 l0_1.length c0_1) ∧ w'.cell? ⟨gb466, 0, none⟩ = some (.int .i64 a3_0) ∧ w'.cell? ⟨gb466, 1, none⟩ = some (.slice A3_1 l3_1.length c3_1)) ∧ (Kd.R k95 95 w' w44.heap.size (fun _ => True) s_.1 t470) ∧ (Kd.S k119 119 w' w44.heap.size (fun _ => True) s_.2.1 t473) ∧ (w44.heap.size ≤ s_.2.2.1 ∧ w'.heap[s_.2.2.1]? = some (.cells #[.slice none 0 0, .slice none 0 0] 31 (0, 0))) ∧ (w44.heap.size ≤ s_.2.2.2 ∧ w'.heap[s_.2.2.2]? = some (.cells #[.int .i64 0, .int .i64 0, .int .i64 0, .int .i64 0] 74 (0, 0))) ∧ (Below w44.heap.size w44 w')) ?_ ?_
 rotate_left
 ·
  intro hJ111
  refine join_ (σ := Value × Value × Nat) 11 (bt_ 4143 17) (fun s_ => [(42, .agg #[s_.1, s_.2.1]), (10, .pointer (some ⟨s_.2.2, 0, none⟩))]) (fun s_ w' => (w'.cell? ⟨gb465, 0, none⟩ = some (.slice A0_0 l0_0.length c0_0) ∧ w'.cell? ⟨gb465, 1, none⟩ = some (.slice A0_1 l0_1.length c0_1) ∧ w'.cell? ⟨gb466, 0, none⟩ = some (.int .i64 a3_0) ∧ w'.cell? ⟨gb466, 1, none⟩ = some (.slice A3_1 l3_1.length c3_1)) ∧ (Kd.R k95 95 w' w44.heap.size (fun _ => True) s_.1 t470) ∧ (Kd.S k119 119 w' w44.heap.size (fun _ => True) s_.2.1 t473) ∧ (w44.heap.size ≤ s_.2.2 ∧ w'.heap[s_.2.2]? = some (.cells #[.slice none 0 0, .slice none 0 0] 31 (0, 0))) ∧ (Below w44.heap.size w44 w')) ?_ ?_
  rotate_left
  ·
   intro hJ110
   refine join_ (σ := Value × Value × Nat) 11 (bt_ 8239 17) (fun s_ => [(42, .agg #[s_.1, s_.2.1]), (11, .pointer (some ⟨s_.2.2, 0, none⟩))]) (fun s_ w' => (w'.cell? ⟨gb465, 0, none⟩ = some (.slice A0_0 l0_0.length c0_0) ∧ w'.cell? ⟨gb465, 1, none⟩ = some (.slice A0_1 l0_1.length c0_1) ∧ w'.cell? ⟨gb466, 0, none⟩ = some (.int .i64 a3_0) ∧ w'.cell? ⟨gb466, 1, none⟩ = some (.slice A3_1 l3_1.length c3_1)) ∧ (Kd.R k95 95 w' w44.heap.size (fun _ => True) s_.1 t470) ∧ (Kd.S k119 119 w' w44.heap.size (fun _ => True) s_.2.1 t473) ∧ (w44.heap.size ≤ s_.2.2 ∧ w'.heap[s_.2.2]? = some (.cells #[.int .i64 0, .int .i64 0, .int .i64 0, .int .i64 0] 74 (0, 0))) ∧ (Below w44.heap.size w44 w')) ?_ ?_
   rotate_left
   ·
    intro hJ101
    refine join_ (σ := Value × Value) 12 (bt_ 47 17) (fun s_ => [(42, .agg #[s_.1, s_.2])]) (fun s_ w' => (w'.cell? ⟨gb465, 0, none⟩ = some (.slice A0_0 l0_0.length c0_0) ∧ w'.cell? ⟨gb465, 1, none⟩ = some (.slice A0_1 l0_1.length c0_1) ∧ w'.cell? ⟨gb466, 0, none⟩ = some (.int .i64 a3_0) ∧ w'.cell? ⟨gb466, 1, none⟩ = some (.slice A3_1 l3_1.length c3_1)) ∧ (Kd.R k95 95 w' w44.heap.size (fun _ => True) s_.1 t470) ∧ (Kd.S k119 119 w' w44.heap.size (fun _ => True) s_.2 t473) ∧ (Below w44.heap.size w44 w')) ?_ ?_
    rotate_left
    ·
     intro hJ100
     refine join_ (σ := Nat × Nat) 11 (bt_ 12333 17) (fun s_ => [(10, .pointer (some ⟨s_.1, 0, none⟩)), (11, .pointer (some ⟨s_.2, 0, none⟩))]) (fun s_ w' => (w'.cell? ⟨gb465, 0, none⟩ = some (.slice A0_0 l0_0.length c0_0) ∧ w'.cell? ⟨gb465, 1, none⟩ = some (.slice A0_1 l0_1.length c0_1) ∧ w'.cell? ⟨gb466, 0, none⟩ = some (.int .i64 a3_0) ∧ w'.cell? ⟨gb466, 1, none⟩ = some (.slice A3_1 l3_1.length c3_1)) ∧ (w44.heap.size ≤ s_.1 ∧ w'.heap[s_.1]? = some (.cells #[.slice none 0 0, .slice none 0 0] 31 (0, 0))) ∧ (w44.heap.size ≤ s_.2 ∧ w'.heap[s_.2]? = some (.cells #[.int .i64 0, .int .i64 0, .int .i64 0, .int .i64 0] 74 (0, 0))) ∧ (Below w44.heap.size w44 w')) ?_ ?_
     rotate_left
     ·
      intro hJ011
      refine join_ (σ := Nat) 12 (bt_ 4141 17) (fun s_ => [(10, .pointer (some ⟨s_, 0, none⟩))]) (fun s_ w' => (w'.cell? ⟨gb465, 0, none⟩ = some (.slice A0_0 l0_0.length c0_0) ∧ w'.cell? ⟨gb465, 1, none⟩ = some (.slice A0_1 l0_1.length c0_1) ∧ w'.cell? ⟨gb466, 0, none⟩ = some (.int .i64 a3_0) ∧ w'.cell? ⟨gb466, 1, none⟩ = some (.slice A3_1 l3_1.length c3_1)) ∧ (w44.heap.size ≤ s_ ∧ w'.heap[s_]? = some (.cells #[.slice none 0 0, .slice none 0 0] 31 (0, 0))) ∧ (Below w44.heap.size w44 w')) ?_ ?_
      rotate_left
      ·
       intro hJ010
       refine join_ (σ := Nat) 12 (bt_ 8237 17) (fun s_ => [(11, .pointer (some ⟨s_, 0, none⟩))]) (fun s_ w' => (w'.cell? ⟨gb465, 0, none⟩ = some (.slice A0_0 l0_0.length c0_0) ∧ w'.cell? ⟨gb465, 1, none⟩ = some (.slice A0_1 l0_1.length c0_1) ∧ w'.cell? ⟨gb466, 0, none⟩ = some (.int .i64 a3_0) ∧ w'.cell? ⟨gb466, 1, none⟩ = some (.slice A3_1 l3_1.length c3_1)) ∧ (w44.heap.size ≤ s_ ∧ w'.heap[s_]? = some (.cells #[.int .i64 0, .int .i64 0, .int .i64 0, .int .i64 0] 74 (0, 0))) ∧ (Below w44.heap.size w44 w')) ?_ ?_
       rotate_left
       ·
        intro hJ001
        refine three_ (i := 1) (j := 12) (k := 13) (Ni := some 42) (Nj := some 10) (Nk := some 11) (bt_ 47 17) (bt_ 4141 17) (bt_ 8237 17) rfl rfl rfl rfl rfl rfl (three_of HT_.out (by kernel_rfl)) (by decide) (by decide) (by decide) (fun K hK => ?_) (fun K hK => ?_) (fun K hK => ?_)
        ·
         skip
         refine goes_ Try.func11 (by kernel_rfl) rfl #[.agg #[.slice A0_0 l0_0.length c0_0, .slice A0_1 l0_1.length c0_1]] (by rfl) rfl rfl al_ ?_
         with_reducible refine (laws_toMem.calls k _ _ l0_0 _ _ l0_1 t470 t473 _ ?side1 ?side2 ?side3 ?side4 A28.out).mono ?_
         (case side1 => exact Kd.C_below HR0_0.out HB.out)
         (case side2 => exact HC0_0.out)
         (case side3 => exact Kd.C_below HR0_1.out HB.out)
         (case side4 => exact HC0_1.out)
         rintro e w2_ ⟨v471, v474, rfl, ho0, ho1, hb⟩
         refine ⟨_, rfl, ?_⟩
         refine hK.out _ _ (mm_held4 hHeld hb) (fun hHeld => ?_)
         clear hK K
         refine norm_ (a' := ?_) ?_ ?_
         rotate_left
         ·
          show Act.put _ (some 42) _ = _
          simp only [Act.put, List.setIfInBounds_toArray, List.set_cons_zero, List.set_cons_succ, i64_w, i32_w]
          rfl
         exact norm_ nm_ (hJ100 (v471, v474) _ ⟨hHeld, (Kd.R_mono (Kd.R_lower (ho0) (Nat.le_refl _)) (fun _ _ => trivial)), (Kd.S_mono (Kd.S_lower (ho1) (Nat.le_refl _)) (fun _ _ => trivial)), hb⟩)
        ·
         skip
         refine box_step ?hg (N := 10) ?hd (cs := #[.slice none 0 0, .slice none 0 0]) (t := 31) ?hr ?_; (case hd => rfl); (case hg => rfl); (case hr => first | (go_simp; done) | (go_simp; rfl))
         intro gb494 hg w2_ hbox hb
         refine hK.out _ _ (mm_held4 hHeld hb) (fun hHeld => ?_)
         clear hK K
         refine norm_ (a' := ?_) ?_ ?_
         rotate_left
         ·
          show Act.put _ (some 10) _ = _
          simp only [Act.put, List.setIfInBounds_toArray, List.set_cons_zero, List.set_cons_succ, i64_w, i32_w]
          rfl
         exact norm_ nm_ (hJ010 (gb494) _ ⟨hHeld, ⟨(by rw [hg]; exact Nat.le_refl _), hbox⟩, hb⟩)
        skip
        refine box_step ?hg (N := 11) ?hd (cs := #[.int .i64 0, .int .i64 0, .int .i64 0, .int .i64 0]) (t := 74) ?hr ?_; (case hd => rfl); (case hg => rfl); (case hr => first | (go_simp; done) | (go_simp; rfl))
        intro gb495 hg w2_ hbox hb
        refine hK.out _ _ (mm_held4 hHeld hb) (fun hHeld => ?_)
        clear hK K
        refine norm_ (a' := ?_) ?_ ?_
        rotate_left
        ·
         show Act.put _ (some 11) _ = _
         simp only [Act.put, List.setIfInBounds_toArray, List.set_cons_zero, List.set_cons_succ, i64_w, i32_w]
         rfl
        exact norm_ nm_ (hJ001 (gb495) _ ⟨hHeld, ⟨(by rw [hg]; exact Nat.le_refl _), hbox⟩, hb⟩)
       rintro gb495 w1_ ⟨hHeld, ⟨hl_gb495, hb_gb495⟩, hM_⟩
       refine norm_ (a' := ?_) ?_ ?_
       rotate_left
       ·
        simp only [putAll, Act.put, List.setIfInBounds_toArray, List.set_cons_zero, List.set_cons_succ]
        rfl
       refine two_ (i := 1) (j := 12) (Ni := some 42) (Nj := some 10) (bt_ 8239 17) (bt_ 12333 17) rfl rfl rfl rfl (two_of HT_.out (by kernel_rfl)) (by decide) (by decide) (fun K hK => ?_) (fun K hK => ?_)
       ·
        skip
        refine goes_ Try.func11 (by kernel_rfl) rfl #[.agg #[.slice A0_0 l0_0.length c0_0, .slice A0_1 l0_1.length c0_1]] (by rfl) rfl rfl al_ ?_
        with_reducible refine (laws_toMem.calls k _ _ l0_0 _ _ l0_1 t470 t473 _ ?side1 ?side2 ?side3 ?side4 A28.out).mono ?_
        (case side1 => exact Kd.C_below HR0_0.out (below_step HB.out hM_))
        (case side2 => exact HC0_0.out)
        (case side3 => exact Kd.C_below HR0_1.out (below_step HB.out hM_))
        (case side4 => exact HC0_1.out)
        rintro e w2_ ⟨v471, v474, rfl, ho0, ho1, hb⟩
        refine ⟨_, rfl, ?_⟩
        refine hK.out _ _ (mm_held4 hHeld hb) (fun hHeld => ?_)
        clear hK K
        refine norm_ (a' := ?_) ?_ ?_
        rotate_left
        ·
         show Act.put _ (some 42) _ = _
         simp only [Act.put, List.setIfInBounds_toArray, List.set_cons_zero, List.set_cons_succ, i64_w, i32_w]
         rfl
        exact norm_ nm_ (hJ101 (v471, v474, gb495) _ ⟨hHeld, (Kd.R_mono (Kd.R_lower (ho0) hM_.size) (fun _ _ => trivial)), (Kd.S_mono (Kd.S_lower (ho1) hM_.size) (fun _ _ => trivial)), ⟨hl_gb495, blk_below hb_gb495 hb⟩, below_step hM_ hb⟩)
       skip
       refine box_step ?hg (N := 10) ?hd (cs := #[.slice none 0 0, .slice none 0 0]) (t := 31) ?hr ?_; (case hd => rfl); (case hg => rfl); (case hr => first | (go_simp; done) | (go_simp; rfl))
       intro gb494 hg w2_ hbox hb
       refine hK.out _ _ (mm_held4 hHeld hb) (fun hHeld => ?_)
       clear hK K
       refine norm_ (a' := ?_) ?_ ?_
       rotate_left
       ·
        show Act.put _ (some 10) _ = _
        simp only [Act.put, List.setIfInBounds_toArray, List.set_cons_zero, List.set_cons_succ, i64_w, i32_w]
        rfl
       exact norm_ nm_ (hJ011 (gb494, gb495) _ ⟨hHeld, ⟨(by rw [hg]; exact hM_.size), hbox⟩, ⟨hl_gb495, blk_below hb_gb495 hb⟩, below_step hM_ hb⟩)
      rintro gb494 w1_ ⟨hHeld, ⟨hl_gb494, hb_gb494⟩, hM_⟩
      refine norm_ (a' := ?_) ?_ ?_
      rotate_left
      ·
       simp only [putAll, Act.put, List.setIfInBounds_toArray, List.set_cons_zero, List.set_cons_succ]
       rfl
      refine two_ (i := 1) (j := 13) (Ni := some 42) (Nj := some 11) (bt_ 4143 17) (bt_ 12333 17) rfl rfl rfl rfl (two_of HT_.out (by kernel_rfl)) (by decide) (by decide) (fun K hK => ?_) (fun K hK => ?_)
      ·
       skip
       refine goes_ Try.func11 (by kernel_rfl) rfl #[.agg #[.slice A0_0 l0_0.length c0_0, .slice A0_1 l0_1.length c0_1]] (by rfl) rfl rfl al_ ?_
       with_reducible refine (laws_toMem.calls k _ _ l0_0 _ _ l0_1 t470 t473 _ ?side1 ?side2 ?side3 ?side4 A28.out).mono ?_
       (case side1 => exact Kd.C_below HR0_0.out (below_step HB.out hM_))
       (case side2 => exact HC0_0.out)
       (case side3 => exact Kd.C_below HR0_1.out (below_step HB.out hM_))
       (case side4 => exact HC0_1.out)
       rintro e w2_ ⟨v471, v474, rfl, ho0, ho1, hb⟩
       refine ⟨_, rfl, ?_⟩
       refine hK.out _ _ (mm_held4 hHeld hb) (fun hHeld => ?_)
       clear hK K
       refine norm_ (a' := ?_) ?_ ?_
       rotate_left
       ·
        show Act.put _ (some 42) _ = _
        simp only [Act.put, List.setIfInBounds_toArray, List.set_cons_zero, List.set_cons_succ, i64_w, i32_w]
        rfl
       exact norm_ nm_ (hJ110 (v471, v474, gb494) _ ⟨hHeld, (Kd.R_mono (Kd.R_lower (ho0) hM_.size) (fun _ _ => trivial)), (Kd.S_mono (Kd.S_lower (ho1) hM_.size) (fun _ _ => trivial)), ⟨hl_gb494, blk_below hb_gb494 hb⟩, below_step hM_ hb⟩)
      skip
      refine box_step ?hg (N := 11) ?hd (cs := #[.int .i64 0, .int .i64 0, .int .i64 0, .int .i64 0]) (t := 74) ?hr ?_; (case hd => rfl); (case hg => rfl); (case hr => first | (go_simp; done) | (go_simp; rfl))
      intro gb495 hg w2_ hbox hb
      refine hK.out _ _ (mm_held4 hHeld hb) (fun hHeld => ?_)
      clear hK K
      refine norm_ (a' := ?_) ?_ ?_
      rotate_left
      ·
       show Act.put _ (some 11) _ = _
       simp only [Act.put, List.setIfInBounds_toArray, List.set_cons_zero, List.set_cons_succ, i64_w, i32_w]
       rfl
      exact norm_ nm_ (hJ011 (gb494, gb495) _ ⟨hHeld, ⟨hl_gb494, blk_below hb_gb494 hb⟩, ⟨(by rw [hg]; exact hM_.size), hbox⟩, below_step hM_ hb⟩)
     rintro ⟨gb494, gb495⟩ w1_ ⟨hHeld, ⟨hl_gb494, hb_gb494⟩, ⟨hl_gb495, hb_gb495⟩, hM_⟩
     refine norm_ (a' := ?_) ?_ ?_
     rotate_left
     ·
      simp only [putAll, Act.put, List.setIfInBounds_toArray, List.set_cons_zero, List.set_cons_succ]
      rfl
     refine one_ (i := 1) (N := some 42) (bt_ 12335 17) rfl rfl (one_of HT_.out (by kernel_rfl)) (by decide) (fun K hK => ?_)
     refine goes_ Try.func11 (by kernel_rfl) rfl #[.agg #[.slice A0_0 l0_0.length c0_0, .slice A0_1 l0_1.length c0_1]] (by rfl) rfl rfl al_ ?_
     with_reducible refine (laws_toMem.calls k _ _ l0_0 _ _ l0_1 t470 t473 _ ?side1 ?side2 ?side3 ?side4 A28.out).mono ?_
     (case side1 => exact Kd.C_below HR0_0.out (below_step HB.out hM_))
     (case side2 => exact HC0_0.out)
     (case side3 => exact Kd.C_below HR0_1.out (below_step HB.out hM_))
     (case side4 => exact HC0_1.out)
     rintro e w2_ ⟨v471, v474, rfl, ho0, ho1, hb⟩
     refine ⟨_, rfl, ?_⟩
     refine hK.out _ _ (mm_held4 hHeld hb) (fun hHeld => ?_)
     clear hK K
     refine norm_ (a' := ?_) ?_ ?_
     rotate_left
     ·
      show Act.put _ (some 42) _ = _
      simp only [Act.put, List.setIfInBounds_toArray, List.set_cons_zero, List.set_cons_succ, i64_w, i32_w]
      rfl
     exact norm_ nm_ (hJ111 (v471, v474, gb494, gb495) _ ⟨hHeld, (Kd.R_mono (Kd.R_lower (ho0) hM_.size) (fun _ _ => trivial)), (Kd.S_mono (Kd.S_lower (ho1) hM_.size) (fun _ _ => trivial)), ⟨hl_gb494, blk_below hb_gb494 hb⟩, ⟨hl_gb495, blk_below hb_gb495 hb⟩, below_step hM_ hb⟩)
    rintro ⟨v471, v474⟩ w1_ ⟨hHeld, h_v471, h_v474, hM_⟩
    refine norm_ (a' := ?_) ?_ ?_
    rotate_left
    ·
     simp only [putAll, Act.put, List.setIfInBounds_toArray, List.set_cons_zero, List.set_cons_succ]
     rfl
    refine three_ (i := 4) (j := 12) (k := 13) (Ni := some 45) (Nj := some 10) (Nk := some 11) (bt_ 63 17) (bt_ 4143 17) (bt_ 8239 17) rfl rfl rfl rfl rfl rfl (three_of HT_.out (by kernel_rfl)) (by decide) (by decide) (by decide) (fun K hK => ?_) (fun K hK => ?_) (fun K hK => ?_)
    ·
     skip
     refine goes_ Try.func44 (by kernel_rfl) rfl #[.slice A2 l2.length c2] (by rfl) rfl rfl al_ ?_
     with_reducible refine (laws_toEntryS.calls k _ _ l2 t476 _ ?side1 ?side2 A29.out).mono ?_
     (case side1 => exact Kd.C_below HR2.out (below_step HB.out hM_))
     (case side2 => exact HC2.out)
     rintro e w2_ ⟨v477, rfl, ho0, hb⟩
     refine ⟨_, rfl, ?_⟩
     refine hK.out _ _ (mm_held4 hHeld hb) (fun hHeld => ?_)
     clear hK K
     refine norm_ (a' := ?_) ?_ ?_
     rotate_left
     ·
      show Act.put _ (some 45) _ = _
      simp only [Act.put, List.setIfInBounds_toArray, List.set_cons_zero, List.set_cons_succ, i64_w, i32_w]
      rfl
     exact norm_ nm_ (hJ200 (v471, v474, v477) _ ⟨hHeld, (Kd.R_below h_v471 hb), (Kd.S_mono (Kd.S_elder' h_v474 (Kd.R_base ho0) hb) (fun _ h_ => h_.2)), (Kd.R_mono (Kd.R_lower (ho0) hM_.size) (fun _ _ => trivial)), below_step hM_ hb⟩)
    ·
     skip
     refine box_step ?hg (N := 10) ?hd (cs := #[.slice none 0 0, .slice none 0 0]) (t := 31) ?hr ?_; (case hd => rfl); (case hg => rfl); (case hr => first | (go_simp; done) | (go_simp; rfl))
     intro gb494 hg w2_ hbox hb
     refine hK.out _ _ (mm_held4 hHeld hb) (fun hHeld => ?_)
     clear hK K
     refine norm_ (a' := ?_) ?_ ?_
     rotate_left
     ·
      show Act.put _ (some 10) _ = _
      simp only [Act.put, List.setIfInBounds_toArray, List.set_cons_zero, List.set_cons_succ, i64_w, i32_w]
      rfl
     exact norm_ nm_ (hJ110 (v471, v474, gb494) _ ⟨hHeld, (Kd.R_below h_v471 hb), (Kd.S_below h_v474 hb), ⟨(by rw [hg]; exact hM_.size), hbox⟩, below_step hM_ hb⟩)
    skip
    refine box_step ?hg (N := 11) ?hd (cs := #[.int .i64 0, .int .i64 0, .int .i64 0, .int .i64 0]) (t := 74) ?hr ?_; (case hd => rfl); (case hg => rfl); (case hr => first | (go_simp; done) | (go_simp; rfl))
    intro gb495 hg w2_ hbox hb
    refine hK.out _ _ (mm_held4 hHeld hb) (fun hHeld => ?_)
    clear hK K
    refine norm_ (a' := ?_) ?_ ?_
    rotate_left
    ·
     show Act.put _ (some 11) _ = _
     simp only [Act.put, List.setIfInBounds_toArray, List.set_cons_zero, List.set_cons_succ, i64_w, i32_w]
     rfl
    exact norm_ nm_ (hJ101 (v471, v474, gb495) _ ⟨hHeld, (Kd.R_below h_v471 hb), (Kd.S_below h_v474 hb), ⟨(by rw [hg]; exact hM_.size), hbox⟩, below_step hM_ hb⟩)
   rintro ⟨v471, v474, gb495⟩ w1_ ⟨hHeld, h_v471, h_v474, ⟨hl_gb495, hb_gb495⟩, hM_⟩
   refine norm_ (a' := ?_) ?_ ?_
   rotate_left
   ·
    simp only [putAll, Act.put, List.setIfInBounds_toArray, List.set_cons_zero, List.set_cons_succ]
    rfl
   refine two_ (i := 4) (j := 12) (Ni := some 45) (Nj := some 10) (bt_ 8255 17) (bt_ 12335 17) rfl rfl rfl rfl (two_of HT_.out (by kernel_rfl)) (by decide) (by decide) (fun K hK => ?_) (fun K hK => ?_)
   ·
    skip
    refine goes_ Try.func44 (by kernel_rfl) rfl #[.slice A2 l2.length c2] (by rfl) rfl rfl al_ ?_
    with_reducible refine (laws_toEntryS.calls k _ _ l2 t476 _ ?side1 ?side2 A29.out).mono ?_
    (case side1 => exact Kd.C_below HR2.out (below_step HB.out hM_))
    (case side2 => exact HC2.out)
    rintro e w2_ ⟨v477, rfl, ho0, hb⟩
    refine ⟨_, rfl, ?_⟩
    refine hK.out _ _ (mm_held4 hHeld hb) (fun hHeld => ?_)
    clear hK K
    refine norm_ (a' := ?_) ?_ ?_
    rotate_left
    ·
     show Act.put _ (some 45) _ = _
     simp only [Act.put, List.setIfInBounds_toArray, List.set_cons_zero, List.set_cons_succ, i64_w, i32_w]
     rfl
    exact norm_ nm_ (hJ201 (v471, v474, v477, gb495) _ ⟨hHeld, (Kd.R_below h_v471 hb), (Kd.S_mono (Kd.S_elder' h_v474 (Kd.R_base ho0) hb) (fun _ h_ => h_.2)), (Kd.R_mono (Kd.R_lower (ho0) hM_.size) (fun _ _ => trivial)), ⟨hl_gb495, blk_below hb_gb495 hb⟩, below_step hM_ hb⟩)
   skip
   refine box_step ?hg (N := 10) ?hd (cs := #[.slice none 0 0, .slice none 0 0]) (t := 31) ?hr ?_; (case hd => rfl); (case hg => rfl); (case hr => first | (go_simp; done) | (go_simp; rfl))
   intro gb494 hg w2_ hbox hb
   refine hK.out _ _ (mm_held4 hHeld hb) (fun hHeld => ?_)
   clear hK K
   refine norm_ (a' := ?_) ?_ ?_
   rotate_left
   ·
    show Act.put _ (some 10) _ = _
    simp only [Act.put, List.setIfInBounds_toArray, List.set_cons_zero, List.set_cons_succ, i64_w, i32_w]
    rfl
   exact norm_ nm_ (hJ111 (v471, v474, gb494, gb495) _ ⟨hHeld, (Kd.R_below h_v471 hb), (Kd.S_below h_v474 hb), ⟨(by rw [hg]; exact hM_.size), hbox⟩, ⟨hl_gb495, blk_below hb_gb495 hb⟩, below_step hM_ hb⟩)
  rintro ⟨v471, v474, gb494⟩ w1_ ⟨hHeld, h_v471, h_v474, ⟨hl_gb494, hb_gb494⟩, hM_⟩
  refine norm_ (a' := ?_) ?_ ?_
  rotate_left
  ·
   simp only [putAll, Act.put, List.setIfInBounds_toArray, List.set_cons_zero, List.set_cons_succ]
   rfl
  refine two_ (i := 4) (j := 13) (Ni := some 45) (Nj := some 11) (bt_ 4159 17) (bt_ 12335 17) rfl rfl rfl rfl (two_of HT_.out (by kernel_rfl)) (by decide) (by decide) (fun K hK => ?_) (fun K hK => ?_)
  ·
   skip
   refine goes_ Try.func44 (by kernel_rfl) rfl #[.slice A2 l2.length c2] (by rfl) rfl rfl al_ ?_
   with_reducible refine (laws_toEntryS.calls k _ _ l2 t476 _ ?side1 ?side2 A29.out).mono ?_
   (case side1 => exact Kd.C_below HR2.out (below_step HB.out hM_))
   (case side2 => exact HC2.out)
   rintro e w2_ ⟨v477, rfl, ho0, hb⟩
   refine ⟨_, rfl, ?_⟩
   refine hK.out _ _ (mm_held4 hHeld hb) (fun hHeld => ?_)
   clear hK K
   refine norm_ (a' := ?_) ?_ ?_
   rotate_left
   ·
    show Act.put _ (some 45) _ = _
    simp only [Act.put, List.setIfInBounds_toArray, List.set_cons_zero, List.set_cons_succ, i64_w, i32_w]
    rfl
   exact norm_ nm_ (hJ210 (v471, v474, v477, gb494) _ ⟨hHeld, (Kd.R_below h_v471 hb), (Kd.S_mono (Kd.S_elder' h_v474 (Kd.R_base ho0) hb) (fun _ h_ => h_.2)), (Kd.R_mono (Kd.R_lower (ho0) hM_.size) (fun _ _ => trivial)), ⟨hl_gb494, blk_below hb_gb494 hb⟩, below_step hM_ hb⟩)
  skip
  refine box_step ?hg (N := 11) ?hd (cs := #[.int .i64 0, .int .i64 0, .int .i64 0, .int .i64 0]) (t := 74) ?hr ?_; (case hd => rfl); (case hg => rfl); (case hr => first | (go_simp; done) | (go_simp; rfl))
  intro gb495 hg w2_ hbox hb
  refine hK.out _ _ (mm_held4 hHeld hb) (fun hHeld => ?_)
  clear hK K
  refine norm_ (a' := ?_) ?_ ?_
  rotate_left
  ·
   show Act.put _ (some 11) _ = _
   simp only [Act.put, List.setIfInBounds_toArray, List.set_cons_zero, List.set_cons_succ, i64_w, i32_w]
   rfl
  exact norm_ nm_ (hJ111 (v471, v474, gb494, gb495) _ ⟨hHeld, (Kd.R_below h_v471 hb), (Kd.S_below h_v474 hb), ⟨hl_gb494, blk_below hb_gb494 hb⟩, ⟨(by rw [hg]; exact hM_.size), hbox⟩, below_step hM_ hb⟩)
 rintro ⟨v471, v474, gb494, gb495⟩ w1_ ⟨hHeld, h_v471, h_v474, ⟨hl_gb494, hb_gb494⟩, ⟨hl_gb495, hb_gb495⟩, hM_⟩
 refine norm_ (a' := ?_) ?_ ?_
 rotate_left
 ·
  simp only [putAll, Act.put, List.setIfInBounds_toArray, List.set_cons_zero, List.set_cons_succ]
  rfl
 refine one_ (i := 4) (N := some 45) (bt_ 12351 17) rfl rfl (one_of HT_.out (by kernel_rfl)) (by decide) (fun K hK => ?_)
 refine goes_ Try.func44 (by kernel_rfl) rfl #[.slice A2 l2.length c2] (by rfl) rfl rfl al_ ?_
 with_reducible refine (laws_toEntryS.calls k _ _ l2 t476 _ ?side1 ?side2 A29.out).mono ?_
 (case side1 => exact Kd.C_below HR2.out (below_step HB.out hM_))
 (case side2 => exact HC2.out)
 rintro e w2_ ⟨v477, rfl, ho0, hb⟩
 refine ⟨_, rfl, ?_⟩
 refine hK.out _ _ (mm_held4 hHeld hb) (fun hHeld => ?_)
 clear hK K
 refine norm_ (a' := ?_) ?_ ?_
 rotate_left
 ·
  show Act.put _ (some 45) _ = _
  simp only [Act.put, List.setIfInBounds_toArray, List.set_cons_zero, List.set_cons_succ, i64_w, i32_w]
  rfl
 exact norm_ nm_ (hJ211 (v471, v474, v477, gb494, gb495) _ ⟨hHeld, (Kd.R_below h_v471 hb), (Kd.S_mono (Kd.S_elder' h_v474 (Kd.R_base ho0) hb) (fun _ h_ => h_.2)), (Kd.R_mono (Kd.R_lower (ho0) hM_.size) (fun _ _ => trivial)), ⟨hl_gb494, blk_below hb_gb494 hb⟩, ⟨hl_gb495, blk_below hb_gb495 hb⟩, below_step hM_ hb⟩)) : p := h
set_option maxRecDepth 100000 in
theorem z1_ {p : Prop} (h : p := by
 subst c112
 replace H := it_ H
 replace H := bs_ H
 obtain ⟨t525, A113, H⟩ := H
 by_cases c114 : t525 = true
 ·
  subst c114
  replace H := it_ H
  replace H' := A_ H; clear H
  have hnb115 := NB522_465.out
  have hnc115 := NB465_522.out
  have hnb116 := NB522_466.out
  have hnc116 := NB466_522.out
  have hnb117 := NB522_494.out
  have hnc117 := NB494_522.out
  have hnb118 := NB522_495.out
  have hnc118 := NB495_522.out
  have hnb119 := NB522_502.out
  have hnc119 := NB502_522.out
  have hnb120 := NB522_510.out
  have hnc120 := NB510_522.out
  have hnb121 := NB522_523.out
  have hnc121 := NB523_522.out
  obtain ⟨hcz122_0, hcz122_1, hfz122_0, hfz122_1⟩ := cz2_ BK522
  have hnb123 := NB494_465.out
  have hnc123 := NB465_494.out
  have hnb124 := NB494_466.out
  have hnc124 := NB466_494.out
  have hnb125 := NB494_495.out
  have hnc125 := NB495_494.out
  have hnb126 := NB494_502.out
  have hnc126 := NB502_494.out
  have hnb127 := NB494_510.out
  have hnc127 := NB510_494.out
  have hnb128 := NB494_523.out
  have hnc128 := NB523_494.out
  obtain ⟨hcz129_0, hcz129_1, hfz129_0, hfz129_1⟩ := cz2_ BK494
  go_wp2_with (first | ((with_reducible refine gate_callee (f := 13) rfl ?_); refine goesL_ (some 69) rfl rfl Try.func13 (by kernel_rfl) rfl #[.agg #[.slice Ao94 t511.length co94, .slice Ao103 t514.length co103], .agg #[.slice Ao56 t483.length co56, .slice Ao58 t486.length co58]] rfl al_ ?_; (with_reducible refine (laws_eqMem.calls k _ _ t511 _ _ t514 _ _ t483 _ _ t486 true _ ?side1 ?side2 ?side3 ?side4 ?side5 ?side6 ?side7 ?side8 A111.out).mono ?_); (case side1 => refine (Kd.R_reads' (e := 95) (base := w.heap.size) (ok := fun k_ => (((True ∧ some k_ ≠ (v471 : Value).ownBlock) ∧ some k_ ≠ (.slice Ao56 t483.length co56 : Value).ownBlock) ∧ some k_ ≠ (.slice Ao69 t496.length co69 : Value).ownBlock)) (n := t511.length) (c := co94) ?_).2.2; exact (by (with_reducible repeat (first | apply Kd.R_alloc | apply Kd.R_drewN | apply Kd.R_drew)); exact (Kd.R_mono (Kd.R_mono (Kd.R_far (p := ⟨gb523, 3, none⟩) (Kd.R_far (p := ⟨gb523, 2, none⟩) (Kd.R_far (p := ⟨gb523, 1, none⟩) (Kd.R_far (p := ⟨gb523, 0, none⟩) (Kd.R_far (p := ⟨gb522, 1, none⟩) (Kd.R_far (p := ⟨gb522, 0, none⟩) (Kd.R_types (Kd.R_types HO513.out BK522.out (by decide)) BK523.out (by decide)) (fun _ hk => hk.1.2) (.slice Ao94 t511.length co94)) (fun _ hk => hk.1.2) (.slice Ao103 t514.length co103)) (fun _ hk => hk.2) (.int .i64 t517)) (fun _ hk => hk.2) (.int .i64 t518)) (fun _ hk => hk.2) (.int .i64 t519)) (fun _ hk => hk.2) (.int .i64 t520)) (fun _ h_ => h_.1)) (fun _ h_ => h_.1)))); (case side2 => exact (Kd.R_reads' HO513.out).2.1); (case side3 => refine (Kd.S_reads' (e := 119) (base := w.heap.size) (ok := fun k_ => (((some k_ ≠ (.slice Ao94 t511.length co94 : Value).ownBlock ∧ (some k_ ≠ (v471 : Value).ownBlock ∧ (some k_ ≠ (v474 : Value).ownBlock ∧ (some k_ ≠ (v477 : Value).ownBlock ∧ (some k_ ≠ (v481 : Value).ownBlock ∧ (some k_ ≠ (.slice Ao56 t483.length co56 : Value).ownBlock ∧ (nn2_ ≤ k_ ∧ (some k_ ≠ (.slice Ao69 t496.length co69 : Value).ownBlock ∧ (nn2_ ≤ k_ ∧ (some k_ ≠ (.slice Ao90 t503.length co90 : Value).ownBlock ∧ (some k_ ≠ (.slice Ao88 t507.length co88 : Value).ownBlock ∧ (k_ ≠ gb465 ∧ (k_ ≠ gb466 ∧ (k_ ≠ gb494 ∧ (k_ ≠ gb495 ∧ (k_ ≠ gb502 ∧ k_ ≠ gb510)))))))))))))))) ∧ k_ ≠ gb522) ∧ k_ ≠ gb523)) (n := t514.length) (c := co103) ?_).2.2; exact (by (with_reducible repeat (first | apply Kd.S_alloc | apply Kd.S_drewN | apply Kd.S_drew)); exact (Kd.S_mono (Kd.S_mono (Kd.S_far (p := ⟨gb523, 3, none⟩) (Kd.S_far (p := ⟨gb523, 2, none⟩) (Kd.S_far (p := ⟨gb523, 1, none⟩) (Kd.S_far (p := ⟨gb523, 0, none⟩) (Kd.S_far (p := ⟨gb522, 1, none⟩) (Kd.S_far (p := ⟨gb522, 0, none⟩) (Kd.S_mono (Kd.S_mono HO516.out (fun k_ hk => (⟨hk, hk.1.2⟩ : _ ∧ k_ ≠ gb522))) (fun k_ hk => (⟨hk, hk.1.2⟩ : _ ∧ k_ ≠ gb523))) (fun _ hk => hk.1.2) (.slice Ao94 t511.length co94)) (fun _ hk => hk.1.2) (.slice Ao103 t514.length co103)) (fun _ hk => hk.2) (.int .i64 t517)) (fun _ hk => hk.2) (.int .i64 t518)) (fun _ hk => hk.2) (.int .i64 t519)) (fun _ hk => hk.2) (.int .i64 t520)) (fun _ h_ => h_.1)) (fun _ h_ => h_.1)))); (case side4 => exact (Kd.S_reads' HO516.out).2.1); (case side5 => refine (Kd.R_reads' (e := 95) (base := w.heap.size) (ok := fun k_ => ((some k_ ≠ (v471 : Value).ownBlock ∧ some k_ ≠ (.slice Ao69 t496.length co69 : Value).ownBlock) ∧ some k_ ≠ (.slice Ao94 t511.length co94 : Value).ownBlock)) (n := t483.length) (c := co56) ?_).2.2; exact (by (with_reducible repeat (first | apply Kd.R_alloc | apply Kd.R_drewN | apply Kd.R_drew)); exact (Kd.R_mono (Kd.R_mono (Kd.R_far (p := ⟨gb523, 3, none⟩) (Kd.R_far (p := ⟨gb523, 2, none⟩) (Kd.R_far (p := ⟨gb523, 1, none⟩) (Kd.R_far (p := ⟨gb523, 0, none⟩) (Kd.R_far (p := ⟨gb522, 1, none⟩) (Kd.R_far (p := ⟨gb522, 0, none⟩) (Kd.R_types (Kd.R_types HO485.out BK522.out (by decide)) BK523.out (by decide)) (fun _ hk => hk.1.2) (.slice Ao94 t511.length co94)) (fun _ hk => hk.1.2) (.slice Ao103 t514.length co103)) (fun _ hk => hk.2) (.int .i64 t517)) (fun _ hk => hk.2) (.int .i64 t518)) (fun _ hk => hk.2) (.int .i64 t519)) (fun _ hk => hk.2) (.int .i64 t520)) (fun _ h_ => h_.1)) (fun _ h_ => h_.1)))); (case side6 => exact (Kd.R_reads' HO485.out).2.1); (case side7 => refine (Kd.S_reads' (e := 119) (base := w.heap.size) (ok := fun k_ => (((((((((((some k_ ≠ (v471 : Value).ownBlock ∧ (some k_ ≠ (v474 : Value).ownBlock ∧ (some k_ ≠ (v477 : Value).ownBlock ∧ (some k_ ≠ (v481 : Value).ownBlock ∧ (some k_ ≠ (.slice Ao56 t483.length co56 : Value).ownBlock ∧ (k_ ≠ gb465 ∧ (k_ ≠ gb466 ∧ (k_ ≠ gb494 ∧ k_ ≠ gb495)))))))) ∧ some k_ ≠ (.slice Ao69 t496.length co69 : Value).ownBlock) ∧ k_ < nn1_) ∧ k_ ≠ gb502) ∧ some k_ ≠ (.slice Ao90 t503.length co90 : Value).ownBlock) ∧ some k_ ≠ (.slice Ao88 t507.length co88 : Value).ownBlock) ∧ k_ ≠ gb510) ∧ some k_ ≠ (.slice Ao94 t511.length co94 : Value).ownBlock) ∧ k_ < nn2_) ∧ k_ ≠ gb522) ∧ k_ ≠ gb523)) (n := t486.length) (c := co58) ?_).2.2; exact (by (with_reducible repeat (first | apply Kd.S_alloc | apply Kd.S_drewN | apply Kd.S_drew)); exact (Kd.S_mono (Kd.S_mono (Kd.S_far (p := ⟨gb523, 3, none⟩) (Kd.S_far (p := ⟨gb523, 2, none⟩) (Kd.S_far (p := ⟨gb523, 1, none⟩) (Kd.S_far (p := ⟨gb523, 0, none⟩) (Kd.S_far (p := ⟨gb522, 1, none⟩) (Kd.S_far (p := ⟨gb522, 0, none⟩) (Kd.S_mono (Kd.S_mono HO488.out (fun k_ hk => (⟨hk, hk.1.2⟩ : _ ∧ k_ ≠ gb522))) (fun k_ hk => (⟨hk, hk.1.2⟩ : _ ∧ k_ ≠ gb523))) (fun _ hk => hk.1.2) (.slice Ao94 t511.length co94)) (fun _ hk => hk.1.2) (.slice Ao103 t514.length co103)) (fun _ hk => hk.2) (.int .i64 t517)) (fun _ hk => hk.2) (.int .i64 t518)) (fun _ hk => hk.2) (.int .i64 t519)) (fun _ hk => hk.2) (.int .i64 t520)) (fun _ h_ => h_.1)) (fun _ h_ => h_.1)))); (case side8 => exact (Kd.S_reads' HO488.out).2.1); rintro e w130 ⟨rfl, hb⟩; refine ⟨_, rfl, ?_⟩; replace HO472 := A_ (Kd.R_below (by (with_reducible repeat (first | apply Kd.R_alloc | apply Kd.R_drewN | apply Kd.R_drew)); exact (Kd.R_mono (Kd.R_mono (Kd.R_far (p := ⟨gb523, 3, none⟩) (Kd.R_far (p := ⟨gb523, 2, none⟩) (Kd.R_far (p := ⟨gb523, 1, none⟩) (Kd.R_far (p := ⟨gb523, 0, none⟩) (Kd.R_far (p := ⟨gb522, 1, none⟩) (Kd.R_far (p := ⟨gb522, 0, none⟩) (Kd.R_types (Kd.R_types HO472.out BK522.out (by decide)) BK523.out (by decide)) (fun _ hk => hk.1.2) (.slice Ao94 t511.length co94)) (fun _ hk => hk.1.2) (.slice Ao103 t514.length co103)) (fun _ hk => hk.2) (.int .i64 t517)) (fun _ hk => hk.2) (.int .i64 t518)) (fun _ hk => hk.2) (.int .i64 t519)) (fun _ hk => hk.2) (.int .i64 t520)) (fun _ h_ => h_.1)) (fun _ h_ => h_.1))) hb); replace HO475 := A_ (Kd.S_below (by (with_reducible repeat (first | apply Kd.S_alloc | apply Kd.S_drewN | apply Kd.S_drew)); exact (Kd.S_mono (Kd.S_mono (Kd.S_far (p := ⟨gb523, 3, none⟩) (Kd.S_far (p := ⟨gb523, 2, none⟩) (Kd.S_far (p := ⟨gb523, 1, none⟩) (Kd.S_far (p := ⟨gb523, 0, none⟩) (Kd.S_far (p := ⟨gb522, 1, none⟩) (Kd.S_far (p := ⟨gb522, 0, none⟩) (Kd.S_mono (Kd.S_mono HO475.out (fun k_ hk => (⟨hk, hk.1.2⟩ : _ ∧ k_ ≠ gb522))) (fun k_ hk => (⟨hk, hk.1.2⟩ : _ ∧ k_ ≠ gb523))) (fun _ hk => hk.1.2) (.slice Ao94 t511.length co94)) (fun _ hk => hk.1.2) (.slice Ao103 t514.length co103)) (fun _ hk => hk.2) (.int .i64 t517)) (fun _ hk => hk.2) (.int .i64 t518)) (fun _ hk => hk.2) (.int .i64 t519)) (fun _ hk => hk.2) (.int .i64 t520)) (fun _ h_ => h_.1)) (fun _ h_ => h_.1))) hb); replace HO478 := A_ (Kd.R_below (by (with_reducible repeat (first | apply Kd.R_alloc | apply Kd.R_drewN | apply Kd.R_drew)); exact (Kd.R_mono (Kd.R_mono (Kd.R_far (p := ⟨gb523, 3, none⟩) (Kd.R_far (p := ⟨gb523, 2, none⟩) (Kd.R_far (p := ⟨gb523, 1, none⟩) (Kd.R_far (p := ⟨gb523, 0, none⟩) (Kd.R_far (p := ⟨gb522, 1, none⟩) (Kd.R_far (p := ⟨gb522, 0, none⟩) (Kd.R_types (Kd.R_types HO478.out BK522.out (by decide)) BK523.out (by decide)) (fun _ hk => hk.1.2) (.slice Ao94 t511.length co94)) (fun _ hk => hk.1.2) (.slice Ao103 t514.length co103)) (fun _ hk => hk.2) (.int .i64 t517)) (fun _ hk => hk.2) (.int .i64 t518)) (fun _ hk => hk.2) (.int .i64 t519)) (fun _ hk => hk.2) (.int .i64 t520)) (fun _ h_ => h_.1)) (fun _ h_ => h_.1))) hb); replace HO482 := A_ (Kd.R_below (by (with_reducible repeat (first | apply Kd.R_alloc | apply Kd.R_drewN | apply Kd.R_drew)); exact (Kd.R_mono (Kd.R_mono (Kd.R_far (p := ⟨gb523, 3, none⟩) (Kd.R_far (p := ⟨gb523, 2, none⟩) (Kd.R_far (p := ⟨gb523, 1, none⟩) (Kd.R_far (p := ⟨gb523, 0, none⟩) (Kd.R_far (p := ⟨gb522, 1, none⟩) (Kd.R_far (p := ⟨gb522, 0, none⟩) (Kd.R_types (Kd.R_types HO482.out BK522.out (by decide)) BK523.out (by decide)) (fun _ hk => hk.1.2) (.slice Ao94 t511.length co94)) (fun _ hk => hk.1.2) (.slice Ao103 t514.length co103)) (fun _ hk => hk.2) (.int .i64 t517)) (fun _ hk => hk.2) (.int .i64 t518)) (fun _ hk => hk.2) (.int .i64 t519)) (fun _ hk => hk.2) (.int .i64 t520)) (fun _ h_ => h_.1)) (fun _ h_ => h_.1))) hb); replace HO485 := A_ (Kd.R_below (by (with_reducible repeat (first | apply Kd.R_alloc | apply Kd.R_drewN | apply Kd.R_drew)); exact (Kd.R_mono (Kd.R_mono (Kd.R_far (p := ⟨gb523, 3, none⟩) (Kd.R_far (p := ⟨gb523, 2, none⟩) (Kd.R_far (p := ⟨gb523, 1, none⟩) (Kd.R_far (p := ⟨gb523, 0, none⟩) (Kd.R_far (p := ⟨gb522, 1, none⟩) (Kd.R_far (p := ⟨gb522, 0, none⟩) (Kd.R_types (Kd.R_types HO485.out BK522.out (by decide)) BK523.out (by decide)) (fun _ hk => hk.1.2) (.slice Ao94 t511.length co94)) (fun _ hk => hk.1.2) (.slice Ao103 t514.length co103)) (fun _ hk => hk.2) (.int .i64 t517)) (fun _ hk => hk.2) (.int .i64 t518)) (fun _ hk => hk.2) (.int .i64 t519)) (fun _ hk => hk.2) (.int .i64 t520)) (fun _ h_ => h_.1)) (fun _ h_ => h_.1))) hb); replace HO488 := A_ (Kd.S_below (by (with_reducible repeat (first | apply Kd.S_alloc | apply Kd.S_drewN | apply Kd.S_drew)); exact (Kd.S_mono (Kd.S_mono (Kd.S_far (p := ⟨gb523, 3, none⟩) (Kd.S_far (p := ⟨gb523, 2, none⟩) (Kd.S_far (p := ⟨gb523, 1, none⟩) (Kd.S_far (p := ⟨gb523, 0, none⟩) (Kd.S_far (p := ⟨gb522, 1, none⟩) (Kd.S_far (p := ⟨gb522, 0, none⟩) (Kd.S_mono (Kd.S_mono HO488.out (fun k_ hk => (⟨hk, hk.1.2⟩ : _ ∧ k_ ≠ gb522))) (fun k_ hk => (⟨hk, hk.1.2⟩ : _ ∧ k_ ≠ gb523))) (fun _ hk => hk.1.2) (.slice Ao94 t511.length co94)) (fun _ hk => hk.1.2) (.slice Ao103 t514.length co103)) (fun _ hk => hk.2) (.int .i64 t517)) (fun _ hk => hk.2) (.int .i64 t518)) (fun _ hk => hk.2) (.int .i64 t519)) (fun _ hk => hk.2) (.int .i64 t520)) (fun _ h_ => h_.1)) (fun _ h_ => h_.1))) hb); replace HO498 := A_ (Kd.R_below (by (with_reducible repeat (first | apply Kd.R_alloc | apply Kd.R_drewN | apply Kd.R_drew)); exact (Kd.R_mono (Kd.R_mono (Kd.R_far (p := ⟨gb523, 3, none⟩) (Kd.R_far (p := ⟨gb523, 2, none⟩) (Kd.R_far (p := ⟨gb523, 1, none⟩) (Kd.R_far (p := ⟨gb523, 0, none⟩) (Kd.R_far (p := ⟨gb522, 1, none⟩) (Kd.R_far (p := ⟨gb522, 0, none⟩) (Kd.R_types (Kd.R_types HO498.out BK522.out (by decide)) BK523.out (by decide)) (fun _ hk => hk.1.2) (.slice Ao94 t511.length co94)) (fun _ hk => hk.1.2) (.slice Ao103 t514.length co103)) (fun _ hk => hk.2) (.int .i64 t517)) (fun _ hk => hk.2) (.int .i64 t518)) (fun _ hk => hk.2) (.int .i64 t519)) (fun _ hk => hk.2) (.int .i64 t520)) (fun _ h_ => h_.1)) (fun _ h_ => h_.1))) hb); replace HO501 := A_ (Kd.S_below (by (with_reducible repeat (first | apply Kd.S_alloc | apply Kd.S_drewN | apply Kd.S_drew)); exact (Kd.S_mono (Kd.S_mono (Kd.S_far (p := ⟨gb523, 3, none⟩) (Kd.S_far (p := ⟨gb523, 2, none⟩) (Kd.S_far (p := ⟨gb523, 1, none⟩) (Kd.S_far (p := ⟨gb523, 0, none⟩) (Kd.S_far (p := ⟨gb522, 1, none⟩) (Kd.S_far (p := ⟨gb522, 0, none⟩) (Kd.S_mono (Kd.S_mono HO501.out (fun k_ hk => (⟨hk, hk.1.2⟩ : _ ∧ k_ ≠ gb522))) (fun k_ hk => (⟨hk, hk.1.2⟩ : _ ∧ k_ ≠ gb523))) (fun _ hk => hk.1.2) (.slice Ao94 t511.length co94)) (fun _ hk => hk.1.2) (.slice Ao103 t514.length co103)) (fun _ hk => hk.2) (.int .i64 t517)) (fun _ hk => hk.2) (.int .i64 t518)) (fun _ hk => hk.2) (.int .i64 t519)) (fun _ hk => hk.2) (.int .i64 t520)) (fun _ h_ => h_.1)) (fun _ h_ => h_.1))) hb); replace HO505 := A_ (Kd.R_below (by (with_reducible repeat (first | apply Kd.R_alloc | apply Kd.R_drewN | apply Kd.R_drew)); exact (Kd.R_mono (Kd.R_mono (Kd.R_far (p := ⟨gb523, 3, none⟩) (Kd.R_far (p := ⟨gb523, 2, none⟩) (Kd.R_far (p := ⟨gb523, 1, none⟩) (Kd.R_far (p := ⟨gb523, 0, none⟩) (Kd.R_far (p := ⟨gb522, 1, none⟩) (Kd.R_far (p := ⟨gb522, 0, none⟩) (Kd.R_types (Kd.R_types HO505.out BK522.out (by decide)) BK523.out (by decide)) (fun _ hk => hk.1.2) (.slice Ao94 t511.length co94)) (fun _ hk => hk.1.2) (.slice Ao103 t514.length co103)) (fun _ hk => hk.2) (.int .i64 t517)) (fun _ hk => hk.2) (.int .i64 t518)) (fun _ hk => hk.2) (.int .i64 t519)) (fun _ hk => hk.2) (.int .i64 t520)) (fun _ h_ => h_.1)) (fun _ h_ => h_.1))) hb); replace HO509 := A_ (Kd.R_below (by (with_reducible repeat (first | apply Kd.R_alloc | apply Kd.R_drewN | apply Kd.R_drew)); exact (Kd.R_mono (Kd.R_mono (Kd.R_far (p := ⟨gb523, 3, none⟩) (Kd.R_far (p := ⟨gb523, 2, none⟩) (Kd.R_far (p := ⟨gb523, 1, none⟩) (Kd.R_far (p := ⟨gb523, 0, none⟩) (Kd.R_far (p := ⟨gb522, 1, none⟩) (Kd.R_far (p := ⟨gb522, 0, none⟩) (Kd.R_types (Kd.R_types HO509.out BK522.out (by decide)) BK523.out (by decide)) (fun _ hk => hk.1.2) (.slice Ao94 t511.length co94)) (fun _ hk => hk.1.2) (.slice Ao103 t514.length co103)) (fun _ hk => hk.2) (.int .i64 t517)) (fun _ hk => hk.2) (.int .i64 t518)) (fun _ hk => hk.2) (.int .i64 t519)) (fun _ hk => hk.2) (.int .i64 t520)) (fun _ h_ => h_.1)) (fun _ h_ => h_.1))) hb); replace HO513 := A_ (Kd.R_below (by (with_reducible repeat (first | apply Kd.R_alloc | apply Kd.R_drewN | apply Kd.R_drew)); exact (Kd.R_mono (Kd.R_mono (Kd.R_far (p := ⟨gb523, 3, none⟩) (Kd.R_far (p := ⟨gb523, 2, none⟩) (Kd.R_far (p := ⟨gb523, 1, none⟩) (Kd.R_far (p := ⟨gb523, 0, none⟩) (Kd.R_far (p := ⟨gb522, 1, none⟩) (Kd.R_far (p := ⟨gb522, 0, none⟩) (Kd.R_types (Kd.R_types HO513.out BK522.out (by decide)) BK523.out (by decide)) (fun _ hk => hk.1.2) (.slice Ao94 t511.length co94)) (fun _ hk => hk.1.2) (.slice Ao103 t514.length co103)) (fun _ hk => hk.2) (.int .i64 t517)) (fun _ hk => hk.2) (.int .i64 t518)) (fun _ hk => hk.2) (.int .i64 t519)) (fun _ hk => hk.2) (.int .i64 t520)) (fun _ h_ => h_.1)) (fun _ h_ => h_.1))) hb); replace HO516 := A_ (Kd.S_below (by (with_reducible repeat (first | apply Kd.S_alloc | apply Kd.S_drewN | apply Kd.S_drew)); exact (Kd.S_mono (Kd.S_mono (Kd.S_far (p := ⟨gb523, 3, none⟩) (Kd.S_far (p := ⟨gb523, 2, none⟩) (Kd.S_far (p := ⟨gb523, 1, none⟩) (Kd.S_far (p := ⟨gb523, 0, none⟩) (Kd.S_far (p := ⟨gb522, 1, none⟩) (Kd.S_far (p := ⟨gb522, 0, none⟩) (Kd.S_mono (Kd.S_mono HO516.out (fun k_ hk => (⟨hk, hk.1.2⟩ : _ ∧ k_ ≠ gb522))) (fun k_ hk => (⟨hk, hk.1.2⟩ : _ ∧ k_ ≠ gb523))) (fun _ hk => hk.1.2) (.slice Ao94 t511.length co94)) (fun _ hk => hk.1.2) (.slice Ao103 t514.length co103)) (fun _ hk => hk.2) (.int .i64 t517)) (fun _ hk => hk.2) (.int .i64 t518)) (fun _ hk => hk.2) (.int .i64 t519)) (fun _ hk => hk.2) (.int .i64 t520)) (fun _ h_ => h_.1)) (fun _ h_ => h_.1))) hb); replace BK465 := bb_ BK465 hb; replace BK466 := bb_ BK466 hb; replace BK494 := bb_ BK494 hb; replace BK495 := bb_ BK495 hb; replace BK502 := bb_ BK502 hb; replace BK510 := bb_ BK510 hb; replace BK522 := bq_ (o' := .cells #[.slice Ao94 t511.length co94, .slice Ao103 t514.length co103] 31 (0, 0)) BK522 hb; replace BK523 := bq_ (o' := .cells #[.int .i64 t517, .int .i64 t518, .int .i64 t519, .int .i64 t520] 74 (0, 0)) BK523 hb; replace HB := hs_ HB hb; (try clear hb); (try clear hb2); (try clear hk); (try clear hi); have hnb131 := NB523_465.out; have hnc131 := NB465_523.out; have hnb132 := NB523_466.out; have hnc132 := NB466_523.out; have hnb133 := NB523_495.out; have hnc133 := NB495_523.out; have hnb134 := NB523_502.out; have hnc134 := NB502_523.out; have hnb135 := NB523_510.out; have hnc135 := NB510_523.out; obtain ⟨hcz136_0, hcz136_1, hcz136_2, hcz136_3, hfz136_0, hfz136_1, hfz136_2, hfz136_3⟩ := cz4_ BK523; have hnb137 := NB495_465.out; have hnc137 := NB465_495.out; have hnb138 := NB495_466.out; have hnc138 := NB466_495.out; have hnb139 := NB495_502.out; have hnc139 := NB502_495.out; have hnb140 := NB495_510.out; have hnc140 := NB510_495.out; obtain ⟨hcz141_0, hcz141_1, hcz141_2, hcz141_3, hfz141_0, hfz141_1, hfz141_2, hfz141_3⟩ := cz4_ BK495) | (go_at_call 46; (with_reducible refine (laws_eqHelp.calls t517 t518 t519 t520 t489 t490 t491 t492 true _ A113.out).mono ?_); rintro e w142 ⟨rfl, hb⟩; replace HO472 := A_ (Kd.R_below (rb_ HO472.out) hb); replace HO475 := A_ (Kd.S_below (sb_ HO475.out) hb); replace HO478 := A_ (Kd.R_below (rb_ HO478.out) hb); replace HO482 := A_ (Kd.R_below (rb_ HO482.out) hb); replace HO485 := A_ (Kd.R_below (rb_ HO485.out) hb); replace HO488 := A_ (Kd.S_below (sb_ HO488.out) hb); replace HO498 := A_ (Kd.R_below (rb_ HO498.out) hb); replace HO501 := A_ (Kd.S_below (sb_ HO501.out) hb); replace HO505 := A_ (Kd.R_below (rb_ HO505.out) hb); replace HO509 := A_ (Kd.R_below (rb_ HO509.out) hb); replace HO513 := A_ (Kd.R_below (rb_ HO513.out) hb); replace HO516 := A_ (Kd.S_below (sb_ HO516.out) hb); replace BK465 := bb_ BK465 hb; replace BK466 := bb_ BK466 hb; replace BK494 := bb_ BK494 hb; replace BK495 := bb_ BK495 hb; replace BK502 := bb_ BK502 hb; replace BK510 := bb_ BK510 hb; replace BK522 := bb_ BK522 hb; replace BK523 := bb_ BK523 hb; replace HB := hs_ HB hb; (try clear hb); (try clear hb2); (try clear hk); (try clear hi)))
  go_meet
  case rel => exact ⟨_, ((t521 != t493)), rt_, H', ⟨by first | omega | exact Nat.le_refl _⟩, ⟨by (with_reducible repeat (first | apply Kd.R_alloc | apply Kd.R_drewN | apply Kd.R_drew)); exact Kd.R_mono HO505.out (fun _ hk => trivial)⟩, ⟨by (with_reducible repeat (first | apply Kd.R_alloc | apply Kd.R_drewN | apply Kd.R_drew)); exact Kd.R_mono HO485.out (fun _ hk => ⟨hk.1.2, hk.2⟩)⟩, ⟨by (with_reducible repeat (first | apply Kd.S_alloc | apply Kd.S_drewN | apply Kd.S_drew)); exact Kd.S_mono HO488.out (fun _ hk => ⟨hk.1.1.1.1.1.1.2, ⟨hk.1.1.1.1.1.1.1.1.1.1.2.2.2.2.1, ⟨hk.1.1.1.1.1.1.1.1.1.2, ⟨hk.1.1.1.1.1.1.1.1.2, ⟨hk.1.1.1.1.1.2, ⟨hk.1.1.1.2, ⟨hk.1.1.2, ⟨hk.1.1.1.1.1.1.1.1.1.1.2.2.2.2.2.1, ⟨hk.1.1.1.1.1.1.1.1.1.1.2.2.2.2.2.2.1, ⟨hk.1.1.1.1.1.1.1.1.1.1.2.2.2.2.2.2.2.1, ⟨hk.1.1.1.1.1.1.1.1.1.1.2.2.2.2.2.2.2.2, ⟨hk.1.1.1.1.1.1.1.2, ⟨hk.1.1.1.1.2, ⟨hk.1.2, hk.2⟩⟩⟩⟩⟩⟩⟩⟩⟩⟩⟩⟩⟩⟩)⟩, ⟨by (with_reducible repeat (first | apply Kd.R_alloc | apply Kd.R_drewN | apply Kd.R_drew)); exact Kd.R_mono HO498.out (fun _ hk => ⟨hk.1.2, hk.2⟩)⟩, ⟨by (with_reducible repeat (first | apply Kd.S_alloc | apply Kd.S_drewN | apply Kd.S_drew)); exact Kd.S_mono HO501.out (fun _ hk => ⟨hk.1.1.1.1.1.1.2, ⟨hk.1.1.1.1.1.1.1.1.2.2.2.2.2.1, ⟨hk.1.1.1.1.1.1.1.1.2.2.2.2.2.2.1, ⟨hk.1.1.1.1.1.1.1.1.1, ⟨hk.1.1.1.1.1.2, ⟨hk.1.1.1.2, ⟨hk.1.1.2, ⟨hk.1.1.1.1.1.1.1.1.2.2.2.2.2.2.2.1, ⟨hk.1.1.1.1.1.1.1.1.2.2.2.2.2.2.2.2.1, ⟨hk.1.1.1.1.1.1.1.1.2.2.2.2.2.2.2.2.2.1, ⟨hk.1.1.1.1.1.1.1.1.2.2.2.2.2.2.2.2.2.2, ⟨hk.1.1.1.1.1.1.1.2, ⟨hk.1.1.1.1.2, ⟨hk.1.2, hk.2⟩⟩⟩⟩⟩⟩⟩⟩⟩⟩⟩⟩⟩⟩)⟩, ⟨by (with_reducible repeat (first | apply Kd.R_alloc | apply Kd.R_drewN | apply Kd.R_drew)); exact Kd.R_mono HO509.out (fun _ hk => trivial)⟩, ⟨by (with_reducible repeat (first | apply Kd.R_alloc | apply Kd.R_drewN | apply Kd.R_drew)); exact Kd.R_mono HO513.out (fun _ hk => ⟨hk.1.2, hk.2⟩)⟩, ⟨by (with_reducible repeat (first | apply Kd.S_alloc | apply Kd.S_drewN | apply Kd.S_drew)); exact Kd.S_mono HO516.out (fun _ hk => ⟨hk.1.1.2.2.2.2.2.2.2.2.2.1, ⟨hk.1.1.2.2.2.2.2.1, ⟨hk.1.1.2.2.2.2.2.2.1, ⟨hk.1.1.2.2.2.2.2.2.2.1, ⟨hk.1.1.2.2.2.2.2.2.2.2.1, ⟨hk.1.1.2.2.2.2.2.2.2.2.2.2.1, ⟨hk.1.1.1, ⟨hk.1.1.2.2.2.2.2.2.2.2.2.2.2.1, ⟨hk.1.1.2.2.2.2.2.2.2.2.2.2.2.2.1, ⟨hk.1.1.2.2.2.2.2.2.2.2.2.2.2.2.2.1, ⟨hk.1.1.2.2.2.2.2.2.2.2.2.2.2.2.2.2.1, ⟨hk.1.1.2.2.2.2.2.2.2.2.2.2.2.2.2.2.2.1, ⟨hk.1.1.2.2.2.2.2.2.2.2.2.2.2.2.2.2.2.2, ⟨hk.1.2, hk.2⟩⟩⟩⟩⟩⟩⟩⟩⟩⟩⟩⟩⟩⟩)⟩, ⟨bk_ BK465⟩, ⟨bk_ BK466⟩, ⟨bk_ BK494⟩, ⟨bk_ BK495⟩, ⟨bk_ BK502⟩, ⟨bk_ BK510⟩, ⟨bk_ BK522⟩, ⟨bk_ BK523⟩, ⟨hb_ HB⟩⟩
 obtain rfl := Bool.eq_false_iff.mpr c114
 have H1 : (laws_FnExactBegin.j0 k a1 l2 t493 t503 t521 true l0_0 l0_1 a3_0 l3_1 t483 t486 t489 t490 t491 t492 t496 t499 t506 t507 t511 t514 t517 t518 t519 t520) = some r := by rw [if_neg (show ¬ (false = true) by decide)] at H; exact H
 exact absurd H1 (laws_FnExactBegin.j0_dead _ _ _ _ _ _ _ _ _ _ _ _ _ _ _ _ _ _ _ _ _ _ _ _ _ _ _)) : p := h
set_option maxRecDepth 100000 in
theorem z2_ {p : Prop} (h : p := by
 intro hJ200
 refine join_ (σ := Value × Value × Nat × Nat) 10 (bt_ 12335 17) (fun s_ => [(138, .agg #[s_.1, s_.2.1]), (22, .pointer (some ⟨s_.2.2.1, 0, none⟩)), (23, .pointer (some ⟨s_.2.2.2, 0, none⟩))]) (fun s_ w' => (w'.cell? ⟨gb465, 0, none⟩ = some (.slice A0_0 l0_0.length c0_0) ∧ w'.cell? ⟨gb465, 1, none⟩ = some (.slice A0_1 l0_1.length c0_1) ∧ w'.cell? ⟨gb466, 0, none⟩ = some (.int .i64 a3_0) ∧ w'.cell? ⟨gb466, 1, none⟩ = some (.slice A3_1 l3_1.length c3_1)) ∧ (Kd.R k95 95 w' w326.heap.size (fun _ => True) s_.1 t553) ∧ (Kd.S k119 119 w' w326.heap.size (fun _ => True) s_.2.1 t556) ∧ (w326.heap.size ≤ s_.2.2.1 ∧ w'.heap[s_.2.2.1]? = some (.cells #[.slice none 0 0, .slice none 0 0] 31 (0, 0))) ∧ (w326.heap.size ≤ s_.2.2.2 ∧ w'.heap[s_.2.2.2]? = some (.cells #[.int .i64 0, .int .i64 0, .int .i64 0, .int .i64 0] 74 (0, 0))) ∧ (Below w326.heap.size w326 w')) ?_ ?_
 rotate_left
 ·
  intro hJ111
  refine join_ (σ := Value × Value × Nat) 11 (bt_ 4143 17) (fun s_ => [(138, .agg #[s_.1, s_.2.1]), (22, .pointer (some ⟨s_.2.2, 0, none⟩))]) (fun s_ w' => (w'.cell? ⟨gb465, 0, none⟩ = some (.slice A0_0 l0_0.length c0_0) ∧ w'.cell? ⟨gb465, 1, none⟩ = some (.slice A0_1 l0_1.length c0_1) ∧ w'.cell? ⟨gb466, 0, none⟩ = some (.int .i64 a3_0) ∧ w'.cell? ⟨gb466, 1, none⟩ = some (.slice A3_1 l3_1.length c3_1)) ∧ (Kd.R k95 95 w' w326.heap.size (fun _ => True) s_.1 t553) ∧ (Kd.S k119 119 w' w326.heap.size (fun _ => True) s_.2.1 t556) ∧ (w326.heap.size ≤ s_.2.2 ∧ w'.heap[s_.2.2]? = some (.cells #[.slice none 0 0, .slice none 0 0] 31 (0, 0))) ∧ (Below w326.heap.size w326 w')) ?_ ?_
  rotate_left
  ·
   intro hJ110
   refine join_ (σ := Value × Value × Nat) 11 (bt_ 8239 17) (fun s_ => [(138, .agg #[s_.1, s_.2.1]), (23, .pointer (some ⟨s_.2.2, 0, none⟩))]) (fun s_ w' => (w'.cell? ⟨gb465, 0, none⟩ = some (.slice A0_0 l0_0.length c0_0) ∧ w'.cell? ⟨gb465, 1, none⟩ = some (.slice A0_1 l0_1.length c0_1) ∧ w'.cell? ⟨gb466, 0, none⟩ = some (.int .i64 a3_0) ∧ w'.cell? ⟨gb466, 1, none⟩ = some (.slice A3_1 l3_1.length c3_1)) ∧ (Kd.R k95 95 w' w326.heap.size (fun _ => True) s_.1 t553) ∧ (Kd.S k119 119 w' w326.heap.size (fun _ => True) s_.2.1 t556) ∧ (w326.heap.size ≤ s_.2.2 ∧ w'.heap[s_.2.2]? = some (.cells #[.int .i64 0, .int .i64 0, .int .i64 0, .int .i64 0] 74 (0, 0))) ∧ (Below w326.heap.size w326 w')) ?_ ?_
   rotate_left
   ·
    intro hJ101
    refine join_ (σ := Value × Value) 12 (bt_ 47 17) (fun s_ => [(138, .agg #[s_.1, s_.2])]) (fun s_ w' => (w'.cell? ⟨gb465, 0, none⟩ = some (.slice A0_0 l0_0.length c0_0) ∧ w'.cell? ⟨gb465, 1, none⟩ = some (.slice A0_1 l0_1.length c0_1) ∧ w'.cell? ⟨gb466, 0, none⟩ = some (.int .i64 a3_0) ∧ w'.cell? ⟨gb466, 1, none⟩ = some (.slice A3_1 l3_1.length c3_1)) ∧ (Kd.R k95 95 w' w326.heap.size (fun _ => True) s_.1 t553) ∧ (Kd.S k119 119 w' w326.heap.size (fun _ => True) s_.2 t556) ∧ (Below w326.heap.size w326 w')) ?_ ?_
    rotate_left
    ·
     intro hJ100
     refine join_ (σ := Nat × Nat) 11 (bt_ 12333 17) (fun s_ => [(22, .pointer (some ⟨s_.1, 0, none⟩)), (23, .pointer (some ⟨s_.2, 0, none⟩))]) (fun s_ w' => (w'.cell? ⟨gb465, 0, none⟩ = some (.slice A0_0 l0_0.length c0_0) ∧ w'.cell? ⟨gb465, 1, none⟩ = some (.slice A0_1 l0_1.length c0_1) ∧ w'.cell? ⟨gb466, 0, none⟩ = some (.int .i64 a3_0) ∧ w'.cell? ⟨gb466, 1, none⟩ = some (.slice A3_1 l3_1.length c3_1)) ∧ (w326.heap.size ≤ s_.1 ∧ w'.heap[s_.1]? = some (.cells #[.slice none 0 0, .slice none 0 0] 31 (0, 0))) ∧ (w326.heap.size ≤ s_.2 ∧ w'.heap[s_.2]? = some (.cells #[.int .i64 0, .int .i64 0, .int .i64 0, .int .i64 0] 74 (0, 0))) ∧ (Below w326.heap.size w326 w')) ?_ ?_
     rotate_left
     ·
      intro hJ011
      refine join_ (σ := Nat) 12 (bt_ 4141 17) (fun s_ => [(22, .pointer (some ⟨s_, 0, none⟩))]) (fun s_ w' => (w'.cell? ⟨gb465, 0, none⟩ = some (.slice A0_0 l0_0.length c0_0) ∧ w'.cell? ⟨gb465, 1, none⟩ = some (.slice A0_1 l0_1.length c0_1) ∧ w'.cell? ⟨gb466, 0, none⟩ = some (.int .i64 a3_0) ∧ w'.cell? ⟨gb466, 1, none⟩ = some (.slice A3_1 l3_1.length c3_1)) ∧ (w326.heap.size ≤ s_ ∧ w'.heap[s_]? = some (.cells #[.slice none 0 0, .slice none 0 0] 31 (0, 0))) ∧ (Below w326.heap.size w326 w')) ?_ ?_
      rotate_left
      ·
       intro hJ010
       refine join_ (σ := Nat) 12 (bt_ 8237 17) (fun s_ => [(23, .pointer (some ⟨s_, 0, none⟩))]) (fun s_ w' => (w'.cell? ⟨gb465, 0, none⟩ = some (.slice A0_0 l0_0.length c0_0) ∧ w'.cell? ⟨gb465, 1, none⟩ = some (.slice A0_1 l0_1.length c0_1) ∧ w'.cell? ⟨gb466, 0, none⟩ = some (.int .i64 a3_0) ∧ w'.cell? ⟨gb466, 1, none⟩ = some (.slice A3_1 l3_1.length c3_1)) ∧ (w326.heap.size ≤ s_ ∧ w'.heap[s_]? = some (.cells #[.int .i64 0, .int .i64 0, .int .i64 0, .int .i64 0] 74 (0, 0))) ∧ (Below w326.heap.size w326 w')) ?_ ?_
       rotate_left
       ·
        intro hJ001
        refine three_ (i := 1) (j := 12) (k := 13) (Ni := some 138) (Nj := some 22) (Nk := some 23) (bt_ 47 17) (bt_ 4141 17) (bt_ 8237 17) rfl rfl rfl rfl rfl rfl (three_of HT_.out (by kernel_rfl)) (by decide) (by decide) (by decide) (fun K hK => ?_) (fun K hK => ?_) (fun K hK => ?_)
        ·
         skip
         refine goes_ Try.func11 (by kernel_rfl) rfl #[.agg #[.slice A0_0 l0_0.length c0_0, .slice A0_1 l0_1.length c0_1]] (by rfl) rfl rfl al_ ?_
         with_reducible refine (laws_toMem.calls kj199 _ _ l0_0 _ _ l0_1 t553 t556 _ ?side1 ?side2 ?side3 ?side4 A313.out).mono ?_
         (case side1 => exact Kd.C_below HR0_0.out HB.out)
         (case side2 => exact HC0_0.out)
         (case side3 => exact Kd.C_below HR0_1.out HB.out)
         (case side4 => exact HC0_1.out)
         rintro e w2_ ⟨v554, v557, rfl, ho0, ho1, hb⟩
         refine ⟨_, rfl, ?_⟩
         refine hK.out _ _ (mm_held4 hHeld hb) (fun hHeld => ?_)
         clear hK K
         refine norm_ (a' := ?_) ?_ ?_
         rotate_left
         ·
          show Act.put _ (some 138) _ = _
          simp only [Act.put, List.setIfInBounds_toArray, List.set_cons_zero, List.set_cons_succ, i64_w, i32_w]
          rfl
         exact norm_ nm_ (hJ100 (v554, v557) _ ⟨hHeld, (Kd.R_mono (Kd.R_lower (ho0) (Nat.le_refl _)) (fun _ _ => trivial)), (Kd.S_mono (Kd.S_lower (ho1) (Nat.le_refl _)) (fun _ _ => trivial)), hb⟩)
        ·
         skip
         refine box_step ?hg (N := 22) ?hd (cs := #[.slice none 0 0, .slice none 0 0]) (t := 31) ?hr ?_; (case hd => rfl); (case hg => rfl); (case hr => first | (go_simp; done) | (go_simp; rfl))
         intro gb577 hg w2_ hbox hb
         refine hK.out _ _ (mm_held4 hHeld hb) (fun hHeld => ?_)
         clear hK K
         refine norm_ (a' := ?_) ?_ ?_
         rotate_left
         ·
          show Act.put _ (some 22) _ = _
          simp only [Act.put, List.setIfInBounds_toArray, List.set_cons_zero, List.set_cons_succ, i64_w, i32_w]
          rfl
         exact norm_ nm_ (hJ010 (gb577) _ ⟨hHeld, ⟨(by rw [hg]; exact Nat.le_refl _), hbox⟩, hb⟩)
        skip
        refine box_step ?hg (N := 23) ?hd (cs := #[.int .i64 0, .int .i64 0, .int .i64 0, .int .i64 0]) (t := 74) ?hr ?_; (case hd => rfl); (case hg => rfl); (case hr => first | (go_simp; done) | (go_simp; rfl))
        intro gb578 hg w2_ hbox hb
        refine hK.out _ _ (mm_held4 hHeld hb) (fun hHeld => ?_)
        clear hK K
        refine norm_ (a' := ?_) ?_ ?_
        rotate_left
        ·
         show Act.put _ (some 23) _ = _
         simp only [Act.put, List.setIfInBounds_toArray, List.set_cons_zero, List.set_cons_succ, i64_w, i32_w]
         rfl
        exact norm_ nm_ (hJ001 (gb578) _ ⟨hHeld, ⟨(by rw [hg]; exact Nat.le_refl _), hbox⟩, hb⟩)
       rintro gb578 w1_ ⟨hHeld, ⟨hl_gb578, hb_gb578⟩, hM_⟩
       refine norm_ (a' := ?_) ?_ ?_
       rotate_left
       ·
        simp only [putAll, Act.put, List.setIfInBounds_toArray, List.set_cons_zero, List.set_cons_succ]
        rfl
       refine two_ (i := 1) (j := 12) (Ni := some 138) (Nj := some 22) (bt_ 8239 17) (bt_ 12333 17) rfl rfl rfl rfl (two_of HT_.out (by kernel_rfl)) (by decide) (by decide) (fun K hK => ?_) (fun K hK => ?_)
       ·
        skip
        refine goes_ Try.func11 (by kernel_rfl) rfl #[.agg #[.slice A0_0 l0_0.length c0_0, .slice A0_1 l0_1.length c0_1]] (by rfl) rfl rfl al_ ?_
        with_reducible refine (laws_toMem.calls kj199 _ _ l0_0 _ _ l0_1 t553 t556 _ ?side1 ?side2 ?side3 ?side4 A313.out).mono ?_
        (case side1 => exact Kd.C_below HR0_0.out (below_step HB.out hM_))
        (case side2 => exact HC0_0.out)
        (case side3 => exact Kd.C_below HR0_1.out (below_step HB.out hM_))
        (case side4 => exact HC0_1.out)
        rintro e w2_ ⟨v554, v557, rfl, ho0, ho1, hb⟩
        refine ⟨_, rfl, ?_⟩
        refine hK.out _ _ (mm_held4 hHeld hb) (fun hHeld => ?_)
        clear hK K
        refine norm_ (a' := ?_) ?_ ?_
        rotate_left
        ·
         show Act.put _ (some 138) _ = _
         simp only [Act.put, List.setIfInBounds_toArray, List.set_cons_zero, List.set_cons_succ, i64_w, i32_w]
         rfl
        exact norm_ nm_ (hJ101 (v554, v557, gb578) _ ⟨hHeld, (Kd.R_mono (Kd.R_lower (ho0) hM_.size) (fun _ _ => trivial)), (Kd.S_mono (Kd.S_lower (ho1) hM_.size) (fun _ _ => trivial)), ⟨hl_gb578, blk_below hb_gb578 hb⟩, below_step hM_ hb⟩)
       skip
       refine box_step ?hg (N := 22) ?hd (cs := #[.slice none 0 0, .slice none 0 0]) (t := 31) ?hr ?_; (case hd => rfl); (case hg => rfl); (case hr => first | (go_simp; done) | (go_simp; rfl))
       intro gb577 hg w2_ hbox hb
       refine hK.out _ _ (mm_held4 hHeld hb) (fun hHeld => ?_)
       clear hK K
       refine norm_ (a' := ?_) ?_ ?_
       rotate_left
       ·
        show Act.put _ (some 22) _ = _
        simp only [Act.put, List.setIfInBounds_toArray, List.set_cons_zero, List.set_cons_succ, i64_w, i32_w]
        rfl
       exact norm_ nm_ (hJ011 (gb577, gb578) _ ⟨hHeld, ⟨(by rw [hg]; exact hM_.size), hbox⟩, ⟨hl_gb578, blk_below hb_gb578 hb⟩, below_step hM_ hb⟩)
      rintro gb577 w1_ ⟨hHeld, ⟨hl_gb577, hb_gb577⟩, hM_⟩
      refine norm_ (a' := ?_) ?_ ?_
      rotate_left
      ·
       simp only [putAll, Act.put, List.setIfInBounds_toArray, List.set_cons_zero, List.set_cons_succ]
       rfl
      refine two_ (i := 1) (j := 13) (Ni := some 138) (Nj := some 23) (bt_ 4143 17) (bt_ 12333 17) rfl rfl rfl rfl (two_of HT_.out (by kernel_rfl)) (by decide) (by decide) (fun K hK => ?_) (fun K hK => ?_)
      ·
       skip
       refine goes_ Try.func11 (by kernel_rfl) rfl #[.agg #[.slice A0_0 l0_0.length c0_0, .slice A0_1 l0_1.length c0_1]] (by rfl) rfl rfl al_ ?_
       with_reducible refine (laws_toMem.calls kj199 _ _ l0_0 _ _ l0_1 t553 t556 _ ?side1 ?side2 ?side3 ?side4 A313.out).mono ?_
       (case side1 => exact Kd.C_below HR0_0.out (below_step HB.out hM_))
       (case side2 => exact HC0_0.out)
       (case side3 => exact Kd.C_below HR0_1.out (below_step HB.out hM_))
       (case side4 => exact HC0_1.out)
       rintro e w2_ ⟨v554, v557, rfl, ho0, ho1, hb⟩
       refine ⟨_, rfl, ?_⟩
       refine hK.out _ _ (mm_held4 hHeld hb) (fun hHeld => ?_)
       clear hK K
       refine norm_ (a' := ?_) ?_ ?_
       rotate_left
       ·
        show Act.put _ (some 138) _ = _
        simp only [Act.put, List.setIfInBounds_toArray, List.set_cons_zero, List.set_cons_succ, i64_w, i32_w]
        rfl
       exact norm_ nm_ (hJ110 (v554, v557, gb577) _ ⟨hHeld, (Kd.R_mono (Kd.R_lower (ho0) hM_.size) (fun _ _ => trivial)), (Kd.S_mono (Kd.S_lower (ho1) hM_.size) (fun _ _ => trivial)), ⟨hl_gb577, blk_below hb_gb577 hb⟩, below_step hM_ hb⟩)
      skip
      refine box_step ?hg (N := 23) ?hd (cs := #[.int .i64 0, .int .i64 0, .int .i64 0, .int .i64 0]) (t := 74) ?hr ?_; (case hd => rfl); (case hg => rfl); (case hr => first | (go_simp; done) | (go_simp; rfl))
      intro gb578 hg w2_ hbox hb
      refine hK.out _ _ (mm_held4 hHeld hb) (fun hHeld => ?_)
      clear hK K
      refine norm_ (a' := ?_) ?_ ?_
      rotate_left
      ·
       show Act.put _ (some 23) _ = _
       simp only [Act.put, List.setIfInBounds_toArray, List.set_cons_zero, List.set_cons_succ, i64_w, i32_w]
       rfl
      exact norm_ nm_ (hJ011 (gb577, gb578) _ ⟨hHeld, ⟨hl_gb577, blk_below hb_gb577 hb⟩, ⟨(by rw [hg]; exact hM_.size), hbox⟩, below_step hM_ hb⟩)
     rintro ⟨gb577, gb578⟩ w1_ ⟨hHeld, ⟨hl_gb577, hb_gb577⟩, ⟨hl_gb578, hb_gb578⟩, hM_⟩
     refine norm_ (a' := ?_) ?_ ?_
     rotate_left
     ·
      simp only [putAll, Act.put, List.setIfInBounds_toArray, List.set_cons_zero, List.set_cons_succ]
      rfl
     refine one_ (i := 1) (N := some 138) (bt_ 12335 17) rfl rfl (one_of HT_.out (by kernel_rfl)) (by decide) (fun K hK => ?_)
     refine goes_ Try.func11 (by kernel_rfl) rfl #[.agg #[.slice A0_0 l0_0.length c0_0, .slice A0_1 l0_1.length c0_1]] (by rfl) rfl rfl al_ ?_
     with_reducible refine (laws_toMem.calls kj199 _ _ l0_0 _ _ l0_1 t553 t556 _ ?side1 ?side2 ?side3 ?side4 A313.out).mono ?_
     (case side1 => exact Kd.C_below HR0_0.out (below_step HB.out hM_))
     (case side2 => exact HC0_0.out)
     (case side3 => exact Kd.C_below HR0_1.out (below_step HB.out hM_))
     (case side4 => exact HC0_1.out)
     rintro e w2_ ⟨v554, v557, rfl, ho0, ho1, hb⟩
     refine ⟨_, rfl, ?_⟩
     refine hK.out _ _ (mm_held4 hHeld hb) (fun hHeld => ?_)
     clear hK K
     refine norm_ (a' := ?_) ?_ ?_
     rotate_left
     ·
      show Act.put _ (some 138) _ = _
      simp only [Act.put, List.setIfInBounds_toArray, List.set_cons_zero, List.set_cons_succ, i64_w, i32_w]
      rfl
     exact norm_ nm_ (hJ111 (v554, v557, gb577, gb578) _ ⟨hHeld, (Kd.R_mono (Kd.R_lower (ho0) hM_.size) (fun _ _ => trivial)), (Kd.S_mono (Kd.S_lower (ho1) hM_.size) (fun _ _ => trivial)), ⟨hl_gb577, blk_below hb_gb577 hb⟩, ⟨hl_gb578, blk_below hb_gb578 hb⟩, below_step hM_ hb⟩)
    rintro ⟨v554, v557⟩ w1_ ⟨hHeld, h_v554, h_v557, hM_⟩
    refine norm_ (a' := ?_) ?_ ?_
    rotate_left
    ·
     simp only [putAll, Act.put, List.setIfInBounds_toArray, List.set_cons_zero, List.set_cons_succ]
     rfl
    refine three_ (i := 4) (j := 12) (k := 13) (Ni := some 141) (Nj := some 22) (Nk := some 23) (bt_ 63 17) (bt_ 4143 17) (bt_ 8239 17) rfl rfl rfl rfl rfl rfl (three_of HT_.out (by kernel_rfl)) (by decide) (by decide) (by decide) (fun K hK => ?_) (fun K hK => ?_) (fun K hK => ?_)
    ·
     skip
     refine goes_ Try.func44 (by kernel_rfl) rfl #[.slice A2 l2.length c2] (by rfl) rfl rfl al_ ?_
     with_reducible refine (laws_toEntryS.calls kj199 _ _ l2 t559 _ ?side1 ?side2 A314.out).mono ?_
     (case side1 => exact Kd.C_below HR2.out (below_step HB.out hM_))
     (case side2 => exact HC2.out)
     rintro e w2_ ⟨v560, rfl, ho0, hb⟩
     refine ⟨_, rfl, ?_⟩
     refine hK.out _ _ (mm_held4 hHeld hb) (fun hHeld => ?_)
     clear hK K
     refine norm_ (a' := ?_) ?_ ?_
     rotate_left
     ·
      show Act.put _ (some 141) _ = _
      simp only [Act.put, List.setIfInBounds_toArray, List.set_cons_zero, List.set_cons_succ, i64_w, i32_w]
      rfl
     exact norm_ nm_ (hJ200 (v554, v557, v560) _ ⟨hHeld, (Kd.R_below h_v554 hb), (Kd.S_mono (Kd.S_elder' h_v557 (Kd.R_base ho0) hb) (fun _ h_ => h_.2)), (Kd.R_mono (Kd.R_lower (ho0) hM_.size) (fun _ _ => trivial)), below_step hM_ hb⟩)
    ·
     skip
     refine box_step ?hg (N := 22) ?hd (cs := #[.slice none 0 0, .slice none 0 0]) (t := 31) ?hr ?_; (case hd => rfl); (case hg => rfl); (case hr => first | (go_simp; done) | (go_simp; rfl))
     intro gb577 hg w2_ hbox hb
     refine hK.out _ _ (mm_held4 hHeld hb) (fun hHeld => ?_)
     clear hK K
     refine norm_ (a' := ?_) ?_ ?_
     rotate_left
     ·
      show Act.put _ (some 22) _ = _
      simp only [Act.put, List.setIfInBounds_toArray, List.set_cons_zero, List.set_cons_succ, i64_w, i32_w]
      rfl
     exact norm_ nm_ (hJ110 (v554, v557, gb577) _ ⟨hHeld, (Kd.R_below h_v554 hb), (Kd.S_below h_v557 hb), ⟨(by rw [hg]; exact hM_.size), hbox⟩, below_step hM_ hb⟩)
    skip
    refine box_step ?hg (N := 23) ?hd (cs := #[.int .i64 0, .int .i64 0, .int .i64 0, .int .i64 0]) (t := 74) ?hr ?_; (case hd => rfl); (case hg => rfl); (case hr => first | (go_simp; done) | (go_simp; rfl))
    intro gb578 hg w2_ hbox hb
    refine hK.out _ _ (mm_held4 hHeld hb) (fun hHeld => ?_)
    clear hK K
    refine norm_ (a' := ?_) ?_ ?_
    rotate_left
    ·
     show Act.put _ (some 23) _ = _
     simp only [Act.put, List.setIfInBounds_toArray, List.set_cons_zero, List.set_cons_succ, i64_w, i32_w]
     rfl
    exact norm_ nm_ (hJ101 (v554, v557, gb578) _ ⟨hHeld, (Kd.R_below h_v554 hb), (Kd.S_below h_v557 hb), ⟨(by rw [hg]; exact hM_.size), hbox⟩, below_step hM_ hb⟩)
   rintro ⟨v554, v557, gb578⟩ w1_ ⟨hHeld, h_v554, h_v557, ⟨hl_gb578, hb_gb578⟩, hM_⟩
   refine norm_ (a' := ?_) ?_ ?_
   rotate_left
   ·
    simp only [putAll, Act.put, List.setIfInBounds_toArray, List.set_cons_zero, List.set_cons_succ]
    rfl
   refine two_ (i := 4) (j := 12) (Ni := some 141) (Nj := some 22) (bt_ 8255 17) (bt_ 12335 17) rfl rfl rfl rfl (two_of HT_.out (by kernel_rfl)) (by decide) (by decide) (fun K hK => ?_) (fun K hK => ?_)
   ·
    skip
    refine goes_ Try.func44 (by kernel_rfl) rfl #[.slice A2 l2.length c2] (by rfl) rfl rfl al_ ?_
    with_reducible refine (laws_toEntryS.calls kj199 _ _ l2 t559 _ ?side1 ?side2 A314.out).mono ?_
    (case side1 => exact Kd.C_below HR2.out (below_step HB.out hM_))
    (case side2 => exact HC2.out)
    rintro e w2_ ⟨v560, rfl, ho0, hb⟩
    refine ⟨_, rfl, ?_⟩
    refine hK.out _ _ (mm_held4 hHeld hb) (fun hHeld => ?_)
    clear hK K
    refine norm_ (a' := ?_) ?_ ?_
    rotate_left
    ·
     show Act.put _ (some 141) _ = _
     simp only [Act.put, List.setIfInBounds_toArray, List.set_cons_zero, List.set_cons_succ, i64_w, i32_w]
     rfl
    exact norm_ nm_ (hJ201 (v554, v557, v560, gb578) _ ⟨hHeld, (Kd.R_below h_v554 hb), (Kd.S_mono (Kd.S_elder' h_v557 (Kd.R_base ho0) hb) (fun _ h_ => h_.2)), (Kd.R_mono (Kd.R_lower (ho0) hM_.size) (fun _ _ => trivial)), ⟨hl_gb578, blk_below hb_gb578 hb⟩, below_step hM_ hb⟩)
   skip
   refine box_step ?hg (N := 22) ?hd (cs := #[.slice none 0 0, .slice none 0 0]) (t := 31) ?hr ?_; (case hd => rfl); (case hg => rfl); (case hr => first | (go_simp; done) | (go_simp; rfl))
   intro gb577 hg w2_ hbox hb
   refine hK.out _ _ (mm_held4 hHeld hb) (fun hHeld => ?_)
   clear hK K
   refine norm_ (a' := ?_) ?_ ?_
   rotate_left
   ·
    show Act.put _ (some 22) _ = _
    simp only [Act.put, List.setIfInBounds_toArray, List.set_cons_zero, List.set_cons_succ, i64_w, i32_w]
    rfl
   exact norm_ nm_ (hJ111 (v554, v557, gb577, gb578) _ ⟨hHeld, (Kd.R_below h_v554 hb), (Kd.S_below h_v557 hb), ⟨(by rw [hg]; exact hM_.size), hbox⟩, ⟨hl_gb578, blk_below hb_gb578 hb⟩, below_step hM_ hb⟩)
  rintro ⟨v554, v557, gb577⟩ w1_ ⟨hHeld, h_v554, h_v557, ⟨hl_gb577, hb_gb577⟩, hM_⟩
  refine norm_ (a' := ?_) ?_ ?_
  rotate_left
  ·
   simp only [putAll, Act.put, List.setIfInBounds_toArray, List.set_cons_zero, List.set_cons_succ]
   rfl
  refine two_ (i := 4) (j := 13) (Ni := some 141) (Nj := some 23) (bt_ 4159 17) (bt_ 12335 17) rfl rfl rfl rfl (two_of HT_.out (by kernel_rfl)) (by decide) (by decide) (fun K hK => ?_) (fun K hK => ?_)
  ·
   skip
   refine goes_ Try.func44 (by kernel_rfl) rfl #[.slice A2 l2.length c2] (by rfl) rfl rfl al_ ?_
   with_reducible refine (laws_toEntryS.calls kj199 _ _ l2 t559 _ ?side1 ?side2 A314.out).mono ?_
   (case side1 => exact Kd.C_below HR2.out (below_step HB.out hM_))
   (case side2 => exact HC2.out)
   rintro e w2_ ⟨v560, rfl, ho0, hb⟩
   refine ⟨_, rfl, ?_⟩
   refine hK.out _ _ (mm_held4 hHeld hb) (fun hHeld => ?_)
   clear hK K
   refine norm_ (a' := ?_) ?_ ?_
   rotate_left
   ·
    show Act.put _ (some 141) _ = _
    simp only [Act.put, List.setIfInBounds_toArray, List.set_cons_zero, List.set_cons_succ, i64_w, i32_w]
    rfl
   exact norm_ nm_ (hJ210 (v554, v557, v560, gb577) _ ⟨hHeld, (Kd.R_below h_v554 hb), (Kd.S_mono (Kd.S_elder' h_v557 (Kd.R_base ho0) hb) (fun _ h_ => h_.2)), (Kd.R_mono (Kd.R_lower (ho0) hM_.size) (fun _ _ => trivial)), ⟨hl_gb577, blk_below hb_gb577 hb⟩, below_step hM_ hb⟩)
  skip
  refine box_step ?hg (N := 23) ?hd (cs := #[.int .i64 0, .int .i64 0, .int .i64 0, .int .i64 0]) (t := 74) ?hr ?_; (case hd => rfl); (case hg => rfl); (case hr => first | (go_simp; done) | (go_simp; rfl))
  intro gb578 hg w2_ hbox hb
  refine hK.out _ _ (mm_held4 hHeld hb) (fun hHeld => ?_)
  clear hK K
  refine norm_ (a' := ?_) ?_ ?_
  rotate_left
  ·
   show Act.put _ (some 23) _ = _
   simp only [Act.put, List.setIfInBounds_toArray, List.set_cons_zero, List.set_cons_succ, i64_w, i32_w]
   rfl
  exact norm_ nm_ (hJ111 (v554, v557, gb577, gb578) _ ⟨hHeld, (Kd.R_below h_v554 hb), (Kd.S_below h_v557 hb), ⟨hl_gb577, blk_below hb_gb577 hb⟩, ⟨(by rw [hg]; exact hM_.size), hbox⟩, below_step hM_ hb⟩)
 rintro ⟨v554, v557, gb577, gb578⟩ w1_ ⟨hHeld, h_v554, h_v557, ⟨hl_gb577, hb_gb577⟩, ⟨hl_gb578, hb_gb578⟩, hM_⟩
 refine norm_ (a' := ?_) ?_ ?_
 rotate_left
 ·
  simp only [putAll, Act.put, List.setIfInBounds_toArray, List.set_cons_zero, List.set_cons_succ]
  rfl
 refine one_ (i := 4) (N := some 141) (bt_ 12351 17) rfl rfl (one_of HT_.out (by kernel_rfl)) (by decide) (fun K hK => ?_)
 refine goes_ Try.func44 (by kernel_rfl) rfl #[.slice A2 l2.length c2] (by rfl) rfl rfl al_ ?_
 with_reducible refine (laws_toEntryS.calls kj199 _ _ l2 t559 _ ?side1 ?side2 A314.out).mono ?_
 (case side1 => exact Kd.C_below HR2.out (below_step HB.out hM_))
 (case side2 => exact HC2.out)
 rintro e w2_ ⟨v560, rfl, ho0, hb⟩
 refine ⟨_, rfl, ?_⟩
 refine hK.out _ _ (mm_held4 hHeld hb) (fun hHeld => ?_)
 clear hK K
 refine norm_ (a' := ?_) ?_ ?_
 rotate_left
 ·
  show Act.put _ (some 141) _ = _
  simp only [Act.put, List.setIfInBounds_toArray, List.set_cons_zero, List.set_cons_succ, i64_w, i32_w]
  rfl
 exact norm_ nm_ (hJ211 (v554, v557, v560, gb577, gb578) _ ⟨hHeld, (Kd.R_below h_v554 hb), (Kd.S_mono (Kd.S_elder' h_v557 (Kd.R_base ho0) hb) (fun _ h_ => h_.2)), (Kd.R_mono (Kd.R_lower (ho0) hM_.size) (fun _ _ => trivial)), ⟨hl_gb577, blk_below hb_gb577 hb⟩, ⟨hl_gb578, blk_below hb_gb578 hb⟩, below_step hM_ hb⟩)) : p := h
set_option maxRecDepth 100000 in
theorem z3_ {p : Prop} (h : p := by
 subst c347
 replace H := it_ H
 replace H := bs_ H
 obtain ⟨t580, A348, H⟩ := H
 by_cases c349 : t580 = true
 ·
  subst c349
  replace H := it_ H
  replace H' := A_ H; clear H
  have hnb350 := NB577_465.out
  have hnc350 := NB465_577.out
  have hnb351 := NB577_466.out
  have hnc351 := NB466_577.out
  have hnb352 := NB577_494.out
  have hnc352 := NB494_577.out
  have hnb353 := NB577_495.out
  have hnc353 := NB495_577.out
  have hnb354 := NB577_522.out
  have hnc354 := NB522_577.out
  have hnb355 := NB577_578.out
  have hnc355 := NB578_577.out
  obtain ⟨hcz356_0, hcz356_1, hfz356_0, hfz356_1⟩ := cz2_ BK577
  have hnb357 := NB494_465.out
  have hnc357 := NB465_494.out
  have hnb358 := NB494_466.out
  have hnc358 := NB466_494.out
  have hnb359 := NB494_495.out
  have hnc359 := NB495_494.out
  have hnb360 := NB494_522.out
  have hnc360 := NB522_494.out
  have hnb361 := NB494_578.out
  have hnc361 := NB578_494.out
  obtain ⟨hcz362_0, hcz362_1, hfz362_0, hfz362_1⟩ := cz2_ BK494
  go_wp2_with (first | ((with_reducible refine gate_callee (f := 13) rfl ?_); refine goesL_ (some 150) rfl rfl Try.func13 (by kernel_rfl) rfl #[.agg #[.slice Ao338 t566.length co338, .slice Ao340 t569.length co340], .agg #[.slice Ao56 t483.length co56, .slice Ao58 t486.length co58]] rfl al_ ?_; (with_reducible refine (laws_eqMem.calls kj199 _ _ t566 _ _ t569 _ _ t483 _ _ t486 true _ ?side1 ?side2 ?side3 ?side4 ?side5 ?side6 ?side7 ?side8 A346.out).mono ?_); (case side1 => refine (Kd.R_reads' (e := 95) (base := w.heap.size) (ok := fun k_ => (some k_ ≠ (v554 : Value).ownBlock ∧ (some k_ ≠ (.slice Ao56 t483.length co56 : Value).ownBlock ∧ some k_ ≠ (.slice Ao94 t511.length co94 : Value).ownBlock))) (n := t566.length) (c := co338) ?_).2.2; exact (by (with_reducible repeat (first | apply Kd.R_alloc | apply Kd.R_drewN | apply Kd.R_drew)); exact (Kd.R_mono (Kd.R_mono (Kd.R_far (p := ⟨gb578, 3, none⟩) (Kd.R_far (p := ⟨gb578, 2, none⟩) (Kd.R_far (p := ⟨gb578, 1, none⟩) (Kd.R_far (p := ⟨gb578, 0, none⟩) (Kd.R_far (p := ⟨gb577, 1, none⟩) (Kd.R_far (p := ⟨gb577, 0, none⟩) (Kd.R_types (Kd.R_types HO568.out BK577.out (by decide)) BK578.out (by decide)) (fun _ hk => hk.1.2) (.slice Ao338 t566.length co338)) (fun _ hk => hk.1.2) (.slice Ao340 t569.length co340)) (fun _ hk => hk.2) (.int .i64 t572)) (fun _ hk => hk.2) (.int .i64 t573)) (fun _ hk => hk.2) (.int .i64 t574)) (fun _ hk => hk.2) (.int .i64 t575)) (fun _ h_ => h_.1)) (fun _ h_ => h_.1)))); (case side2 => exact (Kd.R_reads' HO568.out).2.1); (case side3 => refine (Kd.S_reads' (e := 119) (base := w.heap.size) (ok := fun k_ => (some k_ ≠ (v554 : Value).ownBlock ∧ (some k_ ≠ (v557 : Value).ownBlock ∧ (some k_ ≠ (v560 : Value).ownBlock ∧ (some k_ ≠ (v564 : Value).ownBlock ∧ (some k_ ≠ (.slice Ao338 t566.length co338 : Value).ownBlock ∧ (some k_ ≠ (.slice Ao56 t483.length co56 : Value).ownBlock ∧ (some k_ ≠ (.slice Ao58 t486.length co58 : Value).ownBlock ∧ (some k_ ≠ (.slice Ao94 t511.length co94 : Value).ownBlock ∧ (some k_ ≠ (.slice Ao103 t514n.length co103 : Value).ownBlock ∧ (k_ ≠ gb465 ∧ (k_ ≠ gb466 ∧ (k_ ≠ gb494 ∧ (k_ ≠ gb495 ∧ (k_ ≠ gb522 ∧ (k_ ≠ gb577 ∧ k_ ≠ gb578)))))))))))))))) (n := t569.length) (c := co340) ?_).2.2; exact (by (with_reducible repeat (first | apply Kd.S_alloc | apply Kd.S_drewN | apply Kd.S_drew)); exact (Kd.S_mono (Kd.S_mono (Kd.S_far (p := ⟨gb578, 3, none⟩) (Kd.S_far (p := ⟨gb578, 2, none⟩) (Kd.S_far (p := ⟨gb578, 1, none⟩) (Kd.S_far (p := ⟨gb578, 0, none⟩) (Kd.S_far (p := ⟨gb577, 1, none⟩) (Kd.S_far (p := ⟨gb577, 0, none⟩) (Kd.S_mono (Kd.S_mono HO571.out (fun k_ hk => (⟨hk, hk.2.2.2.2.2.2.2.2.2.2.2.2.2.2.1⟩ : _ ∧ k_ ≠ gb577))) (fun k_ hk => (⟨hk, hk.1.2.2.2.2.2.2.2.2.2.2.2.2.2.2.2⟩ : _ ∧ k_ ≠ gb578))) (fun _ hk => hk.1.2) (.slice Ao338 t566.length co338)) (fun _ hk => hk.1.2) (.slice Ao340 t569.length co340)) (fun _ hk => hk.2) (.int .i64 t572)) (fun _ hk => hk.2) (.int .i64 t573)) (fun _ hk => hk.2) (.int .i64 t574)) (fun _ hk => hk.2) (.int .i64 t575)) (fun _ h_ => h_.1)) (fun _ h_ => h_.1)))); (case side4 => exact (Kd.S_reads' HO571.out).2.1); (case side5 => refine (Kd.R_reads' (e := 95) (base := w.heap.size) (ok := fun k_ => (some k_ ≠ (v554 : Value).ownBlock ∧ (some k_ ≠ (.slice Ao338 t566.length co338 : Value).ownBlock ∧ some k_ ≠ (.slice Ao94 t511.length co94 : Value).ownBlock))) (n := t483.length) (c := co56) ?_).2.2; exact (by (with_reducible repeat (first | apply Kd.R_alloc | apply Kd.R_drewN | apply Kd.R_drew)); exact (Kd.R_mono (Kd.R_mono (Kd.R_far (p := ⟨gb578, 3, none⟩) (Kd.R_far (p := ⟨gb578, 2, none⟩) (Kd.R_far (p := ⟨gb578, 1, none⟩) (Kd.R_far (p := ⟨gb578, 0, none⟩) (Kd.R_far (p := ⟨gb577, 1, none⟩) (Kd.R_far (p := ⟨gb577, 0, none⟩) (Kd.R_types (Kd.R_types HO_495000.out BK577.out (by decide)) BK578.out (by decide)) (fun _ hk => hk.1.2) (.slice Ao338 t566.length co338)) (fun _ hk => hk.1.2) (.slice Ao340 t569.length co340)) (fun _ hk => hk.2) (.int .i64 t572)) (fun _ hk => hk.2) (.int .i64 t573)) (fun _ hk => hk.2) (.int .i64 t574)) (fun _ hk => hk.2) (.int .i64 t575)) (fun _ h_ => h_.1)) (fun _ h_ => h_.1)))); (case side6 => exact (Kd.R_reads' HO_495000.out).2.1); (case side7 => refine (Kd.S_reads' (e := 119) (base := w.heap.size) (ok := fun k_ => (some k_ ≠ (v554 : Value).ownBlock ∧ (some k_ ≠ (v557 : Value).ownBlock ∧ (some k_ ≠ (v560 : Value).ownBlock ∧ (some k_ ≠ (v564 : Value).ownBlock ∧ (some k_ ≠ (.slice Ao338 t566.length co338 : Value).ownBlock ∧ (some k_ ≠ (.slice Ao340 t569.length co340 : Value).ownBlock ∧ (some k_ ≠ (.slice Ao56 t483.length co56 : Value).ownBlock ∧ (some k_ ≠ (.slice Ao94 t511.length co94 : Value).ownBlock ∧ (k_ < nn2_ ∧ (k_ ≠ gb465 ∧ (k_ ≠ gb466 ∧ (k_ ≠ gb494 ∧ (k_ ≠ gb495 ∧ (k_ ≠ gb522 ∧ (k_ ≠ gb577 ∧ k_ ≠ gb578)))))))))))))))) (n := t486.length) (c := co58) ?_).2.2; exact (by (with_reducible repeat (first | apply Kd.S_alloc | apply Kd.S_drewN | apply Kd.S_drew)); exact (Kd.S_mono (Kd.S_mono (Kd.S_far (p := ⟨gb578, 3, none⟩) (Kd.S_far (p := ⟨gb578, 2, none⟩) (Kd.S_far (p := ⟨gb578, 1, none⟩) (Kd.S_far (p := ⟨gb578, 0, none⟩) (Kd.S_far (p := ⟨gb577, 1, none⟩) (Kd.S_far (p := ⟨gb577, 0, none⟩) (Kd.S_mono (Kd.S_mono HO_495001.out (fun k_ hk => (⟨hk, hk.2.2.2.2.2.2.2.2.2.2.2.2.2.2.1⟩ : _ ∧ k_ ≠ gb577))) (fun k_ hk => (⟨hk, hk.1.2.2.2.2.2.2.2.2.2.2.2.2.2.2.2⟩ : _ ∧ k_ ≠ gb578))) (fun _ hk => hk.1.2) (.slice Ao338 t566.length co338)) (fun _ hk => hk.1.2) (.slice Ao340 t569.length co340)) (fun _ hk => hk.2) (.int .i64 t572)) (fun _ hk => hk.2) (.int .i64 t573)) (fun _ hk => hk.2) (.int .i64 t574)) (fun _ hk => hk.2) (.int .i64 t575)) (fun _ h_ => h_.1)) (fun _ h_ => h_.1)))); (case side8 => exact (Kd.S_reads' HO_495001.out).2.1); rintro e w363 ⟨rfl, hb⟩; refine ⟨_, rfl, ?_⟩; replace HO_495000 := A_ (Kd.R_below (by (with_reducible repeat (first | apply Kd.R_alloc | apply Kd.R_drewN | apply Kd.R_drew)); exact (Kd.R_mono (Kd.R_mono (Kd.R_far (p := ⟨gb578, 3, none⟩) (Kd.R_far (p := ⟨gb578, 2, none⟩) (Kd.R_far (p := ⟨gb578, 1, none⟩) (Kd.R_far (p := ⟨gb578, 0, none⟩) (Kd.R_far (p := ⟨gb577, 1, none⟩) (Kd.R_far (p := ⟨gb577, 0, none⟩) (Kd.R_types (Kd.R_types HO_495000.out BK577.out (by decide)) BK578.out (by decide)) (fun _ hk => hk.1.2) (.slice Ao338 t566.length co338)) (fun _ hk => hk.1.2) (.slice Ao340 t569.length co340)) (fun _ hk => hk.2) (.int .i64 t572)) (fun _ hk => hk.2) (.int .i64 t573)) (fun _ hk => hk.2) (.int .i64 t574)) (fun _ hk => hk.2) (.int .i64 t575)) (fun _ h_ => h_.1)) (fun _ h_ => h_.1))) hb); replace HO_495001 := A_ (Kd.S_below (by (with_reducible repeat (first | apply Kd.S_alloc | apply Kd.S_drewN | apply Kd.S_drew)); exact (Kd.S_mono (Kd.S_mono (Kd.S_far (p := ⟨gb578, 3, none⟩) (Kd.S_far (p := ⟨gb578, 2, none⟩) (Kd.S_far (p := ⟨gb578, 1, none⟩) (Kd.S_far (p := ⟨gb578, 0, none⟩) (Kd.S_far (p := ⟨gb577, 1, none⟩) (Kd.S_far (p := ⟨gb577, 0, none⟩) (Kd.S_mono (Kd.S_mono HO_495001.out (fun k_ hk => (⟨hk, hk.2.2.2.2.2.2.2.2.2.2.2.2.2.2.1⟩ : _ ∧ k_ ≠ gb577))) (fun k_ hk => (⟨hk, hk.1.2.2.2.2.2.2.2.2.2.2.2.2.2.2.2⟩ : _ ∧ k_ ≠ gb578))) (fun _ hk => hk.1.2) (.slice Ao338 t566.length co338)) (fun _ hk => hk.1.2) (.slice Ao340 t569.length co340)) (fun _ hk => hk.2) (.int .i64 t572)) (fun _ hk => hk.2) (.int .i64 t573)) (fun _ hk => hk.2) (.int .i64 t574)) (fun _ hk => hk.2) (.int .i64 t575)) (fun _ h_ => h_.1)) (fun _ h_ => h_.1))) hb); replace HO_523000 := A_ (Kd.R_below (by (with_reducible repeat (first | apply Kd.R_alloc | apply Kd.R_drewN | apply Kd.R_drew)); exact (Kd.R_mono (Kd.R_mono (Kd.R_far (p := ⟨gb578, 3, none⟩) (Kd.R_far (p := ⟨gb578, 2, none⟩) (Kd.R_far (p := ⟨gb578, 1, none⟩) (Kd.R_far (p := ⟨gb578, 0, none⟩) (Kd.R_far (p := ⟨gb577, 1, none⟩) (Kd.R_far (p := ⟨gb577, 0, none⟩) (Kd.R_types (Kd.R_types HO_523000.out BK577.out (by decide)) BK578.out (by decide)) (fun _ hk => hk.1.2) (.slice Ao338 t566.length co338)) (fun _ hk => hk.1.2) (.slice Ao340 t569.length co340)) (fun _ hk => hk.2) (.int .i64 t572)) (fun _ hk => hk.2) (.int .i64 t573)) (fun _ hk => hk.2) (.int .i64 t574)) (fun _ hk => hk.2) (.int .i64 t575)) (fun _ h_ => h_.1)) (fun _ h_ => h_.1))) hb); replace HO_523001 := A_ (Kd.S_below (by (with_reducible repeat (first | apply Kd.S_alloc | apply Kd.S_drewN | apply Kd.S_drew)); exact (Kd.S_mono (Kd.S_mono (Kd.S_far (p := ⟨gb578, 3, none⟩) (Kd.S_far (p := ⟨gb578, 2, none⟩) (Kd.S_far (p := ⟨gb578, 1, none⟩) (Kd.S_far (p := ⟨gb578, 0, none⟩) (Kd.S_far (p := ⟨gb577, 1, none⟩) (Kd.S_far (p := ⟨gb577, 0, none⟩) (Kd.S_mono (Kd.S_mono HO_523001.out (fun k_ hk => (⟨hk, hk.2.2.2.2.2.2.2.2.2.2.2.2.2.2.1⟩ : _ ∧ k_ ≠ gb577))) (fun k_ hk => (⟨hk, hk.1.2.2.2.2.2.2.2.2.2.2.2.2.2.2.2⟩ : _ ∧ k_ ≠ gb578))) (fun _ hk => hk.1.2) (.slice Ao338 t566.length co338)) (fun _ hk => hk.1.2) (.slice Ao340 t569.length co340)) (fun _ hk => hk.2) (.int .i64 t572)) (fun _ hk => hk.2) (.int .i64 t573)) (fun _ hk => hk.2) (.int .i64 t574)) (fun _ hk => hk.2) (.int .i64 t575)) (fun _ h_ => h_.1)) (fun _ h_ => h_.1))) hb); replace HO555 := A_ (Kd.R_below (by (with_reducible repeat (first | apply Kd.R_alloc | apply Kd.R_drewN | apply Kd.R_drew)); exact (Kd.R_mono (Kd.R_mono (Kd.R_far (p := ⟨gb578, 3, none⟩) (Kd.R_far (p := ⟨gb578, 2, none⟩) (Kd.R_far (p := ⟨gb578, 1, none⟩) (Kd.R_far (p := ⟨gb578, 0, none⟩) (Kd.R_far (p := ⟨gb577, 1, none⟩) (Kd.R_far (p := ⟨gb577, 0, none⟩) (Kd.R_types (Kd.R_types HO555.out BK577.out (by decide)) BK578.out (by decide)) (fun _ hk => hk.1.2) (.slice Ao338 t566.length co338)) (fun _ hk => hk.1.2) (.slice Ao340 t569.length co340)) (fun _ hk => hk.2) (.int .i64 t572)) (fun _ hk => hk.2) (.int .i64 t573)) (fun _ hk => hk.2) (.int .i64 t574)) (fun _ hk => hk.2) (.int .i64 t575)) (fun _ h_ => h_.1)) (fun _ h_ => h_.1))) hb); replace HO558 := A_ (Kd.S_below (by (with_reducible repeat (first | apply Kd.S_alloc | apply Kd.S_drewN | apply Kd.S_drew)); exact (Kd.S_mono (Kd.S_mono (Kd.S_far (p := ⟨gb578, 3, none⟩) (Kd.S_far (p := ⟨gb578, 2, none⟩) (Kd.S_far (p := ⟨gb578, 1, none⟩) (Kd.S_far (p := ⟨gb578, 0, none⟩) (Kd.S_far (p := ⟨gb577, 1, none⟩) (Kd.S_far (p := ⟨gb577, 0, none⟩) (Kd.S_mono (Kd.S_mono HO558.out (fun k_ hk => (⟨hk, hk.2.2.2.2.2.2.2.2.2.2.2.2.2.2.1⟩ : _ ∧ k_ ≠ gb577))) (fun k_ hk => (⟨hk, hk.1.2.2.2.2.2.2.2.2.2.2.2.2.2.2.2⟩ : _ ∧ k_ ≠ gb578))) (fun _ hk => hk.1.2) (.slice Ao338 t566.length co338)) (fun _ hk => hk.1.2) (.slice Ao340 t569.length co340)) (fun _ hk => hk.2) (.int .i64 t572)) (fun _ hk => hk.2) (.int .i64 t573)) (fun _ hk => hk.2) (.int .i64 t574)) (fun _ hk => hk.2) (.int .i64 t575)) (fun _ h_ => h_.1)) (fun _ h_ => h_.1))) hb); replace HO561 := A_ (Kd.R_below (by (with_reducible repeat (first | apply Kd.R_alloc | apply Kd.R_drewN | apply Kd.R_drew)); exact (Kd.R_mono (Kd.R_mono (Kd.R_far (p := ⟨gb578, 3, none⟩) (Kd.R_far (p := ⟨gb578, 2, none⟩) (Kd.R_far (p := ⟨gb578, 1, none⟩) (Kd.R_far (p := ⟨gb578, 0, none⟩) (Kd.R_far (p := ⟨gb577, 1, none⟩) (Kd.R_far (p := ⟨gb577, 0, none⟩) (Kd.R_types (Kd.R_types HO561.out BK577.out (by decide)) BK578.out (by decide)) (fun _ hk => hk.1.2) (.slice Ao338 t566.length co338)) (fun _ hk => hk.1.2) (.slice Ao340 t569.length co340)) (fun _ hk => hk.2) (.int .i64 t572)) (fun _ hk => hk.2) (.int .i64 t573)) (fun _ hk => hk.2) (.int .i64 t574)) (fun _ hk => hk.2) (.int .i64 t575)) (fun _ h_ => h_.1)) (fun _ h_ => h_.1))) hb); replace HO565 := A_ (Kd.R_below (by (with_reducible repeat (first | apply Kd.R_alloc | apply Kd.R_drewN | apply Kd.R_drew)); exact (Kd.R_mono (Kd.R_mono (Kd.R_far (p := ⟨gb578, 3, none⟩) (Kd.R_far (p := ⟨gb578, 2, none⟩) (Kd.R_far (p := ⟨gb578, 1, none⟩) (Kd.R_far (p := ⟨gb578, 0, none⟩) (Kd.R_far (p := ⟨gb577, 1, none⟩) (Kd.R_far (p := ⟨gb577, 0, none⟩) (Kd.R_types (Kd.R_types HO565.out BK577.out (by decide)) BK578.out (by decide)) (fun _ hk => hk.1.2) (.slice Ao338 t566.length co338)) (fun _ hk => hk.1.2) (.slice Ao340 t569.length co340)) (fun _ hk => hk.2) (.int .i64 t572)) (fun _ hk => hk.2) (.int .i64 t573)) (fun _ hk => hk.2) (.int .i64 t574)) (fun _ hk => hk.2) (.int .i64 t575)) (fun _ h_ => h_.1)) (fun _ h_ => h_.1))) hb); replace HO568 := A_ (Kd.R_below (by (with_reducible repeat (first | apply Kd.R_alloc | apply Kd.R_drewN | apply Kd.R_drew)); exact (Kd.R_mono (Kd.R_mono (Kd.R_far (p := ⟨gb578, 3, none⟩) (Kd.R_far (p := ⟨gb578, 2, none⟩) (Kd.R_far (p := ⟨gb578, 1, none⟩) (Kd.R_far (p := ⟨gb578, 0, none⟩) (Kd.R_far (p := ⟨gb577, 1, none⟩) (Kd.R_far (p := ⟨gb577, 0, none⟩) (Kd.R_types (Kd.R_types HO568.out BK577.out (by decide)) BK578.out (by decide)) (fun _ hk => hk.1.2) (.slice Ao338 t566.length co338)) (fun _ hk => hk.1.2) (.slice Ao340 t569.length co340)) (fun _ hk => hk.2) (.int .i64 t572)) (fun _ hk => hk.2) (.int .i64 t573)) (fun _ hk => hk.2) (.int .i64 t574)) (fun _ hk => hk.2) (.int .i64 t575)) (fun _ h_ => h_.1)) (fun _ h_ => h_.1))) hb); replace HO571 := A_ (Kd.S_below (by (with_reducible repeat (first | apply Kd.S_alloc | apply Kd.S_drewN | apply Kd.S_drew)); exact (Kd.S_mono (Kd.S_mono (Kd.S_far (p := ⟨gb578, 3, none⟩) (Kd.S_far (p := ⟨gb578, 2, none⟩) (Kd.S_far (p := ⟨gb578, 1, none⟩) (Kd.S_far (p := ⟨gb578, 0, none⟩) (Kd.S_far (p := ⟨gb577, 1, none⟩) (Kd.S_far (p := ⟨gb577, 0, none⟩) (Kd.S_mono (Kd.S_mono HO571.out (fun k_ hk => (⟨hk, hk.2.2.2.2.2.2.2.2.2.2.2.2.2.2.1⟩ : _ ∧ k_ ≠ gb577))) (fun k_ hk => (⟨hk, hk.1.2.2.2.2.2.2.2.2.2.2.2.2.2.2.2⟩ : _ ∧ k_ ≠ gb578))) (fun _ hk => hk.1.2) (.slice Ao338 t566.length co338)) (fun _ hk => hk.1.2) (.slice Ao340 t569.length co340)) (fun _ hk => hk.2) (.int .i64 t572)) (fun _ hk => hk.2) (.int .i64 t573)) (fun _ hk => hk.2) (.int .i64 t574)) (fun _ hk => hk.2) (.int .i64 t575)) (fun _ h_ => h_.1)) (fun _ h_ => h_.1))) hb); replace BK465 := bb_ BK465 hb; replace BK466 := bb_ BK466 hb; replace BK494 := bb_ BK494 hb; replace BK495 := bb_ BK495 hb; replace BK522 := bb_ BK522 hb; replace BK577 := bq_ (o' := .cells #[.slice Ao338 t566.length co338, .slice Ao340 t569.length co340] 31 (0, 0)) BK577 hb; replace BK578 := bq_ (o' := .cells #[.int .i64 t572, .int .i64 t573, .int .i64 t574, .int .i64 t575] 74 (0, 0)) BK578 hb; replace HB := hs_ HB hb; (try clear hb); (try clear hb2); (try clear hk); (try clear hi); have hnb364 := NB578_465.out; have hnc364 := NB465_578.out; have hnb365 := NB578_466.out; have hnc365 := NB466_578.out; have hnb366 := NB578_495.out; have hnc366 := NB495_578.out; have hnb367 := NB578_522.out; have hnc367 := NB522_578.out; obtain ⟨hcz368_0, hcz368_1, hcz368_2, hcz368_3, hfz368_0, hfz368_1, hfz368_2, hfz368_3⟩ := cz4_ BK578; have hnb369 := NB495_465.out; have hnc369 := NB465_495.out; have hnb370 := NB495_466.out; have hnc370 := NB466_495.out; have hnb371 := NB495_522.out; have hnc371 := NB522_495.out; obtain ⟨hcz372_0, hcz372_1, hcz372_2, hcz372_3, hfz372_0, hfz372_1, hfz372_2, hfz372_3⟩ := cz4_ BK495) | (go_at_call 46; (with_reducible refine (laws_eqHelp.calls t572 t573 t574 t575 t489 t490 t491 t492 true _ A348.out).mono ?_); rintro e w373 ⟨rfl, hb⟩; replace HO_495000 := A_ (Kd.R_below (rb_ HO_495000.out) hb); replace HO_495001 := A_ (Kd.S_below (sb_ HO_495001.out) hb); replace HO_523000 := A_ (Kd.R_below (rb_ HO_523000.out) hb); replace HO_523001 := A_ (Kd.S_below (sb_ HO_523001.out) hb); replace HO555 := A_ (Kd.R_below (rb_ HO555.out) hb); replace HO558 := A_ (Kd.S_below (sb_ HO558.out) hb); replace HO561 := A_ (Kd.R_below (rb_ HO561.out) hb); replace HO565 := A_ (Kd.R_below (rb_ HO565.out) hb); replace HO568 := A_ (Kd.R_below (rb_ HO568.out) hb); replace HO571 := A_ (Kd.S_below (sb_ HO571.out) hb); replace BK465 := bb_ BK465 hb; replace BK466 := bb_ BK466 hb; replace BK494 := bb_ BK494 hb; replace BK495 := bb_ BK495 hb; replace BK522 := bb_ BK522 hb; replace BK577 := bb_ BK577 hb; replace BK578 := bb_ BK578 hb; replace HB := hs_ HB hb; (try clear hb); (try clear hb2); (try clear hk); (try clear hi)))
  go_meet
  case rel => exact ⟨_, ((t576 != t493)), rt_, H', ⟨by have := HJ35.out; have := HJ199.out; first | omega | exact Nat.le_refl _⟩, ⟨by (with_reducible repeat (first | apply Kd.R_alloc | apply Kd.R_drewN | apply Kd.R_drew)); exact Kd.R_mono HO_523000.out (fun _ hk => trivial)⟩, ⟨by (with_reducible repeat (first | apply Kd.S_alloc | apply Kd.S_drewN | apply Kd.S_drew)); exact Kd.S_mono HO_523001.out (fun _ hk => ⟨hk.2.2.2.2.2.2.2.2.1, hk.2.2.2.2.2.2.2.2.2.2.2.2.2.1⟩)⟩, ⟨bk_ BK522⟩, ⟨hb_ HB⟩⟩
 obtain rfl := Bool.eq_false_iff.mpr c349
 have H1 : (laws_FnExactBegin.j2 kj199 t550 true t551 t514n) = some r := by rw [if_neg (show ¬ (false = true) by decide)] at H; exact H
 exact absurd H1 (laws_FnExactBegin.j2_dead _ _ _ _ _)) : p := h
end Go.Proofs.Ytmkhghbalnadlaa.PFnExactBegin
