/- Contracts of functions of the program: each says that the call does what a plain Lean function tells. Made by programs of this session and of the kit. No condition beyond the hypotheses that each theorem names. -/
import Derived.Test.YtblpbhhomocfbaaPFnExactMeaningx0
import Derived.Test.YtblpbhhomocfbaaPFnExactMeaningx1
import Derived.Test.YtblpbhhomocfbaaPFnExactMeaningx2
import Derived.Test.YtblpbhhomocfbaaPFnExactMeaningx3
import Derived.Test.YtblpbhhomocfbaaPFnExactMeaningx4
namespace Go.Proofs.Ytblpbhhomocfbaa.PFnExactMeaning
open Go.RowKit Go.Proofs.YtblpbhhomocfbaaW.PrintWords Go.Proofs.YtblpbhhomocfbaaW.PrintLast Go.Proofs.YtblpbhhomocfbaaW.PrintMore
attribute [local go_sem] max2_int min2_int max_two min_two max_three min_three max_four min_four   -- for this text's walks alone
set_option linter.unusedVariables false
set_option linter.unusedSimpArgs false

/-! ### laws_markIntS: function 52 -/
def laws_markIntS.l0 : Nat → List Int → Int → Int → Option (Int × List Int)
  | 0, _, _, _ => none
  | k + 1, x0, x1, x5 => if x5 < (x0.length : Int) then (if 0 ≤ x5 then (laws_markIntS.l0 k (x0.set (x5 : Int).toNat x1) (wrap64 (x1 + 1)) (wrap64 (x5 + 1))) else (none)) else (some (x1, x0))
def laws_markIntS.f (k : Nat) (l0 : List Int) (a1 : Int) : Option (Int × List Int) := laws_markIntS.l0 k l0 a1 0
theorem laws_markIntS.mono_l : ∀ k, (∀ y0 y1 y2, LeO (laws_markIntS.l0 k y0 y1 y2) (laws_markIntS.l0 (k + 1) y0 y1 y2))
  | 0 => fun _ _ _ r h => by simp [laws_markIntS.l0] at h
  | k + 1 => by
    have ih0 := laws_markIntS.mono_l k
    · intro y0 y1 y2
      unfold laws_markIntS.l0
      repeat' first
      | (with_reducible exact ih0 _ _ _)
      | (with_reducible exact LeO.refl _)
      | (with_reducible exact LeO.none _)
      | (with_reducible refine LeO.ite ?_ ?_)
      | (with_reducible refine LeO.bind ?_ (fun _ => ?_))
      | exact ih0 _ _ _
      | exact LeO.none _
      | refine LeO.ite ?_ ?_
      | refine LeO.bind ?_ (fun _ => ?_)
theorem laws_markIntS.mono : ∀ a0 a1 k, LeO (laws_markIntS.f k a0 a1) (laws_markIntS.f (k + 1) a0 a1) := by
  intro a0 a1 k
  have ih0 := laws_markIntS.mono_l k
  unfold laws_markIntS.f
  repeat' first
      | (with_reducible exact ih0 _ _ _)
      | (with_reducible exact LeO.refl _)
      | (with_reducible exact LeO.none _)
      | (with_reducible refine LeO.ite ?_ ?_)
      | (with_reducible refine LeO.bind ?_ (fun _ => ?_))
      | exact ih0 _ _ _
      | exact LeO.none _
      | refine LeO.ite ?_ ?_
      | refine LeO.bind ?_ (fun _ => ?_)
set_option maxHeartbeats 8000000 in
set_option maxRecDepth 100000 in
theorem laws_markIntS.calls (k : Nat) (P0_ : Nat → Prop) (u9000_ : Value) (l0 : List Int) (a1 : Int) (r1 : Int) (r2 : List Int) (w0 w : World) (hB : Below w0.heap.size w0 w) (ho0 : Kd.R (Kd.int .i64) 3 w w0.heap.size P0_ u9000_ l0) (h : laws_markIntS.f k l0 a1 = some (r1, r2)) :
    Calls Try.prog 52 #[u9000_, .int .i64 a1] w fun e w' => e = .returned (.int .i64 r1) ∧ Kd.R (Kd.int .i64) 3 w' w0.heap.size (fun k_ => (P0_ k_ ∨ w.heap.size ≤ k_)) u9000_ r2 ∧ Below w0.heap.size w0 w' ∧ Kept w w' (fun k_ => P0_ k_) := by
  have HO0 := Aside0.mk (show Kd.R (Kd.int .i64) 3 w w0.heap.size (fun k_ => (P0_ k_ ∨ w.heap.size ≤ k_)) u9000_ l0 from Kd.R_mono ho0 (fun k_ hk => (.inl hk)))
  have HK := Aside0.mk (Kept.refl w (fun k_ => P0_ k_))
  have HW0 := Aside0.mk hB.size
  have HB := Aside0.mk hB
  clear hB
  have H : (laws_markIntS.l0 k l0 a1 0) = some (r1, r2) := h
  clear h
  have H' := Aside0.mk H
  clear H
  go_enter Try.func52, Try.ntmps52
  go_wp2
  go_loopg [1, 5] k (fun kq v1 v5 w' => ∃ (x0_1 : List Int) (x1_1 : Int) (x5_1 : Int), v1 = .int .i64 x1_1 ∧ v5 = .int .i64 x5_1 ∧ Aside0 (laws_markIntS.l0 kq x0_1 x1_1 x5_1 = some (r1, r2)) ∧ Aside0 (kq ≤ k) ∧ Aside0 (Kd.R (Kd.int .i64) 3 w' w0.heap.size (fun k_ => (P0_ k_ ∨ w.heap.size ≤ k_)) u9000_ x0_1) ∧ Aside0 (Kept w w' (fun k_ => P0_ k_)) ∧ Aside0 (Below w0.heap.size w0 w'))
  case atStart => exact ⟨(l0), (a1), (0), (by first | rfl | (simp; done) | (simp [*]; done)), (by first | rfl | (simp; done) | (simp [*]; done)), H', ⟨Nat.le_refl _⟩, ⟨by (with_reducible repeat (first | apply Kd.R_alloc | apply Kd.R_drewN | apply Kd.R_drew)); exact HO0.out⟩, ⟨by repeat (first | (with_reducible first | exact HK.out | apply Kept.alloc | apply Kept.drewN | apply Kept.drew) | exact HK.out)⟩, ⟨by repeat (first | (with_reducible first | exact HB.out | apply below_alloc | apply pw_below_drewN | apply below_drew1) | exact HB.out)⟩⟩
  case round =>
    clear H'
    try clear p2
    obtain ⟨x0_1, x1_1, x5_1, rfl, rfl, HA, HK1, HO_0, HK, HB⟩ := hrel
    cases gk with
    | zero => exact absurd HA.out (by simp [laws_markIntS.l0])
    | succ k1 =>
      have H := HA.out
      clear HA
      simp only [laws_markIntS.l0] at H
      by_cases c3 : x5_1 < (x0_1.length : Int)
      · rw [if_pos c3] at H
        have c3b0 : decide (x5_1 < (x0_1.length : Int)) = true := decide_eq_true c3
        clear c3
        by_cases c4 : 0 ≤ x5_1
        · rw [if_pos c4] at H
          have c4b0 : decide (0 ≤ x5_1) = true := decide_eq_true c4
          clear c4
          obtain ⟨y234, hy234⟩ : ∃ y_ : List Int, y_ = (x0_1.set (x5_1 : Int).toNat x1_1) := ⟨_, rfl⟩
          replace H : (laws_markIntS.l0 k1 y234 (wrap64 (x1_1 + 1)) (wrap64 (x5_1 + 1))) = some (r1, r2) := by first | (rw [hy234]; with_reducible exact H) | (have H2_ := (Option.bind_some _ _).symm.trans H; rw [hy234]; with_reducible exact H2_) | (have H2_ := (Option.bind_some _ _).symm.trans H; with_reducible exact H2_) | with_reducible exact H | (rw [hy234]; exact H) | exact H
          have Ny234 := Aside0.mk hy234
          clear hy234
          have H' := Aside0.mk H
          clear H
          obtain ⟨Ao6, co6, eo6⟩ := Kd.R_slice HO_0.out
          subst eo6
          have p5 : 0 ≤ (x5_1 : Int) := of_decide_eq_true (by first | (with_reducible assumption) | assumption)
          have q5 : (x5_1 : Int) < ((x0_1.length : Int) : Int) := of_decide_eq_true (by first | (with_reducible assumption) | assumption)
          obtain ⟨go5, co5, eo5, gb5, gl5, cl5, HG5⟩ := Kd.R_form HO_0.out (by omega)
          (first | cases eo5 | (injection eo5 with ea_ en_ ec_; (first | subst ea_ | (injection ea_ with ea_; subst ea_)); subst ec_; clear en_))
          have GB5 := Aside0.mk gb5
          have GG5 := Aside0.mk HG5
          clear gb5 gl5 HG5
          have HMgo5 := Aside0.mk (show (P0_ go5 ∨ w.heap.size ≤ go5) from (HO_0.out.1 _ rfl))
          obtain ⟨hx5_0, hf5_0⟩ := Kd.R_celln 0 HO_0.out (x5_1 : Int) p5 q5
          replace p5 := eq_true p5
          replace q5 := eq_true q5
          have HP7 := Kd.R_putg HO_0.out (x5_1 : Int) x1_1
          go_wp2_with (first | ((with_reducible refine gate_store (t := 3) (p := 15) rfl ?_); refine store_event (t := 3) (p := 15) (v := ?vo_w8) (w1 := (wr.setCell ⟨go5, (x5_1 : Int).toNat, none⟩ (.int .i64 x1_1))) ?hg ?ho ?hn ?hr ?_; (case ho => rfl); (case hg => rfl); (case hn => rfl); (case hr => first | (go_simp; done) | (go_simp; rfl)); intro w8 hw; have hg : wr.grownBy w8 (some go5) := (by rw [hw]; exact HP7.2); have hp_ : Kd.R (Kd.int .i64) 3 w8 w0.heap.size (fun k_ => (P0_ k_ ∨ w.heap.size ≤ k_)) (.slice (some ⟨go5, 0, none⟩) x0_1.length co6) y234 := (by rw [hw, Ny234.out]; exact HP7.1); clear HP7; have n0_ := Aside0.mk (hp_); have n1_ := Aside0.mk ((by rw [hw]; exact below_set (HB.out) GB5.out : Below w0.heap.size w0 w8)); have n2_ := Aside0.mk (Kept.of_grown (S := (fun k_ => P0_ k_)) hg (by repeat (first | (with_reducible first | exact HK.out | apply Kept.alloc | apply Kept.drewN | apply Kept.drew) | exact HK.out)) (fun k_ e_ => (HO_0.out.1 k_ e_))); clear HO_0; clear HB; clear HK; have HO_0 := n0_; have HB := n1_; have HK := n2_; clear n0_ n1_ n2_; clear hg hw hp_))
          go_roundg k1
          case measure => have := HK1.out; omega
          case rel => exact ⟨(y234), (wrap64 (x1_1 + 1)), (wrap64 (x5_1 + 1)), (by first | rfl | (simp; done) | (simp [*]; done)), (by first | rfl | (simp; done) | (simp [*]; done)), H', ⟨by have := HK1.out; omega⟩, ⟨by (with_reducible repeat (first | apply Kd.R_alloc | apply Kd.R_drewN | apply Kd.R_drew)); exact HO_0.out⟩, ⟨by repeat (first | (with_reducible first | exact HK.out | apply Kept.alloc | apply Kept.drewN | apply Kept.drew) | exact HK.out)⟩, ⟨by repeat (first | (with_reducible first | exact HB.out | apply below_alloc | apply pw_below_drewN | apply below_drew1) | exact HB.out)⟩⟩
        · rw [if_neg c4] at H
          exact absurd H (by simp)
      · rw [if_neg c3] at H
        have c3b0 : decide (x5_1 < (x0_1.length : Int)) = false := decide_eq_false c3
        clear c3
        simp only [Option.some.injEq, Prod.mk.injEq] at H
        obtain ⟨rfl, rfl⟩ := H
        obtain ⟨Ao9, co9, eo9⟩ := Kd.R_slice HO_0.out
        subst eo9
        go_wp2
        go_ret
        exact ⟨by first | rfl | (simp [errW_none, errW_some] <;> rfl) | (simp [*, errW_none, errW_some] <;> rfl), by (with_reducible repeat (first | apply Kd.R_alloc | apply Kd.R_drewN | apply Kd.R_drew)); exact HO_0.out, by repeat (first | (with_reducible first | exact HB.out | apply below_alloc | apply pw_below_drewN | apply below_drew1) | exact HB.out), by repeat (first | (with_reducible first | exact HK.out | apply Kept.alloc | apply Kept.drewN | apply Kept.drew) | exact HK.out)⟩

/-! ### laws_markEntryS: function 105 -/
def laws_markEntryS.l0 : Nat → List (S124) → Int → Int → Option (Int × (List (S124)))
  | 0, _, _, _ => none
  | k + 1, x0, x1, x5 => if x5 < (x0.length : Int) then (if 0 ≤ x5 then ((some (x0.set (x5 : Int).toNat (⟨x1, (rd_T124 x0 x5).f1, (rd_T124 x0 x5).f2⟩ : S124) : List (S124))).bind fun y235 => ((some (y235.set (x5 : Int).toNat (⟨(rd_T124 y235 x5).f0, wrap64 (x1 + 1), (rd_T124 y235 x5).f2⟩ : S124) : List (S124))).bind fun y236 => (laws_markEntryS.l0 k (y236.set (x5 : Int).toNat (⟨(rd_T124 y236 x5).f0, (rd_T124 y236 x5).f1, wrap64 ((wrap64 (x1 + 1)) + 1)⟩ : S124)) (wrap64 ((wrap64 ((wrap64 (x1 + 1)) + 1)) + 1)) (wrap64 (x5 + 1))))) else (none)) else (some (x1, x0))
def laws_markEntryS.f (k : Nat) (l0 : List (S124)) (a1 : Int) : Option (Int × (List (S124))) := laws_markEntryS.l0 k l0 a1 0
theorem laws_markEntryS.mono_l : ∀ k, (∀ y0 y1 y2, LeO (laws_markEntryS.l0 k y0 y1 y2) (laws_markEntryS.l0 (k + 1) y0 y1 y2))
  | 0 => fun _ _ _ r h => by simp [laws_markEntryS.l0] at h
  | k + 1 => by
    have ih0 := laws_markEntryS.mono_l k
    · intro y0 y1 y2
      unfold laws_markEntryS.l0
      repeat' first
      | (with_reducible exact ih0 _ _ _)
      | (with_reducible exact LeO.refl _)
      | (with_reducible exact LeO.none _)
      | (with_reducible refine LeO.ite ?_ ?_)
      | (with_reducible refine LeO.bind ?_ (fun _ => ?_))
      | exact ih0 _ _ _
      | exact LeO.none _
      | refine LeO.ite ?_ ?_
      | refine LeO.bind ?_ (fun _ => ?_)
theorem laws_markEntryS.mono : ∀ a0 a1 k, LeO (laws_markEntryS.f k a0 a1) (laws_markEntryS.f (k + 1) a0 a1) := by
  intro a0 a1 k
  have ih0 := laws_markEntryS.mono_l k
  unfold laws_markEntryS.f
  repeat' first
      | (with_reducible exact ih0 _ _ _)
      | (with_reducible exact LeO.refl _)
      | (with_reducible exact LeO.none _)
      | (with_reducible refine LeO.ite ?_ ?_)
      | (with_reducible refine LeO.bind ?_ (fun _ => ?_))
      | exact ih0 _ _ _
      | exact LeO.none _
      | refine LeO.ite ?_ ?_
      | refine LeO.bind ?_ (fun _ => ?_)
set_option maxHeartbeats 8000000 in
set_option maxRecDepth 100000 in
theorem laws_markEntryS.calls (k : Nat) (P0_ : Nat → Prop) (u9000_ : Value) (l0 : List (S124)) (a1 : Int) (r1 : Int) (r2 : List (S124)) (w0 w : World) (hB : Below w0.heap.size w0 w) (ho0 : Kd.R k124 124 w w0.heap.size P0_ u9000_ l0) (h : laws_markEntryS.f k l0 a1 = some (r1, r2)) :
    Calls Try.prog 105 #[u9000_, .int .i64 a1] w fun e w' => e = .returned (.int .i64 r1) ∧ Kd.R k124 124 w' w0.heap.size (fun k_ => (P0_ k_ ∨ w.heap.size ≤ k_)) u9000_ r2 ∧ Below w0.heap.size w0 w' ∧ Kept w w' (fun k_ => P0_ k_) := by
  have HO0 := Aside0.mk (show Kd.R k124 124 w w0.heap.size (fun k_ => (P0_ k_ ∨ w.heap.size ≤ k_)) u9000_ l0 from Kd.R_mono ho0 (fun k_ hk => (.inl hk)))
  have HK := Aside0.mk (Kept.refl w (fun k_ => P0_ k_))
  have HW0 := Aside0.mk hB.size
  have HB := Aside0.mk hB
  clear hB
  have H : (laws_markEntryS.l0 k l0 a1 0) = some (r1, r2) := h
  clear h
  have H' := Aside0.mk H
  clear H
  go_enter Try.func105, Try.ntmps105
  go_wp2
  go_loopg [1, 5] k (fun kq v1 v5 w' => ∃ (x0_1 : List (S124)) (x1_1 : Int) (x5_1 : Int), v1 = .int .i64 x1_1 ∧ v5 = .int .i64 x5_1 ∧ Aside0 (laws_markEntryS.l0 kq x0_1 x1_1 x5_1 = some (r1, r2)) ∧ Aside0 (kq ≤ k) ∧ Aside0 (Kd.R k124 124 w' w0.heap.size (fun k_ => (P0_ k_ ∨ w.heap.size ≤ k_)) u9000_ x0_1) ∧ Aside0 (Kept w w' (fun k_ => P0_ k_)) ∧ Aside0 (Below w0.heap.size w0 w'))
  case atStart => exact ⟨(l0), (a1), (0), (by first | rfl | (simp; done) | (simp [*]; done)), (by first | rfl | (simp; done) | (simp [*]; done)), H', ⟨Nat.le_refl _⟩, ⟨by (with_reducible repeat (first | apply Kd.R_alloc | apply Kd.R_drewN | apply Kd.R_drew)); exact HO0.out⟩, ⟨by repeat (first | (with_reducible first | exact HK.out | apply Kept.alloc | apply Kept.drewN | apply Kept.drew) | exact HK.out)⟩, ⟨by repeat (first | (with_reducible first | exact HB.out | apply below_alloc | apply pw_below_drewN | apply below_drew1) | exact HB.out)⟩⟩
  case round =>
    clear H'
    try clear c1
    try clear p2
    obtain ⟨x0_1, x1_1, x5_1, rfl, rfl, HA, HK1, HO_0, HK, HB⟩ := hrel
    cases gk with
    | zero => exact absurd HA.out (by simp [laws_markEntryS.l0])
    | succ k1 =>
      have H := HA.out
      clear HA
      simp only [laws_markEntryS.l0] at H
      by_cases c3 : x5_1 < (x0_1.length : Int)
      · rw [if_pos c3] at H
        have c3b0 : decide (x5_1 < (x0_1.length : Int)) = true := decide_eq_true c3
        clear c3
        by_cases c4 : 0 ≤ x5_1
        · rw [if_pos c4] at H
          have c4b0 : decide (0 ≤ x5_1) = true := decide_eq_true c4
          clear c4
          obtain ⟨y235, hy235⟩ : ∃ y_ : List (S124), y_ = (x0_1.set (x5_1 : Int).toNat (⟨x1_1, (rd_T124 x0_1 x5_1).f1, (rd_T124 x0_1 x5_1).f2⟩ : S124)) := ⟨_, rfl⟩
          replace H : ((some (y235.set (x5_1 : Int).toNat (⟨(rd_T124 y235 x5_1).f0, wrap64 (x1_1 + 1), (rd_T124 y235 x5_1).f2⟩ : S124) : List (S124))).bind fun y236 => (laws_markEntryS.l0 k1 (y236.set (x5_1 : Int).toNat (⟨(rd_T124 y236 x5_1).f0, (rd_T124 y236 x5_1).f1, wrap64 ((wrap64 (x1_1 + 1)) + 1)⟩ : S124)) (wrap64 ((wrap64 ((wrap64 (x1_1 + 1)) + 1)) + 1)) (wrap64 (x5_1 + 1)))) = some (r1, r2) := by first | (rw [hy235]; with_reducible exact H) | (have H2_ := (Option.bind_some _ _).symm.trans H; rw [hy235]; with_reducible exact H2_) | (have H2_ := (Option.bind_some _ _).symm.trans H; with_reducible exact H2_) | with_reducible exact H | (rw [hy235]; exact H) | exact H
          have Ny235 := Aside0.mk hy235
          clear hy235
          obtain ⟨y236, hy236⟩ : ∃ y_ : List (S124), y_ = (y235.set (x5_1 : Int).toNat (⟨(rd_T124 y235 x5_1).f0, wrap64 (x1_1 + 1), (rd_T124 y235 x5_1).f2⟩ : S124)) := ⟨_, rfl⟩
          replace H : (laws_markEntryS.l0 k1 (y236.set (x5_1 : Int).toNat (⟨(rd_T124 y236 x5_1).f0, (rd_T124 y236 x5_1).f1, wrap64 ((wrap64 (x1_1 + 1)) + 1)⟩ : S124)) (wrap64 ((wrap64 ((wrap64 (x1_1 + 1)) + 1)) + 1)) (wrap64 (x5_1 + 1))) = some (r1, r2) := by first | (rw [hy236]; with_reducible exact H) | (have H2_ := (Option.bind_some _ _).symm.trans H; rw [hy236]; with_reducible exact H2_) | (have H2_ := (Option.bind_some _ _).symm.trans H; with_reducible exact H2_) | with_reducible exact H | (rw [hy236]; exact H) | exact H
          have Ny236 := Aside0.mk hy236
          clear hy236
          obtain ⟨y237, hy237⟩ : ∃ y_ : List (S124), y_ = (y236.set (x5_1 : Int).toNat (⟨(rd_T124 y236 x5_1).f0, (rd_T124 y236 x5_1).f1, wrap64 ((wrap64 (x1_1 + 1)) + 1)⟩ : S124)) := ⟨_, rfl⟩
          replace H : (laws_markEntryS.l0 k1 y237 (wrap64 ((wrap64 ((wrap64 (x1_1 + 1)) + 1)) + 1)) (wrap64 (x5_1 + 1))) = some (r1, r2) := by first | (rw [hy237]; with_reducible exact H) | (have H2_ := (Option.bind_some _ _).symm.trans H; rw [hy237]; with_reducible exact H2_) | (have H2_ := (Option.bind_some _ _).symm.trans H; with_reducible exact H2_) | with_reducible exact H | (rw [hy237]; exact H) | exact H
          have Ny237 := Aside0.mk hy237
          clear hy237
          have H' := Aside0.mk H
          clear H
          obtain ⟨Ao8, co8, eo8⟩ := Kd.R_slice HO_0.out
          subst eo8
          have p5 : 0 ≤ (x5_1 : Int) := of_decide_eq_true (by first | (with_reducible assumption) | assumption)
          have q5 : (x5_1 : Int) < ((x0_1.length : Int) : Int) := of_decide_eq_true (by first | (with_reducible assumption) | assumption)
          obtain ⟨go5, co5, eo5, gb5, gl5, cl5, HG5⟩ := Kd.R_form HO_0.out (by omega)
          (first | cases eo5 | (injection eo5 with ea_ en_ ec_; (first | subst ea_ | (injection ea_ with ea_; subst ea_)); subst ec_; clear en_))
          have GB5 := Aside0.mk gb5
          have GG5 := Aside0.mk HG5
          clear gb5 gl5 HG5
          have HMgo5 := Aside0.mk (show (P0_ go5 ∨ w.heap.size ≤ go5) from (HO_0.out.1 _ rfl))
          obtain ⟨ce5, hcl5, hM5, hcc5, hfr5⟩ := Kd.R_elem HO_0.out z124 (x5_1 : Int) p5 q5
          obtain rfl := k124_openM hM5
          have hx5_0 : wr.cell? ⟨go5, (x5_1 : Int).toNat * 3, none⟩ = some (.int .i64 ((rd_T124 x0_1 x5_1).f0)) := hcc5 0 _ rfl
          have hx5_1 : wr.cell? ⟨go5, (x5_1 : Int).toNat * 3 + 1, none⟩ = some (.int .i64 ((rd_T124 x0_1 x5_1).f1)) := hcc5 1 _ rfl
          have hx5_2 : wr.cell? ⟨go5, (x5_1 : Int).toNat * 3 + 2, none⟩ = some (.int .i64 ((rd_T124 x0_1 x5_1).f2)) := hcc5 2 _ rfl
          have hf5_0 : wr.frozen? ⟨go5, (x5_1 : Int).toNat * 3, none⟩ = false := hfr5 0
          have hf5_1 : wr.frozen? ⟨go5, (x5_1 : Int).toNat * 3 + 1, none⟩ = false := hfr5 1
          have hf5_2 : wr.frozen? ⟨go5, (x5_1 : Int).toNat * 3 + 2, none⟩ = false := hfr5 2
          clear hcl5 hcc5 hfr5 hM5
          replace p5 := eq_true p5
          replace q5 := eq_true q5
          have HX9 := Aside0.mk (show Kd.R k124 124 wr w0.heap.size (fun k_ => (P0_ k_ ∨ w.heap.size ≤ k_)) (.slice (some ⟨go5, 0, none⟩) x0_1.length co8) x0_1 from (by (with_reducible repeat (first | apply Kd.R_alloc | apply Kd.R_drewN | apply Kd.R_drew)); exact HO_0.out))
          obtain ⟨ce9, hcl9, hM9, hcc9, hfr9⟩ := Kd.R_elem HX9.out z124 (x5_1 : Int) (of_decide_eq_true (by first | (with_reducible assumption) | assumption)) (by have h_ : (x5_1 : Int) < ((x0_1.length : Int) : Int) := of_decide_eq_true (by first | (with_reducible assumption) | assumption); first | exact h_ | (have e_ := (Kd.R_reads' HO_0.out).1; omega) | simpa using h_)
          obtain rfl := k124_openM hM9
          have HP9 := Kd.R_seg HX9.out (x5_1 : Int) (of_decide_eq_true (by first | (with_reducible assumption) | assumption)) (by have h_ : (x5_1 : Int) < ((x0_1.length : Int) : Int) := of_decide_eq_true (by first | (with_reducible assumption) | assumption); first | exact h_ | (have e_ := (Kd.R_reads' HO_0.out).1; omega) | simpa using h_) (seg := [.int .i64 x1_1]) (j := 0) hcl9 hcc9 (show 1 ≤ 3 from by decide) (x' := (⟨x1_1, (rd_T124 x0_1 x5_1).f1, (rd_T124 x0_1 x5_1).f2⟩ : S124)) (k124_mkM _ _ _ (⟨x1_1, (rd_T124 x0_1 x5_1).f1, (rd_T124 x0_1 x5_1).f2⟩ : S124) ) (fun _ hk => hk)
          have hx9_0 := hcc9 0 _ rfl
          (try simp only [show (k124).sz = 3 from rfl, Nat.mul_one, Nat.add_zero] at hx9_0)
          have hf9_0 := hfr9 0
          (try simp only [show (k124).sz = 3 from rfl, Nat.mul_one, Nat.add_zero] at hf9_0)
          clear hcl9 hcc9 hfr9 hM9
          go_wp2_with (first | ((with_reducible refine gate_store (t := 3) (p := 16) rfl ?_); refine store_event (t := 3) (p := 16) (v := ?vo_w10) (w1 := (wr.setCell ⟨go5, (x5_1 : Int).toNat * 3, none⟩ (.int .i64 x1_1))) ?hg ?ho ?hn ?hr ?_; (case ho => rfl); (case hg => rfl); (case hn => rfl); (case hr => first | (go_simp; done) | (go_simp; rfl)); intro w10 hw; have hg : wr.grownBy w10 (some go5) := (by rw [hw]; exact HP9.2); have hp_ : Kd.R k124 124 w10 w0.heap.size (fun k_ => (P0_ k_ ∨ w.heap.size ≤ k_)) (.slice (some ⟨go5, 0, none⟩) x0_1.length co8) y235 := (by rw [hw, Ny235.out]; exact HP9.1); clear HP9; have n0_ := Aside0.mk (hp_); have n1_ := Aside0.mk ((by rw [hw]; exact below_set (HB.out) GB5.out : Below w0.heap.size w0 w10)); have n2_ := Aside0.mk (Kept.of_grown (S := (fun k_ => P0_ k_)) hg (by repeat (first | (with_reducible first | exact HK.out | apply Kept.alloc | apply Kept.drewN | apply Kept.drew) | exact HK.out)) (fun k_ e_ => (HO_0.out.1 k_ e_))); clear HO_0; clear HB; clear HK; have HO_0 := n0_; have HB := n1_; have HK := n2_; clear n0_ n1_ n2_; clear hg hw hp_; have p6 : 0 ≤ (x5_1 : Int) := of_decide_eq_true (by first | (with_reducible assumption) | assumption); have q6 : (x5_1 : Int) < ((x0_1.length : Int) : Int) := of_decide_eq_true (by first | (with_reducible assumption) | assumption); obtain ⟨ce6, hcl6, hM6, hcc6, hfr6⟩ := Kd.R_elem HO_0.out z124 (x5_1 : Int) p6 q6; obtain rfl := k124_openM hM6; have hx6_0 : w10.cell? ⟨go5, (x5_1 : Int).toNat * 3, none⟩ = some (.int .i64 ((rd_T124 y235 x5_1).f0)) := hcc6 0 _ rfl; have hx6_1 : w10.cell? ⟨go5, (x5_1 : Int).toNat * 3 + 1, none⟩ = some (.int .i64 ((rd_T124 y235 x5_1).f1)) := hcc6 1 _ rfl; have hx6_2 : w10.cell? ⟨go5, (x5_1 : Int).toNat * 3 + 2, none⟩ = some (.int .i64 ((rd_T124 y235 x5_1).f2)) := hcc6 2 _ rfl; have hf6_0 : w10.frozen? ⟨go5, (x5_1 : Int).toNat * 3, none⟩ = false := hfr6 0; have hf6_1 : w10.frozen? ⟨go5, (x5_1 : Int).toNat * 3 + 1, none⟩ = false := hfr6 1; have hf6_2 : w10.frozen? ⟨go5, (x5_1 : Int).toNat * 3 + 2, none⟩ = false := hfr6 2; clear hcl6 hcc6 hfr6 hM6; replace p6 := eq_true p6; replace q6 := eq_true q6; have HX11 := Aside0.mk (show Kd.R k124 124 w10 w0.heap.size (fun k_ => (P0_ k_ ∨ w.heap.size ≤ k_)) (.slice (some ⟨go5, 0, none⟩) x0_1.length co8) y235 from (by (with_reducible repeat (first | apply Kd.R_alloc | apply Kd.R_drewN | apply Kd.R_drew)); exact HO_0.out)); obtain ⟨ce11, hcl11, hM11, hcc11, hfr11⟩ := Kd.R_elem HX11.out z124 (x5_1 : Int) (of_decide_eq_true (by first | (with_reducible assumption) | assumption)) (by have h_ : (x5_1 : Int) < ((x0_1.length : Int) : Int) := of_decide_eq_true (by first | (with_reducible assumption) | assumption); first | exact h_ | (have e_ := (Kd.R_reads' HO_0.out).1; omega) | simpa using h_); obtain rfl := k124_openM hM11; have HP11 := Kd.R_seg HX11.out (x5_1 : Int) (of_decide_eq_true (by first | (with_reducible assumption) | assumption)) (by have h_ : (x5_1 : Int) < ((x0_1.length : Int) : Int) := of_decide_eq_true (by first | (with_reducible assumption) | assumption); first | exact h_ | (have e_ := (Kd.R_reads' HO_0.out).1; omega) | simpa using h_) (seg := [.int .i64 (wrap64 (x1_1 + 1))]) (j := 1) hcl11 hcc11 (show 2 ≤ 3 from by decide) (x' := (⟨(rd_T124 y235 x5_1).f0, wrap64 (x1_1 + 1), (rd_T124 y235 x5_1).f2⟩ : S124)) (k124_mkM _ _ _ (⟨(rd_T124 y235 x5_1).f0, wrap64 (x1_1 + 1), (rd_T124 y235 x5_1).f2⟩ : S124) ) (fun _ hk => hk); have hx11_1 := hcc11 1 _ rfl; (try simp only [show (k124).sz = 3 from rfl, Nat.mul_one, Nat.add_zero] at hx11_1); have hf11_1 := hfr11 1; (try simp only [show (k124).sz = 3 from rfl, Nat.mul_one, Nat.add_zero] at hf11_1); clear hcl11 hcc11 hfr11 hM11) | ((with_reducible refine gate_store (t := 3) (p := 23) rfl ?_); refine store_event (t := 3) (p := 23) (v := ?vo_w12) (w1 := (w10.setCell ⟨go5, (x5_1 : Int).toNat * 3 + 1, none⟩ (.int .i64 (wrap64 (x1_1 + 1))))) ?hg ?ho ?hn ?hr ?_; (case ho => rfl); (case hg => rfl); (case hn => rfl); (case hr => first | (go_simp; done) | (go_simp; rfl)); intro w12 hw; have hg : w10.grownBy w12 (some go5) := (by rw [hw]; exact HP11.2); have hp_ : Kd.R k124 124 w12 w0.heap.size (fun k_ => (P0_ k_ ∨ w.heap.size ≤ k_)) (.slice (some ⟨go5, 0, none⟩) x0_1.length co8) y236 := (by rw [hw, Ny236.out]; exact HP11.1); clear HP11; have n0_ := Aside0.mk (hp_); have n1_ := Aside0.mk ((by rw [hw]; exact below_set (HB.out) GB5.out : Below w0.heap.size w0 w12)); have n2_ := Aside0.mk (Kept.of_grown (S := (fun k_ => P0_ k_)) hg (by repeat (first | (with_reducible first | exact HK.out | apply Kept.alloc | apply Kept.drewN | apply Kept.drew) | exact HK.out)) (fun k_ e_ => (HO_0.out.1 k_ e_))); clear HO_0; clear HB; clear HK; have HO_0 := n0_; have HB := n1_; have HK := n2_; clear n0_ n1_ n2_; clear hg hw hp_; have p7 : 0 ≤ (x5_1 : Int) := of_decide_eq_true (by first | (with_reducible assumption) | assumption); have q7 : (x5_1 : Int) < ((x0_1.length : Int) : Int) := of_decide_eq_true (by first | (with_reducible assumption) | assumption); obtain ⟨ce7, hcl7, hM7, hcc7, hfr7⟩ := Kd.R_elem HO_0.out z124 (x5_1 : Int) p7 q7; obtain rfl := k124_openM hM7; have hx7_0 : w12.cell? ⟨go5, (x5_1 : Int).toNat * 3, none⟩ = some (.int .i64 ((rd_T124 y236 x5_1).f0)) := hcc7 0 _ rfl; have hx7_1 : w12.cell? ⟨go5, (x5_1 : Int).toNat * 3 + 1, none⟩ = some (.int .i64 ((rd_T124 y236 x5_1).f1)) := hcc7 1 _ rfl; have hx7_2 : w12.cell? ⟨go5, (x5_1 : Int).toNat * 3 + 2, none⟩ = some (.int .i64 ((rd_T124 y236 x5_1).f2)) := hcc7 2 _ rfl; have hf7_0 : w12.frozen? ⟨go5, (x5_1 : Int).toNat * 3, none⟩ = false := hfr7 0; have hf7_1 : w12.frozen? ⟨go5, (x5_1 : Int).toNat * 3 + 1, none⟩ = false := hfr7 1; have hf7_2 : w12.frozen? ⟨go5, (x5_1 : Int).toNat * 3 + 2, none⟩ = false := hfr7 2; clear hcl7 hcc7 hfr7 hM7; replace p7 := eq_true p7; replace q7 := eq_true q7; have HX13 := Aside0.mk (show Kd.R k124 124 w12 w0.heap.size (fun k_ => (P0_ k_ ∨ w.heap.size ≤ k_)) (.slice (some ⟨go5, 0, none⟩) x0_1.length co8) y236 from (by (with_reducible repeat (first | apply Kd.R_alloc | apply Kd.R_drewN | apply Kd.R_drew)); exact HO_0.out)); obtain ⟨ce13, hcl13, hM13, hcc13, hfr13⟩ := Kd.R_elem HX13.out z124 (x5_1 : Int) (of_decide_eq_true (by first | (with_reducible assumption) | assumption)) (by have h_ : (x5_1 : Int) < ((x0_1.length : Int) : Int) := of_decide_eq_true (by first | (with_reducible assumption) | assumption); first | exact h_ | (have e_ := (Kd.R_reads' HO_0.out).1; omega) | simpa using h_); obtain rfl := k124_openM hM13; have HP13 := Kd.R_seg HX13.out (x5_1 : Int) (of_decide_eq_true (by first | (with_reducible assumption) | assumption)) (by have h_ : (x5_1 : Int) < ((x0_1.length : Int) : Int) := of_decide_eq_true (by first | (with_reducible assumption) | assumption); first | exact h_ | (have e_ := (Kd.R_reads' HO_0.out).1; omega) | simpa using h_) (seg := [.int .i64 (wrap64 ((wrap64 (x1_1 + 1)) + 1))]) (j := 2) hcl13 hcc13 (show 3 ≤ 3 from by decide) (x' := (⟨(rd_T124 y236 x5_1).f0, (rd_T124 y236 x5_1).f1, wrap64 ((wrap64 (x1_1 + 1)) + 1)⟩ : S124)) (k124_mkM _ _ _ (⟨(rd_T124 y236 x5_1).f0, (rd_T124 y236 x5_1).f1, wrap64 ((wrap64 (x1_1 + 1)) + 1)⟩ : S124) ) (fun _ hk => hk); have hx13_2 := hcc13 2 _ rfl; (try simp only [show (k124).sz = 3 from rfl, Nat.mul_one, Nat.add_zero] at hx13_2); have hf13_2 := hfr13 2; (try simp only [show (k124).sz = 3 from rfl, Nat.mul_one, Nat.add_zero] at hf13_2); clear hcl13 hcc13 hfr13 hM13) | ((with_reducible refine gate_store (t := 3) (p := 30) rfl ?_); refine store_event (t := 3) (p := 30) (v := ?vo_w14) (w1 := (w12.setCell ⟨go5, (x5_1 : Int).toNat * 3 + 2, none⟩ (.int .i64 (wrap64 ((wrap64 (x1_1 + 1)) + 1))))) ?hg ?ho ?hn ?hr ?_; (case ho => rfl); (case hg => rfl); (case hn => rfl); (case hr => first | (go_simp; done) | (go_simp; rfl)); intro w14 hw; have hg : w12.grownBy w14 (some go5) := (by rw [hw]; exact HP13.2); have hp_ : Kd.R k124 124 w14 w0.heap.size (fun k_ => (P0_ k_ ∨ w.heap.size ≤ k_)) (.slice (some ⟨go5, 0, none⟩) x0_1.length co8) y237 := (by rw [hw, Ny237.out]; exact HP13.1); clear HP13; have n0_ := Aside0.mk (hp_); have n1_ := Aside0.mk ((by rw [hw]; exact below_set (HB.out) GB5.out : Below w0.heap.size w0 w14)); have n2_ := Aside0.mk (Kept.of_grown (S := (fun k_ => P0_ k_)) hg (by repeat (first | (with_reducible first | exact HK.out | apply Kept.alloc | apply Kept.drewN | apply Kept.drew) | exact HK.out)) (fun k_ e_ => (HO_0.out.1 k_ e_))); clear HO_0; clear HB; clear HK; have HO_0 := n0_; have HB := n1_; have HK := n2_; clear n0_ n1_ n2_; clear hg hw hp_))
          go_roundg k1
          case measure => have := HK1.out; omega
          case rel => exact ⟨(y237), (wrap64 ((wrap64 ((wrap64 (x1_1 + 1)) + 1)) + 1)), (wrap64 (x5_1 + 1)), (by first | rfl | (simp; done) | (simp [*]; done)), (by first | rfl | (simp; done) | (simp [*]; done)), H', ⟨by have := HK1.out; omega⟩, ⟨by (with_reducible repeat (first | apply Kd.R_alloc | apply Kd.R_drewN | apply Kd.R_drew)); exact HO_0.out⟩, ⟨by repeat (first | (with_reducible first | exact HK.out | apply Kept.alloc | apply Kept.drewN | apply Kept.drew) | exact HK.out)⟩, ⟨by repeat (first | (with_reducible first | exact HB.out | apply below_alloc | apply pw_below_drewN | apply below_drew1) | exact HB.out)⟩⟩
        · rw [if_neg c4] at H
          exact absurd H (by simp)
      · rw [if_neg c3] at H
        have c3b0 : decide (x5_1 < (x0_1.length : Int)) = false := decide_eq_false c3
        clear c3
        simp only [Option.some.injEq, Prod.mk.injEq] at H
        obtain ⟨rfl, rfl⟩ := H
        obtain ⟨Ao15, co15, eo15⟩ := Kd.R_slice HO_0.out
        subst eo15
        go_wp2
        go_ret
        exact ⟨by first | rfl | (simp [errW_none, errW_some] <;> rfl) | (simp [*, errW_none, errW_some] <;> rfl), by (with_reducible repeat (first | apply Kd.R_alloc | apply Kd.R_drewN | apply Kd.R_drew)); exact HO_0.out, by repeat (first | (with_reducible first | exact HB.out | apply below_alloc | apply pw_below_drewN | apply below_drew1) | exact HB.out), by repeat (first | (with_reducible first | exact HK.out | apply Kept.alloc | apply Kept.drewN | apply Kept.drew) | exact HK.out)⟩

/-! ### laws_markDescS: function 51 (by hand: a row of structs with rows is marked, and their rows) -/
theorem md_at {W : World} {base g n cap : Nat} {ok : Nat → Prop} {xs : List S122} (h : Kd.S k122 122 W base ok (.slice (some ⟨g, 0, none⟩) n cap) xs) (i : Int) (h0 : 0 ≤ i) (h1 : i < (xs.length : Int)) :
    ∃ A2 c2 A4 c4, W.cell? ⟨g, i.toNat * 5, none⟩ = some (.int .i64 (rd_T122 xs i).f0) ∧ W.cell? ⟨g, i.toNat * 5 + 1, none⟩ = some (.int .i64 (rd_T122 xs i).f1) ∧ W.cell? ⟨g, i.toNat * 5 + 2, none⟩ = some (.slice A2 (rd_T122 xs i).f2.length c2) ∧ W.cell? ⟨g, i.toNat * 5 + 3, none⟩ = some (.int .i64 (rd_T122 xs i).f3.f0) ∧ W.cell? ⟨g, i.toNat * 5 + 4, none⟩ = some (.slice A4 (rd_T122 xs i).f3.f1.length c4) ∧
      (W.frozen? ⟨g, i.toNat * 5, none⟩ = false ∧ W.frozen? ⟨g, i.toNat * 5 + 1, none⟩ = false ∧ W.frozen? ⟨g, i.toNat * 5 + 3, none⟩ = false) ∧
      k124.R 124 W base (fun k => some k = (Value.slice A2 (rd_T122 xs i).f2.length c2).ownBlock) (.slice A2 (rd_T122 xs i).f2.length c2) (rd_T122 xs i).f2 ∧ (∀ k, some k = (Value.slice A2 (rd_T122 xs i).f2.length c2).ownBlock → ok k) ∧
      (Kd.int .i64).R 3 W base (fun k => some k = (Value.slice A4 (rd_T122 xs i).f3.f1.length c4).ownBlock) (.slice A4 (rd_T122 xs i).f3.f1.length c4) (rd_T122 xs i).f3.f1 ∧ (∀ k, some k = (Value.slice A4 (rd_T122 xs i).f3.f1.length c4).ownBlock → ok k) ∧
      (∀ W1 y, Kept W W1 (fun k => some k = (Value.slice A2 (rd_T122 xs i).f2.length c2).ownBlock) → k124.R 124 W1 base (fun k => some k = (Value.slice A2 (rd_T122 xs i).f2.length c2).ownBlock) (.slice A2 (rd_T122 xs i).f2.length c2) y →
        Kd.S k122 122 W1 base ok (.slice (some ⟨g, 0, none⟩) n cap) (xs.set i.toNat ⟨(rd_T122 xs i).f0, (rd_T122 xs i).f1, y, (rd_T122 xs i).f3⟩)) ∧
      (∀ W1 y, Kept W W1 (fun k => some k = (Value.slice A4 (rd_T122 xs i).f3.f1.length c4).ownBlock) → (Kd.int .i64).R 3 W1 base (fun k => some k = (Value.slice A4 (rd_T122 xs i).f3.f1.length c4).ownBlock) (.slice A4 (rd_T122 xs i).f3.f1.length c4) y →
        Kd.S k122 122 W1 base ok (.slice (some ⟨g, 0, none⟩) n cap) (xs.set i.toNat ⟨(rd_T122 xs i).f0, (rd_T122 xs i).f1, (rd_T122 xs i).f2, ⟨(rd_T122 xs i).f3.f0, y⟩⟩)) ∧
      (∀ v, Kd.S k122 122 (W.setCell ⟨g, i.toNat * 5, none⟩ (.int .i64 v)) base ok (.slice (some ⟨g, 0, none⟩) n cap) (xs.set i.toNat ⟨v, (rd_T122 xs i).f1, (rd_T122 xs i).f2, (rd_T122 xs i).f3⟩) ∧ W.grownBy (W.setCell ⟨g, i.toNat * 5, none⟩ (.int .i64 v)) (some g)) ∧
      (∀ v, Kd.S k122 122 (W.setCell ⟨g, i.toNat * 5 + 1, none⟩ (.int .i64 v)) base ok (.slice (some ⟨g, 0, none⟩) n cap) (xs.set i.toNat ⟨(rd_T122 xs i).f0, v, (rd_T122 xs i).f2, (rd_T122 xs i).f3⟩) ∧ W.grownBy (W.setCell ⟨g, i.toNat * 5 + 1, none⟩ (.int .i64 v)) (some g)) ∧
      (∀ v, Kd.S k122 122 (W.setCell ⟨g, i.toNat * 5 + 3, none⟩ (.int .i64 v)) base ok (.slice (some ⟨g, 0, none⟩) n cap) (xs.set i.toNat ⟨(rd_T122 xs i).f0, (rd_T122 xs i).f1, (rd_T122 xs i).f2, ⟨v, (rd_T122 xs i).f3.f1⟩⟩) ∧ W.grownBy (W.setCell ⟨g, i.toNat * 5 + 3, none⟩ (.int .i64 v)) (some g)) := by
  have hn := (Kd.S_reads' h).1
  obtain ⟨oki, c, hcl, hM, hcc, hfr, hok, hH⟩ := Kd.S_elem h z122 i h0 (by omega)
  obtain ⟨v2, v4, rfl, g2, g4⟩ := k122_openM (x := rd_T122 xs i) hM
  obtain ⟨A2, c2, rfl⟩ := Kd.R_slice g2
  obtain ⟨A4, c4, rfl⟩ := Kd.R_slice g4
  have t2 := Kd.R_tight rfl g2
  have t4 := Kd.R_tight rfl g4
  have ne24 : ∀ k, some k = (Value.slice A2 (rd_T122 xs i).f2.length c2).ownBlock → ¬ some k = (Value.slice A4 (rd_T122 xs i).f3.f1.length c4).ownBlock := by
    intro k h2 h4
    obtain ⟨x2, e2⟩ := Kd.R_typed g2 k h2.symm
    obtain ⟨x4, e4⟩ := Kd.R_typed g4 k h4.symm
    rw [e2] at e4
    injection e4 with e4
    injection e4 with _ e4
    exact absurd e4 (by decide)
  refine ⟨A2, c2, A4, c4, hcc 0 _ rfl, hcc 1 _ rfl, hcc 2 _ rfl, hcc 3 _ rfl, hcc 4 _ rfl, ⟨hfr 0, hfr 1, hfr 3⟩, t2, fun k hk => (hok k (g2.1 k hk.symm)).1, t4, fun k hk => (hok k (g4.1 k hk.symm)).1, fun W1 y hk hy => ?_, fun W1 y hk hy => ?_, fun v => ?_, fun v => ?_, fun v => ?_⟩
  · have hH1 := Kd.H_kept hH hk (fun k _ hn h2 => hn (g2.1 k h2.symm))
    have g4' := Kd.R_kept t4 hk (fun k h4 h2 => ne24 k h2 h4)
    obtain ⟨A', c', e'⟩ := Kd.R_slice hy
    exact Kd.H_back hH1 (k122_mkM W1 base oki ⟨(rd_T122 xs i).f0, (rd_T122 xs i).f1, y, (rd_T122 xs i).f3⟩ (Kd.R_mono hy (fun k hk => g2.1 k hk.symm)) (Kd.R_mono g4' (fun k hk => g4.1 k hk.symm))) (fun _ hk => hk)
  · have hH1 := Kd.H_kept hH hk (fun k _ hn h2 => hn (g4.1 k h2.symm))
    have g2' := Kd.R_kept t2 hk (fun k h2 h4 => ne24 k h2 h4)
    exact Kd.H_back hH1 (k122_mkM W1 base oki ⟨(rd_T122 xs i).f0, (rd_T122 xs i).f1, (rd_T122 xs i).f2, ⟨(rd_T122 xs i).f3.f0, y⟩⟩ (Kd.R_mono g2' (fun k hk => g2.1 k hk.symm)) (Kd.R_mono hy (fun k hk => g4.1 k hk.symm))) (fun _ hk => hk)
  · exact Kd.S_seg0 (seg := [.int .i64 v]) (j := 0) (okp := oki) hH h0 (by omega) (Nat.le_of_ble_eq_true rfl) (k122_mkM W base oki ⟨v, (rd_T122 xs i).f1, (rd_T122 xs i).f2, (rd_T122 xs i).f3⟩ g2 g4) (fun _ hk => hk)
  · exact Kd.S_seg0 (seg := [.int .i64 v]) (j := 1) (okp := oki) hH h0 (by omega) (Nat.le_of_ble_eq_true rfl) (k122_mkM W base oki ⟨(rd_T122 xs i).f0, v, (rd_T122 xs i).f2, (rd_T122 xs i).f3⟩ g2 g4) (fun _ hk => hk)
  · exact Kd.S_seg0 (seg := [.int .i64 v]) (j := 3) (okp := oki) hH h0 (by omega) (Nat.le_of_ble_eq_true rfl) (k122_mkM W base oki ⟨(rd_T122 xs i).f0, (rd_T122 xs i).f1, (rd_T122 xs i).f2, ⟨v, (rd_T122 xs i).f3.f1⟩⟩ g2 g4) (fun _ hk => hk)
def laws_markDescS.l0 : Nat → List S122 → Int → Int → Option (Int × List S122)
  | 0, _, _, _ => none
  | k + 1, x0, x1, x5 => if x5 < (x0.length : Int) then (if 0 ≤ x5 then ((laws_markEntryS.f k (rd_T122 x0 x5).f2 (wrap64 ((wrap64 (x1 + 1)) + 1))).bind fun p => ((laws_markIntS.f k (rd_T122 x0 x5).f3.f1 (wrap64 (p.1 + 1))).bind fun q => (laws_markDescS.l0 k (x0.set (x5 : Int).toNat ⟨x1, wrap64 (x1 + 1), p.2, ⟨p.1, q.2⟩⟩) q.1 (wrap64 (x5 + 1))))) else none) else (some (x1, x0))
def laws_markDescS.g (k : Nat) (l0 : List S122) (a1 : Int) : Option (Int × List S122) := laws_markDescS.l0 k l0 a1 0
theorem laws_markDescS.mono_l : ∀ k, (∀ y0 y1 y2, LeO (laws_markDescS.l0 k y0 y1 y2) (laws_markDescS.l0 (k + 1) y0 y1 y2))
  | 0 => fun _ _ _ r h => by simp [laws_markDescS.l0] at h
  | k + 1 => by
    have ih0 := laws_markDescS.mono_l k
    intro y0 y1 y2
    unfold laws_markDescS.l0
    repeat' first | (with_reducible first | apply ih0 | apply laws_markEntryS.mono | apply laws_markIntS.mono | apply LeO.refl | apply LeO.none | apply LeO.ite | refine LeO.bind ?_ (fun _ => ?_)) | apply ih0 | apply laws_markEntryS.mono | apply laws_markIntS.mono | apply LeO.none | apply LeO.ite | refine LeO.bind ?_ (fun _ => ?_)
theorem laws_markDescS.monog : ∀ a0 a1 k, LeO (laws_markDescS.g k a0 a1) (laws_markDescS.g (k + 1) a0 a1) := fun a0 a1 k => laws_markDescS.mono_l k a0 a1 0
theorem rd_set_T122 (xs : List S122) (i : Int) (h0 : 0 ≤ i) (h1 : i < (xs.length : Int)) (x : S122) : rd_T122 (xs.set i.toNat x) i = x := by
  have : i.toNat < xs.length := by omega
  simp [rd_T122, List.getD_eq_getElem?_getD, this]
set_option maxHeartbeats 8000000 in
set_option maxRecDepth 100000 in
theorem laws_markDescS.own (k : Nat) (P0_ : Nat → Prop) (u9000_ : Value) (l0 : List S122) (a1 : Int) (r1 : Int) (r2 : List S122) (w0 w : World) (hB : Below w0.heap.size w0 w) (ho0 : Kd.S k122 122 w w0.heap.size P0_ u9000_ l0) (h : laws_markDescS.g k l0 a1 = some (r1, r2)) :
    Calls Try.prog 51 #[u9000_, .int .i64 a1] w fun e w' => e = .returned (.int .i64 r1) ∧ Kd.S k122 122 w' w0.heap.size P0_ u9000_ r2 ∧ Below w0.heap.size w0 w' ∧ Kept w w' P0_ := by
  obtain ⟨Au, cu, rfl⟩ := Kd.S_slice ho0
  have HO_0 := Aside0.mk ho0
  have HK := Aside0.mk (Kept.refl w P0_)
  have HB := Aside0.mk hB
  clear hB ho0
  have H' := Aside0.mk (show laws_markDescS.l0 k l0 a1 0 = some (r1, r2) from h)
  clear h
  go_enter Try.func51, Try.ntmps51
  go_wp2
  go_loopg [1, 5] k (fun kq v1 v5 w' => ∃ (x0_1 : List S122) (x1_1 : Int) (x5_1 : Int), v1 = .int .i64 x1_1 ∧ v5 = .int .i64 x5_1 ∧ Aside0 (laws_markDescS.l0 kq x0_1 x1_1 x5_1 = some (r1, r2)) ∧ Aside0 (kq ≤ k) ∧ Aside0 (x0_1.length = l0.length) ∧ Aside0 (Kd.S k122 122 w' w0.heap.size P0_ (.slice Au l0.length cu) x0_1) ∧ Aside0 (Kept w w' P0_) ∧ Aside0 (Below w0.heap.size w0 w'))
  case atStart => exact ⟨l0, a1, 0, (by first | rfl | (simp; done) | (simp [*]; done)), (by first | rfl | (simp; done) | (simp [*]; done)), H', ⟨Nat.le_refl _⟩, ⟨rfl⟩, ⟨by (with_reducible repeat (first | apply Kd.S_alloc | apply Kd.S_drewN | apply Kd.S_drew)); exact HO_0.out⟩, ⟨by repeat (first | (with_reducible first | exact HK.out | apply Kept.alloc | apply Kept.drewN | apply Kept.drew) | exact HK.out)⟩, ⟨by repeat (first | (with_reducible first | exact HB.out | apply below_alloc | apply pw_below_drewN | apply below_drew1) | exact HB.out)⟩⟩
  case round =>
    clear H'
    obtain ⟨x0_1, x1_1, x5_1, rfl, rfl, HA, HK1, HLn, HO_0, HK, HB⟩ := hrel
    cases gk with
    | zero => exact absurd HA.out (by simp [laws_markDescS.l0])
    | succ k1 =>
      have H := HA.out
      clear HA
      simp only [laws_markDescS.l0] at H
      by_cases c3 : x5_1 < (x0_1.length : Int)
      · rw [if_pos c3] at H
        by_cases c4 : 0 ≤ x5_1
        · rw [if_pos c4] at H
          have c3' : x5_1 < (l0.length : Int) := by rw [← HLn.out]; exact c3
          have c3b0 : decide (x5_1 < (l0.length : Int)) = true := decide_eq_true c3'
          have c4b0 : decide (0 ≤ x5_1) = true := decide_eq_true c4
          obtain ⟨go, cap_, eo, gb, gl, cl, HG⟩ := Kd.S_form HO_0.out (by omega)
          obtain ⟨ea, -, -⟩ := Value.slice.inj eo
          subst ea
          clear eo cl HG gl
          have GB := Aside0.mk gb
          have HPg := Aside0.mk ((Kd.S_R HO_0.out).1 go rfl)
          clear gb
          have p5 := eq_true c4
          have q5 := eq_true c3'
          generalize he : rd_T122 x0_1 x5_1 = e at H
          obtain ⟨⟨pa, pb⟩, A1, H⟩ := Option.bind_eq_some_iff.1 H
          obtain ⟨⟨qa, qb⟩, A2, H⟩ := Option.bind_eq_some_iff.1 H
          have HE := Aside0.mk A1
          have HI := Aside0.mk A2
          have H' := Aside0.mk H
          have C3 := Aside0.mk c3
          have C4 := Aside0.mk c4
          clear A1 A2 H c3 c4 c3'
          have D := md_at HO_0.out x5_1 C4.out C3.out
          rw [he] at D
          obtain ⟨A2, c2, A4, c4, hx0, -, -, -, -, ⟨hf0, -, -⟩, -, -, -, -, -, -, hs, -, -⟩ := D
          have HP := hs x1_1
          clear hs
          go_wp2_with (first
            | ((with_reducible refine gate_store (t := 3) (p := 16) rfl ?_); refine store_event (t := 3) (p := 16) (v := ?vo_w10) (w1 := (wr.setCell ⟨go, (x5_1 : Int).toNat * 5, none⟩ (.int .i64 x1_1))) ?hg ?ho ?hn ?hr ?_; (case ho => rfl); (case hg => rfl); (case hn => rfl); (case hr => first | (go_simp; done) | (go_simp; rfl)); intro w10 hw; have hg := HP.2; have hp := HP.1; rw [← hw] at hg hp; clear HO_0 HP hx0 hf0; replace HK := Aside0.mk (Kept.of_grown hg HK.out (fun k_ e_ => .inl (by injection e_ with e_; exact e_ ▸ HPg.out))); replace HB := Aside0.mk (show Below w0.heap.size w0 w10 from (by rw [hw]; exact below_set HB.out GB.out)); have HO_1 := Aside0.mk hp; clear hg hp hw; have D := md_at HO_1.out x5_1 C4.out (by rw [List.length_set]; exact C3.out); simp only [rd_set_T122 x0_1 x5_1 C4.out C3.out, List.set_set] at D; obtain ⟨A2, c2, A4, c4, -, hx1, -, -, -, ⟨-, hf1, -⟩, -, -, -, -, -, -, -, hs, -⟩ := D; have HP := hs (wrap64 (x1_1 + 1)); clear hs)
            | ((with_reducible refine gate_store (t := 3) (p := 23) rfl ?_); refine store_event (t := 3) (p := 23) (v := ?vo_w11) (w1 := (w10.setCell ⟨go, (x5_1 : Int).toNat * 5 + 1, none⟩ (.int .i64 (wrap64 (x1_1 + 1))))) ?hg ?ho ?hn ?hr ?_; (case ho => rfl); (case hg => rfl); (case hn => rfl); (case hr => first | (go_simp; done) | (go_simp; rfl)); intro w11 hw; have hg := HP.2; have hp := HP.1; rw [← hw] at hg hp; clear HO_1 HP hx1 hf1; replace HK := Aside0.mk (Kept.of_grown hg HK.out (fun k_ e_ => .inl (by injection e_ with e_; exact e_ ▸ HPg.out))); replace HB := Aside0.mk (show Below w0.heap.size w0 w11 from (by rw [hw]; exact below_set HB.out GB.out)); have HO_2 := Aside0.mk hp; clear hg hp hw; have D := md_at HO_2.out x5_1 C4.out (by rw [List.length_set]; exact C3.out); simp only [rd_set_T122 x0_1 x5_1 C4.out C3.out, List.set_set] at D; obtain ⟨B2, d2, B4, d4, -, -, hx2, -, -, -, ht2, hok2, -, -, hb2, -, -, -, -⟩ := D; have HT2 := Aside0.mk ht2; have HB2 := Aside0.mk hb2; have HO2 := Aside0.mk hok2; clear ht2 hb2 hok2)
            | ((with_reducible refine gate_callee (f := 105) rfl ?_); refine goesL_ (some 32) rfl rfl Try.func105 (by kernel_rfl) rfl #[.slice B2 e.f2.length d2, .int .i64 (wrap64 ((wrap64 (x1_1 + 1)) + 1))] rfl (by (try simp only [List.map_toArray, List.map_cons, List.map_nil]); first | done | rfl) ?_; (with_reducible refine (laws_markEntryS.calls k1 (fun k_ => some k_ = (.slice B2 e.f2.length d2 : Value).ownBlock) (.slice B2 e.f2.length d2) e.f2 (wrap64 ((wrap64 (x1_1 + 1)) + 1)) pa pb w0 _ ?side1 ?side2 HE.out).mono ?_); (case side1 => exact HB.out); (case side2 => exact HT2.out); rintro e_ w12 ⟨rfl, hy, hb, hk⟩; refine ⟨_, rfl, ?_⟩; have hp := HB2.out w12 pb hk (Kd.R_tight rfl hy); clear HO_2 hx2 HB2 HT2; replace HK := Aside0.mk (HK.out.then_ hk (fun k_ e_ => .inl (HO2.out k_ e_))); replace HB := Aside0.mk hb; have HO_3 := Aside0.mk hp; clear hb hk hp hy HO2; have D := md_at HO_3.out x5_1 C4.out (by rw [List.length_set]; exact C3.out); simp only [rd_set_T122 x0_1 x5_1 C4.out C3.out, List.set_set] at D; obtain ⟨A2, c2, A4, c4, -, -, -, hx3, -, ⟨-, -, hf3⟩, -, -, -, -, -, -, -, -, hs⟩ := D; have HP := hs pa; clear hs)
            | ((with_reducible refine gate_store (t := 3) (p := 38) rfl ?_); refine store_event (t := 3) (p := 38) (v := ?vo_w13) (w1 := (w12.setCell ⟨go, (x5_1 : Int).toNat * 5 + 3, none⟩ (.int .i64 pa))) ?hg ?ho ?hn ?hr ?_; (case ho => rfl); (case hg => rfl); (case hn => rfl); (case hr => first | (go_simp; done) | (go_simp; rfl)); intro w13 hw; have hg := HP.2; have hp := HP.1; rw [← hw] at hg hp; clear HO_3 HP hx3 hf3; replace HK := Aside0.mk (Kept.of_grown hg HK.out (fun k_ e_ => .inl (by injection e_ with e_; exact e_ ▸ HPg.out))); replace HB := Aside0.mk (show Below w0.heap.size w0 w13 from (by rw [hw]; exact below_set HB.out GB.out)); have HO_4 := Aside0.mk hp; clear hg hp hw; have D := md_at HO_4.out x5_1 C4.out (by rw [List.length_set]; exact C3.out); simp only [rd_set_T122 x0_1 x5_1 C4.out C3.out, List.set_set] at D; obtain ⟨B2, d2, B4, d4, -, -, -, -, hx4, -, -, -, ht4, hok4, -, hb4, -, -, -⟩ := D; have HT4 := Aside0.mk ht4; have HB4 := Aside0.mk hb4; have HO4 := Aside0.mk hok4; clear ht4 hb4 hok4)
            | ((with_reducible refine gate_callee (f := 52) rfl ?_); refine goesL_ (some 48) rfl rfl Try.func52 (by kernel_rfl) rfl #[.slice B4 e.f3.f1.length d4, .int .i64 (wrap64 (pa + 1))] rfl (by (try simp only [List.map_toArray, List.map_cons, List.map_nil]); first | done | rfl) ?_; (with_reducible refine (laws_markIntS.calls k1 (fun k_ => some k_ = (.slice B4 e.f3.f1.length d4 : Value).ownBlock) (.slice B4 e.f3.f1.length d4) e.f3.f1 (wrap64 (pa + 1)) qa qb w0 _ ?side1 ?side2 HI.out).mono ?_); (case side1 => exact HB.out); (case side2 => exact HT4.out); rintro e_ w14 ⟨rfl, hy, hb, hk⟩; refine ⟨_, rfl, ?_⟩; have hp := HB4.out w14 qb hk (Kd.R_tight rfl hy); clear HO_4 hx4 HB4 HT4; replace HK := Aside0.mk (HK.out.then_ hk (fun k_ e_ => .inl (HO4.out k_ e_))); replace HB := Aside0.mk hb; have HO_5 := Aside0.mk hp; clear hb hk hp hy HO4))
          go_roundg k1
          case measure => have := HK1.out; omega
          case rel => exact ⟨_, qa, (wrap64 (x5_1 + 1)), (by first | rfl | (simp; done) | (simp [*]; done)), (by first | rfl | (simp; done) | (simp [*]; done)), H', ⟨by have := HK1.out; omega⟩, ⟨by rw [List.length_set]; exact HLn.out⟩, ⟨by (with_reducible repeat (first | apply Kd.S_alloc | apply Kd.S_drewN | apply Kd.S_drew)); exact HO_5.out⟩, ⟨by repeat (first | (with_reducible first | exact HK.out | apply Kept.alloc | apply Kept.drewN | apply Kept.drew) | exact HK.out)⟩, ⟨by repeat (first | (with_reducible first | exact HB.out | apply below_alloc | apply pw_below_drewN | apply below_drew1) | exact HB.out)⟩⟩
        · rw [if_neg c4] at H
          exact absurd H (by simp)
      · rw [if_neg c3] at H
        have c3b0 : decide (x5_1 < (l0.length : Int)) = false := decide_eq_false (by rw [← HLn.out]; exact c3)
        clear c3
        simp only [Option.some.injEq, Prod.mk.injEq] at H
        obtain ⟨rfl, rfl⟩ := H
        go_wp2
        go_ret
        exact ⟨by first | rfl | (simp [errW_none, errW_some] <;> rfl) | (simp [*, errW_none, errW_some] <;> rfl), by (with_reducible repeat (first | apply Kd.S_alloc | apply Kd.S_drewN | apply Kd.S_drew)); exact HO_0.out, by repeat (first | (with_reducible first | exact HB.out | apply below_alloc | apply pw_below_drewN | apply below_drew1) | exact HB.out), by repeat (first | (with_reducible first | exact HK.out | apply Kept.alloc | apply Kept.drewN | apply Kept.drew) | exact HK.out)⟩
def laws_markDescS.f (k : Nat) (l0 : List S122) (a1 : Int) : Option Int := (laws_markDescS.g k l0 a1).map (·.1)
theorem laws_markDescS.mono : ∀ a0 a1 k, LeO (laws_markDescS.f k a0 a1) (laws_markDescS.f (k + 1) a0 a1) := by
  intro a0 a1 k r h
  unfold laws_markDescS.f at h ⊢
  obtain ⟨p, hp, rfl⟩ := Option.map_eq_some_iff.1 h
  rw [laws_markDescS.monog a0 a1 k p hp]
  rfl
theorem laws_markDescS.of_f {k : Nat} {l0 : List S122} {a1 r : Int} (h : laws_markDescS.f k l0 a1 = some r) : ∃ l, laws_markDescS.g k l0 a1 = some (r, l) := by
  unfold laws_markDescS.f at h
  obtain ⟨⟨p, l⟩, hp, rfl⟩ := Option.map_eq_some_iff.1 h
  exact ⟨l, hp⟩

/-! ### laws_heldIntS: function 53 -/
def laws_heldIntS.l0 : Nat → List Int → Int → Int → Option (Int)
  | 0, _, _, _ => none
  | k + 1, x0, x1, x5 => if x5 < (x0.length : Int) then (if 0 ≤ x5 then (if (rd x0 x5) = x1 then (laws_heldIntS.l0 k x0 (wrap64 (x1 + 1)) (wrap64 (x5 + 1))) else (some (-1))) else (none)) else (some x1)
def laws_heldIntS.f (k : Nat) (l0 : List Int) (a1 : Int) : Option (Int) := laws_heldIntS.l0 k l0 a1 0
theorem laws_heldIntS.mono_l : ∀ k, (∀ y0 y1 y2, LeO (laws_heldIntS.l0 k y0 y1 y2) (laws_heldIntS.l0 (k + 1) y0 y1 y2))
  | 0 => fun _ _ _ r h => by simp [laws_heldIntS.l0] at h
  | k + 1 => by
    have ih0 := laws_heldIntS.mono_l k
    · intro y0 y1 y2
      unfold laws_heldIntS.l0
      repeat' first
      | (with_reducible exact ih0 _ _ _)
      | (with_reducible exact LeO.refl _)
      | (with_reducible exact LeO.none _)
      | (with_reducible refine LeO.ite ?_ ?_)
      | (with_reducible refine LeO.bind ?_ (fun _ => ?_))
      | exact ih0 _ _ _
      | exact LeO.none _
      | refine LeO.ite ?_ ?_
      | refine LeO.bind ?_ (fun _ => ?_)
theorem laws_heldIntS.mono : ∀ a0 a1 k, LeO (laws_heldIntS.f k a0 a1) (laws_heldIntS.f (k + 1) a0 a1) := by
  intro a0 a1 k
  have ih0 := laws_heldIntS.mono_l k
  unfold laws_heldIntS.f
  repeat' first
      | (with_reducible exact ih0 _ _ _)
      | (with_reducible exact LeO.refl _)
      | (with_reducible exact LeO.none _)
      | (with_reducible refine LeO.ite ?_ ?_)
      | (with_reducible refine LeO.bind ?_ (fun _ => ?_))
      | exact ih0 _ _ _
      | exact LeO.none _
      | refine LeO.ite ?_ ?_
      | refine LeO.bind ?_ (fun _ => ?_)
set_option maxHeartbeats 8000000 in
set_option maxRecDepth 100000 in
theorem laws_heldIntS.calls (k : Nat) (A0 : Option Addr) (c0 : Nat) (l0 : List Int) (a1 : Int) (r : Int) (w : World) (hr0 : Kd.C (Kd.int .i64) w A0 l0.length l0) (hc0 : l0.length ≤ c0) (h : laws_heldIntS.f k l0 a1 = some r) :
    Calls Try.prog 53 #[.slice A0 l0.length c0, .int .i64 a1] w fun e w' => e = .returned (.int .i64 r) ∧ Drawn0 w w' := by
  have HR0 := Aside0.mk hr0
  have HC0 := Aside0.mk hc0
  clear hr0 hc0
  have H : (laws_heldIntS.l0 k l0 a1 0) = some r := h
  clear h
  have H' := Aside0.mk H
  clear H
  go_enter Try.func53, Try.ntmps53
  go_wp2
  go_loopg [1, 5] k (fun kq v1 v5 w' => ∃ (x1_1 : Int) (x5_1 : Int), v1 = .int .i64 x1_1 ∧ v5 = .int .i64 x5_1 ∧ Aside0 (laws_heldIntS.l0 kq l0 x1_1 x5_1 = some r) ∧ Aside0 (kq ≤ k) ∧ Drawn0 w w')
  case atStart => exact ⟨(a1), (0), (by first | rfl | (simp; done) | (simp [*]; done)), (by first | rfl | (simp; done) | (simp [*]; done)), H', ⟨Nat.le_refl _⟩, by repeat (first | exact Drawn0.refl _ | apply Drawn0.step)⟩
  case round =>
    clear H'
    try clear p2
    obtain ⟨x1_1, x5_1, rfl, rfl, HA, HK1, ⟨m1, rfl⟩⟩ := hrel
    cases gk with
    | zero => exact absurd HA.out (by simp [laws_heldIntS.l0])
    | succ k1 =>
      have H := HA.out
      clear HA
      simp only [laws_heldIntS.l0] at H
      by_cases c3 : x5_1 < (l0.length : Int)
      · rw [if_pos c3] at H
        have c3b0 : decide (x5_1 < (l0.length : Int)) = true := decide_eq_true c3
        clear c3
        by_cases c4 : 0 ≤ x5_1
        · rw [if_pos c4] at H
          have c4b0 : decide (0 ≤ x5_1) = true := decide_eq_true c4
          clear c4
          by_cases c5 : (rd l0 x5_1) = x1_1
          · rw [if_pos c5] at H
            have c5b0 : ((rd l0 x5_1) == x1_1) = true := beq_iff_eq.mpr c5
            have c5b1 : ((rd l0 x5_1) != x1_1) = false := bne_eq_false_iff_eq.mpr c5
            clear c5
            have H' := Aside0.mk H
            clear H
            have p238 : 0 ≤ (x5_1 : Int) := of_decide_eq_true (by first | (with_reducible assumption) | assumption)
            have q238 : x5_1 < (l0.length : Int) := of_decide_eq_true (by first | (with_reducible assumption) | assumption)
            obtain ⟨ad238, e238, hx238_0⟩ := Kd.at_int HR0.out x5_1 p238 q238
            cases e238
            replace p238 := eq_true p238
            replace q238 := eq_true q238
            go_wp2
            go_roundg k1
            case measure => have := HK1.out; omega
            case rel => exact ⟨(wrap64 (x1_1 + 1)), (wrap64 (x5_1 + 1)), (by first | rfl | (simp; done) | (simp [*]; done)), (by first | rfl | (simp; done) | (simp [*]; done)), H', ⟨by have := HK1.out; omega⟩, by repeat (first | exact Drawn0.refl _ | apply Drawn0.step)⟩
          · rw [if_neg c5] at H
            have c5b0 : ((rd l0 x5_1) == x1_1) = false := beq_eq_false_iff_ne.mpr c5
            have c5b1 : ((rd l0 x5_1) != x1_1) = true := bne_iff_ne.mpr c5
            obtain rfl := Option.some.inj H
            have p238 : 0 ≤ (x5_1 : Int) := of_decide_eq_true (by first | (with_reducible assumption) | assumption)
            have q238 : x5_1 < (l0.length : Int) := of_decide_eq_true (by first | (with_reducible assumption) | assumption)
            obtain ⟨ad238, e238, hx238_0⟩ := Kd.at_int HR0.out x5_1 p238 q238
            cases e238
            replace p238 := eq_true p238
            replace q238 := eq_true q238
            go_wp2
            go_ret
            exact ⟨by first | rfl | (simp; done) | (simp [*]; done), by repeat (first | exact Drawn0.refl _ | apply Drawn0.step)⟩
        · rw [if_neg c4] at H
          exact absurd H (by simp)
      · rw [if_neg c3] at H
        have c3b0 : decide (x5_1 < (l0.length : Int)) = false := decide_eq_false c3
        clear c3
        obtain rfl := Option.some.inj H
        go_wp2
        go_ret
        exact ⟨by first | rfl | (simp; done) | (simp [*]; done), by repeat (first | exact Drawn0.refl _ | apply Drawn0.step)⟩

/-! ### laws_FnExactMeaning: function 11 -/
def laws_FnExactMeaning.j0 : Nat → List (S128) → List (S116) → List Int → List Int → Bool → Option (Bool)
  | 0, _, _, _, _, _ => none
  | k + 1, x0, x1, x6, x9, x63 => if x63 = true then (none) else ((laws_markIntS.f k x9 1).bind fun bt272 => ((laws_heldIntS.f k bt272.2 1).bind fun t274 => (if t274 < 0 then (none) else (if t274 = bt272.1 then ((laws_toWordS.f k x0).bind fun t275 => ((laws_toDescS.f k x1).bind fun t278 => ((impl_Meaning.f k t275 t278).bind fun t281 => ((laws_eqIntS.f k t281 x6).bind fun t284 => (if t284 = true then ((laws_heldIntS.f k bt272.2 1).bind fun t285 => (if t285 < 0 then (none) else (if t285 = bt272.1 then (some true) else (none)))) else (none)))))) else (none)))))
def laws_FnExactMeaning.f (k : Nat) (l0 : List (S128)) (l1 : List (S116)) : Option (Bool) := (laws_szWordS.f l0 1048576).bind fun t239 => (if t239 < 0 then (some true) else ((laws_szDescS.f k l1 t239).bind fun t240 => (if t240 < 0 then (some true) else ((laws_toWordS.f k l0).bind fun t241 => ((laws_toDescS.f k l1).bind fun t244 => ((spec_Meaning.f k t241 t244).bind fun t247 => ((laws_toWordS.f k l0).bind fun t250 => ((laws_toDescS.f k l1).bind fun t253 => ((impl_Meaning.f k t250 t253).bind fun t256 => ((laws_eqIntS.f k t256 t247).bind fun t259 => (if t259 = true then ((laws_toWordS.f k l0).bind fun t260 => ((laws_eqWordS.f k t250 t260).bind fun t263 => (if t263 = true then ((laws_toDescS.f k l1).bind fun t264 => ((laws_eqDescS.f k t253 t264).bind fun t267 => (if t267 = true then ((laws_markWordS.f k t250 1).bind fun bt268 => ((laws_markDescS.f k t253 bt268.1).bind fun t270 => (if t270 < 0 then (laws_FnExactMeaning.j0 k l0 l1 t247 t256 true) else ((laws_eqIntS.f k t256 t247).bind fun t271 => (laws_FnExactMeaning.j0 k l0 l1 t247 t256 (!t271)))))) else (none)))) else (none)))) else (none))))))))))))
theorem laws_FnExactMeaning.mono_l : ∀ k, (∀ y0 y1 y2 y3 y4, LeO (laws_FnExactMeaning.j0 k y0 y1 y2 y3 y4) (laws_FnExactMeaning.j0 (k + 1) y0 y1 y2 y3 y4))
  | 0 => fun _ _ _ _ _ r h => by simp [laws_FnExactMeaning.j0] at h
  | k + 1 => by
    have ih0 := laws_FnExactMeaning.mono_l k
    · intro y0 y1 y2 y3 y4
      unfold laws_FnExactMeaning.j0
      repeat' first
      | (with_reducible exact ih0 _ _ _ _ _)
      | (with_reducible exact impl_Meaning.mono _ _ _)
      | (with_reducible exact laws_eqDescS.mono _ _ _)
      | (with_reducible exact laws_eqIntS.mono _ _ _)
      | (with_reducible exact laws_eqWordS.mono _ _ _)
      | (with_reducible exact laws_heldIntS.mono _ _ _)
      | (with_reducible exact laws_markDescS.mono _ _ _)
      | (with_reducible exact laws_markIntS.mono _ _ _)
      | (with_reducible exact laws_markWordS.mono _ _ _)
      | (with_reducible exact laws_szDescS.mono _ _ _)
      | (with_reducible exact laws_toDescS.mono _ _)
      | (with_reducible exact laws_toWordS.mono _ _)
      | (with_reducible exact spec_Meaning.mono _ _ _)
      | (with_reducible exact LeO.refl _)
      | (with_reducible exact LeO.none _)
      | (with_reducible refine LeO.ite ?_ ?_)
      | (with_reducible refine LeO.bind ?_ (fun _ => ?_))
      | exact ih0 _ _ _ _ _
      | exact impl_Meaning.mono _ _ _
      | exact laws_eqDescS.mono _ _ _
      | exact laws_eqIntS.mono _ _ _
      | exact laws_eqWordS.mono _ _ _
      | exact laws_heldIntS.mono _ _ _
      | exact laws_markDescS.mono _ _ _
      | exact laws_markIntS.mono _ _ _
      | exact laws_markWordS.mono _ _ _
      | exact laws_szDescS.mono _ _ _
      | exact laws_toDescS.mono _ _
      | exact laws_toWordS.mono _ _
      | exact spec_Meaning.mono _ _ _
      | exact LeO.none _
      | refine LeO.ite ?_ ?_
      | refine LeO.bind ?_ (fun _ => ?_)
theorem laws_FnExactMeaning.mono : ∀ a0 a1 k, LeO (laws_FnExactMeaning.f k a0 a1) (laws_FnExactMeaning.f (k + 1) a0 a1) := by
  intro a0 a1 k
  have ih0 := laws_FnExactMeaning.mono_l k
  unfold laws_FnExactMeaning.f
  repeat' first
      | (with_reducible exact ih0 _ _ _ _ _)
      | (with_reducible exact impl_Meaning.mono _ _ _)
      | (with_reducible exact laws_eqDescS.mono _ _ _)
      | (with_reducible exact laws_eqIntS.mono _ _ _)
      | (with_reducible exact laws_eqWordS.mono _ _ _)
      | (with_reducible exact laws_heldIntS.mono _ _ _)
      | (with_reducible exact laws_markDescS.mono _ _ _)
      | (with_reducible exact laws_markIntS.mono _ _ _)
      | (with_reducible exact laws_markWordS.mono _ _ _)
      | (with_reducible exact laws_szDescS.mono _ _ _)
      | (with_reducible exact laws_toDescS.mono _ _)
      | (with_reducible exact laws_toWordS.mono _ _)
      | (with_reducible exact spec_Meaning.mono _ _ _)
      | (with_reducible exact LeO.refl _)
      | (with_reducible exact LeO.none _)
      | (with_reducible refine LeO.ite ?_ ?_)
      | (with_reducible refine LeO.bind ?_ (fun _ => ?_))
      | exact ih0 _ _ _ _ _
      | exact impl_Meaning.mono _ _ _
      | exact laws_eqDescS.mono _ _ _
      | exact laws_eqIntS.mono _ _ _
      | exact laws_eqWordS.mono _ _ _
      | exact laws_heldIntS.mono _ _ _
      | exact laws_markDescS.mono _ _ _
      | exact laws_markIntS.mono _ _ _
      | exact laws_markWordS.mono _ _ _
      | exact laws_szDescS.mono _ _ _
      | exact laws_toDescS.mono _ _
      | exact laws_toWordS.mono _ _
      | exact spec_Meaning.mono _ _ _
      | exact LeO.none _
      | refine LeO.ite ?_ ?_
      | refine LeO.bind ?_ (fun _ => ?_)
set_option maxHeartbeats 8000000 in
set_option maxRecDepth 100000 in
theorem laws_FnExactMeaning.calls (k : Nat) (A0 : Option Addr) (c0 : Nat) (l0 : List (S128)) (A1 : Option Addr) (c1 : Nat) (l1 : List (S116)) (r : Bool) (w : World) (hr0 : Kd.C k128 w A0 l0.length l0) (hc0 : l0.length ≤ c0) (hr1 : Kd.C k116 w A1 l1.length l1) (hc1 : l1.length ≤ c1) (h : laws_FnExactMeaning.f k l0 l1 = some r) :
    Calls Try.prog 11 #[.slice A0 l0.length c0, .slice A1 l1.length c1] w fun e w' => e = .returned (.bool r) ∧ Below w.heap.size w w' := by
  have HR0 := Aside0.mk hr0
  have HC0 := Aside0.mk hc0
  clear hr0 hc0
  have HR1 := Aside0.mk hr1
  have HC1 := Aside0.mk hc1
  clear hr1 hc1
  have HB := Aside0.mk (Below.refl w.heap.size w)
  have H : ((laws_szWordS.f l0 1048576).bind fun t239 => (if t239 < 0 then (some true) else ((laws_szDescS.f k l1 t239).bind fun t240 => (if t240 < 0 then (some true) else ((laws_toWordS.f k l0).bind fun t241 => ((laws_toDescS.f k l1).bind fun t244 => ((spec_Meaning.f k t241 t244).bind fun t247 => ((laws_toWordS.f k l0).bind fun t250 => ((laws_toDescS.f k l1).bind fun t253 => ((impl_Meaning.f k t250 t253).bind fun t256 => ((laws_eqIntS.f k t256 t247).bind fun t259 => (if t259 = true then ((laws_toWordS.f k l0).bind fun t260 => ((laws_eqWordS.f k t250 t260).bind fun t263 => (if t263 = true then ((laws_toDescS.f k l1).bind fun t264 => ((laws_eqDescS.f k t253 t264).bind fun t267 => (if t267 = true then ((laws_markWordS.f k t250 1).bind fun bt268 => ((laws_markDescS.f k t253 bt268.1).bind fun t270 => (if t270 < 0 then (laws_FnExactMeaning.j0 k l0 l1 t247 t256 true) else ((laws_eqIntS.f k t256 t247).bind fun t271 => (laws_FnExactMeaning.j0 k l0 l1 t247 t256 (!t271)))))) else (none)))) else (none)))) else (none))))))))))))) = some r := h
  clear h
  replace H := Option.bind_eq_some_iff.mp H
  obtain ⟨t239, A30, H⟩ := H
  replace H : (if t239 < 0 then (some true) else ((laws_szDescS.f k l1 t239).bind fun t240 => (if t240 < 0 then (some true) else ((laws_toWordS.f k l0).bind fun t241 => ((laws_toDescS.f k l1).bind fun t244 => ((spec_Meaning.f k t241 t244).bind fun t247 => ((laws_toWordS.f k l0).bind fun t250 => ((laws_toDescS.f k l1).bind fun t253 => ((impl_Meaning.f k t250 t253).bind fun t256 => ((laws_eqIntS.f k t256 t247).bind fun t259 => (if t259 = true then ((laws_toWordS.f k l0).bind fun t260 => ((laws_eqWordS.f k t250 t260).bind fun t263 => (if t263 = true then ((laws_toDescS.f k l1).bind fun t264 => ((laws_eqDescS.f k t253 t264).bind fun t267 => (if t267 = true then ((laws_markWordS.f k t250 1).bind fun bt268 => ((laws_markDescS.f k t253 bt268.1).bind fun t270 => (if t270 < 0 then (laws_FnExactMeaning.j0 k l0 l1 t247 t256 true) else ((laws_eqIntS.f k t256 t247).bind fun t271 => (laws_FnExactMeaning.j0 k l0 l1 t247 t256 (!t271)))))) else (none)))) else (none)))) else (none)))))))))))) = some r := H
  have A3 := Aside0.mk A30
  clear A30
  by_cases c4 : t239 < 0
  · rw [if_pos c4] at H
    have c4b0 : decide (t239 < 0) = true := decide_eq_true c4
    clear c4
    obtain rfl := Option.some.inj H
    go_enter Try.func11, Try.ntmps11
    go_wp2_with (first | ((with_reducible refine gate_callee (f := 29) rfl ?_); refine goesL_ (some 16) rfl rfl Try.func29 (by kernel_rfl) rfl #[.slice A0 l0.length c0, .int .i64 1048576] rfl (by (try simp only [List.map_toArray, List.map_cons, List.map_nil]); first | done | rfl | (simp only [List.length_drop, List.length_take]; rfl)) ?_; (with_reducible refine (laws_szWordS.calls _ _ l0 1048576 t239 _ ?side1 ?side2 A3.out).mono ?_); (case side1 => repeat (first | exact HR0.out | (with_reducible refine Kd.C_alloc ?_ _) | (with_reducible refine Kd.C_drewN ?_ _) | (with_reducible refine Kd.C_drew ?_))); (case side2 => exact HC0.out); rintro e w' ⟨rfl, ⟨nd, rfl⟩⟩; refine ⟨_, rfl, ?_⟩))
    go_ret
    exact ⟨by first | rfl | (simp [errW_none, errW_some] <;> rfl) | (simp [*, errW_none, errW_some] <;> rfl), by repeat (first | (with_reducible first | exact HB.out | apply below_alloc | apply pw_below_drewN | apply below_drew1) | exact HB.out)⟩
  · rw [if_neg c4] at H
    have c4b0 : decide (t239 < 0) = false := decide_eq_false c4
    clear c4
    replace H := Option.bind_eq_some_iff.mp H
    obtain ⟨t240, A50, H⟩ := H
    replace H : (if t240 < 0 then (some true) else ((laws_toWordS.f k l0).bind fun t241 => ((laws_toDescS.f k l1).bind fun t244 => ((spec_Meaning.f k t241 t244).bind fun t247 => ((laws_toWordS.f k l0).bind fun t250 => ((laws_toDescS.f k l1).bind fun t253 => ((impl_Meaning.f k t250 t253).bind fun t256 => ((laws_eqIntS.f k t256 t247).bind fun t259 => (if t259 = true then ((laws_toWordS.f k l0).bind fun t260 => ((laws_eqWordS.f k t250 t260).bind fun t263 => (if t263 = true then ((laws_toDescS.f k l1).bind fun t264 => ((laws_eqDescS.f k t253 t264).bind fun t267 => (if t267 = true then ((laws_markWordS.f k t250 1).bind fun bt268 => ((laws_markDescS.f k t253 bt268.1).bind fun t270 => (if t270 < 0 then (laws_FnExactMeaning.j0 k l0 l1 t247 t256 true) else ((laws_eqIntS.f k t256 t247).bind fun t271 => (laws_FnExactMeaning.j0 k l0 l1 t247 t256 (!t271)))))) else (none)))) else (none)))) else (none)))))))))) = some r := H
    have A5 := Aside0.mk A50
    clear A50
    by_cases c6 : t240 < 0
    · rw [if_pos c6] at H
      have c6b0 : decide (t240 < 0) = true := decide_eq_true c6
      clear c6
      obtain rfl := Option.some.inj H
      go_enter Try.func11, Try.ntmps11
      go_wp2_with (first | ((with_reducible refine gate_callee (f := 29) rfl ?_); refine goesL_ (some 16) rfl rfl Try.func29 (by kernel_rfl) rfl #[.slice A0 l0.length c0, .int .i64 1048576] rfl (by (try simp only [List.map_toArray, List.map_cons, List.map_nil]); first | done | rfl | (simp only [List.length_drop, List.length_take]; rfl)) ?_; (with_reducible refine (laws_szWordS.calls _ _ l0 1048576 t239 _ ?side1 ?side2 A3.out).mono ?_); (case side1 => repeat (first | exact HR0.out | (with_reducible refine Kd.C_alloc ?_ _) | (with_reducible refine Kd.C_drewN ?_ _) | (with_reducible refine Kd.C_drew ?_))); (case side2 => exact HC0.out); rintro e w' ⟨rfl, ⟨nd, rfl⟩⟩; refine ⟨_, rfl, ?_⟩) | ((with_reducible refine gate_callee (f := 30) rfl ?_); refine goesL_ (some 21) rfl rfl Try.func30 (by kernel_rfl) rfl #[.slice A1 l1.length c1, .int .i64 t239] rfl (by (try simp only [List.map_toArray, List.map_cons, List.map_nil]); first | done | rfl | (simp only [List.length_drop, List.length_take]; rfl)) ?_; (with_reducible refine (laws_szDescS.calls k _ _ l1 t239 t240 _ ?side1 ?side2 A5.out).mono ?_); (case side1 => repeat (first | exact HR1.out | (with_reducible refine Kd.C_alloc ?_ _) | (with_reducible refine Kd.C_drewN ?_ _) | (with_reducible refine Kd.C_drew ?_))); (case side2 => exact HC1.out); rintro e w7 ⟨rfl, hb⟩; refine ⟨_, rfl, ?_⟩; have n0_ := Aside0.mk (below_step (by repeat (first | (with_reducible first | exact HB.out | apply below_alloc | apply pw_below_drewN | apply below_drew1) | exact HB.out)) hb); clear HB; have HB := n0_; clear n0_; (try clear hb); (try clear hb2); (try clear hk); (try clear hi)))
      go_ret
      exact ⟨by first | rfl | (simp [errW_none, errW_some] <;> rfl) | (simp [*, errW_none, errW_some] <;> rfl), by repeat (first | (with_reducible first | exact HB.out | apply below_alloc | apply pw_below_drewN | apply below_drew1) | exact HB.out)⟩
    · rw [if_neg c6] at H
      have c6b0 : decide (t240 < 0) = false := decide_eq_false c6
      clear c6
      replace H := Option.bind_eq_some_iff.mp H
      obtain ⟨t241, A80, H⟩ := H
      replace H : ((laws_toDescS.f k l1).bind fun t244 => ((spec_Meaning.f k t241 t244).bind fun t247 => ((laws_toWordS.f k l0).bind fun t250 => ((laws_toDescS.f k l1).bind fun t253 => ((impl_Meaning.f k t250 t253).bind fun t256 => ((laws_eqIntS.f k t256 t247).bind fun t259 => (if t259 = true then ((laws_toWordS.f k l0).bind fun t260 => ((laws_eqWordS.f k t250 t260).bind fun t263 => (if t263 = true then ((laws_toDescS.f k l1).bind fun t264 => ((laws_eqDescS.f k t253 t264).bind fun t267 => (if t267 = true then ((laws_markWordS.f k t250 1).bind fun bt268 => ((laws_markDescS.f k t253 bt268.1).bind fun t270 => (if t270 < 0 then (laws_FnExactMeaning.j0 k l0 l1 t247 t256 true) else ((laws_eqIntS.f k t256 t247).bind fun t271 => (laws_FnExactMeaning.j0 k l0 l1 t247 t256 (!t271)))))) else (none)))) else (none)))) else (none)))))))) = some r := H
      have A8 := Aside0.mk A80
      clear A80
      replace H := Option.bind_eq_some_iff.mp H
      obtain ⟨t244, A90, H⟩ := H
      replace H : ((spec_Meaning.f k t241 t244).bind fun t247 => ((laws_toWordS.f k l0).bind fun t250 => ((laws_toDescS.f k l1).bind fun t253 => ((impl_Meaning.f k t250 t253).bind fun t256 => ((laws_eqIntS.f k t256 t247).bind fun t259 => (if t259 = true then ((laws_toWordS.f k l0).bind fun t260 => ((laws_eqWordS.f k t250 t260).bind fun t263 => (if t263 = true then ((laws_toDescS.f k l1).bind fun t264 => ((laws_eqDescS.f k t253 t264).bind fun t267 => (if t267 = true then ((laws_markWordS.f k t250 1).bind fun bt268 => ((laws_markDescS.f k t253 bt268.1).bind fun t270 => (if t270 < 0 then (laws_FnExactMeaning.j0 k l0 l1 t247 t256 true) else ((laws_eqIntS.f k t256 t247).bind fun t271 => (laws_FnExactMeaning.j0 k l0 l1 t247 t256 (!t271)))))) else (none)))) else (none)))) else (none))))))) = some r := H
      have A9 := Aside0.mk A90
      clear A90
      replace H := Option.bind_eq_some_iff.mp H
      obtain ⟨t247, A100, H⟩ := H
      replace H : ((laws_toWordS.f k l0).bind fun t250 => ((laws_toDescS.f k l1).bind fun t253 => ((impl_Meaning.f k t250 t253).bind fun t256 => ((laws_eqIntS.f k t256 t247).bind fun t259 => (if t259 = true then ((laws_toWordS.f k l0).bind fun t260 => ((laws_eqWordS.f k t250 t260).bind fun t263 => (if t263 = true then ((laws_toDescS.f k l1).bind fun t264 => ((laws_eqDescS.f k t253 t264).bind fun t267 => (if t267 = true then ((laws_markWordS.f k t250 1).bind fun bt268 => ((laws_markDescS.f k t253 bt268.1).bind fun t270 => (if t270 < 0 then (laws_FnExactMeaning.j0 k l0 l1 t247 t256 true) else ((laws_eqIntS.f k t256 t247).bind fun t271 => (laws_FnExactMeaning.j0 k l0 l1 t247 t256 (!t271)))))) else (none)))) else (none)))) else (none)))))) = some r := H
      have A10 := Aside0.mk A100
      clear A100
      replace H := Option.bind_eq_some_iff.mp H
      obtain ⟨t250, A110, H⟩ := H
      replace H : ((laws_toDescS.f k l1).bind fun t253 => ((impl_Meaning.f k t250 t253).bind fun t256 => ((laws_eqIntS.f k t256 t247).bind fun t259 => (if t259 = true then ((laws_toWordS.f k l0).bind fun t260 => ((laws_eqWordS.f k t250 t260).bind fun t263 => (if t263 = true then ((laws_toDescS.f k l1).bind fun t264 => ((laws_eqDescS.f k t253 t264).bind fun t267 => (if t267 = true then ((laws_markWordS.f k t250 1).bind fun bt268 => ((laws_markDescS.f k t253 bt268.1).bind fun t270 => (if t270 < 0 then (laws_FnExactMeaning.j0 k l0 l1 t247 t256 true) else ((laws_eqIntS.f k t256 t247).bind fun t271 => (laws_FnExactMeaning.j0 k l0 l1 t247 t256 (!t271)))))) else (none)))) else (none)))) else (none))))) = some r := H
      have A11 := Aside0.mk A110
      clear A110
      replace H := Option.bind_eq_some_iff.mp H
      obtain ⟨t253, A120, H⟩ := H
      replace H : ((impl_Meaning.f k t250 t253).bind fun t256 => ((laws_eqIntS.f k t256 t247).bind fun t259 => (if t259 = true then ((laws_toWordS.f k l0).bind fun t260 => ((laws_eqWordS.f k t250 t260).bind fun t263 => (if t263 = true then ((laws_toDescS.f k l1).bind fun t264 => ((laws_eqDescS.f k t253 t264).bind fun t267 => (if t267 = true then ((laws_markWordS.f k t250 1).bind fun bt268 => ((laws_markDescS.f k t253 bt268.1).bind fun t270 => (if t270 < 0 then (laws_FnExactMeaning.j0 k l0 l1 t247 t256 true) else ((laws_eqIntS.f k t256 t247).bind fun t271 => (laws_FnExactMeaning.j0 k l0 l1 t247 t256 (!t271)))))) else (none)))) else (none)))) else (none)))) = some r := H
      have A12 := Aside0.mk A120
      clear A120
      replace H := Option.bind_eq_some_iff.mp H
      obtain ⟨t256, A130, H⟩ := H
      replace H : ((laws_eqIntS.f k t256 t247).bind fun t259 => (if t259 = true then ((laws_toWordS.f k l0).bind fun t260 => ((laws_eqWordS.f k t250 t260).bind fun t263 => (if t263 = true then ((laws_toDescS.f k l1).bind fun t264 => ((laws_eqDescS.f k t253 t264).bind fun t267 => (if t267 = true then ((laws_markWordS.f k t250 1).bind fun bt268 => ((laws_markDescS.f k t253 bt268.1).bind fun t270 => (if t270 < 0 then (laws_FnExactMeaning.j0 k l0 l1 t247 t256 true) else ((laws_eqIntS.f k t256 t247).bind fun t271 => (laws_FnExactMeaning.j0 k l0 l1 t247 t256 (!t271)))))) else (none)))) else (none)))) else (none))) = some r := H
      have A13 := Aside0.mk A130
      clear A130
      replace H := Option.bind_eq_some_iff.mp H
      obtain ⟨t259, A140, H⟩ := H
      replace H : (if t259 = true then ((laws_toWordS.f k l0).bind fun t260 => ((laws_eqWordS.f k t250 t260).bind fun t263 => (if t263 = true then ((laws_toDescS.f k l1).bind fun t264 => ((laws_eqDescS.f k t253 t264).bind fun t267 => (if t267 = true then ((laws_markWordS.f k t250 1).bind fun bt268 => ((laws_markDescS.f k t253 bt268.1).bind fun t270 => (if t270 < 0 then (laws_FnExactMeaning.j0 k l0 l1 t247 t256 true) else ((laws_eqIntS.f k t256 t247).bind fun t271 => (laws_FnExactMeaning.j0 k l0 l1 t247 t256 (!t271)))))) else (none)))) else (none)))) else (none)) = some r := H
      have A14 := Aside0.mk A140
      clear A140
      by_cases c15 : t259 = true
      · subst c15
        have H1 : ((laws_toWordS.f k l0).bind fun t260 => ((laws_eqWordS.f k t250 t260).bind fun t263 => (if t263 = true then ((laws_toDescS.f k l1).bind fun t264 => ((laws_eqDescS.f k t253 t264).bind fun t267 => (if t267 = true then ((laws_markWordS.f k t250 1).bind fun bt268 => ((laws_markDescS.f k t253 bt268.1).bind fun t270 => (if t270 < 0 then (laws_FnExactMeaning.j0 k l0 l1 t247 t256 true) else ((laws_eqIntS.f k t256 t247).bind fun t271 => (laws_FnExactMeaning.j0 k l0 l1 t247 t256 (!t271)))))) else (none)))) else (none)))) = some r := by rw [if_pos rfl] at H; exact H
        clear H
        have H := H1
        clear H1
        replace H := Option.bind_eq_some_iff.mp H
        obtain ⟨t260, A160, H⟩ := H
        replace H : ((laws_eqWordS.f k t250 t260).bind fun t263 => (if t263 = true then ((laws_toDescS.f k l1).bind fun t264 => ((laws_eqDescS.f k t253 t264).bind fun t267 => (if t267 = true then ((laws_markWordS.f k t250 1).bind fun bt268 => ((laws_markDescS.f k t253 bt268.1).bind fun t270 => (if t270 < 0 then (laws_FnExactMeaning.j0 k l0 l1 t247 t256 true) else ((laws_eqIntS.f k t256 t247).bind fun t271 => (laws_FnExactMeaning.j0 k l0 l1 t247 t256 (!t271)))))) else (none)))) else (none))) = some r := H
        have A16 := Aside0.mk A160
        clear A160
        replace H := Option.bind_eq_some_iff.mp H
        obtain ⟨t263, A170, H⟩ := H
        replace H : (if t263 = true then ((laws_toDescS.f k l1).bind fun t264 => ((laws_eqDescS.f k t253 t264).bind fun t267 => (if t267 = true then ((laws_markWordS.f k t250 1).bind fun bt268 => ((laws_markDescS.f k t253 bt268.1).bind fun t270 => (if t270 < 0 then (laws_FnExactMeaning.j0 k l0 l1 t247 t256 true) else ((laws_eqIntS.f k t256 t247).bind fun t271 => (laws_FnExactMeaning.j0 k l0 l1 t247 t256 (!t271)))))) else (none)))) else (none)) = some r := H
        have A17 := Aside0.mk A170
        clear A170
        by_cases c18 : t263 = true
        · subst c18
          have H1 : ((laws_toDescS.f k l1).bind fun t264 => ((laws_eqDescS.f k t253 t264).bind fun t267 => (if t267 = true then ((laws_markWordS.f k t250 1).bind fun bt268 => ((laws_markDescS.f k t253 bt268.1).bind fun t270 => (if t270 < 0 then (laws_FnExactMeaning.j0 k l0 l1 t247 t256 true) else ((laws_eqIntS.f k t256 t247).bind fun t271 => (laws_FnExactMeaning.j0 k l0 l1 t247 t256 (!t271)))))) else (none)))) = some r := by rw [if_pos rfl] at H; exact H
          clear H
          have H := H1
          clear H1
          replace H := Option.bind_eq_some_iff.mp H
          obtain ⟨t264, A190, H⟩ := H
          replace H : ((laws_eqDescS.f k t253 t264).bind fun t267 => (if t267 = true then ((laws_markWordS.f k t250 1).bind fun bt268 => ((laws_markDescS.f k t253 bt268.1).bind fun t270 => (if t270 < 0 then (laws_FnExactMeaning.j0 k l0 l1 t247 t256 true) else ((laws_eqIntS.f k t256 t247).bind fun t271 => (laws_FnExactMeaning.j0 k l0 l1 t247 t256 (!t271)))))) else (none))) = some r := H
          have A19 := Aside0.mk A190
          clear A190
          replace H := Option.bind_eq_some_iff.mp H
          obtain ⟨t267, A200, H⟩ := H
          replace H : (if t267 = true then ((laws_markWordS.f k t250 1).bind fun bt268 => ((laws_markDescS.f k t253 bt268.1).bind fun t270 => (if t270 < 0 then (laws_FnExactMeaning.j0 k l0 l1 t247 t256 true) else ((laws_eqIntS.f k t256 t247).bind fun t271 => (laws_FnExactMeaning.j0 k l0 l1 t247 t256 (!t271)))))) else (none)) = some r := H
          have A20 := Aside0.mk A200
          clear A200
          by_cases c21 : t267 = true
          · subst c21
            have H1 : ((laws_markWordS.f k t250 1).bind fun bt268 => ((laws_markDescS.f k t253 bt268.1).bind fun t270 => (if t270 < 0 then (laws_FnExactMeaning.j0 k l0 l1 t247 t256 true) else ((laws_eqIntS.f k t256 t247).bind fun t271 => (laws_FnExactMeaning.j0 k l0 l1 t247 t256 (!t271)))))) = some r := by rw [if_pos rfl] at H; exact H
            clear H
            have H := H1
            clear H1
            replace H := Option.bind_eq_some_iff.mp H
            obtain ⟨⟨t268, t269⟩, A220, H⟩ := H
            replace H : ((laws_markDescS.f k t253 t268).bind fun t270 => (if t270 < 0 then (laws_FnExactMeaning.j0 k l0 l1 t247 t256 true) else ((laws_eqIntS.f k t256 t247).bind fun t271 => (laws_FnExactMeaning.j0 k l0 l1 t247 t256 (!t271))))) = some r := H
            have A22 := Aside0.mk A220
            clear A220
            replace H := Option.bind_eq_some_iff.mp H
            obtain ⟨t270, A230, H⟩ := H
            replace H : (if t270 < 0 then (laws_FnExactMeaning.j0 k l0 l1 t247 t256 true) else ((laws_eqIntS.f k t256 t247).bind fun t271 => (laws_FnExactMeaning.j0 k l0 l1 t247 t256 (!t271)))) = some r := H
            have A23 := Aside0.mk A230
            clear A230
            have HC24 := Aside0.mk H
            clear H
            go_enter Try.func11, Try.ntmps11
            go_upto_region 21 with (first | ((with_reducible refine gate_callee (f := 29) rfl ?_); refine goesL_ (some 16) rfl rfl Try.func29 (by kernel_rfl) rfl #[.slice A0 l0.length c0, .int .i64 1048576] rfl (by (try simp only [List.map_toArray, List.map_cons, List.map_nil]); first | done | rfl | (simp only [List.length_drop, List.length_take]; rfl)) ?_; (with_reducible refine (laws_szWordS.calls _ _ l0 1048576 t239 _ ?side1 ?side2 A3.out).mono ?_); (case side1 => repeat (first | exact HR0.out | (with_reducible refine Kd.C_alloc ?_ _) | (with_reducible refine Kd.C_drewN ?_ _) | (with_reducible refine Kd.C_drew ?_))); (case side2 => exact HC0.out); rintro e w' ⟨rfl, ⟨nd, rfl⟩⟩; refine ⟨_, rfl, ?_⟩) | ((with_reducible refine gate_callee (f := 30) rfl ?_); refine goesL_ (some 21) rfl rfl Try.func30 (by kernel_rfl) rfl #[.slice A1 l1.length c1, .int .i64 t239] rfl (by (try simp only [List.map_toArray, List.map_cons, List.map_nil]); first | done | rfl | (simp only [List.length_drop, List.length_take]; rfl)) ?_; (with_reducible refine (laws_szDescS.calls k _ _ l1 t239 t240 _ ?side1 ?side2 A5.out).mono ?_); (case side1 => repeat (first | exact HR1.out | (with_reducible refine Kd.C_alloc ?_ _) | (with_reducible refine Kd.C_drewN ?_ _) | (with_reducible refine Kd.C_drew ?_))); (case side2 => exact HC1.out); rintro e w25 ⟨rfl, hb⟩; refine ⟨_, rfl, ?_⟩; have n0_ := Aside0.mk (below_step (by repeat (first | (with_reducible first | exact HB.out | apply below_alloc | apply pw_below_drewN | apply below_drew1) | exact HB.out)) hb); clear HB; have HB := n0_; clear n0_; (try clear hb); (try clear hb2); (try clear hk); (try clear hi)) | ((with_reducible refine gate_callee (f := 32) rfl ?_); refine goesL_ (some 25) rfl rfl Try.func32 (by kernel_rfl) rfl #[.slice A0 l0.length c0] rfl (by (try simp only [List.map_toArray, List.map_cons, List.map_nil]); first | done | rfl | (simp only [List.length_drop, List.length_take]; rfl)) ?_; (with_reducible refine (laws_toWordS.calls k _ _ l0 t241 _ ?side1 ?side2 A8.out).mono ?_); (case side1 => repeat (first | exact (Kd.C_below HR0.out HB.out) | (with_reducible refine Kd.C_alloc ?_ _) | (with_reducible refine Kd.C_drewN ?_ _) | (with_reducible refine Kd.C_drew ?_))); (case side2 => exact HC0.out); rintro e w26 ⟨v242, rfl, ho0, hb⟩; refine ⟨_, rfl, ?_⟩; have n0_ := Aside0.mk (Kd.R_lower ho0 (below_size (by repeat (first | (with_reducible first | exact HB.out | apply below_alloc | apply pw_below_drewN | apply below_drew1) | exact HB.out)))); have n1_ := Aside0.mk (below_step (by repeat (first | (with_reducible first | exact HB.out | apply below_alloc | apply pw_below_drewN | apply below_drew1) | exact HB.out)) hb); clear HB; have HO243 := n0_; have HB := n1_; clear n0_ n1_; (try clear hb); (try clear hb2); (try clear hk); (try clear hi); (try clear ho0)) | ((with_reducible refine gate_callee (f := 33) rfl ?_); refine goesL_ (some 27) rfl rfl Try.func33 (by kernel_rfl) rfl #[.slice A1 l1.length c1] rfl (by (try simp only [List.map_toArray, List.map_cons, List.map_nil]); first | done | rfl | (simp only [List.length_drop, List.length_take]; rfl)) ?_; (with_reducible refine (laws_toDescS.calls k _ _ l1 t244 _ ?side1 ?side2 A9.out).mono ?_); (case side1 => repeat (first | exact (Kd.C_below HR1.out HB.out) | (with_reducible refine Kd.C_alloc ?_ _) | (with_reducible refine Kd.C_drewN ?_ _) | (with_reducible refine Kd.C_drew ?_))); (case side2 => exact HC1.out); rintro e w27 ⟨v245, rfl, ho0, hb⟩; refine ⟨_, rfl, ?_⟩; have n0_ := Aside0.mk (Kd.R_below (by (with_reducible repeat (first | apply Kd.R_alloc | apply Kd.R_drewN | apply Kd.R_drew)); exact HO243.out) hb); have n1_ := Aside0.mk (Kd.S_lower ho0 (below_size (by repeat (first | (with_reducible first | exact HB.out | apply below_alloc | apply pw_below_drewN | apply below_drew1) | exact HB.out)))); have n2_ := Aside0.mk (below_step (by repeat (first | (with_reducible first | exact HB.out | apply below_alloc | apply pw_below_drewN | apply below_drew1) | exact HB.out)) hb); clear HO243; clear HB; have HO243 := n0_; have HO246 := n1_; have HB := n2_; clear n0_ n1_ n2_; (try clear hb); (try clear hb2); (try clear hk); (try clear hi); (try clear ho0); obtain ⟨Ao28, co28, eo28⟩ := Kd.R_slice HO243.out; subst eo28; obtain ⟨Ao29, co29, eo29⟩ := Kd.S_slice HO246.out; subst eo29) | ((with_reducible refine gate_callee (f := 48) rfl ?_); refine goesL_ (some 28) rfl rfl Try.func48 (by kernel_rfl) rfl #[.slice Ao28 t241.length co28, .slice Ao29 t244.length co29] rfl (by (try simp only [List.map_toArray, List.map_cons, List.map_nil]); first | done | rfl | (simp only [List.length_drop, List.length_take]; rfl)) ?_; (with_reducible refine (spec_Meaning.calls k _ _ t241 _ _ t244 t247 _ ?side1 ?side2 ?side3 ?side4 A10.out).mono ?_); (case side1 => repeat (first | exact (Kd.R_reads' HO243.out).2.2 | (with_reducible refine Kd.C_alloc ?_ _) | (with_reducible refine Kd.C_drewN ?_ _) | (with_reducible refine Kd.C_drew ?_))); (case side2 => exact (Kd.R_reads' HO243.out).2.1); (case side3 => repeat (first | exact (Kd.S_reads' HO246.out).2.2 | (with_reducible refine Kd.C_alloc ?_ _) | (with_reducible refine Kd.C_drewN ?_ _) | (with_reducible refine Kd.C_drew ?_))); (case side4 => exact (Kd.S_reads' HO246.out).2.1); rintro e w30 ⟨v248, rfl, ho0, hb⟩; refine ⟨_, rfl, ?_⟩; have n0_ := Aside0.mk (Kd.R_below (by (with_reducible repeat (first | apply Kd.R_alloc | apply Kd.R_drewN | apply Kd.R_drew)); exact HO243.out) hb); have n1_ := Aside0.mk (Kd.S_elder' (by (with_reducible repeat (first | apply Kd.S_alloc | apply Kd.S_drewN | apply Kd.S_drew)); exact HO246.out) (Kd.R_base ho0) hb); have n2_ := Aside0.mk (Kd.R_lower ho0 (below_size (by repeat (first | (with_reducible first | exact HB.out | apply below_alloc | apply pw_below_drewN | apply below_drew1) | exact HB.out)))); have n3_ := Aside0.mk (below_step (by repeat (first | (with_reducible first | exact HB.out | apply below_alloc | apply pw_below_drewN | apply below_drew1) | exact HB.out)) hb); clear HO243; clear HO246; clear HB; have HO243 := n0_; have HO246 := n1_; have HO249 := n2_; have HB := n3_; clear n0_ n1_ n2_ n3_; (try clear hb); (try clear hb2); (try clear hk); (try clear hi); (try clear ho0)) | ((with_reducible refine gate_callee (f := 32) rfl ?_); refine goesL_ (some 30) rfl rfl Try.func32 (by kernel_rfl) rfl #[.slice A0 l0.length c0] rfl (by (try simp only [List.map_toArray, List.map_cons, List.map_nil]); first | done | rfl | (simp only [List.length_drop, List.length_take]; rfl)) ?_; (with_reducible refine (laws_toWordS.calls k _ _ l0 t250 _ ?side1 ?side2 A11.out).mono ?_); (case side1 => repeat (first | exact (Kd.C_below HR0.out HB.out) | (with_reducible refine Kd.C_alloc ?_ _) | (with_reducible refine Kd.C_drewN ?_ _) | (with_reducible refine Kd.C_drew ?_))); (case side2 => exact HC0.out); rintro e w31 ⟨v251, rfl, ho0, hb⟩; refine ⟨_, rfl, ?_⟩; have n0_ := Aside0.mk (Kd.R_elder' (by (with_reducible repeat (first | apply Kd.R_alloc | apply Kd.R_drewN | apply Kd.R_drew)); exact HO243.out) (Kd.R_base ho0) hb); have n1_ := Aside0.mk (Kd.S_below (by (with_reducible repeat (first | apply Kd.S_alloc | apply Kd.S_drewN | apply Kd.S_drew)); exact HO246.out) hb); have n2_ := Aside0.mk (Kd.R_below (by (with_reducible repeat (first | apply Kd.R_alloc | apply Kd.R_drewN | apply Kd.R_drew)); exact HO249.out) hb); have n3_ := Aside0.mk (Kd.R_lower (Kd.R_new' ho0 (Kd.R_lt (by (with_reducible repeat (first | apply Kd.R_alloc | apply Kd.R_drewN | apply Kd.R_drew)); exact HO243.out))) (below_size (by repeat (first | (with_reducible first | exact HB.out | apply below_alloc | apply pw_below_drewN | apply below_drew1) | exact HB.out)))); have n4_ := Aside0.mk (below_step (by repeat (first | (with_reducible first | exact HB.out | apply below_alloc | apply pw_below_drewN | apply below_drew1) | exact HB.out)) hb); clear HO243; clear HO246; clear HO249; clear HB; have HO243 := n0_; have HO246 := n1_; have HO249 := n2_; have HO252 := n3_; have HB := n4_; clear n0_ n1_ n2_ n3_ n4_; (try clear hb); (try clear hb2); (try clear hk); (try clear hi); (try clear ho0)) | ((with_reducible refine gate_callee (f := 33) rfl ?_); refine goesL_ (some 32) rfl rfl Try.func33 (by kernel_rfl) rfl #[.slice A1 l1.length c1] rfl (by (try simp only [List.map_toArray, List.map_cons, List.map_nil]); first | done | rfl | (simp only [List.length_drop, List.length_take]; rfl)) ?_; (with_reducible refine (laws_toDescS.calls k _ _ l1 t253 _ ?side1 ?side2 A12.out).mono ?_); (case side1 => repeat (first | exact (Kd.C_below HR1.out HB.out) | (with_reducible refine Kd.C_alloc ?_ _) | (with_reducible refine Kd.C_drewN ?_ _) | (with_reducible refine Kd.C_drew ?_))); (case side2 => exact HC1.out); rintro e w32 ⟨v254, rfl, ho0, hb⟩; refine ⟨_, rfl, ?_⟩; have n0_ := Aside0.mk (Kd.R_below (by (with_reducible repeat (first | apply Kd.R_alloc | apply Kd.R_drewN | apply Kd.R_drew)); exact HO243.out) hb); have n1_ := Aside0.mk (Kd.S_elder' (by (with_reducible repeat (first | apply Kd.S_alloc | apply Kd.S_drewN | apply Kd.S_drew)); exact HO246.out) (Kd.S_base ho0) hb); have n2_ := Aside0.mk (Kd.R_below (by (with_reducible repeat (first | apply Kd.R_alloc | apply Kd.R_drewN | apply Kd.R_drew)); exact HO249.out) hb); have n3_ := Aside0.mk (Kd.R_below (by (with_reducible repeat (first | apply Kd.R_alloc | apply Kd.R_drewN | apply Kd.R_drew)); exact HO252.out) hb); have n4_ := Aside0.mk (Kd.S_lower (Kd.S_new' (Kd.S_new' ho0 (Kd.S_lt (by (with_reducible repeat (first | apply Kd.S_alloc | apply Kd.S_drewN | apply Kd.S_drew)); exact HO246.out))) (Kd.R_lt (by (with_reducible repeat (first | apply Kd.R_alloc | apply Kd.R_drewN | apply Kd.R_drew)); exact HO249.out))) (below_size (by repeat (first | (with_reducible first | exact HB.out | apply below_alloc | apply pw_below_drewN | apply below_drew1) | exact HB.out)))); have n5_ := Aside0.mk (below_step (by repeat (first | (with_reducible first | exact HB.out | apply below_alloc | apply pw_below_drewN | apply below_drew1) | exact HB.out)) hb); clear HO243; clear HO246; clear HO249; clear HO252; clear HB; have HO243 := n0_; have HO246 := n1_; have HO249 := n2_; have HO252 := n3_; have HO255 := n4_; have HB := n5_; clear n0_ n1_ n2_ n3_ n4_ n5_; (try clear hb); (try clear hb2); (try clear hk); (try clear hi); (try clear ho0); obtain ⟨Ao33, co33, eo33⟩ := Kd.R_slice HO252.out; subst eo33; obtain ⟨Ao34, co34, eo34⟩ := Kd.S_slice HO255.out; subst eo34) | ((with_reducible refine gate_callee (f := 49) rfl ?_); refine goesL_ (some 35) rfl rfl Try.func49 (by kernel_rfl) rfl #[.slice Ao33 t250.length co33, .slice Ao34 t253.length co34] rfl (by (try simp only [List.map_toArray, List.map_cons, List.map_nil]); first | done | rfl | (simp only [List.length_drop, List.length_take]; rfl)) ?_; (with_reducible refine (impl_Meaning.calls k _ _ t250 _ _ t253 t256 _ ?side1 ?side2 ?side3 ?side4 A13.out).mono ?_); (case side1 => repeat (first | exact (Kd.R_reads' HO252.out).2.2 | (with_reducible refine Kd.C_alloc ?_ _) | (with_reducible refine Kd.C_drewN ?_ _) | (with_reducible refine Kd.C_drew ?_))); (case side2 => exact (Kd.R_reads' HO252.out).2.1); (case side3 => repeat (first | exact (Kd.S_reads' HO255.out).2.2 | (with_reducible refine Kd.C_alloc ?_ _) | (with_reducible refine Kd.C_drewN ?_ _) | (with_reducible refine Kd.C_drew ?_))); (case side4 => exact (Kd.S_reads' HO255.out).2.1); rintro e w35 ⟨v257, rfl, ho0, hb⟩; refine ⟨_, rfl, ?_⟩; have n0_ := Aside0.mk (Kd.R_below (by (with_reducible repeat (first | apply Kd.R_alloc | apply Kd.R_drewN | apply Kd.R_drew)); exact HO243.out) hb); have n1_ := Aside0.mk (Kd.S_elder' (by (with_reducible repeat (first | apply Kd.S_alloc | apply Kd.S_drewN | apply Kd.S_drew)); exact HO246.out) (Kd.R_base ho0) hb); have n2_ := Aside0.mk (Kd.R_elder' (by (with_reducible repeat (first | apply Kd.R_alloc | apply Kd.R_drewN | apply Kd.R_drew)); exact HO249.out) (Kd.R_base ho0) hb); have n3_ := Aside0.mk (Kd.R_below (by (with_reducible repeat (first | apply Kd.R_alloc | apply Kd.R_drewN | apply Kd.R_drew)); exact HO252.out) hb); have n4_ := Aside0.mk (Kd.S_elder' (by (with_reducible repeat (first | apply Kd.S_alloc | apply Kd.S_drewN | apply Kd.S_drew)); exact HO255.out) (Kd.R_base ho0) hb); have n5_ := Aside0.mk (Kd.R_lower (Kd.R_new' ho0 (Kd.R_lt (by (with_reducible repeat (first | apply Kd.R_alloc | apply Kd.R_drewN | apply Kd.R_drew)); exact HO249.out))) (below_size (by repeat (first | (with_reducible first | exact HB.out | apply below_alloc | apply pw_below_drewN | apply below_drew1) | exact HB.out)))); have n6_ := Aside0.mk (below_step (by repeat (first | (with_reducible first | exact HB.out | apply below_alloc | apply pw_below_drewN | apply below_drew1) | exact HB.out)) hb); clear HO243; clear HO246; clear HO249; clear HO252; clear HO255; clear HB; have HO243 := n0_; have HO246 := n1_; have HO249 := n2_; have HO252 := n3_; have HO255 := n4_; have HO258 := n5_; have HB := n6_; clear n0_ n1_ n2_ n3_ n4_ n5_ n6_; (try clear hb); (try clear hb2); (try clear hk); (try clear hi); (try clear ho0); obtain ⟨Ao36, co36, eo36⟩ := Kd.R_slice HO258.out; subst eo36; obtain ⟨Ao37, co37, eo37⟩ := Kd.R_slice HO249.out; subst eo37) | ((with_reducible refine gate_callee (f := 19) rfl ?_); refine goesL_ (some 38) rfl rfl Try.func19 (by kernel_rfl) rfl #[.slice Ao36 t256.length co36, .slice Ao37 t247.length co37] rfl (by (try simp only [List.map_toArray, List.map_cons, List.map_nil]); first | done | rfl | (simp only [List.length_drop, List.length_take]; rfl)) ?_; (with_reducible refine (laws_eqIntS.calls k _ _ t256 _ _ t247 true _ ?side1 ?side2 ?side3 ?side4 A14.out).mono ?_); (case side1 => repeat (first | exact (Kd.R_reads' HO258.out).2.2 | (with_reducible refine Kd.C_alloc ?_ _) | (with_reducible refine Kd.C_drewN ?_ _) | (with_reducible refine Kd.C_drew ?_))); (case side2 => exact (Kd.R_reads' HO258.out).2.1); (case side3 => repeat (first | exact (Kd.R_reads' HO249.out).2.2 | (with_reducible refine Kd.C_alloc ?_ _) | (with_reducible refine Kd.C_drewN ?_ _) | (with_reducible refine Kd.C_drew ?_))); (case side4 => exact (Kd.R_reads' HO249.out).2.1); rintro e w' ⟨rfl, ⟨nd, rfl⟩⟩; refine ⟨_, rfl, ?_⟩) | ((with_reducible refine gate_callee (f := 32) rfl ?_); refine goesL_ (some 42) rfl rfl Try.func32 (by kernel_rfl) rfl #[.slice A0 l0.length c0] rfl (by (try simp only [List.map_toArray, List.map_cons, List.map_nil]); first | done | rfl | (simp only [List.length_drop, List.length_take]; rfl)) ?_; (with_reducible refine (laws_toWordS.calls k _ _ l0 t260 _ ?side1 ?side2 A16.out).mono ?_); (case side1 => repeat (first | exact (Kd.C_below HR0.out (by repeat (first | (with_reducible first | exact HB.out | apply below_alloc | apply pw_below_drewN | apply below_drew1) | exact HB.out))) | (with_reducible refine Kd.C_alloc ?_ _) | (with_reducible refine Kd.C_drewN ?_ _) | (with_reducible refine Kd.C_drew ?_))); (case side2 => exact HC0.out); rintro e w38 ⟨v261, rfl, ho0, hb⟩; refine ⟨_, rfl, ?_⟩; have n0_ := Aside0.mk (Kd.R_elder' (by (with_reducible repeat (first | apply Kd.R_alloc | apply Kd.R_drewN | apply Kd.R_drew)); exact HO243.out) (Kd.R_base ho0) hb); have n1_ := Aside0.mk (Kd.S_below (by (with_reducible repeat (first | apply Kd.S_alloc | apply Kd.S_drewN | apply Kd.S_drew)); exact HO246.out) hb); have n2_ := Aside0.mk (Kd.R_below (by (with_reducible repeat (first | apply Kd.R_alloc | apply Kd.R_drewN | apply Kd.R_drew)); exact HO249.out) hb); have n3_ := Aside0.mk (Kd.R_elder' (by (with_reducible repeat (first | apply Kd.R_alloc | apply Kd.R_drewN | apply Kd.R_drew)); exact HO252.out) (Kd.R_base ho0) hb); have n4_ := Aside0.mk (Kd.S_below (by (with_reducible repeat (first | apply Kd.S_alloc | apply Kd.S_drewN | apply Kd.S_drew)); exact HO255.out) hb); have n5_ := Aside0.mk (Kd.R_below (by (with_reducible repeat (first | apply Kd.R_alloc | apply Kd.R_drewN | apply Kd.R_drew)); exact HO258.out) hb); have n6_ := Aside0.mk (Kd.R_lower (Kd.R_new' (Kd.R_new' ho0 (Kd.R_lt (by (with_reducible repeat (first | apply Kd.R_alloc | apply Kd.R_drewN | apply Kd.R_drew)); exact HO243.out))) (Kd.R_lt (by (with_reducible repeat (first | apply Kd.R_alloc | apply Kd.R_drewN | apply Kd.R_drew)); exact HO252.out))) (below_size (by repeat (first | (with_reducible first | exact HB.out | apply below_alloc | apply pw_below_drewN | apply below_drew1) | exact HB.out)))); have n7_ := Aside0.mk (below_step (by repeat (first | (with_reducible first | exact HB.out | apply below_alloc | apply pw_below_drewN | apply below_drew1) | exact HB.out)) hb); clear HO243; clear HO246; clear HO249; clear HO252; clear HO255; clear HO258; clear HB; have HO243 := n0_; have HO246 := n1_; have HO249 := n2_; have HO252 := n3_; have HO255 := n4_; have HO258 := n5_; have HO262 := n6_; have HB := n7_; clear n0_ n1_ n2_ n3_ n4_ n5_ n6_ n7_; (try clear hb); (try clear hb2); (try clear hk); (try clear hi); (try clear ho0); obtain ⟨Ao39, co39, eo39⟩ := Kd.R_slice HO262.out; subst eo39) | ((with_reducible refine gate_callee (f := 35) rfl ?_); refine goesL_ (some 43) rfl rfl Try.func35 (by kernel_rfl) rfl #[.slice Ao33 t250.length co33, .slice Ao39 t260.length co39] rfl (by (try simp only [List.map_toArray, List.map_cons, List.map_nil]); first | done | rfl | (simp only [List.length_drop, List.length_take]; rfl)) ?_; (with_reducible refine (laws_eqWordS.calls k _ _ t250 _ _ t260 true _ ?side1 ?side2 ?side3 ?side4 A17.out).mono ?_); (case side1 => repeat (first | exact (Kd.R_reads' HO252.out).2.2 | (with_reducible refine Kd.C_alloc ?_ _) | (with_reducible refine Kd.C_drewN ?_ _) | (with_reducible refine Kd.C_drew ?_))); (case side2 => exact (Kd.R_reads' HO252.out).2.1); (case side3 => repeat (first | exact (Kd.R_reads' HO262.out).2.2 | (with_reducible refine Kd.C_alloc ?_ _) | (with_reducible refine Kd.C_drewN ?_ _) | (with_reducible refine Kd.C_drew ?_))); (case side4 => exact (Kd.R_reads' HO262.out).2.1); rintro e w40 ⟨rfl, hb⟩; refine ⟨_, rfl, ?_⟩; have n0_ := Aside0.mk (Kd.R_below (by (with_reducible repeat (first | apply Kd.R_alloc | apply Kd.R_drewN | apply Kd.R_drew)); exact HO243.out) hb); have n1_ := Aside0.mk (Kd.S_below (by (with_reducible repeat (first | apply Kd.S_alloc | apply Kd.S_drewN | apply Kd.S_drew)); exact HO246.out) hb); have n2_ := Aside0.mk (Kd.R_below (by (with_reducible repeat (first | apply Kd.R_alloc | apply Kd.R_drewN | apply Kd.R_drew)); exact HO249.out) hb); have n3_ := Aside0.mk (Kd.R_below (by (with_reducible repeat (first | apply Kd.R_alloc | apply Kd.R_drewN | apply Kd.R_drew)); exact HO252.out) hb); have n4_ := Aside0.mk (Kd.S_below (by (with_reducible repeat (first | apply Kd.S_alloc | apply Kd.S_drewN | apply Kd.S_drew)); exact HO255.out) hb); have n5_ := Aside0.mk (Kd.R_below (by (with_reducible repeat (first | apply Kd.R_alloc | apply Kd.R_drewN | apply Kd.R_drew)); exact HO258.out) hb); have n6_ := Aside0.mk (Kd.R_below (by (with_reducible repeat (first | apply Kd.R_alloc | apply Kd.R_drewN | apply Kd.R_drew)); exact HO262.out) hb); have n7_ := Aside0.mk (below_step (by repeat (first | (with_reducible first | exact HB.out | apply below_alloc | apply pw_below_drewN | apply below_drew1) | exact HB.out)) hb); clear HO243; clear HO246; clear HO249; clear HO252; clear HO255; clear HO258; clear HO262; clear HB; have HO243 := n0_; have HO246 := n1_; have HO249 := n2_; have HO252 := n3_; have HO255 := n4_; have HO258 := n5_; have HO262 := n6_; have HB := n7_; clear n0_ n1_ n2_ n3_ n4_ n5_ n6_ n7_; (try clear hb); (try clear hb2); (try clear hk); (try clear hi)) | ((with_reducible refine gate_callee (f := 33) rfl ?_); refine goesL_ (some 47) rfl rfl Try.func33 (by kernel_rfl) rfl #[.slice A1 l1.length c1] rfl (by (try simp only [List.map_toArray, List.map_cons, List.map_nil]); first | done | rfl | (simp only [List.length_drop, List.length_take]; rfl)) ?_; (with_reducible refine (laws_toDescS.calls k _ _ l1 t264 _ ?side1 ?side2 A19.out).mono ?_); (case side1 => repeat (first | exact (Kd.C_below HR1.out HB.out) | (with_reducible refine Kd.C_alloc ?_ _) | (with_reducible refine Kd.C_drewN ?_ _) | (with_reducible refine Kd.C_drew ?_))); (case side2 => exact HC1.out); rintro e w41 ⟨v265, rfl, ho0, hb⟩; refine ⟨_, rfl, ?_⟩; have n0_ := Aside0.mk (Kd.R_below (by (with_reducible repeat (first | apply Kd.R_alloc | apply Kd.R_drewN | apply Kd.R_drew)); exact HO243.out) hb); have n1_ := Aside0.mk (Kd.S_elder' (by (with_reducible repeat (first | apply Kd.S_alloc | apply Kd.S_drewN | apply Kd.S_drew)); exact HO246.out) (Kd.S_base ho0) hb); have n2_ := Aside0.mk (Kd.R_below (by (with_reducible repeat (first | apply Kd.R_alloc | apply Kd.R_drewN | apply Kd.R_drew)); exact HO249.out) hb); have n3_ := Aside0.mk (Kd.R_below (by (with_reducible repeat (first | apply Kd.R_alloc | apply Kd.R_drewN | apply Kd.R_drew)); exact HO252.out) hb); have n4_ := Aside0.mk (Kd.S_elder' (by (with_reducible repeat (first | apply Kd.S_alloc | apply Kd.S_drewN | apply Kd.S_drew)); exact HO255.out) (Kd.S_base ho0) hb); have n5_ := Aside0.mk (Kd.R_below (by (with_reducible repeat (first | apply Kd.R_alloc | apply Kd.R_drewN | apply Kd.R_drew)); exact HO258.out) hb); have n6_ := Aside0.mk (Kd.R_below (by (with_reducible repeat (first | apply Kd.R_alloc | apply Kd.R_drewN | apply Kd.R_drew)); exact HO262.out) hb); have n7_ := Aside0.mk (Kd.S_lower (Kd.S_new' (Kd.S_new' (Kd.S_new' (Kd.S_new' ho0 (Kd.S_lt (by (with_reducible repeat (first | apply Kd.S_alloc | apply Kd.S_drewN | apply Kd.S_drew)); exact HO246.out))) (Kd.R_lt (by (with_reducible repeat (first | apply Kd.R_alloc | apply Kd.R_drewN | apply Kd.R_drew)); exact HO249.out))) (Kd.S_lt (by (with_reducible repeat (first | apply Kd.S_alloc | apply Kd.S_drewN | apply Kd.S_drew)); exact HO255.out))) (Kd.R_lt (by (with_reducible repeat (first | apply Kd.R_alloc | apply Kd.R_drewN | apply Kd.R_drew)); exact HO258.out))) (below_size (by repeat (first | (with_reducible first | exact HB.out | apply below_alloc | apply pw_below_drewN | apply below_drew1) | exact HB.out)))); have n8_ := Aside0.mk (below_step (by repeat (first | (with_reducible first | exact HB.out | apply below_alloc | apply pw_below_drewN | apply below_drew1) | exact HB.out)) hb); clear HO243; clear HO246; clear HO249; clear HO252; clear HO255; clear HO258; clear HO262; clear HB; have HO243 := n0_; have HO246 := n1_; have HO249 := n2_; have HO252 := n3_; have HO255 := n4_; have HO258 := n5_; have HO262 := n6_; have HO266 := n7_; have HB := n8_; clear n0_ n1_ n2_ n3_ n4_ n5_ n6_ n7_ n8_; (try clear hb); (try clear hb2); (try clear hk); (try clear hi); (try clear ho0); obtain ⟨Ao42, co42, eo42⟩ := Kd.S_slice HO266.out; subst eo42) | ((with_reducible refine gate_callee (f := 36) rfl ?_); refine goesL_ (some 48) rfl rfl Try.func36 (by kernel_rfl) rfl #[.slice Ao34 t253.length co34, .slice Ao42 t264.length co42] rfl (by (try simp only [List.map_toArray, List.map_cons, List.map_nil]); first | done | rfl | (simp only [List.length_drop, List.length_take]; rfl)) ?_; (with_reducible refine (laws_eqDescS.calls k _ _ t253 _ _ t264 true _ ?side1 ?side2 ?side3 ?side4 A20.out).mono ?_); (case side1 => repeat (first | exact (Kd.S_reads' HO255.out).2.2 | (with_reducible refine Kd.C_alloc ?_ _) | (with_reducible refine Kd.C_drewN ?_ _) | (with_reducible refine Kd.C_drew ?_))); (case side2 => exact (Kd.S_reads' HO255.out).2.1); (case side3 => repeat (first | exact (Kd.S_reads' HO266.out).2.2 | (with_reducible refine Kd.C_alloc ?_ _) | (with_reducible refine Kd.C_drewN ?_ _) | (with_reducible refine Kd.C_drew ?_))); (case side4 => exact (Kd.S_reads' HO266.out).2.1); rintro e w43 ⟨rfl, hb⟩; refine ⟨_, rfl, ?_⟩; have n0_ := Aside0.mk (Kd.R_below (by (with_reducible repeat (first | apply Kd.R_alloc | apply Kd.R_drewN | apply Kd.R_drew)); exact HO243.out) hb); have n1_ := Aside0.mk (Kd.S_below (by (with_reducible repeat (first | apply Kd.S_alloc | apply Kd.S_drewN | apply Kd.S_drew)); exact HO246.out) hb); have n2_ := Aside0.mk (Kd.R_below (by (with_reducible repeat (first | apply Kd.R_alloc | apply Kd.R_drewN | apply Kd.R_drew)); exact HO249.out) hb); have n3_ := Aside0.mk (Kd.R_below (by (with_reducible repeat (first | apply Kd.R_alloc | apply Kd.R_drewN | apply Kd.R_drew)); exact HO252.out) hb); have n4_ := Aside0.mk (Kd.S_below (by (with_reducible repeat (first | apply Kd.S_alloc | apply Kd.S_drewN | apply Kd.S_drew)); exact HO255.out) hb); have n5_ := Aside0.mk (Kd.R_below (by (with_reducible repeat (first | apply Kd.R_alloc | apply Kd.R_drewN | apply Kd.R_drew)); exact HO258.out) hb); have n6_ := Aside0.mk (Kd.R_below (by (with_reducible repeat (first | apply Kd.R_alloc | apply Kd.R_drewN | apply Kd.R_drew)); exact HO262.out) hb); have n7_ := Aside0.mk (Kd.S_below (by (with_reducible repeat (first | apply Kd.S_alloc | apply Kd.S_drewN | apply Kd.S_drew)); exact HO266.out) hb); have n8_ := Aside0.mk (below_step (by repeat (first | (with_reducible first | exact HB.out | apply below_alloc | apply pw_below_drewN | apply below_drew1) | exact HB.out)) hb); clear HO243; clear HO246; clear HO249; clear HO252; clear HO255; clear HO258; clear HO262; clear HO266; clear HB; have HO243 := n0_; have HO246 := n1_; have HO249 := n2_; have HO252 := n3_; have HO255 := n4_; have HO258 := n5_; have HO262 := n6_; have HO266 := n7_; have HB := n8_; clear n0_ n1_ n2_ n3_ n4_ n5_ n6_ n7_ n8_; (try clear hb); (try clear hb2); (try clear hk); (try clear hi)) | ((with_reducible refine gate_callee (f := 50) rfl ?_); refine goesL_ (some 52) rfl rfl Try.func50 (by kernel_rfl) rfl #[.slice Ao33 t250.length co33, .int .i64 1] rfl (by (try simp only [List.map_toArray, List.map_cons, List.map_nil]); first | done | rfl | (simp only [List.length_drop, List.length_take]; rfl)) ?_; (with_reducible refine (laws_markWordS.calls k (fun k_ => some k_ = (.slice Ao33 t250.length co33 : Value).ownBlock) (.slice Ao33 t250.length co33) t250 1 t268 t269 w _ ?side1 ?side2 A22.out).mono ?_); (case side1 => repeat (first | (with_reducible first | exact HB.out | apply below_alloc | apply pw_below_drewN | apply below_drew1) | exact HB.out)); (case side2 => exact Kd.R_tight rfl HO252.out); rintro e w44 ⟨rfl, hy0, hb, hkp⟩; refine ⟨_, rfl, ?_⟩; have n0_ := Aside0.mk (Kd.R_mono (ok' := fun k_ => some k_ ≠ (.slice Ao33 t250.length co33 : Value).ownBlock ∧ some k_ ≠ (.slice Ao39 t260.length co39 : Value).ownBlock) (Kd.R_keptB (HO243.out) hkp (fun k_ hk_ hs_ => (hk_.1.2) hs_)) (fun k_ hk_ => ⟨hk_.1.1.2, hk_.1.2⟩)); have n1_ := Aside0.mk (Kd.S_mono (ok' := fun k_ => some k_ ≠ (.slice Ao37 t247.length co37 : Value).ownBlock ∧ some k_ ≠ (.slice Ao34 t253.length co34 : Value).ownBlock ∧ some k_ ≠ (.slice Ao36 t256.length co36 : Value).ownBlock ∧ some k_ ≠ (.slice Ao42 t264.length co42 : Value).ownBlock) (Kd.S_keptB ((Kd.S_apart' HO246.out (Kd.R_typed HO252.out) (by decide))) hkp (fun k_ hk_ hs_ => (hk_.2) hs_)) (fun k_ hk_ => ⟨hk_.1.1.1.1.1.2, hk_.1.1.1.1.2, hk_.1.1.1.2, hk_.1.1.2⟩)); have n2_ := Aside0.mk (Kd.R_mono (ok' := fun k_ => some k_ ≠ (.slice Ao36 t256.length co36 : Value).ownBlock) (Kd.R_keptB ((Kd.R_apart' HO249.out (Kd.R_typed HO252.out) (by decide))) hkp (fun k_ hk_ hs_ => (hk_.2) hs_)) (fun k_ hk_ => hk_.1.1.2)); have n3_ := Aside0.mk (Kd.R_reok rfl hy0 (fun k_ e_ => HO252.out.1 k_ e_)); have n4_ := Aside0.mk (Kd.S_mono (ok' := fun k_ => some k_ ≠ (.slice Ao29 t244.length co29 : Value).ownBlock ∧ some k_ ≠ (.slice Ao37 t247.length co37 : Value).ownBlock ∧ some k_ ≠ (.slice Ao36 t256.length co36 : Value).ownBlock ∧ some k_ ≠ (.slice Ao42 t264.length co42 : Value).ownBlock) (Kd.S_keptB ((Kd.S_apart' HO255.out (Kd.R_typed HO252.out) (by decide))) hkp (fun k_ hk_ hs_ => (hk_.2) hs_)) (fun k_ hk_ => ⟨hk_.1.1.1.1.1.2, hk_.1.1.1.1.2, hk_.1.1.1.2, hk_.1.1.2⟩)); have n5_ := Aside0.mk (Kd.R_mono (ok' := fun k_ => some k_ ≠ (.slice Ao37 t247.length co37 : Value).ownBlock) (Kd.R_keptB ((Kd.R_apart' HO258.out (Kd.R_typed HO252.out) (by decide))) hkp (fun k_ hk_ hs_ => (hk_.2) hs_)) (fun k_ hk_ => hk_.1.1.2)); have n6_ := Aside0.mk (Kd.R_mono (ok' := fun k_ => some k_ ≠ (.slice Ao28 t241.length co28 : Value).ownBlock ∧ some k_ ≠ (.slice Ao33 t250.length co33 : Value).ownBlock) (Kd.R_keptB (HO262.out) hkp (fun k_ hk_ hs_ => (hk_.2) hs_)) (fun k_ hk_ => ⟨hk_.1.1.2, hk_.1.2⟩)); have n7_ := Aside0.mk (Kd.S_mono (ok' := fun k_ => some k_ ≠ (.slice Ao29 t244.length co29 : Value).ownBlock ∧ some k_ ≠ (.slice Ao37 t247.length co37 : Value).ownBlock ∧ some k_ ≠ (.slice Ao34 t253.length co34 : Value).ownBlock ∧ some k_ ≠ (.slice Ao36 t256.length co36 : Value).ownBlock) (Kd.S_keptB ((Kd.S_apart' HO266.out (Kd.R_typed HO252.out) (by decide))) hkp (fun k_ hk_ hs_ => (hk_.2) hs_)) (fun k_ hk_ => ⟨hk_.1.1.1.1.1.2, hk_.1.1.1.1.2, hk_.1.1.1.2, hk_.1.1.2⟩)); have n8_ := Aside0.mk (hb); clear HO243; clear HO246; clear HO249; clear HO252; clear HO255; clear HO258; clear HO262; clear HO266; clear HB; have HO243 := n0_; have HO246 := n1_; have HO249 := n2_; have HO252 := n3_; have HO255 := n4_; have HO258 := n5_; have HO262 := n6_; have HO266 := n7_; have HB := n8_; clear n0_ n1_ n2_ n3_ n4_ n5_ n6_ n7_ n8_; (try clear hb); (try clear hkp); (try clear hy0)) | ((with_reducible refine gate_callee (f := 51) rfl ?_); refine goesL_ (some 55) rfl rfl Try.func51 (by kernel_rfl) rfl #[.slice Ao34 t253.length co34, .int .i64 t268] rfl (by (try simp only [List.map_toArray, List.map_cons, List.map_nil]); first | done | rfl | (simp only [List.length_drop, List.length_take]; rfl)) ?_; obtain ⟨mdl_, mdh_⟩ := laws_markDescS.of_f A23.out; (with_reducible refine (laws_markDescS.own k (fun k_ => some k_ ≠ (.slice Ao37 t247.length co37 : Value).ownBlock ∧ some k_ ≠ (.slice Ao36 t256.length co36 : Value).ownBlock) (.slice Ao34 t253.length co34) t253 t268 t270 mdl_ w _ ?side1 ?side2 mdh_).mono ?_); (case side1 => exact (by repeat (first | (with_reducible first | exact HB.out | apply below_alloc | apply pw_below_drewN | apply below_drew1) | exact HB.out))); (case side2 => ((with_reducible repeat (first | apply Kd.S_alloc | apply Kd.S_drewN | apply Kd.S_drew)); exact Kd.S_mono HO255.out (fun k_ hk_ => by constructor <;> first | exact hk_.1 | exact hk_.2.1 | exact hk_.2.2.1 | exact hk_.2.2.2))); rintro e w2_ ⟨rfl, hy0, hb, hkp⟩; refine ⟨_, rfl, ?_⟩; have n0_ := Aside0.mk (Kd.R_mono (ok' := fun k_ => some k_ ≠ (.slice Ao36 t256.length co36 : Value).ownBlock) (Kd.R_kept (show Kd.R (Kd.int .i64) 3 _ w.heap.size (fun k_ => some k_ = (.slice Ao37 t247.length co37 : Value).ownBlock ∧ some k_ ≠ (.slice Ao36 t256.length co36 : Value).ownBlock) (.slice Ao37 t247.length co37) t247 from (by (with_reducible repeat (first | apply Kd.R_alloc | apply Kd.R_drewN | apply Kd.R_drew)); exact Kd.R_tight2 rfl HO249.out)) hkp (fun k_ hk_ hs_ => hs_.1 hk_.1)) (fun k_ hk_ => hk_.2)); have n1_ := Aside0.mk (Kd.R_mono (ok' := fun k_ => some k_ ≠ (.slice Ao37 t247.length co37 : Value).ownBlock) (Kd.R_kept (show Kd.R (Kd.int .i64) 3 _ w.heap.size (fun k_ => some k_ = (.slice Ao36 t256.length co36 : Value).ownBlock ∧ some k_ ≠ (.slice Ao37 t247.length co37 : Value).ownBlock) (.slice Ao36 t256.length co36) t256 from (by (with_reducible repeat (first | apply Kd.R_alloc | apply Kd.R_drewN | apply Kd.R_drew)); exact Kd.R_tight2 rfl HO258.out)) hkp (fun k_ hk_ hs_ => hs_.2 hk_.1)) (fun k_ hk_ => hk_.2)); have n2_ := Aside0.mk hb; clear HO243; clear HO246; clear HO249; clear HO252; clear HO255; clear HO258; clear HO262; clear HO266; clear HB; have HO249 := n0_; have HO258 := n1_; have HB := n2_; clear n0_ n1_ n2_; (try clear hb); (try clear hkp); (try clear hy0)))
            (try simp only [Act.put, List.setIfInBounds_toArray, List.set_cons_zero, List.set_cons_succ])
            go_cut [63] (fun v63 wc => ∃ (kq : Nat) (x63_23 : Bool), v63 = .bool x63_23 ∧ Aside0 (laws_FnExactMeaning.j0 kq l0 l1 t247 t256 x63_23 = some r) ∧ Aside0 (kq ≤ k) ∧ Aside0 (Kd.R (Kd.int .i64) 3 wc w.heap.size (fun k_ => some k_ ≠ ((.slice Ao36 t256.length co36) : Value).ownBlock) (.slice Ao37 t247.length co37) t247) ∧ Aside0 (Kd.R (Kd.int .i64) 3 wc w.heap.size (fun k_ => some k_ ≠ ((.slice Ao37 t247.length co37) : Value).ownBlock) (.slice Ao36 t256.length co36) t256) ∧ Aside0 (Below w.heap.size w wc))
            case first =>
              have H := HC24.out
              clear HC24
              by_cases c45 : t270 < 0
              · rw [if_pos c45] at H
                have c45b0 : decide (t270 < 0) = true := decide_eq_true c45
                clear c45
                (first | rw [c45b0] | (simp only [i64_w, i32_w]; rw [c45b0]) | skip)
                have H' := Aside0.mk H
                clear H
                go_wp2
                go_meet
                case rel => exact ⟨_, (true), (by first | rfl | (simp; done) | (simp [*]; done)), H', ⟨by first | omega | exact Nat.le_refl _⟩, ⟨by (with_reducible repeat (first | apply Kd.R_alloc | apply Kd.R_drewN | apply Kd.R_drew)); exact HO249.out⟩, ⟨by (with_reducible repeat (first | apply Kd.R_alloc | apply Kd.R_drewN | apply Kd.R_drew)); exact HO258.out⟩, ⟨by repeat (first | (with_reducible first | exact HB.out | apply below_alloc | apply pw_below_drewN | apply below_drew1) | exact HB.out)⟩⟩
              · rw [if_neg c45] at H
                have c45b0 : decide (t270 < 0) = false := decide_eq_false c45
                clear c45
                (first | rw [c45b0] | (simp only [i64_w, i32_w]; rw [c45b0]) | skip)
                replace H := Option.bind_eq_some_iff.mp H
                obtain ⟨t271, A460, H⟩ := H
                replace H : (laws_FnExactMeaning.j0 k l0 l1 t247 t256 (!t271)) = some r := H
                have A46 := Aside0.mk A460
                clear A460
                have H' := Aside0.mk H
                clear H
                go_wp2_with (first | (go_at_call 19; (with_reducible refine (laws_eqIntS.calls k _ _ t256 _ _ t247 t271 _ ?side1 ?side2 ?side3 ?side4 A46.out).mono ?_); (case side1 => repeat (first | exact (Kd.R_reads' HO258.out).2.2 | (with_reducible refine Kd.C_alloc ?_ _) | (with_reducible refine Kd.C_drewN ?_ _) | (with_reducible refine Kd.C_drew ?_))); (case side2 => exact (Kd.R_reads' HO258.out).2.1); (case side3 => repeat (first | exact (Kd.R_reads' HO249.out).2.2 | (with_reducible refine Kd.C_alloc ?_ _) | (with_reducible refine Kd.C_drewN ?_ _) | (with_reducible refine Kd.C_drew ?_))); (case side4 => exact (Kd.R_reads' HO249.out).2.1); rintro e w' ⟨rfl, ⟨nd, rfl⟩⟩))
                go_meet
                case rel => exact ⟨_, (!t271), (by first | rfl | (simp; done) | (simp [*]; done)), H', ⟨by first | omega | exact Nat.le_refl _⟩, ⟨by (with_reducible repeat (first | apply Kd.R_alloc | apply Kd.R_drewN | apply Kd.R_drew)); exact HO249.out⟩, ⟨by (with_reducible repeat (first | apply Kd.R_alloc | apply Kd.R_drewN | apply Kd.R_drew)); exact HO258.out⟩, ⟨by repeat (first | (with_reducible first | exact HB.out | apply below_alloc | apply pw_below_drewN | apply below_drew1) | exact HB.out)⟩⟩
            case rest =>
              clear HC24
              try clear c1
              try clear c2
              try clear p2
              try clear c3
              try clear c4
              try clear c4b0
              try clear c5
              try clear c6
              try clear c6b0
              try clear c11
              try clear c15
              try clear c18
              try clear c19
              try clear c21
              try clear c29
              try clear c30
              try clear c32
              try clear c33
              try clear c35
              try clear c36
              try clear c45
              try clear c45b0
              obtain ⟨kq, x63_23, rfl, HA, HJ23, HO_6, HO_9, HB⟩ := hcut
              cases kq with
              | zero => exact absurd HA.out (by simp [laws_FnExactMeaning.j0])
              | succ kj23 =>
                have H := HA.out
                clear HA
                simp only [laws_FnExactMeaning.j0] at H
                by_cases c47 : x63_23 = true
                · subst c47
                  have H1 : (none) = some r := by rw [if_pos rfl] at H; exact H
                  clear H
                  have H := H1
                  clear H1
                  exact absurd H (by simp)
                · replace c47 := Bool.eq_false_iff.mpr c47
                  subst c47
                  have H1 : ((laws_markIntS.f kj23 t256 1).bind fun bt272 => ((laws_heldIntS.f kj23 bt272.2 1).bind fun t274 => (if t274 < 0 then (none) else (if t274 = bt272.1 then ((laws_toWordS.f kj23 l0).bind fun t275 => ((laws_toDescS.f kj23 l1).bind fun t278 => ((impl_Meaning.f kj23 t275 t278).bind fun t281 => ((laws_eqIntS.f kj23 t281 t247).bind fun t284 => (if t284 = true then ((laws_heldIntS.f kj23 bt272.2 1).bind fun t285 => (if t285 < 0 then (none) else (if t285 = bt272.1 then (some true) else (none)))) else (none)))))) else (none))))) = some r := by rw [if_neg (show ¬ (false = true) by decide)] at H; exact H
                  clear H
                  have H := H1
                  clear H1
                  replace H := Option.bind_eq_some_iff.mp H
                  obtain ⟨⟨t272, t273⟩, A480, H⟩ := H
                  replace H : ((laws_heldIntS.f kj23 t273 1).bind fun t274 => (if t274 < 0 then (none) else (if t274 = t272 then ((laws_toWordS.f kj23 l0).bind fun t275 => ((laws_toDescS.f kj23 l1).bind fun t278 => ((impl_Meaning.f kj23 t275 t278).bind fun t281 => ((laws_eqIntS.f kj23 t281 t247).bind fun t284 => (if t284 = true then ((laws_heldIntS.f kj23 t273 1).bind fun t285 => (if t285 < 0 then (none) else (if t285 = t272 then (some true) else (none)))) else (none)))))) else (none)))) = some r := H
                  have A48 := Aside0.mk A480
                  clear A480
                  replace H := Option.bind_eq_some_iff.mp H
                  obtain ⟨t274, A490, H⟩ := H
                  replace H : (if t274 < 0 then (none) else (if t274 = t272 then ((laws_toWordS.f kj23 l0).bind fun t275 => ((laws_toDescS.f kj23 l1).bind fun t278 => ((impl_Meaning.f kj23 t275 t278).bind fun t281 => ((laws_eqIntS.f kj23 t281 t247).bind fun t284 => (if t284 = true then ((laws_heldIntS.f kj23 t273 1).bind fun t285 => (if t285 < 0 then (none) else (if t285 = t272 then (some true) else (none)))) else (none)))))) else (none))) = some r := H
                  have A49 := Aside0.mk A490
                  clear A490
                  by_cases c50 : t274 < 0
                  · rw [if_pos c50] at H
                    exact absurd H (by simp)
                  · rw [if_neg c50] at H
                    have c50b0 : decide (t274 < 0) = false := decide_eq_false c50
                    clear c50
                    by_cases c51 : t274 = t272
                    · rw [if_pos c51] at H
                      have c51b0 : (t274 == t272) = true := beq_iff_eq.mpr c51
                      have c51b1 : (t274 != t272) = false := bne_eq_false_iff_eq.mpr c51
                      clear c51
                      replace H := Option.bind_eq_some_iff.mp H
                      obtain ⟨t275, A520, H⟩ := H
                      replace H : ((laws_toDescS.f kj23 l1).bind fun t278 => ((impl_Meaning.f kj23 t275 t278).bind fun t281 => ((laws_eqIntS.f kj23 t281 t247).bind fun t284 => (if t284 = true then ((laws_heldIntS.f kj23 t273 1).bind fun t285 => (if t285 < 0 then (none) else (if t285 = t272 then (some true) else (none)))) else (none))))) = some r := H
                      have A52 := Aside0.mk A520
                      clear A520
                      replace H := Option.bind_eq_some_iff.mp H
                      obtain ⟨t278, A530, H⟩ := H
                      replace H : ((impl_Meaning.f kj23 t275 t278).bind fun t281 => ((laws_eqIntS.f kj23 t281 t247).bind fun t284 => (if t284 = true then ((laws_heldIntS.f kj23 t273 1).bind fun t285 => (if t285 < 0 then (none) else (if t285 = t272 then (some true) else (none)))) else (none)))) = some r := H
                      have A53 := Aside0.mk A530
                      clear A530
                      replace H := Option.bind_eq_some_iff.mp H
                      obtain ⟨t281, A540, H⟩ := H
                      replace H : ((laws_eqIntS.f kj23 t281 t247).bind fun t284 => (if t284 = true then ((laws_heldIntS.f kj23 t273 1).bind fun t285 => (if t285 < 0 then (none) else (if t285 = t272 then (some true) else (none)))) else (none))) = some r := H
                      have A54 := Aside0.mk A540
                      clear A540
                      replace H := Option.bind_eq_some_iff.mp H
                      obtain ⟨t284, A550, H⟩ := H
                      replace H : (if t284 = true then ((laws_heldIntS.f kj23 t273 1).bind fun t285 => (if t285 < 0 then (none) else (if t285 = t272 then (some true) else (none)))) else (none)) = some r := H
                      have A55 := Aside0.mk A550
                      clear A550
                      by_cases c56 : t284 = true
                      · subst c56
                        have H1 : ((laws_heldIntS.f kj23 t273 1).bind fun t285 => (if t285 < 0 then (none) else (if t285 = t272 then (some true) else (none)))) = some r := by rw [if_pos rfl] at H; exact H
                        clear H
                        have H := H1
                        clear H1
                        replace H := Option.bind_eq_some_iff.mp H
                        obtain ⟨t285, A570, H⟩ := H
                        replace H : (if t285 < 0 then (none) else (if t285 = t272 then (some true) else (none))) = some r := H
                        have A57 := Aside0.mk A570
                        clear A570
                        by_cases c58 : t285 < 0
                        · rw [if_pos c58] at H
                          exact absurd H (by simp)
                        · rw [if_neg c58] at H
                          have c58b0 : decide (t285 < 0) = false := decide_eq_false c58
                          clear c58
                          by_cases c59 : t285 = t272
                          · rw [if_pos c59] at H
                            have c59b0 : (t285 == t272) = true := beq_iff_eq.mpr c59
                            have c59b1 : (t285 != t272) = false := bne_eq_false_iff_eq.mpr c59
                            clear c59
                            obtain rfl := Option.some.inj H
                            go_wp2_with (first | ((with_reducible refine gate_callee (f := 52) rfl ?_); refine goesL_ (some 66) rfl rfl Try.func52 (by kernel_rfl) rfl #[.slice Ao36 t256.length co36, .int .i64 1] rfl (by (try simp only [List.map_toArray, List.map_cons, List.map_nil]); first | done | rfl | (simp only [List.length_drop, List.length_take]; rfl)) ?_; (with_reducible refine (laws_markIntS.calls kj23 (fun k_ => some k_ = (.slice Ao36 t256.length co36 : Value).ownBlock) (.slice Ao36 t256.length co36) t256 1 t272 t273 w _ ?side1 ?side2 A48.out).mono ?_); (case side1 => repeat (first | (with_reducible first | exact HB.out | apply below_alloc | apply pw_below_drewN | apply below_drew1) | exact HB.out)); (case side2 => exact Kd.R_tight rfl HO_9.out); rintro e w60 ⟨rfl, hy0, hb, hkp⟩; refine ⟨_, rfl, ?_⟩; have n0_ := Aside0.mk (Kd.R_mono (ok' := fun k_ => some k_ ≠ (.slice Ao36 t256.length co36 : Value).ownBlock) (Kd.R_keptB (HO_6.out) hkp (fun k_ hk_ hs_ => (hk_) hs_)) (fun k_ hk_ => hk_.1)); have n1_ := Aside0.mk (Kd.R_reok rfl hy0 (fun k_ e_ => HO_9.out.1 k_ e_)); have n2_ := Aside0.mk (hb); clear HO_6; clear HO_9; clear HB; have HO_6 := n0_; have HO_9 := n1_; have HB := n2_; clear n0_ n1_ n2_; (try clear hb); (try clear hkp); (try clear hy0)) | ((with_reducible refine gate_callee (f := 53) rfl ?_); refine goesL_ (some 69) rfl rfl Try.func53 (by kernel_rfl) rfl #[.slice Ao36 t273.length co36, .int .i64 1] rfl (by (try simp only [List.map_toArray, List.map_cons, List.map_nil]); first | done | (rw [show t273.length = t256.length from (Kd.R_reads' HO_9.out).1.symm] <;> rfl) | rfl | (simp only [List.length_drop, List.length_take]; rfl)) ?_; (with_reducible refine (laws_heldIntS.calls kj23 _ _ t273 1 t274 _ ?side1 ?side2 A49.out).mono ?_); (case side1 => repeat (first | exact (Kd.R_reads' HO_9.out).2.2 | (with_reducible refine Kd.C_alloc ?_ _) | (with_reducible refine Kd.C_drewN ?_ _) | (with_reducible refine Kd.C_drew ?_))); (case side2 => rw [show t273.length = t256.length from (Kd.R_reads' HO_9.out).1.symm]; exact (Kd.R_reads' HO_9.out).2.1); rintro e w' ⟨rfl, ⟨nd, rfl⟩⟩; refine ⟨_, rfl, ?_⟩) | ((with_reducible refine gate_callee (f := 32) rfl ?_); refine goesL_ (some 76) rfl rfl Try.func32 (by kernel_rfl) rfl #[.slice A0 l0.length c0] rfl (by (try simp only [List.map_toArray, List.map_cons, List.map_nil]); first | done | rfl | (simp only [List.length_drop, List.length_take]; rfl)) ?_; (with_reducible refine (laws_toWordS.calls kj23 _ _ l0 t275 _ ?side1 ?side2 A52.out).mono ?_); (case side1 => repeat (first | exact (Kd.C_below HR0.out (by repeat (first | (with_reducible first | exact HB.out | apply below_alloc | apply pw_below_drewN | apply below_drew1) | exact HB.out))) | (with_reducible refine Kd.C_alloc ?_ _) | (with_reducible refine Kd.C_drewN ?_ _) | (with_reducible refine Kd.C_drew ?_))); (case side2 => exact HC0.out); rintro e w61 ⟨v276, rfl, ho0, hb⟩; refine ⟨_, rfl, ?_⟩; have n0_ := Aside0.mk (Kd.R_below (by (with_reducible repeat (first | apply Kd.R_alloc | apply Kd.R_drewN | apply Kd.R_drew)); exact HO_6.out) hb); have n1_ := Aside0.mk (Kd.R_below (by (with_reducible repeat (first | apply Kd.R_alloc | apply Kd.R_drewN | apply Kd.R_drew)); exact HO_9.out) hb); have n2_ := Aside0.mk (Kd.R_lower ho0 (below_size (by repeat (first | (with_reducible first | exact HB.out | apply below_alloc | apply pw_below_drewN | apply below_drew1) | exact HB.out)))); have n3_ := Aside0.mk (below_step (by repeat (first | (with_reducible first | exact HB.out | apply below_alloc | apply pw_below_drewN | apply below_drew1) | exact HB.out)) hb); clear HO_6; clear HO_9; clear HB; have HO_6 := n0_; have HO_9 := n1_; have HO277 := n2_; have HB := n3_; clear n0_ n1_ n2_ n3_; (try clear hb); (try clear hb2); (try clear hk); (try clear hi); (try clear ho0)) | ((with_reducible refine gate_callee (f := 33) rfl ?_); refine goesL_ (some 78) rfl rfl Try.func33 (by kernel_rfl) rfl #[.slice A1 l1.length c1] rfl (by (try simp only [List.map_toArray, List.map_cons, List.map_nil]); first | done | rfl | (simp only [List.length_drop, List.length_take]; rfl)) ?_; (with_reducible refine (laws_toDescS.calls kj23 _ _ l1 t278 _ ?side1 ?side2 A53.out).mono ?_); (case side1 => repeat (first | exact (Kd.C_below HR1.out HB.out) | (with_reducible refine Kd.C_alloc ?_ _) | (with_reducible refine Kd.C_drewN ?_ _) | (with_reducible refine Kd.C_drew ?_))); (case side2 => exact HC1.out); rintro e w62 ⟨v279, rfl, ho0, hb⟩; refine ⟨_, rfl, ?_⟩; have n0_ := Aside0.mk (Kd.R_below (by (with_reducible repeat (first | apply Kd.R_alloc | apply Kd.R_drewN | apply Kd.R_drew)); exact HO_6.out) hb); have n1_ := Aside0.mk (Kd.R_below (by (with_reducible repeat (first | apply Kd.R_alloc | apply Kd.R_drewN | apply Kd.R_drew)); exact HO_9.out) hb); have n2_ := Aside0.mk (Kd.R_below (by (with_reducible repeat (first | apply Kd.R_alloc | apply Kd.R_drewN | apply Kd.R_drew)); exact HO277.out) hb); have n3_ := Aside0.mk (Kd.S_lower (Kd.S_new' (Kd.S_new' ho0 (Kd.R_lt (by (with_reducible repeat (first | apply Kd.R_alloc | apply Kd.R_drewN | apply Kd.R_drew)); exact HO_6.out))) (Kd.R_lt (by (with_reducible repeat (first | apply Kd.R_alloc | apply Kd.R_drewN | apply Kd.R_drew)); exact HO_9.out))) (below_size (by repeat (first | (with_reducible first | exact HB.out | apply below_alloc | apply pw_below_drewN | apply below_drew1) | exact HB.out)))); have n4_ := Aside0.mk (below_step (by repeat (first | (with_reducible first | exact HB.out | apply below_alloc | apply pw_below_drewN | apply below_drew1) | exact HB.out)) hb); clear HO_6; clear HO_9; clear HO277; clear HB; have HO_6 := n0_; have HO_9 := n1_; have HO277 := n2_; have HO280 := n3_; have HB := n4_; clear n0_ n1_ n2_ n3_ n4_; (try clear hb); (try clear hb2); (try clear hk); (try clear hi); (try clear ho0); obtain ⟨Ao63, co63, eo63⟩ := Kd.R_slice HO277.out; subst eo63; obtain ⟨Ao64, co64, eo64⟩ := Kd.S_slice HO280.out; subst eo64) | ((with_reducible refine gate_callee (f := 49) rfl ?_); refine goesL_ (some 79) rfl rfl Try.func49 (by kernel_rfl) rfl #[.slice Ao63 t275.length co63, .slice Ao64 t278.length co64] rfl (by (try simp only [List.map_toArray, List.map_cons, List.map_nil]); first | done | rfl | (simp only [List.length_drop, List.length_take]; rfl)) ?_; (with_reducible refine (impl_Meaning.calls kj23 _ _ t275 _ _ t278 t281 _ ?side1 ?side2 ?side3 ?side4 A54.out).mono ?_); (case side1 => repeat (first | exact (Kd.R_reads' HO277.out).2.2 | (with_reducible refine Kd.C_alloc ?_ _) | (with_reducible refine Kd.C_drewN ?_ _) | (with_reducible refine Kd.C_drew ?_))); (case side2 => exact (Kd.R_reads' HO277.out).2.1); (case side3 => repeat (first | exact (Kd.S_reads' HO280.out).2.2 | (with_reducible refine Kd.C_alloc ?_ _) | (with_reducible refine Kd.C_drewN ?_ _) | (with_reducible refine Kd.C_drew ?_))); (case side4 => exact (Kd.S_reads' HO280.out).2.1); rintro e w65 ⟨v282, rfl, ho0, hb⟩; refine ⟨_, rfl, ?_⟩; have n0_ := Aside0.mk (Kd.R_elder' (by (with_reducible repeat (first | apply Kd.R_alloc | apply Kd.R_drewN | apply Kd.R_drew)); exact HO_6.out) (Kd.R_base ho0) hb); have n1_ := Aside0.mk (Kd.R_elder' (by (with_reducible repeat (first | apply Kd.R_alloc | apply Kd.R_drewN | apply Kd.R_drew)); exact HO_9.out) (Kd.R_base ho0) hb); have n2_ := Aside0.mk (Kd.R_below (by (with_reducible repeat (first | apply Kd.R_alloc | apply Kd.R_drewN | apply Kd.R_drew)); exact HO277.out) hb); have n3_ := Aside0.mk (Kd.S_elder' (by (with_reducible repeat (first | apply Kd.S_alloc | apply Kd.S_drewN | apply Kd.S_drew)); exact HO280.out) (Kd.R_base ho0) hb); have n4_ := Aside0.mk (Kd.R_lower (Kd.R_new' (Kd.R_new' ho0 (Kd.R_lt (by (with_reducible repeat (first | apply Kd.R_alloc | apply Kd.R_drewN | apply Kd.R_drew)); exact HO_6.out))) (Kd.R_lt (by (with_reducible repeat (first | apply Kd.R_alloc | apply Kd.R_drewN | apply Kd.R_drew)); exact HO_9.out))) (below_size (by repeat (first | (with_reducible first | exact HB.out | apply below_alloc | apply pw_below_drewN | apply below_drew1) | exact HB.out)))); have n5_ := Aside0.mk (below_step (by repeat (first | (with_reducible first | exact HB.out | apply below_alloc | apply pw_below_drewN | apply below_drew1) | exact HB.out)) hb); clear HO_6; clear HO_9; clear HO277; clear HO280; clear HB; have HO_6 := n0_; have HO_9 := n1_; have HO277 := n2_; have HO280 := n3_; have HO283 := n4_; have HB := n5_; clear n0_ n1_ n2_ n3_ n4_ n5_; (try clear hb); (try clear hb2); (try clear hk); (try clear hi); (try clear ho0); obtain ⟨Ao66, co66, eo66⟩ := Kd.R_slice HO283.out; subst eo66) | ((with_reducible refine gate_callee (f := 19) rfl ?_); refine goesL_ (some 82) rfl rfl Try.func19 (by kernel_rfl) rfl #[.slice Ao66 t281.length co66, .slice Ao37 t247.length co37] rfl (by (try simp only [List.map_toArray, List.map_cons, List.map_nil]); first | done | rfl | (simp only [List.length_drop, List.length_take]; rfl)) ?_; (with_reducible refine (laws_eqIntS.calls kj23 _ _ t281 _ _ t247 true _ ?side1 ?side2 ?side3 ?side4 A55.out).mono ?_); (case side1 => repeat (first | exact (Kd.R_reads' HO283.out).2.2 | (with_reducible refine Kd.C_alloc ?_ _) | (with_reducible refine Kd.C_drewN ?_ _) | (with_reducible refine Kd.C_drew ?_))); (case side2 => exact (Kd.R_reads' HO283.out).2.1); (case side3 => repeat (first | exact (Kd.R_reads' HO_6.out).2.2 | (with_reducible refine Kd.C_alloc ?_ _) | (with_reducible refine Kd.C_drewN ?_ _) | (with_reducible refine Kd.C_drew ?_))); (case side4 => exact (Kd.R_reads' HO_6.out).2.1); rintro e w' ⟨rfl, ⟨nd, rfl⟩⟩; refine ⟨_, rfl, ?_⟩) | ((with_reducible refine gate_callee (f := 53) rfl ?_); refine goesL_ (some 86) rfl rfl Try.func53 (by kernel_rfl) rfl #[.slice Ao36 t273.length co36, .int .i64 1] rfl (by (try simp only [List.map_toArray, List.map_cons, List.map_nil]); first | done | (rw [show t273.length = t256.length from (Kd.R_reads' HO_9.out).1.symm] <;> rfl) | rfl | (simp only [List.length_drop, List.length_take]; rfl)) ?_; (with_reducible refine (laws_heldIntS.calls kj23 _ _ t273 1 t285 _ ?side1 ?side2 A57.out).mono ?_); (case side1 => repeat (first | exact (Kd.R_reads' HO_9.out).2.2 | (with_reducible refine Kd.C_alloc ?_ _) | (with_reducible refine Kd.C_drewN ?_ _) | (with_reducible refine Kd.C_drew ?_))); (case side2 => rw [show t273.length = t256.length from (Kd.R_reads' HO_9.out).1.symm]; exact (Kd.R_reads' HO_9.out).2.1); rintro e w' ⟨rfl, ⟨nd, rfl⟩⟩; refine ⟨_, rfl, ?_⟩))
                            go_ret
                            exact ⟨by first | rfl | (simp [errW_none, errW_some] <;> rfl) | (simp [*, errW_none, errW_some] <;> rfl), by repeat (first | (with_reducible first | exact HB.out | apply below_alloc | apply pw_below_drewN | apply below_drew1) | exact HB.out)⟩
                          · rw [if_neg c59] at H
                            exact absurd H (by simp)
                      · replace c56 := Bool.eq_false_iff.mpr c56
                        subst c56
                        have H1 : (none) = some r := by rw [if_neg (show ¬ (false = true) by decide)] at H; exact H
                        clear H
                        have H := H1
                        clear H1
                        exact absurd H (by simp)
                    · rw [if_neg c51] at H
                      exact absurd H (by simp)
          · replace c21 := Bool.eq_false_iff.mpr c21
            subst c21
            have H1 : (none) = some r := by rw [if_neg (show ¬ (false = true) by decide)] at H; exact H
            clear H
            have H := H1
            clear H1
            exact absurd H (by simp)
        · replace c18 := Bool.eq_false_iff.mpr c18
          subst c18
          have H1 : (none) = some r := by rw [if_neg (show ¬ (false = true) by decide)] at H; exact H
          clear H
          have H := H1
          clear H1
          exact absurd H (by simp)
      · replace c15 := Bool.eq_false_iff.mpr c15
        subst c15
        have H1 : (none) = some r := by rw [if_neg (show ¬ (false = true) by decide)] at H; exact H
        clear H
        have H := H1
        clear H1
        exact absurd H (by simp)

end Go.Proofs.Ytblpbhhomocfbaa.PFnExactMeaning
