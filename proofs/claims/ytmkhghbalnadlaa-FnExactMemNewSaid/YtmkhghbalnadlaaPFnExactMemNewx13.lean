/- Contracts of functions of the program: each says that the call does what a plain Lean function tells. Made by programs of this session and of the kit. No condition beyond the hypotheses that each theorem names. -/
import Derived.Test.YtmkhghbalnadlaaPFnExactMemNewx0
import Derived.Test.YtmkhghbalnadlaaPFnExactMemNewx12
namespace Go.Proofs.Ytmkhghbalnadlaa.PFnExactMemNew
open Go.RowKit Go.Proofs.YtmkhghbalnadlaaW.PrintWords Go.Proofs.YtmkhghbalnadlaaW.PrintLast Go.Proofs.YtmkhghbalnadlaaW.PrintMore
attribute [local go_sem] max2_int min2_int max_two min_two max_three min_three max_four min_four   -- for this text's walks alone
set_option linter.unusedVariables false
set_option linter.unusedSimpArgs false

/-! ### laws_heldDescS: function 99 -/
def laws_heldDescS.l0 : Nat → List (S119) → Int → Int → Option (Int)
 | 0, _, _, _ => none
 | k + 1, x0, x1, x5 => if x5 < (x0.length : Int) then (if 0 ≤ x5 then (if ((rd_T119 x0 x5).f0) = x1 then (if ((rd_T119 x0 x5).f1) = (wrap64 (x1 + 1)) then ((laws_heldEntryS.f k ((rd_T119 x0 x5).f2) (wrap64 ((wrap64 (x1 + 1)) + 1))).bind fun t347 => (if t347 < 0 then (some (-1)) else (if ((rd_T119 x0 x5).f3.f0) = t347 then ((laws_heldIntS.f k ((rd_T119 x0 x5).f3.f1) (wrap64 (t347 + 1))).bind fun t350 => (if t350 < 0 then (some (-1)) else (laws_heldDescS.l0 k x0 t350 (wrap64 (x5 + 1))))) else (some (-1))))) else (some (-1))) else (some (-1))) else (none)) else (some x1)
def laws_heldDescS.f (k : Nat) (l0 : List (S119)) (a1 : Int) : Option (Int) := laws_heldDescS.l0 k l0 a1 0
theorem laws_heldDescS.mono_l : ∀ k, (∀ y0 y1 y2, LeO (laws_heldDescS.l0 k y0 y1 y2) (laws_heldDescS.l0 (k + 1) y0 y1 y2))
 | 0 => fun _ _ _ r h => by simp [laws_heldDescS.l0] at h
 | k + 1 => by
  have ih0 := laws_heldDescS.mono_l k
  ·
   intro y0 y1 y2
   unfold laws_heldDescS.l0
   repeat' first | (with_reducible first | apply ih0 | apply laws_heldEntryS.mono | apply laws_heldIntS.mono | apply LeO.refl | apply LeO.none | apply LeO.ite | refine LeO.bind ?_ (fun _ => ?_)) | apply ih0 | apply laws_heldEntryS.mono | apply laws_heldIntS.mono | apply LeO.none | apply LeO.ite | refine LeO.bind ?_ (fun _ => ?_)
theorem laws_heldDescS.mono : ∀ a0 a1 k, LeO (laws_heldDescS.f k a0 a1) (laws_heldDescS.f (k + 1) a0 a1) := by
 intro a0 a1 k
 have ih0 := laws_heldDescS.mono_l k
 unfold laws_heldDescS.f
 repeat' first | (with_reducible first | apply ih0 | apply laws_heldEntryS.mono | apply laws_heldIntS.mono | apply LeO.refl | apply LeO.none | apply LeO.ite | refine LeO.bind ?_ (fun _ => ?_)) | apply ih0 | apply laws_heldEntryS.mono | apply laws_heldIntS.mono | apply LeO.none | apply LeO.ite | refine LeO.bind ?_ (fun _ => ?_)
set_option maxHeartbeats 8000000 in
set_option maxRecDepth 100000 in
theorem laws_heldDescS.calls (k : Nat) (A0 : Option Addr) (c0 : Nat) (l0 : List (S119)) (a1 : Int) (r : Int) (w : World) (hr0 : Kd.C k119 w A0 l0.length l0) (hc0 : l0.length ≤ c0) (h : laws_heldDescS.f k l0 a1 = some r) :
    Calls Try.prog 99 #[.slice A0 l0.length c0, .int .i64 a1] w fun e w' => e = .returned (.int .i64 r) ∧ Drawn0 w w' := by
 have HR0 := A_ hr0
 have HC0 := A_ hc0
 clear hr0 hc0
 have H : (laws_heldDescS.l0 k l0 a1 0) = some r := h
 clear h
 replace H' := A_ H; clear H
 go_enter Try.func99, Try.ntmps99
 go_wp2
 go_loopg [1, 5] k (fun kq v1 v5 w' => ∃ (x1_1 : Int) (x5_1 : Int), v1 = .int .i64 x1_1 ∧ v5 = .int .i64 x5_1 ∧ Aside0 (laws_heldDescS.l0 kq l0 x1_1 x5_1 = some r) ∧ Aside0 (kq ≤ k) ∧ Drawn0 w w')
 case atStart => exact ⟨(a1), (0), rt_, rt_, H', ⟨Nat.le_refl _⟩, by repeat (first | exact Drawn0.refl _ | apply Drawn0.step)⟩
 case round =>
  clear H'
  obtain ⟨x1_1, x5_1, rfl, rfl, HA, HK1, ⟨m1, rfl⟩⟩ := hrel
  cases gk with
  | zero => exact absurd HA.out (by simp [laws_heldDescS.l0])
  | succ k1 =>
   have H := HA.out
   clear HA
   simp only [laws_heldDescS.l0] at H
   replace H := ic_ H
   rcases H with ⟨c3b0, H⟩ | ⟨c3b0, H⟩
   ·
    replace H := ix_ H
    obtain ⟨c4b0, H⟩ := H
    by_cases c5 : ((rd_T119 l0 x5_1).f0) = x1_1
    ·
     rw [if_pos c5] at H
     have c5b0 : (((rd_T119 l0 x5_1).f0) == x1_1) = true := beq_iff_eq.mpr c5
     have c5b1 : (((rd_T119 l0 x5_1).f0) != x1_1) = false := bne_eq_false_iff_eq.mpr c5
     clear c5
     by_cases c6 : ((rd_T119 l0 x5_1).f1) = (wrap64 (x1_1 + 1))
     ·
      rw [if_pos c6] at H
      have c6b0 : (((rd_T119 l0 x5_1).f1) == (wrap64 (x1_1 + 1))) = true := beq_iff_eq.mpr c6
      have c6b1 : (((rd_T119 l0 x5_1).f1) != (wrap64 (x1_1 + 1))) = false := bne_eq_false_iff_eq.mpr c6
      clear c6
      replace H := bs_ H
      obtain ⟨t347, A7, H⟩ := H
      replace H := ic_ H
      rcases H with ⟨c8b0, H⟩ | ⟨c8b0, H⟩
      ·
       obtain rfl := Option.some.inj H
       obtain ⟨ad344, A344_2, c344_2, A344_4, c344_4, p344, q344, rfl, hx344_0, hx344_1, hx344_2, hx344_3, hx344_4, HC344_2, HR344_2, HC344_4, HR344_4⟩ := ab_T119 (A_ (Below.refl _ _)) HR0 x5_1
       have p345 : 0 ≤ (x5_1 : Int) := od_
       have q345 : x5_1 < (l0.length : Int) := od_
       obtain ⟨ad345, A345_2, c345_2, A345_4, c345_4, e345, hx345_0, hx345_1, hx345_2, hx345_3, hx345_4, hl345_2, hi345_2, hl345_4, hi345_4⟩ := at_T119 HR0.out x5_1 p345 q345
       obtain rfl : ad344 = ad345 := (by injection e345)
       have HR345_2 := A_ hi345_2
       have HC345_2 := A_ hl345_2
       clear hi345_2 hl345_2
       have HR345_4 := A_ hi345_4
       have HC345_4 := A_ hl345_4
       clear hi345_4 hl345_4
       replace p345 := eq_true p345
       replace q345 := eq_true q345
       have ea_ := Option.some.inj (hx344_2.symm.trans hx345_2)
       injection ea_ with ea_ en_ ec_
       subst ea_
       subst ec_
       clear en_
       have ea_ := Option.some.inj (hx344_4.symm.trans hx345_4)
       injection ea_ with ea_ en_ ec_
       subst ea_
       subst ec_
       clear en_
       have p346 : 0 ≤ (x5_1 : Int) := od_
       have q346 : x5_1 < (l0.length : Int) := od_
       obtain ⟨ad346, A346_2, c346_2, A346_4, c346_4, e346, hx346_0, hx346_1, hx346_2, hx346_3, hx346_4, hl346_2, hi346_2, hl346_4, hi346_4⟩ := at_T119 HR0.out x5_1 p346 q346
       obtain rfl : ad344 = ad346 := (by injection e346)
       have HR346_2 := A_ hi346_2
       have HC346_2 := A_ hl346_2
       clear hi346_2 hl346_2
       have HR346_4 := A_ hi346_4
       have HC346_4 := A_ hl346_4
       clear hi346_4 hl346_4
       replace p346 := eq_true p346
       replace q346 := eq_true q346
       have ea_ := Option.some.inj (hx344_2.symm.trans hx346_2)
       injection ea_ with ea_ en_ ec_
       subst ea_
       subst ec_
       clear en_
       have ea_ := Option.some.inj (hx344_4.symm.trans hx346_4)
       injection ea_ with ea_ en_ ec_
       subst ea_
       subst ec_
       clear en_
       go_wp2_with (first | ((with_reducible refine gate_callee (f := 146) rfl ?_); refine goesL_ (some 36) rfl rfl Try.func146 (by kernel_rfl) rfl #[.slice A344_2 ((rd_T119 l0 x5_1).f2).length c344_2, .int .i64 (wrap64 ((wrap64 (x1_1 + 1)) + 1))] rfl al_ ?_; (with_reducible refine (laws_heldEntryS.calls k1 _ _ ((rd_T119 l0 x5_1).f2) (wrap64 ((wrap64 (x1_1 + 1)) + 1)) t347 _ ?side1 ?side2 A7.out).mono ?_); (case side1 => exact cb_ HR346_2.out); (case side2 => exact HC346_2.out); rintro e w' ⟨rfl, ⟨nd, rfl⟩⟩; refine ⟨_, rfl, ?_⟩))
       go_ret
       exact ⟨rt_, by repeat (first | exact Drawn0.refl _ | apply Drawn0.step)⟩
      by_cases c9 : ((rd_T119 l0 x5_1).f3.f0) = t347
      ·
       rw [if_pos c9] at H
       have c9b0 : (((rd_T119 l0 x5_1).f3.f0) == t347) = true := beq_iff_eq.mpr c9
       have c9b1 : (((rd_T119 l0 x5_1).f3.f0) != t347) = false := bne_eq_false_iff_eq.mpr c9
       clear c9
       replace H := bs_ H
       obtain ⟨t350, A10, H⟩ := H
       replace H := ic_ H
       rcases H with ⟨c11b0, H⟩ | ⟨c11b0, H⟩
       ·
        obtain rfl := Option.some.inj H
        obtain ⟨ad344, A344_2, c344_2, A344_4, c344_4, p344, q344, rfl, hx344_0, hx344_1, hx344_2, hx344_3, hx344_4, HC344_2, HR344_2, HC344_4, HR344_4⟩ := ab_T119 (A_ (Below.refl _ _)) HR0 x5_1
        have p345 : 0 ≤ (x5_1 : Int) := od_
        have q345 : x5_1 < (l0.length : Int) := od_
        obtain ⟨ad345, A345_2, c345_2, A345_4, c345_4, e345, hx345_0, hx345_1, hx345_2, hx345_3, hx345_4, hl345_2, hi345_2, hl345_4, hi345_4⟩ := at_T119 HR0.out x5_1 p345 q345
        obtain rfl : ad344 = ad345 := (by injection e345)
        have HR345_2 := A_ hi345_2
        have HC345_2 := A_ hl345_2
        clear hi345_2 hl345_2
        have HR345_4 := A_ hi345_4
        have HC345_4 := A_ hl345_4
        clear hi345_4 hl345_4
        replace p345 := eq_true p345
        replace q345 := eq_true q345
        have ea_ := Option.some.inj (hx344_2.symm.trans hx345_2)
        injection ea_ with ea_ en_ ec_
        subst ea_
        subst ec_
        clear en_
        have ea_ := Option.some.inj (hx344_4.symm.trans hx345_4)
        injection ea_ with ea_ en_ ec_
        subst ea_
        subst ec_
        clear en_
        have p346 : 0 ≤ (x5_1 : Int) := od_
        have q346 : x5_1 < (l0.length : Int) := od_
        obtain ⟨ad346, A346_2, c346_2, A346_4, c346_4, e346, hx346_0, hx346_1, hx346_2, hx346_3, hx346_4, hl346_2, hi346_2, hl346_4, hi346_4⟩ := at_T119 HR0.out x5_1 p346 q346
        obtain rfl : ad344 = ad346 := (by injection e346)
        have HR346_2 := A_ hi346_2
        have HC346_2 := A_ hl346_2
        clear hi346_2 hl346_2
        have HR346_4 := A_ hi346_4
        have HC346_4 := A_ hl346_4
        clear hi346_4 hl346_4
        replace p346 := eq_true p346
        replace q346 := eq_true q346
        have ea_ := Option.some.inj (hx344_2.symm.trans hx346_2)
        injection ea_ with ea_ en_ ec_
        subst ea_
        subst ec_
        clear en_
        have ea_ := Option.some.inj (hx344_4.symm.trans hx346_4)
        injection ea_ with ea_ en_ ec_
        subst ea_
        subst ec_
        clear en_
        go_wp2_with (first | ((with_reducible refine gate_callee (f := 146) rfl ?_); refine goesL_ (some 36) rfl rfl Try.func146 (by kernel_rfl) rfl #[.slice A344_2 ((rd_T119 l0 x5_1).f2).length c344_2, .int .i64 (wrap64 ((wrap64 (x1_1 + 1)) + 1))] rfl al_ ?_; (with_reducible refine (laws_heldEntryS.calls k1 _ _ ((rd_T119 l0 x5_1).f2) (wrap64 ((wrap64 (x1_1 + 1)) + 1)) t347 _ ?side1 ?side2 A7.out).mono ?_); (case side1 => exact cb_ HR346_2.out); (case side2 => exact HC346_2.out); rintro e w' ⟨rfl, ⟨nd, rfl⟩⟩; refine ⟨_, rfl, ?_⟩; have p348 : 0 ≤ (x5_1 : Int) := od_; have q348 : x5_1 < (l0.length : Int) := od_; obtain ⟨ad348, A348_2, c348_2, A348_4, c348_4, e348, hx348_0, hx348_1, hx348_2, hx348_3, hx348_4, hl348_2, hi348_2, hl348_4, hi348_4⟩ := at_T119 HR0.out x5_1 p348 q348; obtain rfl : ad344 = ad348 := (by injection e348); have HR348_2 := A_ hi348_2; have HC348_2 := A_ hl348_2; clear hi348_2 hl348_2; have HR348_4 := A_ hi348_4; have HC348_4 := A_ hl348_4; clear hi348_4 hl348_4; replace p348 := eq_true p348; replace q348 := eq_true q348; have ea_ := Option.some.inj (hx344_2.symm.trans hx348_2); injection ea_ with ea_ en_ ec_; subst ea_; subst ec_; clear en_; have ea_ := Option.some.inj (hx344_4.symm.trans hx348_4); injection ea_ with ea_ en_ ec_; subst ea_; subst ec_; clear en_; have p349 : 0 ≤ (x5_1 : Int) := od_; have q349 : x5_1 < (l0.length : Int) := od_; obtain ⟨ad349, A349_2, c349_2, A349_4, c349_4, e349, hx349_0, hx349_1, hx349_2, hx349_3, hx349_4, hl349_2, hi349_2, hl349_4, hi349_4⟩ := at_T119 HR0.out x5_1 p349 q349; obtain rfl : ad344 = ad349 := (by injection e349); have HR349_2 := A_ hi349_2; have HC349_2 := A_ hl349_2; clear hi349_2 hl349_2; have HR349_4 := A_ hi349_4; have HC349_4 := A_ hl349_4; clear hi349_4 hl349_4; replace p349 := eq_true p349; replace q349 := eq_true q349; have ea_ := Option.some.inj (hx344_2.symm.trans hx349_2); injection ea_ with ea_ en_ ec_; subst ea_; subst ec_; clear en_; have ea_ := Option.some.inj (hx344_4.symm.trans hx349_4); injection ea_ with ea_ en_ ec_; subst ea_; subst ec_; clear en_) | ((with_reducible refine gate_callee (f := 69) rfl ?_); refine goesL_ (some 56) rfl rfl Try.func69 (by kernel_rfl) rfl #[.slice A344_4 ((rd_T119 l0 x5_1).f3.f1).length c344_4, .int .i64 (wrap64 (t347 + 1))] rfl al_ ?_; (with_reducible refine (laws_heldIntS.calls k1 _ _ ((rd_T119 l0 x5_1).f3.f1) (wrap64 (t347 + 1)) t350 _ ?side1 ?side2 A10.out).mono ?_); (case side1 => exact cb_ HR349_4.out); (case side2 => exact HC349_4.out); rintro e w' ⟨rfl, ⟨nd, rfl⟩⟩; refine ⟨_, rfl, ?_⟩))
        go_ret
        exact ⟨rt_, by repeat (first | exact Drawn0.refl _ | apply Drawn0.step)⟩
       replace H' := A_ H; clear H
       obtain ⟨ad344, A344_2, c344_2, A344_4, c344_4, p344, q344, rfl, hx344_0, hx344_1, hx344_2, hx344_3, hx344_4, HC344_2, HR344_2, HC344_4, HR344_4⟩ := ab_T119 (A_ (Below.refl _ _)) HR0 x5_1
       have p345 : 0 ≤ (x5_1 : Int) := od_
       have q345 : x5_1 < (l0.length : Int) := od_
       obtain ⟨ad345, A345_2, c345_2, A345_4, c345_4, e345, hx345_0, hx345_1, hx345_2, hx345_3, hx345_4, hl345_2, hi345_2, hl345_4, hi345_4⟩ := at_T119 HR0.out x5_1 p345 q345
       obtain rfl : ad344 = ad345 := (by injection e345)
       have HR345_2 := A_ hi345_2
       have HC345_2 := A_ hl345_2
       clear hi345_2 hl345_2
       have HR345_4 := A_ hi345_4
       have HC345_4 := A_ hl345_4
       clear hi345_4 hl345_4
       replace p345 := eq_true p345
       replace q345 := eq_true q345
       have ea_ := Option.some.inj (hx344_2.symm.trans hx345_2)
       injection ea_ with ea_ en_ ec_
       subst ea_
       subst ec_
       clear en_
       have ea_ := Option.some.inj (hx344_4.symm.trans hx345_4)
       injection ea_ with ea_ en_ ec_
       subst ea_
       subst ec_
       clear en_
       have p346 : 0 ≤ (x5_1 : Int) := od_
       have q346 : x5_1 < (l0.length : Int) := od_
       obtain ⟨ad346, A346_2, c346_2, A346_4, c346_4, e346, hx346_0, hx346_1, hx346_2, hx346_3, hx346_4, hl346_2, hi346_2, hl346_4, hi346_4⟩ := at_T119 HR0.out x5_1 p346 q346
       obtain rfl : ad344 = ad346 := (by injection e346)
       have HR346_2 := A_ hi346_2
       have HC346_2 := A_ hl346_2
       clear hi346_2 hl346_2
       have HR346_4 := A_ hi346_4
       have HC346_4 := A_ hl346_4
       clear hi346_4 hl346_4
       replace p346 := eq_true p346
       replace q346 := eq_true q346
       have ea_ := Option.some.inj (hx344_2.symm.trans hx346_2)
       injection ea_ with ea_ en_ ec_
       subst ea_
       subst ec_
       clear en_
       have ea_ := Option.some.inj (hx344_4.symm.trans hx346_4)
       injection ea_ with ea_ en_ ec_
       subst ea_
       subst ec_
       clear en_
       go_wp2_with (first | ((with_reducible refine gate_callee (f := 146) rfl ?_); refine goesL_ (some 36) rfl rfl Try.func146 (by kernel_rfl) rfl #[.slice A344_2 ((rd_T119 l0 x5_1).f2).length c344_2, .int .i64 (wrap64 ((wrap64 (x1_1 + 1)) + 1))] rfl al_ ?_; (with_reducible refine (laws_heldEntryS.calls k1 _ _ ((rd_T119 l0 x5_1).f2) (wrap64 ((wrap64 (x1_1 + 1)) + 1)) t347 _ ?side1 ?side2 A7.out).mono ?_); (case side1 => exact cb_ HR346_2.out); (case side2 => exact HC346_2.out); rintro e w' ⟨rfl, ⟨nd, rfl⟩⟩; refine ⟨_, rfl, ?_⟩; have p348 : 0 ≤ (x5_1 : Int) := od_; have q348 : x5_1 < (l0.length : Int) := od_; obtain ⟨ad348, A348_2, c348_2, A348_4, c348_4, e348, hx348_0, hx348_1, hx348_2, hx348_3, hx348_4, hl348_2, hi348_2, hl348_4, hi348_4⟩ := at_T119 HR0.out x5_1 p348 q348; obtain rfl : ad344 = ad348 := (by injection e348); have HR348_2 := A_ hi348_2; have HC348_2 := A_ hl348_2; clear hi348_2 hl348_2; have HR348_4 := A_ hi348_4; have HC348_4 := A_ hl348_4; clear hi348_4 hl348_4; replace p348 := eq_true p348; replace q348 := eq_true q348; have ea_ := Option.some.inj (hx344_2.symm.trans hx348_2); injection ea_ with ea_ en_ ec_; subst ea_; subst ec_; clear en_; have ea_ := Option.some.inj (hx344_4.symm.trans hx348_4); injection ea_ with ea_ en_ ec_; subst ea_; subst ec_; clear en_; have p349 : 0 ≤ (x5_1 : Int) := od_; have q349 : x5_1 < (l0.length : Int) := od_; obtain ⟨ad349, A349_2, c349_2, A349_4, c349_4, e349, hx349_0, hx349_1, hx349_2, hx349_3, hx349_4, hl349_2, hi349_2, hl349_4, hi349_4⟩ := at_T119 HR0.out x5_1 p349 q349; obtain rfl : ad344 = ad349 := (by injection e349); have HR349_2 := A_ hi349_2; have HC349_2 := A_ hl349_2; clear hi349_2 hl349_2; have HR349_4 := A_ hi349_4; have HC349_4 := A_ hl349_4; clear hi349_4 hl349_4; replace p349 := eq_true p349; replace q349 := eq_true q349; have ea_ := Option.some.inj (hx344_2.symm.trans hx349_2); injection ea_ with ea_ en_ ec_; subst ea_; subst ec_; clear en_; have ea_ := Option.some.inj (hx344_4.symm.trans hx349_4); injection ea_ with ea_ en_ ec_; subst ea_; subst ec_; clear en_) | ((with_reducible refine gate_callee (f := 69) rfl ?_); refine goesL_ (some 56) rfl rfl Try.func69 (by kernel_rfl) rfl #[.slice A344_4 ((rd_T119 l0 x5_1).f3.f1).length c344_4, .int .i64 (wrap64 (t347 + 1))] rfl al_ ?_; (with_reducible refine (laws_heldIntS.calls k1 _ _ ((rd_T119 l0 x5_1).f3.f1) (wrap64 (t347 + 1)) t350 _ ?side1 ?side2 A10.out).mono ?_); (case side1 => exact cb_ HR349_4.out); (case side2 => exact HC349_4.out); rintro e w' ⟨rfl, ⟨nd, rfl⟩⟩; refine ⟨_, rfl, ?_⟩))
       go_roundg k1
       case measure => have := HK1.out; omega
       case rel => exact ⟨(t350), (wrap64 (x5_1 + 1)), rt_, rt_, H', ⟨by have := HK1.out; omega⟩, by repeat (first | exact Drawn0.refl _ | apply Drawn0.step)⟩
      rw [if_neg c9] at H
      have c9b0 : (((rd_T119 l0 x5_1).f3.f0) == t347) = false := beq_eq_false_iff_ne.mpr c9
      have c9b1 : (((rd_T119 l0 x5_1).f3.f0) != t347) = true := bne_iff_ne.mpr c9
      obtain rfl := Option.some.inj H
      obtain ⟨ad344, A344_2, c344_2, A344_4, c344_4, p344, q344, rfl, hx344_0, hx344_1, hx344_2, hx344_3, hx344_4, HC344_2, HR344_2, HC344_4, HR344_4⟩ := ab_T119 (A_ (Below.refl _ _)) HR0 x5_1
      have p345 : 0 ≤ (x5_1 : Int) := od_
      have q345 : x5_1 < (l0.length : Int) := od_
      obtain ⟨ad345, A345_2, c345_2, A345_4, c345_4, e345, hx345_0, hx345_1, hx345_2, hx345_3, hx345_4, hl345_2, hi345_2, hl345_4, hi345_4⟩ := at_T119 HR0.out x5_1 p345 q345
      obtain rfl : ad344 = ad345 := (by injection e345)
      have HR345_2 := A_ hi345_2
      have HC345_2 := A_ hl345_2
      clear hi345_2 hl345_2
      have HR345_4 := A_ hi345_4
      have HC345_4 := A_ hl345_4
      clear hi345_4 hl345_4
      replace p345 := eq_true p345
      replace q345 := eq_true q345
      have ea_ := Option.some.inj (hx344_2.symm.trans hx345_2)
      injection ea_ with ea_ en_ ec_
      subst ea_
      subst ec_
      clear en_
      have ea_ := Option.some.inj (hx344_4.symm.trans hx345_4)
      injection ea_ with ea_ en_ ec_
      subst ea_
      subst ec_
      clear en_
      have p346 : 0 ≤ (x5_1 : Int) := od_
      have q346 : x5_1 < (l0.length : Int) := od_
      obtain ⟨ad346, A346_2, c346_2, A346_4, c346_4, e346, hx346_0, hx346_1, hx346_2, hx346_3, hx346_4, hl346_2, hi346_2, hl346_4, hi346_4⟩ := at_T119 HR0.out x5_1 p346 q346
      obtain rfl : ad344 = ad346 := (by injection e346)
      have HR346_2 := A_ hi346_2
      have HC346_2 := A_ hl346_2
      clear hi346_2 hl346_2
      have HR346_4 := A_ hi346_4
      have HC346_4 := A_ hl346_4
      clear hi346_4 hl346_4
      replace p346 := eq_true p346
      replace q346 := eq_true q346
      have ea_ := Option.some.inj (hx344_2.symm.trans hx346_2)
      injection ea_ with ea_ en_ ec_
      subst ea_
      subst ec_
      clear en_
      have ea_ := Option.some.inj (hx344_4.symm.trans hx346_4)
      injection ea_ with ea_ en_ ec_
      subst ea_
      subst ec_
      clear en_
      go_wp2_with (first | ((with_reducible refine gate_callee (f := 146) rfl ?_); refine goesL_ (some 36) rfl rfl Try.func146 (by kernel_rfl) rfl #[.slice A344_2 ((rd_T119 l0 x5_1).f2).length c344_2, .int .i64 (wrap64 ((wrap64 (x1_1 + 1)) + 1))] rfl al_ ?_; (with_reducible refine (laws_heldEntryS.calls k1 _ _ ((rd_T119 l0 x5_1).f2) (wrap64 ((wrap64 (x1_1 + 1)) + 1)) t347 _ ?side1 ?side2 A7.out).mono ?_); (case side1 => exact cb_ HR346_2.out); (case side2 => exact HC346_2.out); rintro e w' ⟨rfl, ⟨nd, rfl⟩⟩; refine ⟨_, rfl, ?_⟩; have p348 : 0 ≤ (x5_1 : Int) := od_; have q348 : x5_1 < (l0.length : Int) := od_; obtain ⟨ad348, A348_2, c348_2, A348_4, c348_4, e348, hx348_0, hx348_1, hx348_2, hx348_3, hx348_4, hl348_2, hi348_2, hl348_4, hi348_4⟩ := at_T119 HR0.out x5_1 p348 q348; obtain rfl : ad344 = ad348 := (by injection e348); have HR348_2 := A_ hi348_2; have HC348_2 := A_ hl348_2; clear hi348_2 hl348_2; have HR348_4 := A_ hi348_4; have HC348_4 := A_ hl348_4; clear hi348_4 hl348_4; replace p348 := eq_true p348; replace q348 := eq_true q348; have ea_ := Option.some.inj (hx344_2.symm.trans hx348_2); injection ea_ with ea_ en_ ec_; subst ea_; subst ec_; clear en_; have ea_ := Option.some.inj (hx344_4.symm.trans hx348_4); injection ea_ with ea_ en_ ec_; subst ea_; subst ec_; clear en_))
      go_ret
      exact ⟨rt_, by repeat (first | exact Drawn0.refl _ | apply Drawn0.step)⟩
     rw [if_neg c6] at H
     have c6b0 : (((rd_T119 l0 x5_1).f1) == (wrap64 (x1_1 + 1))) = false := beq_eq_false_iff_ne.mpr c6
     have c6b1 : (((rd_T119 l0 x5_1).f1) != (wrap64 (x1_1 + 1))) = true := bne_iff_ne.mpr c6
     obtain rfl := Option.some.inj H
     obtain ⟨ad344, A344_2, c344_2, A344_4, c344_4, p344, q344, rfl, hx344_0, hx344_1, hx344_2, hx344_3, hx344_4, HC344_2, HR344_2, HC344_4, HR344_4⟩ := ab_T119 (A_ (Below.refl _ _)) HR0 x5_1
     have p345 : 0 ≤ (x5_1 : Int) := od_
     have q345 : x5_1 < (l0.length : Int) := od_
     obtain ⟨ad345, A345_2, c345_2, A345_4, c345_4, e345, hx345_0, hx345_1, hx345_2, hx345_3, hx345_4, hl345_2, hi345_2, hl345_4, hi345_4⟩ := at_T119 HR0.out x5_1 p345 q345
     obtain rfl : ad344 = ad345 := (by injection e345)
     have HR345_2 := A_ hi345_2
     have HC345_2 := A_ hl345_2
     clear hi345_2 hl345_2
     have HR345_4 := A_ hi345_4
     have HC345_4 := A_ hl345_4
     clear hi345_4 hl345_4
     replace p345 := eq_true p345
     replace q345 := eq_true q345
     have ea_ := Option.some.inj (hx344_2.symm.trans hx345_2)
     injection ea_ with ea_ en_ ec_
     subst ea_
     subst ec_
     clear en_
     have ea_ := Option.some.inj (hx344_4.symm.trans hx345_4)
     injection ea_ with ea_ en_ ec_
     subst ea_
     subst ec_
     clear en_
     go_wp2
     go_ret
     exact ⟨rt_, by repeat (first | exact Drawn0.refl _ | apply Drawn0.step)⟩
    rw [if_neg c5] at H
    have c5b0 : (((rd_T119 l0 x5_1).f0) == x1_1) = false := beq_eq_false_iff_ne.mpr c5
    have c5b1 : (((rd_T119 l0 x5_1).f0) != x1_1) = true := bne_iff_ne.mpr c5
    obtain rfl := Option.some.inj H
    obtain ⟨ad344, A344_2, c344_2, A344_4, c344_4, p344, q344, rfl, hx344_0, hx344_1, hx344_2, hx344_3, hx344_4, HC344_2, HR344_2, HC344_4, HR344_4⟩ := ab_T119 (A_ (Below.refl _ _)) HR0 x5_1
    go_wp2
    go_ret
    exact ⟨rt_, by repeat (first | exact Drawn0.refl _ | apply Drawn0.step)⟩
   obtain rfl := Option.some.inj H
   go_wp2
   go_ret
   exact ⟨rt_, by repeat (first | exact Drawn0.refl _ | apply Drawn0.step)⟩

/-! ### laws_heldMem: function 41 -/
def laws_heldMem.f (k : Nat) (l0_0 : List (S95)) (l0_1 : List (S119)) (a1 : Int) : Option (Int) := (laws_heldWordS.f k l0_0 a1).bind fun t352 => (if t352 < 0 then (some (-1)) else ((laws_heldDescS.f k l0_1 t352).bind fun t353 => (if t353 < 0 then (some (-1)) else (some t353))))
theorem laws_heldMem.mono : ∀ a0 a1 a2 k, LeO (laws_heldMem.f k a0 a1 a2) (laws_heldMem.f (k + 1) a0 a1 a2) := by
 intro a0 a1 a2 k
 unfold laws_heldMem.f
 repeat' first | (with_reducible first | apply laws_heldDescS.mono | apply laws_heldWordS.mono | apply LeO.refl | apply LeO.none | apply LeO.ite | refine LeO.bind ?_ (fun _ => ?_)) | apply laws_heldDescS.mono | apply laws_heldWordS.mono | apply LeO.none | apply LeO.ite | refine LeO.bind ?_ (fun _ => ?_)
set_option maxHeartbeats 8000000 in
set_option maxRecDepth 100000 in
theorem laws_heldMem.calls (k : Nat) (A0_0 : Option Addr) (c0_0 : Nat) (l0_0 : List (S95)) (A0_1 : Option Addr) (c0_1 : Nat) (l0_1 : List (S119)) (a1 : Int) (r : Int) (w : World) (hr0_0 : Kd.C k95 w A0_0 l0_0.length l0_0) (hc0_0 : l0_0.length ≤ c0_0) (hr0_1 : Kd.C k119 w A0_1 l0_1.length l0_1) (hc0_1 : l0_1.length ≤ c0_1) (h : laws_heldMem.f k l0_0 l0_1 a1 = some r) :
    Calls Try.prog 41 #[.agg #[.slice A0_0 l0_0.length c0_0, .slice A0_1 l0_1.length c0_1], .int .i64 a1] w fun e w' => e = .returned (.int .i64 r) ∧ Below w.heap.size w w' := by
 have hu31 := Try.underlying31
 have HR0_0 := A_ hr0_0
 have HC0_0 := A_ hc0_0
 clear hr0_0 hc0_0
 have HR0_1 := A_ hr0_1
 have HC0_1 := A_ hc0_1
 clear hr0_1 hc0_1
 have HB := A_ (Below.refl w.heap.size w)
 have H : ((laws_heldWordS.f k l0_0 a1).bind fun t352 => (if t352 < 0 then (some (-1)) else ((laws_heldDescS.f k l0_1 t352).bind fun t353 => (if t353 < 0 then (some (-1)) else (some t353))))) = some r := h
 clear h
 replace H := bs_ H
 obtain ⟨t352, A3, H⟩ := H
 replace H := ic_ H
 rcases H with ⟨c4b0, H⟩ | ⟨c4b0, H⟩
 ·
  obtain rfl := Option.some.inj H
  go_enter Try.func41, Try.ntmps41
  go_wp2_with (first | ((with_reducible refine gate_dst (N := 2) rfl ?_); refine bx_ HB rfl (N := 2) rfl (cs := #[.slice A0_0 l0_0.length c0_0, .slice A0_1 l0_1.length c0_1]) (t := 31) hr_ ?_; clear HB; intro gb351 w5 hg hb BK351 GW351 HB; clear hb hg; obtain ⟨hcz6_0, hcz6_1, hfz6_0, hfz6_1⟩ := cz2_ BK351) | ((with_reducible refine gate_callee (f := 98) rfl ?_); refine goesL_ (some 8) rfl rfl Try.func98 (by kernel_rfl) rfl #[.slice A0_0 l0_0.length c0_0, .int .i64 a1] rfl al_ ?_; (with_reducible refine (laws_heldWordS.calls k _ _ l0_0 a1 t352 _ ?side1 ?side2 A3.out).mono ?_); (case side1 => exact cb_ (Kd.C_below HR0_0.out HB.out)); (case side2 => exact HC0_0.out); rintro e w' ⟨rfl, ⟨nd, rfl⟩⟩; refine ⟨_, rfl, ?_⟩))
  go_ret
  exact ⟨rs_, hb_ HB⟩
 replace H := bs_ H
 obtain ⟨t353, A7, H⟩ := H
 replace H := ic_ H
 rcases H with ⟨c8b0, H⟩ | ⟨c8b0, H⟩
 ·
  obtain rfl := Option.some.inj H
  go_enter Try.func41, Try.ntmps41
  go_wp2_with (first | ((with_reducible refine gate_dst (N := 2) rfl ?_); refine bx_ HB rfl (N := 2) rfl (cs := #[.slice A0_0 l0_0.length c0_0, .slice A0_1 l0_1.length c0_1]) (t := 31) hr_ ?_; clear HB; intro gb351 w9 hg hb BK351 GW351 HB; clear hb hg; obtain ⟨hcz10_0, hcz10_1, hfz10_0, hfz10_1⟩ := cz2_ BK351) | ((with_reducible refine gate_callee (f := 98) rfl ?_); refine goesL_ (some 8) rfl rfl Try.func98 (by kernel_rfl) rfl #[.slice A0_0 l0_0.length c0_0, .int .i64 a1] rfl al_ ?_; (with_reducible refine (laws_heldWordS.calls k _ _ l0_0 a1 t352 _ ?side1 ?side2 A3.out).mono ?_); (case side1 => exact cb_ (Kd.C_below HR0_0.out HB.out)); (case side2 => exact HC0_0.out); rintro e w' ⟨rfl, ⟨nd, rfl⟩⟩; refine ⟨_, rfl, ?_⟩) | ((with_reducible refine gate_callee (f := 99) rfl ?_); refine goesL_ (some 14) rfl rfl Try.func99 (by kernel_rfl) rfl #[.slice A0_1 l0_1.length c0_1, .int .i64 t352] rfl al_ ?_; (with_reducible refine (laws_heldDescS.calls k _ _ l0_1 t352 t353 _ ?side1 ?side2 A7.out).mono ?_); (case side1 => exact cb_ (Kd.C_below HR0_1.out (hb_ HB))); (case side2 => exact HC0_1.out); rintro e w' ⟨rfl, ⟨nd, rfl⟩⟩; refine ⟨_, rfl, ?_⟩))
  go_ret
  exact ⟨rs_, hb_ HB⟩
 obtain rfl := Option.some.inj H
 go_enter Try.func41, Try.ntmps41
 go_wp2_with (first | ((with_reducible refine gate_dst (N := 2) rfl ?_); refine bx_ HB rfl (N := 2) rfl (cs := #[.slice A0_0 l0_0.length c0_0, .slice A0_1 l0_1.length c0_1]) (t := 31) hr_ ?_; clear HB; intro gb351 w11 hg hb BK351 GW351 HB; clear hb hg; obtain ⟨hcz12_0, hcz12_1, hfz12_0, hfz12_1⟩ := cz2_ BK351) | ((with_reducible refine gate_callee (f := 98) rfl ?_); refine goesL_ (some 8) rfl rfl Try.func98 (by kernel_rfl) rfl #[.slice A0_0 l0_0.length c0_0, .int .i64 a1] rfl al_ ?_; (with_reducible refine (laws_heldWordS.calls k _ _ l0_0 a1 t352 _ ?side1 ?side2 A3.out).mono ?_); (case side1 => exact cb_ (Kd.C_below HR0_0.out HB.out)); (case side2 => exact HC0_0.out); rintro e w' ⟨rfl, ⟨nd, rfl⟩⟩; refine ⟨_, rfl, ?_⟩) | ((with_reducible refine gate_callee (f := 99) rfl ?_); refine goesL_ (some 14) rfl rfl Try.func99 (by kernel_rfl) rfl #[.slice A0_1 l0_1.length c0_1, .int .i64 t352] rfl al_ ?_; (with_reducible refine (laws_heldDescS.calls k _ _ l0_1 t352 t353 _ ?side1 ?side2 A7.out).mono ?_); (case side1 => exact cb_ (Kd.C_below HR0_1.out (hb_ HB))); (case side2 => exact HC0_1.out); rintro e w' ⟨rfl, ⟨nd, rfl⟩⟩; refine ⟨_, rfl, ?_⟩))
 go_ret
 exact ⟨rs_, hb_ HB⟩

end Go.Proofs.Ytmkhghbalnadlaa.PFnExactMemNew
