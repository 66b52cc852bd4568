/- Contracts of functions of the program: each says that the call does what a plain Lean function tells. Made by programs of this session and of the kit. No condition beyond the hypotheses that each theorem names. -/
import Derived.Test.YtmkhghbalnadlaaPFnExactBeginx0
import Derived.Test.YtmkhghbalnadlaaPFnExactBeginx4
namespace Go.Proofs.Ytmkhghbalnadlaa.PFnExactBegin
open Go.RowKit Go.Proofs.YtmkhghbalnadlaaW.PrintWords Go.Proofs.YtmkhghbalnadlaaW.PrintLast Go.Proofs.YtmkhghbalnadlaaW.PrintMore
attribute [local go_sem] max2_int min2_int max_two min_two max_three min_three max_four min_four   -- for this text's walks alone
set_option linter.unusedVariables false
set_option linter.unusedSimpArgs false

/-! ### laws_heldDescS: function 99 -/
def laws_heldDescS.l0 : Nat → List (S119) → Int → Int → Option (Int)
 | 0, _, _, _ => none
 | k + 1, x0, x1, x5 => if x5 < (x0.length : Int) then (if 0 ≤ x5 then (if ((rd_T119 x0 x5).f0) = x1 then (if ((rd_T119 x0 x5).f1) = (wrap64 (x1 + 1)) then ((laws_heldEntryS.f k ((rd_T119 x0 x5).f2) (wrap64 ((wrap64 (x1 + 1)) + 1))).bind fun t227 => (if t227 < 0 then (some (-1)) else (if ((rd_T119 x0 x5).f3.f0) = t227 then ((laws_heldIntS.f k ((rd_T119 x0 x5).f3.f1) (wrap64 (t227 + 1))).bind fun t230 => (if t230 < 0 then (some (-1)) else (laws_heldDescS.l0 k x0 t230 (wrap64 (x5 + 1))))) else (some (-1))))) else (some (-1))) else (some (-1))) else (none)) else (some x1)
def laws_heldDescS.f (k : Nat) (l0 : List (S119)) (a1 : Int) : Option (Int) := laws_heldDescS.l0 k l0 a1 0
set_option maxHeartbeats 8000000 in
set_option maxRecDepth 100000 in
theorem laws_heldDescS.calls (k : Nat) (A0 : Option Addr) (c0 : Nat) (l0 : List (S119)) (a1 : Int) (r : Int) (w : World) (hr0 : Kd.C k119 w A0 l0.length l0) (hc0 : l0.length ≤ c0) (h : laws_heldDescS.f k l0 a1 = some r) :
    Calls Try.prog 99 #[.slice A0 l0.length c0, .int .i64 a1] w fun e w' => e = .returned (.int .i64 r) ∧ Drawn0 w w' := by
 have HR0 := A_ hr0
 have HC0 := A_ hc0
 clear hr0 hc0
 have H : (laws_heldDescS.l0 k l0 a1 0) = some r := h
 clear h
 replace H' := A_ H; clear H
 go_enter Try.func99, Try.ntmps99
 go_wp2
 go_loopg [1, 5] k (fun kq v1 v5 w' => ∃ (x1_1 : Int) (x5_1 : Int), v1 = .int .i64 x1_1 ∧ v5 = .int .i64 x5_1 ∧ Aside0 (laws_heldDescS.l0 kq l0 x1_1 x5_1 = some r) ∧ Aside0 (kq ≤ k) ∧ Drawn0 w w')
 case atStart => exact ⟨(a1), (0), rt_, rt_, H', ⟨Nat.le_refl _⟩, by repeat (first | exact Drawn0.refl _ | apply Drawn0.step)⟩
 case round =>
  clear H'
  obtain ⟨x1_1, x5_1, rfl, rfl, HA, HK1, ⟨m1, rfl⟩⟩ := hrel
  cases gk with
  | zero => exact absurd HA.out (by simp [laws_heldDescS.l0])
  | succ k1 =>
   have H := HA.out
   clear HA
   simp only [laws_heldDescS.l0] at H
   replace H := ic_ H
   rcases H with ⟨c3b0, H⟩ | ⟨c3b0, H⟩
   ·
    replace H := ix_ H
    obtain ⟨c4b0, H⟩ := H
    by_cases c5 : ((rd_T119 l0 x5_1).f0) = x1_1
    ·
     rw [if_pos c5] at H
     have c5b0 : (((rd_T119 l0 x5_1).f0) == x1_1) = true := beq_iff_eq.mpr c5
     have c5b1 : (((rd_T119 l0 x5_1).f0) != x1_1) = false := bne_eq_false_iff_eq.mpr c5
     clear c5
     by_cases c6 : ((rd_T119 l0 x5_1).f1) = (wrap64 (x1_1 + 1))
     ·
      rw [if_pos c6] at H
      have c6b0 : (((rd_T119 l0 x5_1).f1) == (wrap64 (x1_1 + 1))) = true := beq_iff_eq.mpr c6
      have c6b1 : (((rd_T119 l0 x5_1).f1) != (wrap64 (x1_1 + 1))) = false := bne_eq_false_iff_eq.mpr c6
      clear c6
      replace H := bs_ H
      obtain ⟨t227, A7, H⟩ := H
      replace H := ic_ H
      rcases H with ⟨c8b0, H⟩ | ⟨c8b0, H⟩
      ·
       obtain rfl := Option.some.inj H
       obtain ⟨ad224, A224_2, c224_2, A224_4, c224_4, p224, q224, rfl, hx224_0, hx224_1, hx224_2, hx224_3, hx224_4, HC224_2, HR224_2, HC224_4, HR224_4⟩ := ab_T119 (A_ (Below.refl _ _)) HR0 x5_1
       have p225 : 0 ≤ (x5_1 : Int) := od_
       have q225 : x5_1 < (l0.length : Int) := od_
       obtain ⟨ad225, A225_2, c225_2, A225_4, c225_4, e225, hx225_0, hx225_1, hx225_2, hx225_3, hx225_4, hl225_2, hi225_2, hl225_4, hi225_4⟩ := at_T119 HR0.out x5_1 p225 q225
       obtain rfl : ad224 = ad225 := (by injection e225)
       have HR225_2 := A_ hi225_2
       have HC225_2 := A_ hl225_2
       clear hi225_2 hl225_2
       have HR225_4 := A_ hi225_4
       have HC225_4 := A_ hl225_4
       clear hi225_4 hl225_4
       replace p225 := eq_true p225
       replace q225 := eq_true q225
       have ea_ := Option.some.inj (hx224_2.symm.trans hx225_2)
       injection ea_ with ea_ en_ ec_
       subst ea_
       subst ec_
       clear en_
       have ea_ := Option.some.inj (hx224_4.symm.trans hx225_4)
       injection ea_ with ea_ en_ ec_
       subst ea_
       subst ec_
       clear en_
       have p226 : 0 ≤ (x5_1 : Int) := od_
       have q226 : x5_1 < (l0.length : Int) := od_
       obtain ⟨ad226, A226_2, c226_2, A226_4, c226_4, e226, hx226_0, hx226_1, hx226_2, hx226_3, hx226_4, hl226_2, hi226_2, hl226_4, hi226_4⟩ := at_T119 HR0.out x5_1 p226 q226
       obtain rfl : ad224 = ad226 := (by injection e226)
       have HR226_2 := A_ hi226_2
       have HC226_2 := A_ hl226_2
       clear hi226_2 hl226_2
       have HR226_4 := A_ hi226_4
       have HC226_4 := A_ hl226_4
       clear hi226_4 hl226_4
       replace p226 := eq_true p226
       replace q226 := eq_true q226
       have ea_ := Option.some.inj (hx224_2.symm.trans hx226_2)
       injection ea_ with ea_ en_ ec_
       subst ea_
       subst ec_
       clear en_
       have ea_ := Option.some.inj (hx224_4.symm.trans hx226_4)
       injection ea_ with ea_ en_ ec_
       subst ea_
       subst ec_
       clear en_
       go_wp2_with (first | ((with_reducible refine gate_callee (f := 146) rfl ?_); refine goesL_ (some 36) rfl rfl Try.func146 (by kernel_rfl) rfl #[.slice A224_2 ((rd_T119 l0 x5_1).f2).length c224_2, .int .i64 (wrap64 ((wrap64 (x1_1 + 1)) + 1))] rfl al_ ?_; (with_reducible refine (laws_heldEntryS.calls k1 _ _ ((rd_T119 l0 x5_1).f2) (wrap64 ((wrap64 (x1_1 + 1)) + 1)) t227 _ ?side1 ?side2 A7.out).mono ?_); (case side1 => exact cb_ HR226_2.out); (case side2 => exact HC226_2.out); rintro e w' ⟨rfl, ⟨nd, rfl⟩⟩; refine ⟨_, rfl, ?_⟩))
       go_ret
       exact ⟨rt_, by repeat (first | exact Drawn0.refl _ | apply Drawn0.step)⟩
      by_cases c9 : ((rd_T119 l0 x5_1).f3.f0) = t227
      ·
       rw [if_pos c9] at H
       have c9b0 : (((rd_T119 l0 x5_1).f3.f0) == t227) = true := beq_iff_eq.mpr c9
       have c9b1 : (((rd_T119 l0 x5_1).f3.f0) != t227) = false := bne_eq_false_iff_eq.mpr c9
       clear c9
       replace H := bs_ H
       obtain ⟨t230, A10, H⟩ := H
       replace H := ic_ H
       rcases H with ⟨c11b0, H⟩ | ⟨c11b0, H⟩
       ·
        obtain rfl := Option.some.inj H
        obtain ⟨ad224, A224_2, c224_2, A224_4, c224_4, p224, q224, rfl, hx224_0, hx224_1, hx224_2, hx224_3, hx224_4, HC224_2, HR224_2, HC224_4, HR224_4⟩ := ab_T119 (A_ (Below.refl _ _)) HR0 x5_1
        have p225 : 0 ≤ (x5_1 : Int) := od_
        have q225 : x5_1 < (l0.length : Int) := od_
        obtain ⟨ad225, A225_2, c225_2, A225_4, c225_4, e225, hx225_0, hx225_1, hx225_2, hx225_3, hx225_4, hl225_2, hi225_2, hl225_4, hi225_4⟩ := at_T119 HR0.out x5_1 p225 q225
        obtain rfl : ad224 = ad225 := (by injection e225)
        have HR225_2 := A_ hi225_2
        have HC225_2 := A_ hl225_2
        clear hi225_2 hl225_2
        have HR225_4 := A_ hi225_4
        have HC225_4 := A_ hl225_4
        clear hi225_4 hl225_4
        replace p225 := eq_true p225
        replace q225 := eq_true q225
        have ea_ := Option.some.inj (hx224_2.symm.trans hx225_2)
        injection ea_ with ea_ en_ ec_
        subst ea_
        subst ec_
        clear en_
        have ea_ := Option.some.inj (hx224_4.symm.trans hx225_4)
        injection ea_ with ea_ en_ ec_
        subst ea_
        subst ec_
        clear en_
        have p226 : 0 ≤ (x5_1 : Int) := od_
        have q226 : x5_1 < (l0.length : Int) := od_
        obtain ⟨ad226, A226_2, c226_2, A226_4, c226_4, e226, hx226_0, hx226_1, hx226_2, hx226_3, hx226_4, hl226_2, hi226_2, hl226_4, hi226_4⟩ := at_T119 HR0.out x5_1 p226 q226
        obtain rfl : ad224 = ad226 := (by injection e226)
        have HR226_2 := A_ hi226_2
        have HC226_2 := A_ hl226_2
        clear hi226_2 hl226_2
        have HR226_4 := A_ hi226_4
        have HC226_4 := A_ hl226_4
        clear hi226_4 hl226_4
        replace p226 := eq_true p226
        replace q226 := eq_true q226
        have ea_ := Option.some.inj (hx224_2.symm.trans hx226_2)
        injection ea_ with ea_ en_ ec_
        subst ea_
        subst ec_
        clear en_
        have ea_ := Option.some.inj (hx224_4.symm.trans hx226_4)
        injection ea_ with ea_ en_ ec_
        subst ea_
        subst ec_
        clear en_
        go_wp2_with (first | ((with_reducible refine gate_callee (f := 146) rfl ?_); refine goesL_ (some 36) rfl rfl Try.func146 (by kernel_rfl) rfl #[.slice A224_2 ((rd_T119 l0 x5_1).f2).length c224_2, .int .i64 (wrap64 ((wrap64 (x1_1 + 1)) + 1))] rfl al_ ?_; (with_reducible refine (laws_heldEntryS.calls k1 _ _ ((rd_T119 l0 x5_1).f2) (wrap64 ((wrap64 (x1_1 + 1)) + 1)) t227 _ ?side1 ?side2 A7.out).mono ?_); (case side1 => exact cb_ HR226_2.out); (case side2 => exact HC226_2.out); rintro e w' ⟨rfl, ⟨nd, rfl⟩⟩; refine ⟨_, rfl, ?_⟩; have p228 : 0 ≤ (x5_1 : Int) := od_; have q228 : x5_1 < (l0.length : Int) := od_; obtain ⟨ad228, A228_2, c228_2, A228_4, c228_4, e228, hx228_0, hx228_1, hx228_2, hx228_3, hx228_4, hl228_2, hi228_2, hl228_4, hi228_4⟩ := at_T119 HR0.out x5_1 p228 q228; obtain rfl : ad224 = ad228 := (by injection e228); have HR228_2 := A_ hi228_2; have HC228_2 := A_ hl228_2; clear hi228_2 hl228_2; have HR228_4 := A_ hi228_4; have HC228_4 := A_ hl228_4; clear hi228_4 hl228_4; replace p228 := eq_true p228; replace q228 := eq_true q228; have ea_ := Option.some.inj (hx224_2.symm.trans hx228_2); injection ea_ with ea_ en_ ec_; subst ea_; subst ec_; clear en_; have ea_ := Option.some.inj (hx224_4.symm.trans hx228_4); injection ea_ with ea_ en_ ec_; subst ea_; subst ec_; clear en_; have p229 : 0 ≤ (x5_1 : Int) := od_; have q229 : x5_1 < (l0.length : Int) := od_; obtain ⟨ad229, A229_2, c229_2, A229_4, c229_4, e229, hx229_0, hx229_1, hx229_2, hx229_3, hx229_4, hl229_2, hi229_2, hl229_4, hi229_4⟩ := at_T119 HR0.out x5_1 p229 q229; obtain rfl : ad224 = ad229 := (by injection e229); have HR229_2 := A_ hi229_2; have HC229_2 := A_ hl229_2; clear hi229_2 hl229_2; have HR229_4 := A_ hi229_4; have HC229_4 := A_ hl229_4; clear hi229_4 hl229_4; replace p229 := eq_true p229; replace q229 := eq_true q229; have ea_ := Option.some.inj (hx224_2.symm.trans hx229_2); injection ea_ with ea_ en_ ec_; subst ea_; subst ec_; clear en_; have ea_ := Option.some.inj (hx224_4.symm.trans hx229_4); injection ea_ with ea_ en_ ec_; subst ea_; subst ec_; clear en_) | ((with_reducible refine gate_callee (f := 69) rfl ?_); refine goesL_ (some 56) rfl rfl Try.func69 (by kernel_rfl) rfl #[.slice A224_4 ((rd_T119 l0 x5_1).f3.f1).length c224_4, .int .i64 (wrap64 (t227 + 1))] rfl al_ ?_; (with_reducible refine (laws_heldIntS.calls k1 _ _ ((rd_T119 l0 x5_1).f3.f1) (wrap64 (t227 + 1)) t230 _ ?side1 ?side2 A10.out).mono ?_); (case side1 => exact cb_ HR229_4.out); (case side2 => exact HC229_4.out); rintro e w' ⟨rfl, ⟨nd, rfl⟩⟩; refine ⟨_, rfl, ?_⟩))
        go_ret
        exact ⟨rt_, by repeat (first | exact Drawn0.refl _ | apply Drawn0.step)⟩
       replace H' := A_ H; clear H
       obtain ⟨ad224, A224_2, c224_2, A224_4, c224_4, p224, q224, rfl, hx224_0, hx224_1, hx224_2, hx224_3, hx224_4, HC224_2, HR224_2, HC224_4, HR224_4⟩ := ab_T119 (A_ (Below.refl _ _)) HR0 x5_1
       have p225 : 0 ≤ (x5_1 : Int) := od_
       have q225 : x5_1 < (l0.length : Int) := od_
       obtain ⟨ad225, A225_2, c225_2, A225_4, c225_4, e225, hx225_0, hx225_1, hx225_2, hx225_3, hx225_4, hl225_2, hi225_2, hl225_4, hi225_4⟩ := at_T119 HR0.out x5_1 p225 q225
       obtain rfl : ad224 = ad225 := (by injection e225)
       have HR225_2 := A_ hi225_2
       have HC225_2 := A_ hl225_2
       clear hi225_2 hl225_2
       have HR225_4 := A_ hi225_4
       have HC225_4 := A_ hl225_4
       clear hi225_4 hl225_4
       replace p225 := eq_true p225
       replace q225 := eq_true q225
       have ea_ := Option.some.inj (hx224_2.symm.trans hx225_2)
       injection ea_ with ea_ en_ ec_
       subst ea_
       subst ec_
       clear en_
       have ea_ := Option.some.inj (hx224_4.symm.trans hx225_4)
       injection ea_ with ea_ en_ ec_
       subst ea_
       subst ec_
       clear en_
       have p226 : 0 ≤ (x5_1 : Int) := od_
       have q226 : x5_1 < (l0.length : Int) := od_
       obtain ⟨ad226, A226_2, c226_2, A226_4, c226_4, e226, hx226_0, hx226_1, hx226_2, hx226_3, hx226_4, hl226_2, hi226_2, hl226_4, hi226_4⟩ := at_T119 HR0.out x5_1 p226 q226
       obtain rfl : ad224 = ad226 := (by injection e226)
       have HR226_2 := A_ hi226_2
       have HC226_2 := A_ hl226_2
       clear hi226_2 hl226_2
       have HR226_4 := A_ hi226_4
       have HC226_4 := A_ hl226_4
       clear hi226_4 hl226_4
       replace p226 := eq_true p226
       replace q226 := eq_true q226
       have ea_ := Option.some.inj (hx224_2.symm.trans hx226_2)
       injection ea_ with ea_ en_ ec_
       subst ea_
       subst ec_
       clear en_
       have ea_ := Option.some.inj (hx224_4.symm.trans hx226_4)
       injection ea_ with ea_ en_ ec_
       subst ea_
       subst ec_
       clear en_
       go_wp2_with (first | ((with_reducible refine gate_callee (f := 146) rfl ?_); refine goesL_ (some 36) rfl rfl Try.func146 (by kernel_rfl) rfl #[.slice A224_2 ((rd_T119 l0 x5_1).f2).length c224_2, .int .i64 (wrap64 ((wrap64 (x1_1 + 1)) + 1))] rfl al_ ?_; (with_reducible refine (laws_heldEntryS.calls k1 _ _ ((rd_T119 l0 x5_1).f2) (wrap64 ((wrap64 (x1_1 + 1)) + 1)) t227 _ ?side1 ?side2 A7.out).mono ?_); (case side1 => exact cb_ HR226_2.out); (case side2 => exact HC226_2.out); rintro e w' ⟨rfl, ⟨nd, rfl⟩⟩; refine ⟨_, rfl, ?_⟩; have p228 : 0 ≤ (x5_1 : Int) := od_; have q228 : x5_1 < (l0.length : Int) := od_; obtain ⟨ad228, A228_2, c228_2, A228_4, c228_4, e228, hx228_0, hx228_1, hx228_2, hx228_3, hx228_4, hl228_2, hi228_2, hl228_4, hi228_4⟩ := at_T119 HR0.out x5_1 p228 q228; obtain rfl : ad224 = ad228 := (by injection e228); have HR228_2 := A_ hi228_2; have HC228_2 := A_ hl228_2; clear hi228_2 hl228_2; have HR228_4 := A_ hi228_4; have HC228_4 := A_ hl228_4; clear hi228_4 hl228_4; replace p228 := eq_true p228; replace q228 := eq_true q228; have ea_ := Option.some.inj (hx224_2.symm.trans hx228_2); injection ea_ with ea_ en_ ec_; subst ea_; subst ec_; clear en_; have ea_ := Option.some.inj (hx224_4.symm.trans hx228_4); injection ea_ with ea_ en_ ec_; subst ea_; subst ec_; clear en_; have p229 : 0 ≤ (x5_1 : Int) := od_; have q229 : x5_1 < (l0.length : Int) := od_; obtain ⟨ad229, A229_2, c229_2, A229_4, c229_4, e229, hx229_0, hx229_1, hx229_2, hx229_3, hx229_4, hl229_2, hi229_2, hl229_4, hi229_4⟩ := at_T119 HR0.out x5_1 p229 q229; obtain rfl : ad224 = ad229 := (by injection e229); have HR229_2 := A_ hi229_2; have HC229_2 := A_ hl229_2; clear hi229_2 hl229_2; have HR229_4 := A_ hi229_4; have HC229_4 := A_ hl229_4; clear hi229_4 hl229_4; replace p229 := eq_true p229; replace q229 := eq_true q229; have ea_ := Option.some.inj (hx224_2.symm.trans hx229_2); injection ea_ with ea_ en_ ec_; subst ea_; subst ec_; clear en_; have ea_ := Option.some.inj (hx224_4.symm.trans hx229_4); injection ea_ with ea_ en_ ec_; subst ea_; subst ec_; clear en_) | ((with_reducible refine gate_callee (f := 69) rfl ?_); refine goesL_ (some 56) rfl rfl Try.func69 (by kernel_rfl) rfl #[.slice A224_4 ((rd_T119 l0 x5_1).f3.f1).length c224_4, .int .i64 (wrap64 (t227 + 1))] rfl al_ ?_; (with_reducible refine (laws_heldIntS.calls k1 _ _ ((rd_T119 l0 x5_1).f3.f1) (wrap64 (t227 + 1)) t230 _ ?side1 ?side2 A10.out).mono ?_); (case side1 => exact cb_ HR229_4.out); (case side2 => exact HC229_4.out); rintro e w' ⟨rfl, ⟨nd, rfl⟩⟩; refine ⟨_, rfl, ?_⟩))
       go_roundg k1
       case measure => have := HK1.out; omega
       case rel => exact ⟨(t230), (wrap64 (x5_1 + 1)), rt_, rt_, H', ⟨by have := HK1.out; omega⟩, by repeat (first | exact Drawn0.refl _ | apply Drawn0.step)⟩
      rw [if_neg c9] at H
      have c9b0 : (((rd_T119 l0 x5_1).f3.f0) == t227) = false := beq_eq_false_iff_ne.mpr c9
      have c9b1 : (((rd_T119 l0 x5_1).f3.f0) != t227) = true := bne_iff_ne.mpr c9
      obtain rfl := Option.some.inj H
      obtain ⟨ad224, A224_2, c224_2, A224_4, c224_4, p224, q224, rfl, hx224_0, hx224_1, hx224_2, hx224_3, hx224_4, HC224_2, HR224_2, HC224_4, HR224_4⟩ := ab_T119 (A_ (Below.refl _ _)) HR0 x5_1
      have p225 : 0 ≤ (x5_1 : Int) := od_
      have q225 : x5_1 < (l0.length : Int) := od_
      obtain ⟨ad225, A225_2, c225_2, A225_4, c225_4, e225, hx225_0, hx225_1, hx225_2, hx225_3, hx225_4, hl225_2, hi225_2, hl225_4, hi225_4⟩ := at_T119 HR0.out x5_1 p225 q225
      obtain rfl : ad224 = ad225 := (by injection e225)
      have HR225_2 := A_ hi225_2
      have HC225_2 := A_ hl225_2
      clear hi225_2 hl225_2
      have HR225_4 := A_ hi225_4
      have HC225_4 := A_ hl225_4
      clear hi225_4 hl225_4
      replace p225 := eq_true p225
      replace q225 := eq_true q225
      have ea_ := Option.some.inj (hx224_2.symm.trans hx225_2)
      injection ea_ with ea_ en_ ec_
      subst ea_
      subst ec_
      clear en_
      have ea_ := Option.some.inj (hx224_4.symm.trans hx225_4)
      injection ea_ with ea_ en_ ec_
      subst ea_
      subst ec_
      clear en_
      have p226 : 0 ≤ (x5_1 : Int) := od_
      have q226 : x5_1 < (l0.length : Int) := od_
      obtain ⟨ad226, A226_2, c226_2, A226_4, c226_4, e226, hx226_0, hx226_1, hx226_2, hx226_3, hx226_4, hl226_2, hi226_2, hl226_4, hi226_4⟩ := at_T119 HR0.out x5_1 p226 q226
      obtain rfl : ad224 = ad226 := (by injection e226)
      have HR226_2 := A_ hi226_2
      have HC226_2 := A_ hl226_2
      clear hi226_2 hl226_2
      have HR226_4 := A_ hi226_4
      have HC226_4 := A_ hl226_4
      clear hi226_4 hl226_4
      replace p226 := eq_true p226
      replace q226 := eq_true q226
      have ea_ := Option.some.inj (hx224_2.symm.trans hx226_2)
      injection ea_ with ea_ en_ ec_
      subst ea_
      subst ec_
      clear en_
      have ea_ := Option.some.inj (hx224_4.symm.trans hx226_4)
      injection ea_ with ea_ en_ ec_
      subst ea_
      subst ec_
      clear en_
      go_wp2_with (first | ((with_reducible refine gate_callee (f := 146) rfl ?_); refine goesL_ (some 36) rfl rfl Try.func146 (by kernel_rfl) rfl #[.slice A224_2 ((rd_T119 l0 x5_1).f2).length c224_2, .int .i64 (wrap64 ((wrap64 (x1_1 + 1)) + 1))] rfl al_ ?_; (with_reducible refine (laws_heldEntryS.calls k1 _ _ ((rd_T119 l0 x5_1).f2) (wrap64 ((wrap64 (x1_1 + 1)) + 1)) t227 _ ?side1 ?side2 A7.out).mono ?_); (case side1 => exact cb_ HR226_2.out); (case side2 => exact HC226_2.out); rintro e w' ⟨rfl, ⟨nd, rfl⟩⟩; refine ⟨_, rfl, ?_⟩; have p228 : 0 ≤ (x5_1 : Int) := od_; have q228 : x5_1 < (l0.length : Int) := od_; obtain ⟨ad228, A228_2, c228_2, A228_4, c228_4, e228, hx228_0, hx228_1, hx228_2, hx228_3, hx228_4, hl228_2, hi228_2, hl228_4, hi228_4⟩ := at_T119 HR0.out x5_1 p228 q228; obtain rfl : ad224 = ad228 := (by injection e228); have HR228_2 := A_ hi228_2; have HC228_2 := A_ hl228_2; clear hi228_2 hl228_2; have HR228_4 := A_ hi228_4; have HC228_4 := A_ hl228_4; clear hi228_4 hl228_4; replace p228 := eq_true p228; replace q228 := eq_true q228; have ea_ := Option.some.inj (hx224_2.symm.trans hx228_2); injection ea_ with ea_ en_ ec_; subst ea_; subst ec_; clear en_; have ea_ := Option.some.inj (hx224_4.symm.trans hx228_4); injection ea_ with ea_ en_ ec_; subst ea_; subst ec_; clear en_))
      go_ret
      exact ⟨rt_, by repeat (first | exact Drawn0.refl _ | apply Drawn0.step)⟩
     rw [if_neg c6] at H
     have c6b0 : (((rd_T119 l0 x5_1).f1) == (wrap64 (x1_1 + 1))) = false := beq_eq_false_iff_ne.mpr c6
     have c6b1 : (((rd_T119 l0 x5_1).f1) != (wrap64 (x1_1 + 1))) = true := bne_iff_ne.mpr c6
     obtain rfl := Option.some.inj H
     obtain ⟨ad224, A224_2, c224_2, A224_4, c224_4, p224, q224, rfl, hx224_0, hx224_1, hx224_2, hx224_3, hx224_4, HC224_2, HR224_2, HC224_4, HR224_4⟩ := ab_T119 (A_ (Below.refl _ _)) HR0 x5_1
     have p225 : 0 ≤ (x5_1 : Int) := od_
     have q225 : x5_1 < (l0.length : Int) := od_
     obtain ⟨ad225, A225_2, c225_2, A225_4, c225_4, e225, hx225_0, hx225_1, hx225_2, hx225_3, hx225_4, hl225_2, hi225_2, hl225_4, hi225_4⟩ := at_T119 HR0.out x5_1 p225 q225
     obtain rfl : ad224 = ad225 := (by injection e225)
     have HR225_2 := A_ hi225_2
     have HC225_2 := A_ hl225_2
     clear hi225_2 hl225_2
     have HR225_4 := A_ hi225_4
     have HC225_4 := A_ hl225_4
     clear hi225_4 hl225_4
     replace p225 := eq_true p225
     replace q225 := eq_true q225
     have ea_ := Option.some.inj (hx224_2.symm.trans hx225_2)
     injection ea_ with ea_ en_ ec_
     subst ea_
     subst ec_
     clear en_
     have ea_ := Option.some.inj (hx224_4.symm.trans hx225_4)
     injection ea_ with ea_ en_ ec_
     subst ea_
     subst ec_
     clear en_
     go_wp2
     go_ret
     exact ⟨rt_, by repeat (first | exact Drawn0.refl _ | apply Drawn0.step)⟩
    rw [if_neg c5] at H
    have c5b0 : (((rd_T119 l0 x5_1).f0) == x1_1) = false := beq_eq_false_iff_ne.mpr c5
    have c5b1 : (((rd_T119 l0 x5_1).f0) != x1_1) = true := bne_iff_ne.mpr c5
    obtain rfl := Option.some.inj H
    obtain ⟨ad224, A224_2, c224_2, A224_4, c224_4, p224, q224, rfl, hx224_0, hx224_1, hx224_2, hx224_3, hx224_4, HC224_2, HR224_2, HC224_4, HR224_4⟩ := ab_T119 (A_ (Below.refl _ _)) HR0 x5_1
    go_wp2
    go_ret
    exact ⟨rt_, by repeat (first | exact Drawn0.refl _ | apply Drawn0.step)⟩
   obtain rfl := Option.some.inj H
   go_wp2
   go_ret
   exact ⟨rt_, by repeat (first | exact Drawn0.refl _ | apply Drawn0.step)⟩

/-! ### laws_heldMem: function 41 -/
def laws_heldMem.f (k : Nat) (l0_0 : List (S95)) (l0_1 : List (S119)) (a1 : Int) : Option (Int) := (laws_heldWordS.f k l0_0 a1).bind fun t232 => (if t232 < 0 then (some (-1)) else ((laws_heldDescS.f k l0_1 t232).bind fun t233 => (if t233 < 0 then (some (-1)) else (some t233))))
set_option maxHeartbeats 8000000 in
set_option maxRecDepth 100000 in
theorem laws_heldMem.calls (k : Nat) (A0_0 : Option Addr) (c0_0 : Nat) (l0_0 : List (S95)) (A0_1 : Option Addr) (c0_1 : Nat) (l0_1 : List (S119)) (a1 : Int) (r : Int) (w : World) (hr0_0 : Kd.C k95 w A0_0 l0_0.length l0_0) (hc0_0 : l0_0.length ≤ c0_0) (hr0_1 : Kd.C k119 w A0_1 l0_1.length l0_1) (hc0_1 : l0_1.length ≤ c0_1) (h : laws_heldMem.f k l0_0 l0_1 a1 = some r) :
    Calls Try.prog 41 #[.agg #[.slice A0_0 l0_0.length c0_0, .slice A0_1 l0_1.length c0_1], .int .i64 a1] w fun e w' => e = .returned (.int .i64 r) ∧ Below w.heap.size w w' := by
 have hu31 := Try.underlying31
 have HR0_0 := A_ hr0_0
 have HC0_0 := A_ hc0_0
 clear hr0_0 hc0_0
 have HR0_1 := A_ hr0_1
 have HC0_1 := A_ hc0_1
 clear hr0_1 hc0_1
 have HB := A_ (Below.refl w.heap.size w)
 have H : ((laws_heldWordS.f k l0_0 a1).bind fun t232 => (if t232 < 0 then (some (-1)) else ((laws_heldDescS.f k l0_1 t232).bind fun t233 => (if t233 < 0 then (some (-1)) else (some t233))))) = some r := h
 clear h
 replace H := bs_ H
 obtain ⟨t232, A3, H⟩ := H
 replace H := ic_ H
 rcases H with ⟨c4b0, H⟩ | ⟨c4b0, H⟩
 ·
  obtain rfl := Option.some.inj H
  go_enter Try.func41, Try.ntmps41
  go_wp2_with (first | ((with_reducible refine gate_dst (N := 2) rfl ?_); refine bx_ HB rfl (N := 2) rfl (cs := #[.slice A0_0 l0_0.length c0_0, .slice A0_1 l0_1.length c0_1]) (t := 31) hr_ ?_; clear HB; intro gb231 w5 hg hb BK231 GW231 HB; clear hb hg; obtain ⟨hcz6_0, hcz6_1, hfz6_0, hfz6_1⟩ := cz2_ BK231) | ((with_reducible refine gate_callee (f := 98) rfl ?_); refine goesL_ (some 8) rfl rfl Try.func98 (by kernel_rfl) rfl #[.slice A0_0 l0_0.length c0_0, .int .i64 a1] rfl al_ ?_; (with_reducible refine (laws_heldWordS.calls k _ _ l0_0 a1 t232 _ ?side1 ?side2 A3.out).mono ?_); (case side1 => exact cb_ (Kd.C_below HR0_0.out HB.out)); (case side2 => exact HC0_0.out); rintro e w' ⟨rfl, ⟨nd, rfl⟩⟩; refine ⟨_, rfl, ?_⟩))
  go_ret
  exact ⟨rs_, hb_ HB⟩
 replace H := bs_ H
 obtain ⟨t233, A7, H⟩ := H
 replace H := ic_ H
 rcases H with ⟨c8b0, H⟩ | ⟨c8b0, H⟩
 ·
  obtain rfl := Option.some.inj H
  go_enter Try.func41, Try.ntmps41
  go_wp2_with (first | ((with_reducible refine gate_dst (N := 2) rfl ?_); refine bx_ HB rfl (N := 2) rfl (cs := #[.slice A0_0 l0_0.length c0_0, .slice A0_1 l0_1.length c0_1]) (t := 31) hr_ ?_; clear HB; intro gb231 w9 hg hb BK231 GW231 HB; clear hb hg; obtain ⟨hcz10_0, hcz10_1, hfz10_0, hfz10_1⟩ := cz2_ BK231) | ((with_reducible refine gate_callee (f := 98) rfl ?_); refine goesL_ (some 8) rfl rfl Try.func98 (by kernel_rfl) rfl #[.slice A0_0 l0_0.length c0_0, .int .i64 a1] rfl al_ ?_; (with_reducible refine (laws_heldWordS.calls k _ _ l0_0 a1 t232 _ ?side1 ?side2 A3.out).mono ?_); (case side1 => exact cb_ (Kd.C_below HR0_0.out HB.out)); (case side2 => exact HC0_0.out); rintro e w' ⟨rfl, ⟨nd, rfl⟩⟩; refine ⟨_, rfl, ?_⟩) | ((with_reducible refine gate_callee (f := 99) rfl ?_); refine goesL_ (some 14) rfl rfl Try.func99 (by kernel_rfl) rfl #[.slice A0_1 l0_1.length c0_1, .int .i64 t232] rfl al_ ?_; (with_reducible refine (laws_heldDescS.calls k _ _ l0_1 t232 t233 _ ?side1 ?side2 A7.out).mono ?_); (case side1 => exact cb_ (Kd.C_below HR0_1.out (hb_ HB))); (case side2 => exact HC0_1.out); rintro e w' ⟨rfl, ⟨nd, rfl⟩⟩; refine ⟨_, rfl, ?_⟩))
  go_ret
  exact ⟨rs_, hb_ HB⟩
 obtain rfl := Option.some.inj H
 go_enter Try.func41, Try.ntmps41
 go_wp2_with (first | ((with_reducible refine gate_dst (N := 2) rfl ?_); refine bx_ HB rfl (N := 2) rfl (cs := #[.slice A0_0 l0_0.length c0_0, .slice A0_1 l0_1.length c0_1]) (t := 31) hr_ ?_; clear HB; intro gb231 w11 hg hb BK231 GW231 HB; clear hb hg; obtain ⟨hcz12_0, hcz12_1, hfz12_0, hfz12_1⟩ := cz2_ BK231) | ((with_reducible refine gate_callee (f := 98) rfl ?_); refine goesL_ (some 8) rfl rfl Try.func98 (by kernel_rfl) rfl #[.slice A0_0 l0_0.length c0_0, .int .i64 a1] rfl al_ ?_; (with_reducible refine (laws_heldWordS.calls k _ _ l0_0 a1 t232 _ ?side1 ?side2 A3.out).mono ?_); (case side1 => exact cb_ (Kd.C_below HR0_0.out HB.out)); (case side2 => exact HC0_0.out); rintro e w' ⟨rfl, ⟨nd, rfl⟩⟩; refine ⟨_, rfl, ?_⟩) | ((with_reducible refine gate_callee (f := 99) rfl ?_); refine goesL_ (some 14) rfl rfl Try.func99 (by kernel_rfl) rfl #[.slice A0_1 l0_1.length c0_1, .int .i64 t232] rfl al_ ?_; (with_reducible refine (laws_heldDescS.calls k _ _ l0_1 t232 t233 _ ?side1 ?side2 A7.out).mono ?_); (case side1 => exact cb_ (Kd.C_below HR0_1.out (hb_ HB))); (case side2 => exact HC0_1.out); rintro e w' ⟨rfl, ⟨nd, rfl⟩⟩; refine ⟨_, rfl, ?_⟩))
 go_ret
 exact ⟨rs_, hb_ HB⟩

/-! ### spec_l1In: function 87 -/
def spec_l1In.f (a0 : Int) (a1 : Int) (a2 : Int) : Option (Bool) := if a0 ≥ a1 then (some (decide (a0 ≤ a2))) else (some false)
set_option maxHeartbeats 8000000 in
set_option maxRecDepth 100000 in
theorem spec_l1In.calls (a0 : Int) (a1 : Int) (a2 : Int) (r : Bool) (w : World) (h : spec_l1In.f a0 a1 a2 = some r) :
    Calls Try.prog 87 #[.int .i64 a0, .int .i64 a1, .int .i64 a2] w fun e w' => e = .returned (.bool r) ∧ Drawn0 w w' := by
 have H : (if a0 ≥ a1 then (some (decide (a0 ≤ a2))) else (some false)) = some r := h
 clear h
 replace H := ic_ H
 rcases H with ⟨c4b0, H⟩ | ⟨c4b0, H⟩
 ·
  obtain rfl := Option.some.inj H
  go_enter Try.func87, Try.ntmps87
  go_wp2
  go_ret
  exact ⟨rt_, by repeat (first | exact Drawn0.refl _ | apply Drawn0.step)⟩
 obtain rfl := Option.some.inj H
 go_enter Try.func87, Try.ntmps87
 go_wp2
 go_ret
 exact ⟨rt_, by repeat (first | exact Drawn0.refl _ | apply Drawn0.step)⟩

end Go.Proofs.Ytmkhghbalnadlaa.PFnExactBegin
