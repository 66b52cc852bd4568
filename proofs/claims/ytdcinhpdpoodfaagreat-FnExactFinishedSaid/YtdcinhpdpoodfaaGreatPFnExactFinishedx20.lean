/- Contracts of functions of the program. No condition beyond the hypotheses that each theorem names. -/
import Derived.Test.YtdcinhpdpoodfaaGreatPFnExactFinishedx0
import Derived.Test.YtdcinhpdpoodfaaGreatPFnExactFinishedx1
import Derived.Test.YtdcinhpdpoodfaaGreatPFnExactFinishedx15
import Derived.Test.YtdcinhpdpoodfaaGreatPFnExactFinishedx16
namespace Go.Proofs.YtdcinhpdpoodfaaGreat.PFnExactFinished
open Go.RowKit Go.Proofs.YtdcinhpdpoodfaaGreatW.PrintWords Go.Proofs.YtdcinhpdpoodfaaGreatW.PrintLast Go.Proofs.YtdcinhpdpoodfaaGreatW.PrintMore
attribute [local go_sem] max2_int min2_int max_two min_two max_three min_three max_four min_four
set_option linter.unusedVariables false
set_option linter.unusedSimpArgs false
attribute [local go_sem high] eqA122
def slices_Index_int_int.l0 : Nat → List Int → Int → Int → Int → Option (Int)
 | 0, _, _, _, _ => none
 | k + 1, x0, x1, x7, x8 => if x8 < x7 then (if 0 ≤ x8 then (if x8 < (x0.length : Int) then (if x1 = (rd x0 x8) then (some x8) else (slices_Index_int_int.l0 k x0 x1 x7 (wrap64 (x8 + 1)))) else (none)) else (none)) else (some (-1))
def slices_Index_int_int.f (k : Nat) (l0 : List Int) (a1 : Int) : Option (Int) := slices_Index_int_int.l0 k l0 a1 (l0.length : Int) 0
set_option maxHeartbeats 8000000 in
set_option maxRecDepth 100000 in
theorem slices_Index_int_int.calls (k : Nat) (A0 : Option Addr) (c0 : Nat) (l0 : List Int) (a1 : Int) (r : Int) (w : World) (hr0 : Kd.C (Kd.int .i64) w A0 l0.length l0) (hc0 : l0.length ≤ c0) (h : slices_Index_int_int.f k l0 a1 = some r) :
    Calls Tryz.prog 181 #[.slice A0 l0.length c0, .int .i64 a1] w fun e w' => e = .returned (.int .i64 r) ∧ Drawn0 w w' := by
 have HR0 := A_ hr0
 have HC0 := A_ hc0
 clear hr0 hc0
 have H : (slices_Index_int_int.l0 k l0 a1 (l0.length : Int) 0) = some r := h
 clear h
 replace H' := A_ H; clear H
 go_enter Tryz.func181, Tryz.ntmps181
 go_wp2
 go_loopg [8] k (fun kq v8 w' => ∃ (x8_1 : Int), v8 = .int .i64 x8_1 ∧ Aside0 (slices_Index_int_int.l0 kq l0 a1 (l0.length : Int) x8_1 = some r) ∧ Aside0 (kq ≤ k) ∧ Drawn0 w w')
 case atStart => exact ⟨(0), rt_, H', ⟨Nat.le_refl _⟩, by repeat (first | exact Drawn0.refl _ | apply Drawn0.step)⟩
 case round =>
  clear H'
  obtain ⟨x8_1, rfl, HA, HK1, ⟨m1, rfl⟩⟩ := hrel
  cases gk with
  | zero => exact absurd HA.out (by simp [slices_Index_int_int.l0])
  | succ k1 =>
   have H := HA.out
   clear HA
   simp only [slices_Index_int_int.l0] at H
   replace H := ic_ H
   rcases H with ⟨c3b0, H⟩ | ⟨c3b0, H⟩
   ·
    replace H := ix_ H
    obtain ⟨c4b0, H⟩ := H
    replace H := ix_ H
    obtain ⟨c5b0, H⟩ := H
    by_cases c6 : a1 = (rd l0 x8_1)
    ·
     rw [if_pos c6] at H
     have c6b0 : (a1 == (rd l0 x8_1)) = true := beq_iff_eq.mpr c6
     have c6b1 : (a1 != (rd l0 x8_1)) = false := bne_eq_false_iff_eq.mpr c6
     clear c6
     obtain rfl := Option.some.inj H
     obtain ⟨ad482, p482, q482, rfl, u482_0⟩ := ab_int (A_ (Below.refl _ _)) HR0 x8_1
     go_wp2
     go_ret
     exact ⟨rt_, by repeat (first | exact Drawn0.refl _ | apply Drawn0.step)⟩
    rw [if_neg c6] at H
    have c6b0 : (a1 == (rd l0 x8_1)) = false := beq_eq_false_iff_ne.mpr c6
    have c6b1 : (a1 != (rd l0 x8_1)) = true := bne_iff_ne.mpr c6
    replace H' := A_ H; clear H
    obtain ⟨ad482, p482, q482, rfl, u482_0⟩ := ab_int (A_ (Below.refl _ _)) HR0 x8_1
    go_wp2
    go_roundg k1
    case measure => have := HK1.out; omega
    case rel => exact ⟨(wrap64 (x8_1 + 1)), rt_, H', ⟨by have := HK1.out; omega⟩, by repeat (first | exact Drawn0.refl _ | apply Drawn0.step)⟩
   obtain rfl := Option.some.inj H
   go_wp2
   go_ret
   exact ⟨rt_, by repeat (first | exact Drawn0.refl _ | apply Drawn0.step)⟩
def slices_Contains_int_int.f (k : Nat) (l0 : List Int) (a1 : Int) : Option (Bool) := (slices_Index_int_int.f k l0 a1).bind fun t483 => (some (decide (t483 ≥ 0)))
set_option maxHeartbeats 8000000 in
set_option maxRecDepth 100000 in
theorem slices_Contains_int_int.calls (k : Nat) (A0 : Option Addr) (c0 : Nat) (l0 : List Int) (a1 : Int) (r : Bool) (w : World) (hr0 : Kd.C (Kd.int .i64) w A0 l0.length l0) (hc0 : l0.length ≤ c0) (h : slices_Contains_int_int.f k l0 a1 = some r) :
    Calls Tryz.prog 161 #[.slice A0 l0.length c0, .int .i64 a1] w fun e w' => e = .returned (.bool r) ∧ Drawn0 w w' := by
 have HR0 := A_ hr0
 have HC0 := A_ hc0
 clear hr0 hc0
 have H : ((slices_Index_int_int.f k l0 a1).bind fun t483 => (some (decide (t483 ≥ 0)))) = some r := h
 clear h
 replace H := bs_ H
 obtain ⟨t483, A3, H⟩ := H
 obtain rfl := Option.some.inj H
 go_enter Tryz.func161, Tryz.ntmps161
 go_wp2_with (first | ((with_reducible refine gate_callee (f := 181) rfl ?_); refine goesL_ (some 7) rfl rfl Tryz.func181 (by kernel_rfl) rfl #[.slice A0 l0.length c0, .int .i64 a1] rfl al_ ?_; (with_reducible refine (slices_Index_int_int.calls k _ _ l0 a1 t483 _ ?s1 ?s2 A3.out).mono ?_); (case s1 => exact cb_ HR0.out); (case s2 => exact HC0.out); rintro e w' ⟨rfl, ⟨nd, rfl⟩⟩; refine ⟨_, rfl, ?_⟩))
 go_ret
 exact ⟨rt_, by repeat (first | exact Drawn0.refl _ | apply Drawn0.step)⟩
theorem slices_Contains_int_int.calls_n (n : Nat) (k : Nat) (A0 : Option Addr) (c0 : Nat) (l0 : List Int) (a1 : Int) (r : Bool) (w : World) (hr0 : Kd.C (Kd.int .i64) w A0 l0.length l0) (hc0 : l0.length ≤ c0) (h : slices_Contains_int_int.f k l0 a1 = some r) (hn : l0.length = n) :
    Calls Tryz.prog 161 #[.slice A0 n c0, .int .i64 a1] w fun e w' => e = .returned (.bool r) ∧ Drawn0 w w' := by
 subst hn
 exact slices_Contains_int_int.calls k A0 c0 l0 a1 r w hr0 hc0 h
def impl_RowsOk.l0 : Nat → List Int → Int → Int → List Int → Int → Option (Bool)
 | 0, _, _, _, _, _ => none
 | k + 1, x6, x7, x8, x485000, x485001 => if x8 < x7 then (if 0 ≤ x8 then (if x8 < (x6.length : Int) then (if (rd x6 x8) = 0 then (impl_RowsOk.l0 k x6 x7 (wrap64 (x8 + 1)) x485000 x485001) else ((impl_ValOk.f (rd x6 x8)).bind fun t487 => (if t487 = true then (if x8 ≤ (x485000.length : Int) then ((slices_Contains_int_int.f k (x485000.take (x8 : Int).toNat) (rd x6 x8)).bind fun t489 => (if t489 = true then (some false) else (impl_RowsOk.l0 k x6 x7 (wrap64 (x8 + 1)) x485000 x485001))) else (none)) else (some false)))) else (none)) else (none)) else (if (x485000.length : Int) = 4 then ((impl_from.f x485001 0 5).bind fun t485 => (some t485)) else (some false))
def impl_RowsOk.f (k : Nat) (l0_0 : List Int) (a0_1 : Int) : Option (Bool) := impl_RowsOk.l0 k l0_0 (l0_0.length : Int) 0 l0_0 a0_1
set_option maxHeartbeats 8000000 in
set_option maxRecDepth 100000 in
theorem impl_RowsOk.calls (k : Nat) (A0_0 : Option Addr) (c0_0 : Nat) (l0_0 : List Int) (a0_1 : Int) (r : Bool) (w : World) (hr0_0 : Kd.C (Kd.int .i64) w A0_0 l0_0.length l0_0) (hc0_0 : l0_0.length ≤ c0_0) (h : impl_RowsOk.f k l0_0 a0_1 = some r) :
    Calls Tryz.prog 110 #[.agg #[.slice A0_0 l0_0.length c0_0, .int .i64 a0_1]] w fun e w' => e = .returned (.bool r) ∧ Below w.heap.size w w' := by
 have hu91 := Tryz.underlying91
 have HR0_0 := A_ hr0_0
 have HC0_0 := A_ hc0_0
 clear hr0_0 hc0_0
 have HB := A_ (Below.refl w.heap.size w)
 have H : (impl_RowsOk.l0 k l0_0 (l0_0.length : Int) 0 l0_0 a0_1) = some r := h
 clear h
 replace H' := A_ H; clear H
 go_enter Tryz.func110, Tryz.ntmps110
 go_wp2_with (first | ((with_reducible refine gate_dst (N := 1) rfl ?_); refine bx_ HB rfl (N := 1) rfl (cs := #[.slice A0_0 l0_0.length c0_0, .int .i64 a0_1]) (t := 91) hr_ ?_; clear HB; intro gb484 w2 hg hb BK484 GW484 HB; clear hb hg; obtain ⟨z3_0, z3_1, y3_0, y3_1⟩ := cz2_ BK484))
 go_loopg [8] k (fun kq v8 w' => ∃ (x8_1 : Int), v8 = .int .i64 x8_1 ∧ Aside0 (impl_RowsOk.l0 kq l0_0 (l0_0.length : Int) x8_1 l0_0 a0_1 = some r) ∧ Aside0 (kq ≤ k) ∧ Aside0 (w'.heap[gb484]? = some (.cells #[(.slice A0_0 l0_0.length c0_0), .int .i64 a0_1] 91 (0, 0))) ∧ Aside0 (Below w.heap.size w w'))
 case atStart => exact ⟨(0), rt_, H', ⟨Nat.le_refl _⟩, ⟨bk_ BK484⟩, ⟨hb_ HB⟩⟩
 case round =>
  clear H'
  obtain ⟨x8_1, rfl, HA, HK1, BK484, HB⟩ := hrel
  cases gk with
  | zero => exact absurd HA.out (by simp [impl_RowsOk.l0])
  | succ k1 =>
   have H := HA.out
   clear HA
   simp only [impl_RowsOk.l0] at H
   replace H := ic_ H
   rcases H with ⟨c4b0, H⟩ | ⟨c4b0, H⟩
   ·
    replace H := ix_ H
    obtain ⟨c5b0, H⟩ := H
    replace H := ix_ H
    obtain ⟨c6b0, H⟩ := H
    by_cases c7 : (rd l0_0 x8_1) = 0
    ·
     rw [if_pos c7] at H
     have c7b0 : ((rd l0_0 x8_1) == 0) = true := beq_iff_eq.mpr c7
     have c7b1 : ((rd l0_0 x8_1) != 0) = false := bne_eq_false_iff_eq.mpr c7
     clear c7
     replace H' := A_ H; clear H
     obtain ⟨ad486, p486, q486, rfl, u486_0⟩ := ab_int HB HR0_0 x8_1
     go_wp2
     go_roundg k1
     case measure => have := HK1.out; omega
     case rel => exact ⟨(wrap64 (x8_1 + 1)), rt_, H', ⟨by have := HK1.out; omega⟩, ⟨bk_ BK484⟩, ⟨hb_ HB⟩⟩
    rw [if_neg c7] at H
    have c7b0 : ((rd l0_0 x8_1) == 0) = false := beq_eq_false_iff_ne.mpr c7
    have c7b1 : ((rd l0_0 x8_1) != 0) = true := bne_iff_ne.mpr c7
    replace H := bs_ H
    obtain ⟨t487, A8, H⟩ := H
    by_cases c9 : t487 = true
    ·
     subst c9
     replace H := it_ H
     have c10b0 := eq_true (od_ : 0 ≤ x8_1)
     by_cases c11 : x8_1 ≤ (l0_0.length : Int)
     ·
      rw [if_pos c11] at H
      have c11b0 := eq_true c11
      have c11b1 : decide (x8_1 ≤ (l0_0.length : Int)) = true := decide_eq_true c11
      clear c11
      replace H := bs_ H
      obtain ⟨t489, A12, H⟩ := H
      by_cases c13 : t489 = true
      ·
       subst c13
       replace H := it_ H
       obtain rfl := Option.some.inj H
       obtain ⟨ad486, p486, q486, rfl, u486_0⟩ := ab_int HB HR0_0 x8_1
       have HLN_ : Aside0 ((l0_0.take (x8_1 : Int).toNat).length = x8_1.toNat) := ⟨by have h_ : x8_1 < (l0_0.length : Int) := od_; rw [List.length_take]; omega⟩
       go_wp2_with (first | (go_at_call 141; (with_reducible refine (impl_ValOk.calls (rd l0_0 x8_1) true _ A8.out).mono ?_); rintro e w' ⟨rfl, ⟨nd, rfl⟩⟩; obtain ⟨z14_0, z14_1, y14_0, y14_1⟩ := cz2_ BK484; obtain ⟨i015, hi015, _, hsz15, _⟩ := info_parts info3; obtain ⟨hcut15, hA15, hC15⟩ := print_take_of (P := Tryz.prog) (Value.int .i64) 0 29 3 .i64 Tryz.underlying29 hi015 hsz15 (some ad486) c0_0 l0_0 x8_1 (od_) (od_) HC0_0.out; have HR488 := A_ (Kd.C_of_reads (h1 := fun _ => rfl) (hA15 _ (Kd.reads_of_C HR0_0.out))); have HC488 := A_ hC15; clear hA15 hC15 hi015 hsz15) | (go_at_call 161; (with_reducible refine (slices_Contains_int_int.calls_n x8_1.toNat k1 _ _ (l0_0.take (x8_1 : Int).toNat) (rd l0_0 x8_1) true _ ?s1 ?s2 A12.out HLN_.out).mono ?_); (case s1 => exact cb_ (Kd.C_below HR488.out (hb_ HB))); (case s2 => exact HC488.out); rintro e w' ⟨rfl, ⟨nd, rfl⟩⟩))
       go_ret
       exact ⟨rs_, hb_ HB⟩
      obtain rfl := Bool.eq_false_iff.mpr c13
      replace H := iF_ H
      replace H' := A_ H; clear H
      obtain ⟨ad486, p486, q486, rfl, u486_0⟩ := ab_int HB HR0_0 x8_1
      have HLN_ : Aside0 ((l0_0.take (x8_1 : Int).toNat).length = x8_1.toNat) := ⟨by have h_ : x8_1 < (l0_0.length : Int) := od_; rw [List.length_take]; omega⟩
      go_wp2_with (first | (go_at_call 141; (with_reducible refine (impl_ValOk.calls (rd l0_0 x8_1) true _ A8.out).mono ?_); rintro e w' ⟨rfl, ⟨nd, rfl⟩⟩; obtain ⟨z16_0, z16_1, y16_0, y16_1⟩ := cz2_ BK484; obtain ⟨i017, hi017, _, hsz17, _⟩ := info_parts info3; obtain ⟨hcut17, hA17, hC17⟩ := print_take_of (P := Tryz.prog) (Value.int .i64) 0 29 3 .i64 Tryz.underlying29 hi017 hsz17 (some ad486) c0_0 l0_0 x8_1 (od_) (od_) HC0_0.out; have HR488 := A_ (Kd.C_of_reads (h1 := fun _ => rfl) (hA17 _ (Kd.reads_of_C HR0_0.out))); have HC488 := A_ hC17; clear hA17 hC17 hi017 hsz17) | (go_at_call 161; (with_reducible refine (slices_Contains_int_int.calls_n x8_1.toNat k1 _ _ (l0_0.take (x8_1 : Int).toNat) (rd l0_0 x8_1) false _ ?s1 ?s2 A12.out HLN_.out).mono ?_); (case s1 => exact cb_ (Kd.C_below HR488.out (hb_ HB))); (case s2 => exact HC488.out); rintro e w' ⟨rfl, ⟨nd, rfl⟩⟩))
      go_roundg k1
      case measure => have := HK1.out; omega
      case rel => exact ⟨(wrap64 (x8_1 + 1)), rt_, H', ⟨by have := HK1.out; omega⟩, ⟨bk_ BK484⟩, ⟨hb_ HB⟩⟩
     rw [if_neg c11] at H
     exact absurd H (by simp)
    obtain rfl := Bool.eq_false_iff.mpr c9
    replace H := iF_ H
    obtain rfl := Option.some.inj H
    obtain ⟨ad486, p486, q486, rfl, u486_0⟩ := ab_int HB HR0_0 x8_1
    go_wp2_with (first | (go_at_call 141; (with_reducible refine (impl_ValOk.calls (rd l0_0 x8_1) false _ A8.out).mono ?_); rintro e w' ⟨rfl, ⟨nd, rfl⟩⟩))
    go_ret
    exact ⟨rs_, hb_ HB⟩
   by_cases c18 : (l0_0.length : Int) = 4
   ·
    rw [if_pos c18] at H
    have c18b0 : ((l0_0.length : Int) == 4) = true := beq_iff_eq.mpr c18
    have c18b1 : ((l0_0.length : Int) != 4) = false := bne_eq_false_iff_eq.mpr c18
    clear c18
    replace H := bs_ H
    obtain ⟨t485, A19, H⟩ := H
    obtain rfl := Option.some.inj H
    obtain ⟨z20_0, z20_1, y20_0, y20_1⟩ := cz2_ BK484
    go_wp2_with (first | (go_at_call 62; (with_reducible refine (impl_from.calls a0_1 0 5 t485 _ A19.out).mono ?_); rintro e w' ⟨rfl, ⟨nd, rfl⟩⟩))
    go_ret
    exact ⟨rs_, hb_ HB⟩
   rw [if_neg c18] at H
   have c18b0 : ((l0_0.length : Int) == 4) = false := beq_eq_false_iff_ne.mpr c18
   have c18b1 : ((l0_0.length : Int) != 4) = true := bne_iff_ne.mpr c18
   obtain rfl := Option.some.inj H
   obtain ⟨z21_0, z21_1, y21_0, y21_1⟩ := cz2_ BK484
   go_wp2
   go_ret
   exact ⟨rs_, hb_ HB⟩
def impl_callsOk.l0 : Nat → Int → Int → Int → Int → List (S147) → Int → Int → List (S39) → List (S52) → List (S62) → Int → List (S147) → List Int → List Int → Int → List (S122) → Int → Bool → List (S125) → List (S42) → Option (Bool)
 | 0, _, _, _, _, _, _, _, _, _, _, _, _, _, _, _, _, _, _, _, _ => none
 | k + 1, x1, x6, x7, x8, x17, x18, x19, x491000, x491001, x491002, x491003, x491004, x491005, x491006, x491007, x493000, x493001, x493002, x493003, x493004 => if x19 < x18 then (if 0 ≤ x19 then (if x19 < (x17.length : Int) then (if ((rd_T147 x17 x19).f0) = x1 then (if ((rd_T147 x17 x19).f4) ≥ 0 then (impl_callsOk.l0 k x1 x19 (wrap64 (x7 + 1)) x8 x17 x18 (wrap64 (x19 + 1)) x491000 x491001 x491002 x491003 x491004 x491005 x491006 x491007 x493000 x493001 x493002 x493003 x493004) else (impl_callsOk.l0 k x1 x19 x7 (wrap64 (x8 + 1)) x17 x18 (wrap64 (x19 + 1)) x491000 x491001 x491002 x491003 x491004 x491005 x491006 x491007 x493000 x493001 x493002 x493003 x493004)) else (impl_callsOk.l0 k x1 x6 x7 x8 x17 x18 (wrap64 (x19 + 1)) x491000 x491001 x491002 x491003 x491004 x491005 x491006 x491007 x493000 x493001 x493002 x493003 x493004)) else (none)) else (none)) else (if x7 = x493001 then (if x493002 = true then (if x6 ≥ 0 then (if x8 = 1 then (if 0 ≤ x6 then (if x6 < (x491004.length : Int) then (if ((rd_T147 x491004 x6).f4) = (-1) then (if 0 ≤ x493001 then (if x493001 < (x493000.length : Int) then (some (((rd_T147 x491004 x6).f1.f0) == ((rd_T122 x493000 x493001).f0) && (((rd_T147 x491004 x6).f1.f1) == ((rd_T122 x493000 x493001).f1) && (((rd_T147 x491004 x6).f1.f2) == ((rd_T122 x493000 x493001).f2))))) else (none)) else (none)) else (some false)) else (none)) else (none)) else (some false)) else (some false)) else (some (x8 == 0))) else (some false))
def impl_callsOk.f (k : Nat) (l0_0 : List (S39)) (l0_1 : List (S52)) (l0_2 : List (S62)) (a0_3 : Int) (l0_4 : List (S147)) (l0_5 : List Int) (l0_6 : List Int) (a0_7 : Int) (a1 : Int) : Option (Bool) := if 0 ≤ a1 then (if a1 < (l0_2.length : Int) then (impl_callsOk.l0 k a1 (-1) 0 0 l0_4 (l0_4.length : Int) 0 l0_0 l0_1 l0_2 a0_3 l0_4 l0_5 l0_6 a0_7 ((rd_T62 l0_2 a1).f0) ((rd_T62 l0_2 a1).f1) ((rd_T62 l0_2 a1).f2) ((rd_T62 l0_2 a1).f3) ((rd_T62 l0_2 a1).f4)) else (none)) else (none)
set_option maxHeartbeats 8000000 in
set_option maxRecDepth 100000 in
theorem impl_callsOk.calls (k : Nat) (A0_0 : Option Addr) (c0_0 : Nat) (l0_0 : List (S39)) (A0_1 : Option Addr) (c0_1 : Nat) (l0_1 : List (S52)) (A0_2 : Option Addr) (c0_2 : Nat) (l0_2 : List (S62)) (a0_3 : Int) (A0_4 : Option Addr) (c0_4 : Nat) (l0_4 : List (S147)) (A0_5 : Option Addr) (c0_5 : Nat) (l0_5 : List Int) (A0_6 : Option Addr) (c0_6 : Nat) (l0_6 : List Int) (a0_7 : Int) (a1 : Int) (r : Bool) (w : World) (hr0_0 : Kd.C k39 w A0_0 l0_0.length l0_0) (hc0_0 : l0_0.length ≤ c0_0) (hr0_1 : Kd.C k52 w A0_1 l0_1.length l0_1) (hc0_1 : l0_1.length ≤ c0_1) (hr0_2 : Kd.C k62 w A0_2 l0_2.length l0_2) (hc0_2 : l0_2.length ≤ c0_2) (hr0_4 : Kd.C k147 w A0_4 l0_4.length l0_4) (hc0_4 : l0_4.length ≤ c0_4) (hr0_5 : Kd.C (Kd.int .i64) w A0_5 l0_5.length l0_5) (hc0_5 : l0_5.length ≤ c0_5) (hr0_6 : Kd.C (Kd.int .i64) w A0_6 l0_6.length l0_6) (hc0_6 : l0_6.length ≤ c0_6) (h : impl_callsOk.f k l0_0 l0_1 l0_2 a0_3 l0_4 l0_5 l0_6 a0_7 a1 = some r) :
    Calls Tryz.prog 112 #[.agg #[.slice A0_0 l0_0.length c0_0, .slice A0_1 l0_1.length c0_1, .slice A0_2 l0_2.length c0_2, .int .i64 a0_3, .slice A0_4 l0_4.length c0_4, .slice A0_5 l0_5.length c0_5, .slice A0_6 l0_6.length c0_6, .int .i64 a0_7], .int .i64 a1] w fun e w' => e = .returned (.bool r) ∧ Below w.heap.size w w' := by
 have hu93 := Tryz.underlying93
 have hu62 := Tryz.underlying62
 have hu147 := Tryz.underlying147
 have hu122 := Tryz.underlying122
 have HR0_0 := A_ hr0_0
 have HC0_0 := A_ hc0_0
 clear hr0_0 hc0_0
 have HR0_1 := A_ hr0_1
 have HC0_1 := A_ hc0_1
 clear hr0_1 hc0_1
 have HR0_2 := A_ hr0_2
 have HC0_2 := A_ hc0_2
 clear hr0_2 hc0_2
 have HR0_4 := A_ hr0_4
 have HC0_4 := A_ hc0_4
 clear hr0_4 hc0_4
 have HR0_5 := A_ hr0_5
 have HC0_5 := A_ hc0_5
 clear hr0_5 hc0_5
 have HR0_6 := A_ hr0_6
 have HC0_6 := A_ hc0_6
 clear hr0_6 hc0_6
 have HB := A_ (Below.refl w.heap.size w)
 have H : (if 0 ≤ a1 then (if a1 < (l0_2.length : Int) then (impl_callsOk.l0 k a1 (-1) 0 0 l0_4 (l0_4.length : Int) 0 l0_0 l0_1 l0_2 a0_3 l0_4 l0_5 l0_6 a0_7 ((rd_T62 l0_2 a1).f0) ((rd_T62 l0_2 a1).f1) ((rd_T62 l0_2 a1).f2) ((rd_T62 l0_2 a1).f3) ((rd_T62 l0_2 a1).f4)) else (none)) else (none)) = some r := h
 clear h
 replace H := ix_ H
 obtain ⟨c3b0, H⟩ := H
 replace H := ix_ H
 obtain ⟨c4b0, H⟩ := H
 replace H' := A_ H; clear H
 go_enter Tryz.func112, Tryz.ntmps112
 iterate 5 (try go_wp2_with (first | ((with_reducible refine gate_dst (N := 2) rfl ?_); refine bx_ HB rfl (N := 2) rfl (cs := #[.slice A0_0 l0_0.length c0_0, .slice A0_1 l0_1.length c0_1, .slice A0_2 l0_2.length c0_2, .int .i64 a0_3, .slice A0_4 l0_4.length c0_4, .slice A0_5 l0_5.length c0_5, .slice A0_6 l0_6.length c0_6, .int .i64 a0_7]) (t := 93) hr_ ?_; clear HB; intro gb490 w5 hg hb BK490 GW490 HB; clear hb hg; obtain ⟨z6_0, z6_1, z6_2, z6_3, z6_4, z6_5, z6_6, z6_7, y6_0, y6_1, y6_2, y6_3, y6_4, y6_5, y6_6, y6_7⟩ := cz8_ BK490; have p491 : 0 ≤ (a1 : Int) := od_; have q491 : a1 < (l0_2.length : Int) := od_; obtain ⟨ad491, A491_0, c491_0, A491_3, c491_3, A491_4, c491_4, e491, u491_0, u491_1, u491_2, u491_3, u491_4, hl491_0, hi491_0, hl491_3, hi491_3, hl491_4, hi491_4⟩ := at_T62 HR0_2.out a1 p491 q491; cases e491; replace u491_0 := hx_ HB u491_0; replace u491_1 := hx_ HB u491_1; replace u491_2 := hx_ HB u491_2; replace u491_3 := hx_ HB u491_3; replace u491_4 := hx_ HB u491_4; have HR491_0 := A_ hi491_0; have HC491_0 := A_ hl491_0; clear hi491_0 hl491_0; have HR491_3 := A_ hi491_3; have HC491_3 := A_ hl491_3; clear hi491_3 hl491_3; have HR491_4 := A_ hi491_4; have HC491_4 := A_ hl491_4; clear hi491_4 hl491_4; replace p491 := eq_true p491; replace q491 := eq_true q491) | ((with_reducible refine gate_dst (N := 5) rfl ?_); refine Y75_ ?_; clear HB BK490; intro gb492 w7 BK492 GW492 HB NB490_492 NB492_490 BK490 hnb8 hnc8 z9_0 z9_1 z9_2 z9_3 z9_4 y9_0 y9_1 y9_2 y9_3 y9_4 z10_0 z10_1 z10_2 z10_3 z10_4 z10_5 z10_6 z10_7 y10_0 y10_1 y10_2 y10_3 y10_4 y10_5 y10_6 y10_7)); try go_quiet (first | ((with_reducible refine gate_dst (N := 2) rfl ?_); refine bx_ HB rfl (N := 2) rfl (cs := #[.slice A0_0 l0_0.length c0_0, .slice A0_1 l0_1.length c0_1, .slice A0_2 l0_2.length c0_2, .int .i64 a0_3, .slice A0_4 l0_4.length c0_4, .slice A0_5 l0_5.length c0_5, .slice A0_6 l0_6.length c0_6, .int .i64 a0_7]) (t := 93) hr_ ?_; clear HB; intro gb490 w5 hg hb BK490 GW490 HB; clear hb hg; obtain ⟨z6_0, z6_1, z6_2, z6_3, z6_4, z6_5, z6_6, z6_7, y6_0, y6_1, y6_2, y6_3, y6_4, y6_5, y6_6, y6_7⟩ := cz8_ BK490; have p491 : 0 ≤ (a1 : Int) := od_; have q491 : a1 < (l0_2.length : Int) := od_; obtain ⟨ad491, A491_0, c491_0, A491_3, c491_3, A491_4, c491_4, e491, u491_0, u491_1, u491_2, u491_3, u491_4, hl491_0, hi491_0, hl491_3, hi491_3, hl491_4, hi491_4⟩ := at_T62 HR0_2.out a1 p491 q491; cases e491; replace u491_0 := hx_ HB u491_0; replace u491_1 := hx_ HB u491_1; replace u491_2 := hx_ HB u491_2; replace u491_3 := hx_ HB u491_3; replace u491_4 := hx_ HB u491_4; have HR491_0 := A_ hi491_0; have HC491_0 := A_ hl491_0; clear hi491_0 hl491_0; have HR491_3 := A_ hi491_3; have HC491_3 := A_ hl491_3; clear hi491_3 hl491_3; have HR491_4 := A_ hi491_4; have HC491_4 := A_ hl491_4; clear hi491_4 hl491_4; replace p491 := eq_true p491; replace q491 := eq_true q491) | ((with_reducible refine gate_dst (N := 5) rfl ?_); refine Y75_ ?_; clear HB BK490; intro gb492 w7 BK492 GW492 HB NB490_492 NB492_490 BK490 hnb8 hnc8 z9_0 z9_1 z9_2 z9_3 z9_4 y9_0 y9_1 y9_2 y9_3 y9_4 z10_0 z10_1 z10_2 z10_3 z10_4 z10_5 z10_6 z10_7 y10_0 y10_1 y10_2 y10_3 y10_4 y10_5 y10_6 y10_7)))
 go_loopg [6, 7, 8, 19] k (fun kq v6 v7 v8 v19 w' => ∃ (x6_1 : Int) (x7_1 : Int) (x8_1 : Int) (x19_1 : Int), v6 = .int .i64 x6_1 ∧ v7 = .int .i64 x7_1 ∧ v8 = .int .i64 x8_1 ∧ v19 = .int .i64 x19_1 ∧ Aside0 (impl_callsOk.l0 kq a1 x6_1 x7_1 x8_1 l0_4 (l0_4.length : Int) x19_1 l0_0 l0_1 l0_2 a0_3 l0_4 l0_5 l0_6 a0_7 ((rd_T62 l0_2 a1).f0) ((rd_T62 l0_2 a1).f1) ((rd_T62 l0_2 a1).f2) ((rd_T62 l0_2 a1).f3) ((rd_T62 l0_2 a1).f4) = some r) ∧ Aside0 (kq ≤ k) ∧ Aside0 (w'.heap[gb490]? = some (.cells #[(.slice A0_0 l0_0.length c0_0), (.slice A0_1 l0_1.length c0_1), (.slice (some ad491) l0_2.length c0_2), .int .i64 a0_3, (.slice A0_4 l0_4.length c0_4), (.slice A0_5 l0_5.length c0_5), (.slice A0_6 l0_6.length c0_6), .int .i64 a0_7] 93 (0, 0))) ∧ Aside0 (w'.heap[gb492]? = some (.cells #[(.slice A491_0 ((rd_T62 l0_2 a1).f0).length c491_0), .int .i64 ((rd_T62 l0_2 a1).f1), .bool ((rd_T62 l0_2 a1).f2), (.slice A491_3 ((rd_T62 l0_2 a1).f3).length c491_3), (.slice A491_4 ((rd_T62 l0_2 a1).f4).length c491_4)] 62 (0, 0))) ∧ Aside0 (Below w.heap.size w w'))
 case atStart => exact ⟨((-1)), (0), (0), (0), rt_, rt_, rt_, rt_, H', ⟨Nat.le_refl _⟩, ⟨bk_ BK490⟩, ⟨bp_ BK492⟩, ⟨hb_ HB⟩⟩
 case round =>
  clear H'
  try clear c3b0
  try clear c4b0
  try clear u491_0
  try clear u491_1
  try clear u491_2
  try clear u491_3
  try clear u491_4
  try clear p491
  try clear q491
  obtain ⟨x6_1, x7_1, x8_1, x19_1, rfl, rfl, rfl, rfl, HA, HK1, BK490, BK492, HB⟩ := hrel
  cases gk with
  | zero => exact absurd HA.out (by simp [impl_callsOk.l0])
  | succ k1 =>
   have H := HA.out
   clear HA
   simp only [impl_callsOk.l0] at H
   replace H := ic_ H
   rcases H with ⟨c11b0, H⟩ | ⟨c11b0, H⟩
   ·
    replace H := ix_ H
    obtain ⟨c12b0, H⟩ := H
    replace H := ix_ H
    obtain ⟨c13b0, H⟩ := H
    by_cases c14 : ((rd_T147 l0_4 x19_1).f0) = a1
    ·
     rw [if_pos c14] at H
     have c14b0 : (((rd_T147 l0_4 x19_1).f0) == a1) = true := beq_iff_eq.mpr c14
     have c14b1 : (((rd_T147 l0_4 x19_1).f0) != a1) = false := bne_eq_false_iff_eq.mpr c14
     clear c14
     replace H := ic_ H
     rcases H with ⟨c15b0, H⟩ | ⟨c15b0, H⟩
     ·
      replace H' := A_ H; clear H
      obtain ⟨ad493, A493_8, c493_8, p493, q493, rfl, u493_0, u493_1, u493_2, u493_3, u493_4, u493_5, u493_6, u493_7, u493_8, HC493_8, HR493_8⟩ := ab_T147 HB HR0_4 x19_1
      iterate 5 (try go_wp2_with (first | ((with_reducible refine gate_dst (N := 10) rfl ?_); refine Y76_ ?_; clear HB BK490 BK492; intro gb494 w16 BK494 GW494 HB NB490_494 NB494_490 NB492_494 NB494_492 BK490 BK492 hnb17 hnc17 hnb18 hnc18 z19_0 z19_1 z19_2 z19_3 z19_4 z19_5 z19_6 z19_7 z19_8 y19_0 y19_1 y19_2 y19_3 y19_4 y19_5 y19_6 y19_7 y19_8)); try go_quiet (first | ((with_reducible refine gate_dst (N := 10) rfl ?_); refine Y76_ ?_; clear HB BK490 BK492; intro gb494 w16 BK494 GW494 HB NB490_494 NB494_490 NB492_494 NB494_492 BK490 BK492 hnb17 hnc17 hnb18 hnc18 z19_0 z19_1 z19_2 z19_3 z19_4 z19_5 z19_6 z19_7 z19_8 y19_0 y19_1 y19_2 y19_3 y19_4 y19_5 y19_6 y19_7 y19_8)))
      go_roundg k1
      case measure => have := HK1.out; omega
      case rel => exact ⟨(x19_1), (wrap64 (x7_1 + 1)), (x8_1), (wrap64 (x19_1 + 1)), rt_, rt_, rt_, rt_, H', ⟨by have := HK1.out; omega⟩, ⟨bk_ BK490⟩, ⟨bk_ BK492⟩, ⟨hb_ HB⟩⟩
     replace H' := A_ H; clear H
     obtain ⟨ad493, A493_8, c493_8, p493, q493, rfl, u493_0, u493_1, u493_2, u493_3, u493_4, u493_5, u493_6, u493_7, u493_8, HC493_8, HR493_8⟩ := ab_T147 HB HR0_4 x19_1
     iterate 5 (try go_wp2_with (first | ((with_reducible refine gate_dst (N := 10) rfl ?_); refine Y76_ ?_; clear HB BK490 BK492; intro gb494 w20 BK494 GW494 HB NB490_494 NB494_490 NB492_494 NB494_492 BK490 BK492 hnb21 hnc21 hnb22 hnc22 z23_0 z23_1 z23_2 z23_3 z23_4 z23_5 z23_6 z23_7 z23_8 y23_0 y23_1 y23_2 y23_3 y23_4 y23_5 y23_6 y23_7 y23_8)); try go_quiet (first | ((with_reducible refine gate_dst (N := 10) rfl ?_); refine Y76_ ?_; clear HB BK490 BK492; intro gb494 w20 BK494 GW494 HB NB490_494 NB494_490 NB492_494 NB494_492 BK490 BK492 hnb21 hnc21 hnb22 hnc22 z23_0 z23_1 z23_2 z23_3 z23_4 z23_5 z23_6 z23_7 z23_8 y23_0 y23_1 y23_2 y23_3 y23_4 y23_5 y23_6 y23_7 y23_8)))
     go_roundg k1
     case measure => have := HK1.out; omega
     case rel => exact ⟨(x19_1), (x7_1), (wrap64 (x8_1 + 1)), (wrap64 (x19_1 + 1)), rt_, rt_, rt_, rt_, H', ⟨by have := HK1.out; omega⟩, ⟨bk_ BK490⟩, ⟨bk_ BK492⟩, ⟨hb_ HB⟩⟩
    rw [if_neg c14] at H
    have c14b0 : (((rd_T147 l0_4 x19_1).f0) == a1) = false := beq_eq_false_iff_ne.mpr c14
    have c14b1 : (((rd_T147 l0_4 x19_1).f0) != a1) = true := bne_iff_ne.mpr c14
    replace H' := A_ H; clear H
    obtain ⟨ad493, A493_8, c493_8, p493, q493, rfl, u493_0, u493_1, u493_2, u493_3, u493_4, u493_5, u493_6, u493_7, u493_8, HC493_8, HR493_8⟩ := ab_T147 HB HR0_4 x19_1
    iterate 5 (try go_wp2_with (first | ((with_reducible refine gate_dst (N := 10) rfl ?_); refine Y76_ ?_; clear HB BK490 BK492; intro gb494 w24 BK494 GW494 HB NB490_494 NB494_490 NB492_494 NB494_492 BK490 BK492 hnb25 hnc25 hnb26 hnc26 z27_0 z27_1 z27_2 z27_3 z27_4 z27_5 z27_6 z27_7 z27_8 y27_0 y27_1 y27_2 y27_3 y27_4 y27_5 y27_6 y27_7 y27_8)); try go_quiet (first | ((with_reducible refine gate_dst (N := 10) rfl ?_); refine Y76_ ?_; clear HB BK490 BK492; intro gb494 w24 BK494 GW494 HB NB490_494 NB494_490 NB492_494 NB494_492 BK490 BK492 hnb25 hnc25 hnb26 hnc26 z27_0 z27_1 z27_2 z27_3 z27_4 z27_5 z27_6 z27_7 z27_8 y27_0 y27_1 y27_2 y27_3 y27_4 y27_5 y27_6 y27_7 y27_8)))
    go_roundg k1
    case measure => have := HK1.out; omega
    case rel => exact ⟨(x6_1), (x7_1), (x8_1), (wrap64 (x19_1 + 1)), rt_, rt_, rt_, rt_, H', ⟨by have := HK1.out; omega⟩, ⟨bk_ BK490⟩, ⟨bk_ BK492⟩, ⟨hb_ HB⟩⟩
   by_cases c28 : x7_1 = ((rd_T62 l0_2 a1).f1)
   ·
    rw [if_pos c28] at H
    have c28b0 : (x7_1 == ((rd_T62 l0_2 a1).f1)) = true := beq_iff_eq.mpr c28
    have c28b1 : (x7_1 != ((rd_T62 l0_2 a1).f1)) = false := bne_eq_false_iff_eq.mpr c28
    clear c28
    by_cases c29 : ((rd_T62 l0_2 a1).f2) = true
    ·
     rw [if_pos c29] at H
     have c29b0 : ((rd_T62 l0_2 a1).f2) = true := c29
     clear c29
     replace H := ic_ H
     rcases H with ⟨c30b0, H⟩ | ⟨c30b0, H⟩
     ·
      by_cases c31 : x8_1 = 1
      ·
       rw [if_pos c31] at H
       have c31b0 : (x8_1 == 1) = true := beq_iff_eq.mpr c31
       have c31b1 : (x8_1 != 1) = false := bne_eq_false_iff_eq.mpr c31
       clear c31
       replace H := ix_ H
       obtain ⟨c32b0, H⟩ := H
       replace H := ix_ H
       obtain ⟨c33b0, H⟩ := H
       by_cases c34 : ((rd_T147 l0_4 x6_1).f4) = (-1)
       ·
        rw [if_pos c34] at H
        have c34b0 : (((rd_T147 l0_4 x6_1).f4) == (-1)) = true := beq_iff_eq.mpr c34
        have c34b1 : (((rd_T147 l0_4 x6_1).f4) != (-1)) = false := bne_eq_false_iff_eq.mpr c34
        clear c34
        replace H := ix_ H
        obtain ⟨c35b0, H⟩ := H
        replace H := ix_ H
        obtain ⟨c36b0, H⟩ := H
        obtain rfl := Option.some.inj H
        have hnb37 := NB492_490.out
        have hnc37 := NB490_492.out
        obtain ⟨z38_0, z38_1, z38_2, z38_3, z38_4, y38_0, y38_1, y38_2, y38_3, y38_4⟩ := cz5_ BK492
        obtain ⟨z39_0, z39_1, z39_2, z39_3, z39_4, z39_5, z39_6, z39_7, y39_0, y39_1, y39_2, y39_3, y39_4, y39_5, y39_6, y39_7⟩ := cz8_ BK490
        obtain ⟨ad495, A495_8, c495_8, p495, q495, rfl, u495_0, u495_1, u495_2, u495_3, u495_4, u495_5, u495_6, u495_7, u495_8, HC495_8, HR495_8⟩ := ab_T147 HB HR0_4 x6_1
        have p496 : 0 ≤ (x6_1 : Int) := od_
        have q496 : x6_1 < (l0_4.length : Int) := od_
        obtain ⟨ad496, A496_8, c496_8, e496, u496_0, u496_1, u496_2, u496_3, u496_4, u496_5, u496_6, u496_7, u496_8, hl496_8, hi496_8⟩ := at_T147 HR0_4.out x6_1 p496 q496
        obtain rfl : ad495 = ad496 := (by injection e496)
        replace u496_0 := hx_ HB u496_0
        replace u496_1 := hx_ HB u496_1
        replace u496_2 := hx_ HB u496_2
        replace u496_3 := hx_ HB u496_3
        replace u496_4 := hx_ HB u496_4
        replace u496_5 := hx_ HB u496_5
        replace u496_6 := hx_ HB u496_6
        replace u496_7 := hx_ HB u496_7
        replace u496_8 := hx_ HB u496_8
        have HR496_8 := A_ hi496_8
        have HC496_8 := A_ hl496_8
        clear hi496_8 hl496_8
        replace p496 := eq_true p496
        replace q496 := eq_true q496
        have ea_ := Option.some.inj (u495_8.symm.trans u496_8)
        injection ea_ with ea_ en_ ec_
        subst ea_
        subst ec_
        clear en_
        have p497 : 0 ≤ (((rd_T62 l0_2 a1).f1) : Int) := od_
        have q497 : ((rd_T62 l0_2 a1).f1) < (((rd_T62 l0_2 a1).f0).length : Int) := od_
        obtain ⟨ad497, e497, u497_0, u497_1, u497_2⟩ := at_T122 HR491_0.out ((rd_T62 l0_2 a1).f1) p497 q497
        cases e497
        replace u497_0 := hx_ HB u497_0
        replace u497_1 := hx_ HB u497_1
        replace u497_2 := hx_ HB u497_2
        replace p497 := eq_true p497
        replace q497 := eq_true q497
        go_wp2
        repeat (go_quiet (fail); try go_wp2)
        go_ret
        exact ⟨rs_, hb_ HB⟩
       rw [if_neg c34] at H
       have c34b0 : (((rd_T147 l0_4 x6_1).f4) == (-1)) = false := beq_eq_false_iff_ne.mpr c34
       have c34b1 : (((rd_T147 l0_4 x6_1).f4) != (-1)) = true := bne_iff_ne.mpr c34
       obtain rfl := Option.some.inj H
       have hnb40 := NB492_490.out
       have hnc40 := NB490_492.out
       obtain ⟨z41_0, z41_1, z41_2, z41_3, z41_4, y41_0, y41_1, y41_2, y41_3, y41_4⟩ := cz5_ BK492
       obtain ⟨z42_0, z42_1, z42_2, z42_3, z42_4, z42_5, z42_6, z42_7, y42_0, y42_1, y42_2, y42_3, y42_4, y42_5, y42_6, y42_7⟩ := cz8_ BK490
       obtain ⟨ad495, A495_8, c495_8, p495, q495, rfl, u495_0, u495_1, u495_2, u495_3, u495_4, u495_5, u495_6, u495_7, u495_8, HC495_8, HR495_8⟩ := ab_T147 HB HR0_4 x6_1
       go_wp2
       repeat (go_quiet (fail); try go_wp2)
       go_ret
       exact ⟨rs_, hb_ HB⟩
      rw [if_neg c31] at H
      have c31b0 : (x8_1 == 1) = false := beq_eq_false_iff_ne.mpr c31
      have c31b1 : (x8_1 != 1) = true := bne_iff_ne.mpr c31
      obtain rfl := Option.some.inj H
      have hnb43 := NB492_490.out
      have hnc43 := NB490_492.out
      obtain ⟨z44_0, z44_1, z44_2, z44_3, z44_4, y44_0, y44_1, y44_2, y44_3, y44_4⟩ := cz5_ BK492
      go_wp2
      repeat (go_quiet (fail); try go_wp2)
      go_ret
      exact ⟨rs_, hb_ HB⟩
     obtain rfl := Option.some.inj H
     have hnb45 := NB492_490.out
     have hnc45 := NB490_492.out
     obtain ⟨z46_0, z46_1, z46_2, z46_3, z46_4, y46_0, y46_1, y46_2, y46_3, y46_4⟩ := cz5_ BK492
     go_wp2
     repeat (go_quiet (fail); try go_wp2)
     go_ret
     exact ⟨rs_, hb_ HB⟩
    rw [if_neg c29] at H
    have c29b0 : ((rd_T62 l0_2 a1).f2) = false := by simpa using c29
    clear c29
    obtain rfl := Option.some.inj H
    have hnb47 := NB492_490.out
    have hnc47 := NB490_492.out
    obtain ⟨z48_0, z48_1, z48_2, z48_3, z48_4, y48_0, y48_1, y48_2, y48_3, y48_4⟩ := cz5_ BK492
    go_wp2
    repeat (go_quiet (fail); try go_wp2)
    go_ret
    exact ⟨rs_, hb_ HB⟩
   rw [if_neg c28] at H
   have c28b0 : (x7_1 == ((rd_T62 l0_2 a1).f1)) = false := beq_eq_false_iff_ne.mpr c28
   have c28b1 : (x7_1 != ((rd_T62 l0_2 a1).f1)) = true := bne_iff_ne.mpr c28
   obtain rfl := Option.some.inj H
   have hnb49 := NB492_490.out
   have hnc49 := NB490_492.out
   obtain ⟨z50_0, z50_1, z50_2, z50_3, z50_4, y50_0, y50_1, y50_2, y50_3, y50_4⟩ := cz5_ BK492
   go_wp2
   repeat (go_quiet (fail); try go_wp2)
   go_ret
   exact ⟨rs_, hb_ HB⟩
end Go.Proofs.YtdcinhpdpoodfaaGreat.PFnExactFinished
