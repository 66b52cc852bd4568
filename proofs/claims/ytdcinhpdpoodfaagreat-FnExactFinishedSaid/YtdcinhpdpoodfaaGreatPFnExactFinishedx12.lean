/- Contracts of functions of the program. No condition beyond the hypotheses that each theorem names. -/
import Derived.Test.YtdcinhpdpoodfaaGreatPFnExactFinishedx0
import Derived.Test.YtdcinhpdpoodfaaGreatPFnExactFinishedx3
import Derived.Test.YtdcinhpdpoodfaaGreatPFnExactFinishedx4
import Derived.Test.YtdcinhpdpoodfaaGreatPFnExactFinishedx6
import Derived.Test.YtdcinhpdpoodfaaGreatPFnExactFinishedx7
import Derived.Test.YtdcinhpdpoodfaaGreatPFnExactFinishedx9
import Derived.Test.YtdcinhpdpoodfaaGreatPFnExactFinishedx11
namespace Go.Proofs.YtdcinhpdpoodfaaGreat.PFnExactFinished
open Go.RowKit Go.Proofs.YtdcinhpdpoodfaaGreatW.PrintWords Go.Proofs.YtdcinhpdpoodfaaGreatW.PrintLast Go.Proofs.YtdcinhpdpoodfaaGreatW.PrintMore
attribute [local go_sem] max2_int min2_int max_two min_two max_three min_three max_four min_four
set_option linter.unusedVariables false
set_option linter.unusedSimpArgs false
mutual
def spec_MachineOk.j0 : Nat → Bool → List (S39) → List (S52) → List (S62) → Int → List (S147) → List Int → List Int → Int → Option (Bool)
 | 0, _, _, _, _, _, _, _, _, _ => none
 | k + 1, x34, x224000, x224001, x224002, x224003, x224004, x224005, x224006, x224007 => if x34 = true then (some false) else (spec_MachineOk.l0 k 0 x224000 x224001 x224002 x224003 x224004 x224005 x224006 x224007)
def spec_MachineOk.l0 : Nat → Int → List (S39) → List (S52) → List (S62) → Int → List (S147) → List Int → List Int → Int → Option (Bool)
 | 0, _, _, _, _, _, _, _, _, _ => none
 | k + 1, x3, x224000, x224001, x224002, x224003, x224004, x224005, x224006, x224007 => if x3 < (x224002.length : Int) then (if 0 ≤ x3 then ((spec_ThreadOk.f k ((rd_T62 x224002 x3).f0) ((rd_T62 x224002 x3).f1) ((rd_T62 x224002 x3).f2) ((rd_T62 x224002 x3).f3) ((rd_T62 x224002 x3).f4) (x224002.length : Int)).bind fun t229 => (if t229 = true then ((spec_l9Thread.f k x224000 x224001 x224002 x224003 x224004 x224005 x224006 x224007 x3).bind fun t230 => (if t230 = true then (spec_MachineOk.l0 k (wrap64 (x3 + 1)) x224000 x224001 x224002 x224003 x224004 x224005 x224006 x224007) else (some false))) else (some false))) else (none)) else (some true)
end
def spec_MachineOk.f (k : Nat) (l0_0 : List (S39)) (l0_1 : List (S52)) (l0_2 : List (S62)) (a0_3 : Int) (l0_4 : List (S147)) (l0_5 : List Int) (l0_6 : List Int) (a0_7 : Int) : Option (Bool) := (spec_MemOk.f k l0_0 l0_1).bind fun t224 => (if t224 = true then (if (l0_1.length : Int) = (l0_2.length : Int) then ((spec_l1In.f a0_3 0 100000).bind fun t225 => (if t225 = true then ((spec_RowsOk.f k l0_6 a0_7).bind fun t226 => (if t226 = true then ((spec_l9Calls.f k l0_0 l0_1 l0_2 a0_3 l0_4 l0_5 l0_6 a0_7).bind fun t227 => (spec_MachineOk.j0 k (!t227) l0_0 l0_1 l0_2 a0_3 l0_4 l0_5 l0_6 a0_7)) else (spec_MachineOk.j0 k true l0_0 l0_1 l0_2 a0_3 l0_4 l0_5 l0_6 a0_7))) else (spec_MachineOk.j0 k true l0_0 l0_1 l0_2 a0_3 l0_4 l0_5 l0_6 a0_7))) else (spec_MachineOk.j0 k true l0_0 l0_1 l0_2 a0_3 l0_4 l0_5 l0_6 a0_7)) else (spec_MachineOk.j0 k true l0_0 l0_1 l0_2 a0_3 l0_4 l0_5 l0_6 a0_7))
def spec_MachineOk.T6 : Bool × List (List Nat × List Nat) := (true, [([], []), ([0], [0]), ([], []), ([1, 2], [1, 2]), ([3], [3]), ([], []), ([5], [5]), ([6], [6]), ([4, 7], [4, 7]), ([8], [8]), ([9, 8], [9]), ([10], [10]), ([10], [10]), ([11, 12, 10, 10], [10, 11, 12]), ([13, 10], [10, 13]), ([10, 14], [10, 14])])
def spec_MachineOk.B6 : List Nat := [0, 1, 0, 7, 15, 0, 32, 96, 255, 511, 1023, 2047, 2047, 8191, 16383, 32767]
theorem spec_MachineOk.tab6 : rtab .any (opsOf Tryz.f48 6) = spec_MachineOk.T6 := by kernel_rfl
theorem spec_MachineOk.bits6 : waitsOk spec_MachineOk.T6.2 spec_MachineOk.B6 = true := by kernel_rfl
set_option maxHeartbeats 8000000 in
set_option maxRecDepth 100000 in
theorem spec_MachineOk.calls (k : Nat) (A0_0 : Option Addr) (c0_0 : Nat) (l0_0 : List (S39)) (A0_1 : Option Addr) (c0_1 : Nat) (l0_1 : List (S52)) (A0_2 : Option Addr) (c0_2 : Nat) (l0_2 : List (S62)) (a0_3 : Int) (A0_4 : Option Addr) (c0_4 : Nat) (l0_4 : List (S147)) (A0_5 : Option Addr) (c0_5 : Nat) (l0_5 : List Int) (A0_6 : Option Addr) (c0_6 : Nat) (l0_6 : List Int) (a0_7 : Int) (r : Bool) (w : World) (hr0_0 : Kd.C k39 w A0_0 l0_0.length l0_0) (hc0_0 : l0_0.length ≤ c0_0) (hr0_1 : Kd.C k52 w A0_1 l0_1.length l0_1) (hc0_1 : l0_1.length ≤ c0_1) (hr0_2 : Kd.C k62 w A0_2 l0_2.length l0_2) (hc0_2 : l0_2.length ≤ c0_2) (hr0_4 : Kd.C k147 w A0_4 l0_4.length l0_4) (hc0_4 : l0_4.length ≤ c0_4) (hr0_5 : Kd.C (Kd.int .i64) w A0_5 l0_5.length l0_5) (hc0_5 : l0_5.length ≤ c0_5) (hr0_6 : Kd.C (Kd.int .i64) w A0_6 l0_6.length l0_6) (hc0_6 : l0_6.length ≤ c0_6) (h : spec_MachineOk.f k l0_0 l0_1 l0_2 a0_3 l0_4 l0_5 l0_6 a0_7 = some r) :
    Calls Tryz.prog 48 #[.agg #[.slice A0_0 l0_0.length c0_0, .slice A0_1 l0_1.length c0_1, .slice A0_2 l0_2.length c0_2, .int .i64 a0_3, .slice A0_4 l0_4.length c0_4, .slice A0_5 l0_5.length c0_5, .slice A0_6 l0_6.length c0_6, .int .i64 a0_7]] w fun e w' => e = .returned (.bool r) ∧ Below w.heap.size w w' := by
 have hu93 := Tryz.underlying93
 have hu27 := Tryz.underlying27
 have hu91 := Tryz.underlying91
 have hu62 := Tryz.underlying62
 have HR0_0 := A_ hr0_0
 have HC0_0 := A_ hc0_0
 clear hr0_0 hc0_0
 have HR0_1 := A_ hr0_1
 have HC0_1 := A_ hc0_1
 clear hr0_1 hc0_1
 have HR0_2 := A_ hr0_2
 have HC0_2 := A_ hc0_2
 clear hr0_2 hc0_2
 have HR0_4 := A_ hr0_4
 have HC0_4 := A_ hc0_4
 clear hr0_4 hc0_4
 have HR0_5 := A_ hr0_5
 have HC0_5 := A_ hc0_5
 clear hr0_5 hc0_5
 have HR0_6 := A_ hr0_6
 have HC0_6 := A_ hc0_6
 clear hr0_6 hc0_6
 have HB := A_ (Below.refl w.heap.size w)
 have H : ((spec_MemOk.f k l0_0 l0_1).bind fun t224 => (if t224 = true then (if (l0_1.length : Int) = (l0_2.length : Int) then ((spec_l1In.f a0_3 0 100000).bind fun t225 => (if t225 = true then ((spec_RowsOk.f k l0_6 a0_7).bind fun t226 => (if t226 = true then ((spec_l9Calls.f k l0_0 l0_1 l0_2 a0_3 l0_4 l0_5 l0_6 a0_7).bind fun t227 => (spec_MachineOk.j0 k (!t227) l0_0 l0_1 l0_2 a0_3 l0_4 l0_5 l0_6 a0_7)) else (spec_MachineOk.j0 k true l0_0 l0_1 l0_2 a0_3 l0_4 l0_5 l0_6 a0_7))) else (spec_MachineOk.j0 k true l0_0 l0_1 l0_2 a0_3 l0_4 l0_5 l0_6 a0_7))) else (spec_MachineOk.j0 k true l0_0 l0_1 l0_2 a0_3 l0_4 l0_5 l0_6 a0_7)) else (spec_MachineOk.j0 k true l0_0 l0_1 l0_2 a0_3 l0_4 l0_5 l0_6 a0_7))) = some r := h
 clear h
 have HC2 := A_ H
 clear H
 go_enter Tryz.func48, Tryz.ntmps48
 go_upto_region 1 with (first | ((with_reducible refine gate_dst (N := 1) rfl ?_); refine Y56_ ?_; clear HB; intro gb223 w3 BK223 GW223 HB))
 (try simp only [Act.put, List.setIfInBounds_toArray, List.set_cons_zero, List.set_cons_succ])
 go_cut [34] (fun v34 wc => ∃ (kq : Nat) (x34_1 : Bool), v34 = .bool x34_1 ∧ Aside0 (spec_MachineOk.j0 kq x34_1 l0_0 l0_1 l0_2 a0_3 l0_4 l0_5 l0_6 a0_7 = some r) ∧ Aside0 (kq ≤ k) ∧ Aside0 (wc.heap[gb223]? = some (.cells #[(.slice A0_0 l0_0.length c0_0), (.slice A0_1 l0_1.length c0_1), (.slice A0_2 l0_2.length c0_2), .int .i64 a0_3, (.slice A0_4 l0_4.length c0_4), (.slice A0_5 l0_5.length c0_5), (.slice A0_6 l0_6.length c0_6), .int .i64 a0_7] 93 (0, 0))) ∧ Aside0 (Below w.heap.size w wc))
 case first =>
  have H := HC2.out
  clear HC2
  replace H := bs_ H
  obtain ⟨t224, A4, H⟩ := H
  by_cases c5 : t224 = true
  ·
   subst c5
   replace H := it_ H
   by_cases c6 : (l0_1.length : Int) = (l0_2.length : Int)
   ·
    rw [if_pos c6] at H
    have c6b0 : ((l0_1.length : Int) == (l0_2.length : Int)) = true := beq_iff_eq.mpr c6
    have c6b1 : ((l0_1.length : Int) != (l0_2.length : Int)) = false := bne_eq_false_iff_eq.mpr c6
    have c6b2 : (l0_1.length == l0_2.length) = true := by first | simpa using c6 | (simp at c6 ⊢; omega)
    clear c6
    (first | rw [c6b0] | (simp only [i64_w, i32_w]; rw [c6b0]) | skip)
    replace H := bs_ H
    obtain ⟨t225, A7, H⟩ := H
    by_cases c8 : t225 = true
    ·
     subst c8
     replace H := it_ H
     replace H := bs_ H
     obtain ⟨t226, A9, H⟩ := H
     by_cases c10 : t226 = true
     ·
      subst c10
      replace H := it_ H
      replace H := bs_ H
      obtain ⟨t227, A11, H⟩ := H
      replace H' := A_ H; clear H
      obtain ⟨z12_0, z12_1, z12_2, z12_3, z12_4, z12_5, z12_6, z12_7, y12_0, y12_1, y12_2, y12_3, y12_4, y12_5, y12_6, y12_7⟩ := cz8_ BK223
      go_wp2_with (first | ((with_reducible refine gate_callee (f := 59) rfl ?_); refine Y59_ ?_; clear BK223 HB; intro w13 BK223 HB z14_0 z14_1 z14_2 z14_3 z14_4 z14_5 z14_6 z14_7 y14_0 y14_1 y14_2 y14_3 y14_4 y14_5 y14_6 y14_7) | (go_at_call 70; (with_reducible refine (spec_l1In.calls a0_3 0 100000 true _ A7.out).mono ?_); rintro e w' ⟨rfl, ⟨nd, rfl⟩⟩) | (go_at_call 102; (with_reducible refine (spec_RowsOk.calls k _ _ l0_6 a0_7 true _ ?s1 ?s2 A9.out).mono ?_); (case s1 => exact cb_ (Kd.C_below HR0_6.out (hb_ HB))); (case s2 => exact HC0_6.out); rintro e w15 ⟨rfl, hb⟩; replace BK223 := bb_ BK223 hb; replace HB := hs_ HB hb; clear hb; obtain ⟨z16_0, z16_1, z16_2, z16_3, z16_4, z16_5, z16_6, z16_7, y16_0, y16_1, y16_2, y16_3, y16_4, y16_5, y16_6, y16_7⟩ := cz8_ BK223) | (go_at_call 103; (with_reducible refine (spec_l9Calls.calls k _ _ l0_0 _ _ l0_1 _ _ l0_2 a0_3 _ _ l0_4 _ _ l0_5 _ _ l0_6 a0_7 t227 _ ?s1 ?s2 ?s3 ?s4 ?s5 ?s6 ?s7 ?s8 ?s9 ?s10 ?s11 ?s12 A11.out).mono ?_); (case s1 => exact cb_ (Kd.C_below HR0_0.out HB.out)); (case s2 => exact HC0_0.out); (case s3 => exact cb_ (Kd.C_below HR0_1.out HB.out)); (case s4 => exact HC0_1.out); (case s5 => exact cb_ (Kd.C_below HR0_2.out HB.out)); (case s6 => exact HC0_2.out); (case s7 => exact cb_ (Kd.C_below HR0_4.out HB.out)); (case s8 => exact HC0_4.out); (case s9 => exact cb_ (Kd.C_below HR0_5.out HB.out)); (case s10 => exact HC0_5.out); (case s11 => exact cb_ (Kd.C_below HR0_6.out HB.out)); (case s12 => exact HC0_6.out); rintro e w17 ⟨rfl, hb⟩; replace BK223 := bb_ BK223 hb; replace HB := hs_ HB hb; clear hb))
      go_meet
      case rel => exact ⟨_, (!t227), rt_, H', ⟨by first | omega | exact Nat.le_refl _⟩, ⟨bk_ BK223⟩, ⟨hb_ HB⟩⟩
     obtain rfl := Bool.eq_false_iff.mpr c10
     replace H := iF_ H
     replace H' := A_ H; clear H
     obtain ⟨z18_0, z18_1, z18_2, z18_3, z18_4, z18_5, z18_6, z18_7, y18_0, y18_1, y18_2, y18_3, y18_4, y18_5, y18_6, y18_7⟩ := cz8_ BK223
     go_wp2_with (first | ((with_reducible refine gate_callee (f := 59) rfl ?_); refine Y59_ ?_; clear BK223 HB; intro w19 BK223 HB z20_0 z20_1 z20_2 z20_3 z20_4 z20_5 z20_6 z20_7 y20_0 y20_1 y20_2 y20_3 y20_4 y20_5 y20_6 y20_7) | (go_at_call 70; (with_reducible refine (spec_l1In.calls a0_3 0 100000 true _ A7.out).mono ?_); rintro e w' ⟨rfl, ⟨nd, rfl⟩⟩) | (go_at_call 102; (with_reducible refine (spec_RowsOk.calls k _ _ l0_6 a0_7 false _ ?s1 ?s2 A9.out).mono ?_); (case s1 => exact cb_ (Kd.C_below HR0_6.out (hb_ HB))); (case s2 => exact HC0_6.out); rintro e w21 ⟨rfl, hb⟩; replace BK223 := bb_ BK223 hb; replace HB := hs_ HB hb; clear hb))
     go_meet
     case rel => exact ⟨_, (true), rt_, H', ⟨by first | omega | exact Nat.le_refl _⟩, ⟨bk_ BK223⟩, ⟨hb_ HB⟩⟩
    obtain rfl := Bool.eq_false_iff.mpr c8
    replace H := iF_ H
    replace H' := A_ H; clear H
    obtain ⟨z22_0, z22_1, z22_2, z22_3, z22_4, z22_5, z22_6, z22_7, y22_0, y22_1, y22_2, y22_3, y22_4, y22_5, y22_6, y22_7⟩ := cz8_ BK223
    go_wp2_with (first | ((with_reducible refine gate_callee (f := 59) rfl ?_); refine Y59_ ?_; clear BK223 HB; intro w23 BK223 HB z24_0 z24_1 z24_2 z24_3 z24_4 z24_5 z24_6 z24_7 y24_0 y24_1 y24_2 y24_3 y24_4 y24_5 y24_6 y24_7) | (go_at_call 70; (with_reducible refine (spec_l1In.calls a0_3 0 100000 false _ A7.out).mono ?_); rintro e w' ⟨rfl, ⟨nd, rfl⟩⟩))
    go_meet
    case rel => exact ⟨_, (true), rt_, H', ⟨by first | omega | exact Nat.le_refl _⟩, ⟨bk_ BK223⟩, ⟨hb_ HB⟩⟩
   rw [if_neg c6] at H
   have c6b0 : ((l0_1.length : Int) == (l0_2.length : Int)) = false := beq_eq_false_iff_ne.mpr c6
   have c6b1 : ((l0_1.length : Int) != (l0_2.length : Int)) = true := bne_iff_ne.mpr c6
   have c6b2 : (l0_1.length == l0_2.length) = false := by first | simpa using c6 | (simp at c6 ⊢; omega)
   (first | rw [c6b0] | (simp only [i64_w, i32_w]; rw [c6b0]) | skip)
   replace H' := A_ H; clear H
   obtain ⟨z25_0, z25_1, z25_2, z25_3, z25_4, z25_5, z25_6, z25_7, y25_0, y25_1, y25_2, y25_3, y25_4, y25_5, y25_6, y25_7⟩ := cz8_ BK223
   go_wp2_with (first | ((with_reducible refine gate_callee (f := 59) rfl ?_); refine Y59_ ?_; clear BK223 HB; intro w26 BK223 HB z27_0 z27_1 z27_2 z27_3 z27_4 z27_5 z27_6 z27_7 y27_0 y27_1 y27_2 y27_3 y27_4 y27_5 y27_6 y27_7))
   go_meet
   case rel => exact ⟨_, (true), rt_, H', ⟨by first | omega | exact Nat.le_refl _⟩, ⟨bk_ BK223⟩, ⟨hb_ HB⟩⟩
  obtain rfl := Bool.eq_false_iff.mpr c5
  replace H := iF_ H
  replace H' := A_ H; clear H
  obtain ⟨z28_0, z28_1, z28_2, z28_3, z28_4, z28_5, z28_6, z28_7, y28_0, y28_1, y28_2, y28_3, y28_4, y28_5, y28_6, y28_7⟩ := cz8_ BK223
  go_wp2_with (first | ((with_reducible refine gate_callee (f := 59) rfl ?_); refine goesL_ (some 6) rfl rfl Tryz.func59 (by kernel_rfl) rfl #[.agg #[.slice A0_0 l0_0.length c0_0, .slice A0_1 l0_1.length c0_1]] rfl al_ ?_; (with_reducible refine (spec_MemOk.calls k _ _ l0_0 _ _ l0_1 false _ ?s1 ?s2 ?s3 ?s4 A4.out).mono ?_); (case s1 => exact cb_ (Kd.C_below HR0_0.out HB.out)); (case s2 => exact HC0_0.out); (case s3 => exact cb_ (Kd.C_below HR0_1.out HB.out)); (case s4 => exact HC0_1.out); rintro e w29 ⟨rfl, hb⟩; refine ⟨_, rfl, ?_⟩; replace BK223 := bb_ BK223 hb; replace HB := hs_ HB hb; clear hb))
  go_meet
  case rel => exact ⟨_, (true), rt_, H', ⟨by first | omega | exact Nat.le_refl _⟩, ⟨bk_ BK223⟩, ⟨hb_ HB⟩⟩
 case rest =>
  clear HC2
  try clear c5
  try clear c6
  try clear c6b0
  try clear c6b1
  try clear c6b2
  try clear c8
  try clear c10
  obtain ⟨kq, x34_1, rfl, HA, HJ1, BK223, HB⟩ := hcut
  cases kq with
  | zero => exact absurd HA.out (by simp [spec_MachineOk.j0])
  | succ kj1 =>
   have H := HA.out
   clear HA
   simp only [spec_MachineOk.j0] at H
   by_cases c30 : x34_1 = true
   ·
    subst c30
    replace H := it_ H
    obtain rfl := Option.some.inj H
    go_wp2
    go_ret
    exact ⟨rs_, hb_ HB⟩
   obtain rfl := Bool.eq_false_iff.mpr c30
   replace H := iF_ H
   replace H' := A_ H; clear H
   go_wp2
   go_loopg [3] kj1 (fun kq v3 w' => ∃ (x3_2 : Int), v3 = .int .i64 x3_2 ∧ Aside0 (spec_MachineOk.l0 kq x3_2 l0_0 l0_1 l0_2 a0_3 l0_4 l0_5 l0_6 a0_7 = some r) ∧ Aside0 (kq ≤ kj1) ∧ Aside0 (w'.heap[gb223]? = some (.cells #[(.slice A0_0 l0_0.length c0_0), (.slice A0_1 l0_1.length c0_1), (.slice A0_2 l0_2.length c0_2), .int .i64 a0_3, (.slice A0_4 l0_4.length c0_4), (.slice A0_5 l0_5.length c0_5), (.slice A0_6 l0_6.length c0_6), .int .i64 a0_7] 93 (0, 0))) ∧ Aside0 (Below w.heap.size w w'))
   case atStart => exact ⟨(0), rt_, H', ⟨Nat.le_refl _⟩, ⟨bk_ BK223⟩, ⟨hb_ HB⟩⟩
   case round =>
    clear H'
    try clear c5
    try clear c6
    try clear c6b0
    try clear c6b1
    try clear c6b2
    try clear c8
    try clear c10
    try clear c30
    obtain ⟨x3_2, rfl, HA, HK2, BK223, HB⟩ := hrel
    cases gk with
    | zero => exact absurd HA.out (by simp [spec_MachineOk.l0])
    | succ k2 =>
     have H := HA.out
     clear HA
     simp only [spec_MachineOk.l0] at H
     replace H := ic_ H
     rcases H with ⟨c31b0, H⟩ | ⟨c31b0, H⟩
     ·
      replace H := ix_ H
      obtain ⟨c32b0, H⟩ := H
      replace H := bs_ H
      obtain ⟨t229, A33, H⟩ := H
      by_cases c34 : t229 = true
      ·
       subst c34
       replace H := it_ H
       replace H := bs_ H
       obtain ⟨t230, A35, H⟩ := H
       by_cases c36 : t230 = true
       ·
        subst c36
        replace H := it_ H
        replace H' := A_ H; clear H
        obtain ⟨z37_0, z37_1, z37_2, z37_3, z37_4, z37_5, z37_6, z37_7, y37_0, y37_1, y37_2, y37_3, y37_4, y37_5, y37_6, y37_7⟩ := cz8_ BK223
        try go_wp2
        replace BK223 := A_ (blk_drew BK223.out)
        replace HB := A_ (below_drew1 HB.out)
        have p228 : 0 ≤ (x3_2 : Int) := od_
        have q228 : x3_2 < (l0_2.length : Int) := od_
        obtain ⟨ad228, A228_0, c228_0, A228_3, c228_3, A228_4, c228_4, e228, u228_0, u228_1, u228_2, u228_3, u228_4, hl228_0, hi228_0, hl228_3, hi228_3, hl228_4, hi228_4⟩ := at_T62 HR0_2.out x3_2 p228 q228
        have hw228_4 := u228_4
        have hw228_3 := u228_3
        have hw228_2 := u228_2
        have hw228_1 := u228_1
        have hw228_0 := u228_0
        cases e228
        replace u228_0 := hx_ HB u228_0
        replace u228_1 := hx_ HB u228_1
        replace u228_2 := hx_ HB u228_2
        replace u228_3 := hx_ HB u228_3
        replace u228_4 := hx_ HB u228_4
        have HR228_0 := A_ hi228_0
        have HC228_0 := A_ hl228_0
        clear hi228_0 hl228_0
        have HR228_3 := A_ hi228_3
        have HC228_3 := A_ hl228_3
        clear hi228_3 hl228_3
        have HR228_4 := A_ hi228_4
        have HC228_4 := A_ hl228_4
        clear hi228_4 hl228_4
        replace p228 := eq_true p228
        replace q228 := eq_true q228
        refine start_ (n := 16) (S := fun w' => w'.cell? ⟨gb223, 0, none⟩ = some (.slice A0_0 l0_0.length c0_0) ∧ w'.cell? ⟨gb223, 1, none⟩ = some (.slice A0_1 l0_1.length c0_1) ∧ w'.cell? ⟨gb223, 2, none⟩ = some (.slice (some ad228) l0_2.length c0_2) ∧ w'.cell? ⟨gb223, 3, none⟩ = some (.int .i64 a0_3) ∧ w'.cell? ⟨gb223, 4, none⟩ = some (.slice A0_4 l0_4.length c0_4) ∧ w'.cell? ⟨gb223, 5, none⟩ = some (.slice A0_5 l0_5.length c0_5) ∧ w'.cell? ⟨gb223, 6, none⟩ = some (.slice A0_6 l0_6.length c0_6) ∧ w'.cell? ⟨gb223, 7, none⟩ = some (.int .i64 a0_7) ∧ w'.cell? (ad228.add ((x3_2).toNat * 5)) = some (.slice A228_0 ((rd_T62 l0_2 x3_2).f0).length c228_0) ∧ w'.cell? ⟨(ad228.add ((x3_2).toNat * 5)).block, (ad228.add ((x3_2).toNat * 5)).off + 1, none⟩ = some (.int .i64 ((rd_T62 l0_2 x3_2).f1)) ∧ w'.cell? ⟨(ad228.add ((x3_2).toNat * 5)).block, (ad228.add ((x3_2).toNat * 5)).off + 2, none⟩ = some (.bool ((rd_T62 l0_2 x3_2).f2)) ∧ w'.cell? ⟨(ad228.add ((x3_2).toNat * 5)).block, (ad228.add ((x3_2).toNat * 5)).off + 3, none⟩ = some (.slice A228_3 ((rd_T62 l0_2 x3_2).f3).length c228_3) ∧ w'.cell? ⟨(ad228.add ((x3_2).toNat * 5)).block, (ad228.add ((x3_2).toNat * 5)).off + 4, none⟩ = some (.slice A228_4 ((rd_T62 l0_2 x3_2).f4).length c228_4)) (ds := []) (bt_ 0 16) (by kernel_rfl) rfl rfl ⟨(blk_cell BK223.out 0).trans rfl, (blk_cell BK223.out 1).trans rfl, (blk_cell BK223.out 2).trans rfl, (blk_cell BK223.out 3).trans rfl, (blk_cell BK223.out 4).trans rfl, (blk_cell BK223.out 5).trans rfl, (blk_cell BK223.out 6).trans rfl, (blk_cell BK223.out 7).trans rfl, (hy_ HB hw228_0), (hy_ HB hw228_1), (hy_ HB hw228_2), (hy_ HB hw228_3), (hy_ HB hw228_4)⟩ (fun hHeld => ?_); refine with_tabW spec_MachineOk.tab6 spec_MachineOk.bits6 (fun HT_ HW_ => ?_)
        generalize wr.drew = w38 at BK223 HB HR228_0 HR228_3 HR228_4 u228_0 u228_1 u228_2 u228_3 u228_4 hHeld ⊢
        refine pu_ 0 42 (bt_ 1 16) ?_
        refine pu_ 2 44 (bt_ 5 16) ?_
        refine pu_ 5 47 (bt_ 37 16) ?_
        refine tk13_ 1 43 (bt_ 39 16) hHeld ?_
        refine pu_ 3 45 (bt_ 47 16) ?_
        refine tk13_ 4 46 (bt_ 63 16) hHeld ?_
        refine tk13_ 6 48 (bt_ 127 16) hHeld ?_
        refine pu_ 7 49 (bt_ 255 16) ?_
        refine one_ (i := 8) (N := some 50) (bt_ 511 16) rfl rfl (one_of HT_.out (by kernel_rfl)) (by decide) (fun K hK => ?_)
        refine goes_ Tryz.func42 (by kernel_rfl) rfl #[.agg #[.slice A228_0 ((rd_T62 l0_2 x3_2).f0).length c228_0, .int .i64 ((rd_T62 l0_2 x3_2).f1), .bool ((rd_T62 l0_2 x3_2).f2), .slice A228_3 ((rd_T62 l0_2 x3_2).f3).length c228_3, .slice A228_4 ((rd_T62 l0_2 x3_2).f4).length c228_4], .int .i64 (l0_2.length : Int)] (by rfl) rfl rfl al_ ?_
        with_reducible refine (spec_ThreadOk.calls k2 _ _ ((rd_T62 l0_2 x3_2).f0) ((rd_T62 l0_2 x3_2).f1) ((rd_T62 l0_2 x3_2).f2) _ _ ((rd_T62 l0_2 x3_2).f3) _ _ ((rd_T62 l0_2 x3_2).f4) (l0_2.length : Int) true _ ?s1 ?s2 ?s3 ?s4 ?s5 ?s6 A33.out).mono ?_
        (case s1 => exact cb_ (Kd.C_below HR228_0.out HB.out))
        (case s2 => exact HC228_0.out)
        (case s3 => exact cb_ (Kd.C_below HR228_3.out HB.out))
        (case s4 => exact HC228_3.out)
        (case s5 => exact cb_ (Kd.C_below HR228_4.out HB.out))
        (case s6 => exact HC228_4.out)
        rintro e w39 ⟨rfl, hb⟩
        refine ⟨_, rfl, ?_⟩
        replace BK223 := bb_ BK223 hb
        replace HB := hs_ HB hb
        (try clear hb)
        (try clear hb2)
        (try clear hk)
        (try clear hi)
        refine hK.out _ _ ⟨(blk_cell BK223.out 0).trans rfl, (blk_cell BK223.out 1).trans rfl, (blk_cell BK223.out 2).trans rfl, (blk_cell BK223.out 3).trans rfl, (blk_cell BK223.out 4).trans rfl, (blk_cell BK223.out 5).trans rfl, (blk_cell BK223.out 6).trans rfl, (blk_cell BK223.out 7).trans rfl, (hy_ HB hw228_0), (hy_ HB hw228_1), (hy_ HB hw228_2), (hy_ HB hw228_3), (hy_ HB hw228_4)⟩ (fun hHeld => ?_)
        clear hK K
        refine norm_ (a' := ?_) ?_ ?_
        rotate_left
        ·
         show Act.put _ (some 50) _ = _
         simp only [Act.put, List.setIfInBounds_toArray, List.set_cons_zero, List.set_cons_succ, i64_w, i32_w]
         rfl
        refine pu_ 9 51 (bt_ 1023 16) ?_
        refine pu_ 10 52 (bt_ 2047 16) ?_
        refine pu_ 12 54 (bt_ 6143 16) ?_
        refine tk13_ 11 53 (bt_ 8191 16) hHeld ?_
        refine one_ (i := 13) (N := some 55) (bt_ 16383 16) rfl rfl (one_of HT_.out (by kernel_rfl)) (by decide) (fun K hK => ?_)
        refine goes_ Tryz.func104 (by kernel_rfl) rfl #[.agg #[.slice A0_0 l0_0.length c0_0, .slice A0_1 l0_1.length c0_1, .slice (some ad228) l0_2.length c0_2, .int .i64 a0_3, .slice A0_4 l0_4.length c0_4, .slice A0_5 l0_5.length c0_5, .slice A0_6 l0_6.length c0_6, .int .i64 a0_7], .int .i64 x3_2] (by rfl) rfl rfl al_ ?_
        with_reducible refine (spec_l9Thread.calls k2 _ _ l0_0 _ _ l0_1 _ _ l0_2 a0_3 _ _ l0_4 _ _ l0_5 _ _ l0_6 a0_7 x3_2 true _ ?s1 ?s2 ?s3 ?s4 ?s5 ?s6 ?s7 ?s8 ?s9 ?s10 ?s11 ?s12 A35.out).mono ?_
        (case s1 => exact cb_ (Kd.C_below HR0_0.out HB.out))
        (case s2 => exact HC0_0.out)
        (case s3 => exact cb_ (Kd.C_below HR0_1.out HB.out))
        (case s4 => exact HC0_1.out)
        (case s5 => exact cb_ (Kd.C_below HR0_2.out HB.out))
        (case s6 => exact HC0_2.out)
        (case s7 => exact cb_ (Kd.C_below HR0_4.out HB.out))
        (case s8 => exact HC0_4.out)
        (case s9 => exact cb_ (Kd.C_below HR0_5.out HB.out))
        (case s10 => exact HC0_5.out)
        (case s11 => exact cb_ (Kd.C_below HR0_6.out HB.out))
        (case s12 => exact HC0_6.out)
        rintro e w40 ⟨rfl, hb⟩
        refine ⟨_, rfl, ?_⟩
        replace BK223 := bb_ BK223 hb
        replace HB := hs_ HB hb
        (try clear hb)
        (try clear hb2)
        (try clear hk)
        (try clear hi)
        refine hK.out _ _ ⟨(blk_cell BK223.out 0).trans rfl, (blk_cell BK223.out 1).trans rfl, (blk_cell BK223.out 2).trans rfl, (blk_cell BK223.out 3).trans rfl, (blk_cell BK223.out 4).trans rfl, (blk_cell BK223.out 5).trans rfl, (blk_cell BK223.out 6).trans rfl, (blk_cell BK223.out 7).trans rfl, (hy_ HB hw228_0), (hy_ HB hw228_1), (hy_ HB hw228_2), (hy_ HB hw228_3), (hy_ HB hw228_4)⟩ (fun hHeld => ?_)
        clear hK K
        refine norm_ (a' := ?_) ?_ ?_
        rotate_left
        ·
         show Act.put _ (some 55) _ = _
         simp only [Act.put, List.setIfInBounds_toArray, List.set_cons_zero, List.set_cons_succ, i64_w, i32_w]
         rfl
        refine pu_ 14 56 (bt_ 32767 16) ?_
        refine pu_ 15 57 (bt_ 65535 16) ?_
        refine done_ (done_of HT_.out (by kernel_rfl)) ?_
        try go_wp2
        go_roundg k2
        case measure => have := HJ1.out; have := HK2.out; omega
        case rel => exact ⟨(wrap64 (x3_2 + 1)), rt_, H', ⟨by have := HJ1.out; have := HK2.out; omega⟩, ⟨bk_ BK223⟩, ⟨hb_ HB⟩⟩
       obtain rfl := Bool.eq_false_iff.mpr c36
       replace H := iF_ H
       obtain rfl := Option.some.inj H
       obtain ⟨z41_0, z41_1, z41_2, z41_3, z41_4, z41_5, z41_6, z41_7, y41_0, y41_1, y41_2, y41_3, y41_4, y41_5, y41_6, y41_7⟩ := cz8_ BK223
       try go_wp2
       replace BK223 := A_ (blk_drew BK223.out)
       replace HB := A_ (below_drew1 HB.out)
       have p228 : 0 ≤ (x3_2 : Int) := od_
       have q228 : x3_2 < (l0_2.length : Int) := od_
       obtain ⟨ad228, A228_0, c228_0, A228_3, c228_3, A228_4, c228_4, e228, u228_0, u228_1, u228_2, u228_3, u228_4, hl228_0, hi228_0, hl228_3, hi228_3, hl228_4, hi228_4⟩ := at_T62 HR0_2.out x3_2 p228 q228
       have hw228_4 := u228_4
       have hw228_3 := u228_3
       have hw228_2 := u228_2
       have hw228_1 := u228_1
       have hw228_0 := u228_0
       cases e228
       replace u228_0 := hx_ HB u228_0
       replace u228_1 := hx_ HB u228_1
       replace u228_2 := hx_ HB u228_2
       replace u228_3 := hx_ HB u228_3
       replace u228_4 := hx_ HB u228_4
       have HR228_0 := A_ hi228_0
       have HC228_0 := A_ hl228_0
       clear hi228_0 hl228_0
       have HR228_3 := A_ hi228_3
       have HC228_3 := A_ hl228_3
       clear hi228_3 hl228_3
       have HR228_4 := A_ hi228_4
       have HC228_4 := A_ hl228_4
       clear hi228_4 hl228_4
       replace p228 := eq_true p228
       replace q228 := eq_true q228
       refine start_ (n := 16) (S := fun w' => w'.cell? ⟨gb223, 0, none⟩ = some (.slice A0_0 l0_0.length c0_0) ∧ w'.cell? ⟨gb223, 1, none⟩ = some (.slice A0_1 l0_1.length c0_1) ∧ w'.cell? ⟨gb223, 2, none⟩ = some (.slice (some ad228) l0_2.length c0_2) ∧ w'.cell? ⟨gb223, 3, none⟩ = some (.int .i64 a0_3) ∧ w'.cell? ⟨gb223, 4, none⟩ = some (.slice A0_4 l0_4.length c0_4) ∧ w'.cell? ⟨gb223, 5, none⟩ = some (.slice A0_5 l0_5.length c0_5) ∧ w'.cell? ⟨gb223, 6, none⟩ = some (.slice A0_6 l0_6.length c0_6) ∧ w'.cell? ⟨gb223, 7, none⟩ = some (.int .i64 a0_7) ∧ w'.cell? (ad228.add ((x3_2).toNat * 5)) = some (.slice A228_0 ((rd_T62 l0_2 x3_2).f0).length c228_0) ∧ w'.cell? ⟨(ad228.add ((x3_2).toNat * 5)).block, (ad228.add ((x3_2).toNat * 5)).off + 1, none⟩ = some (.int .i64 ((rd_T62 l0_2 x3_2).f1)) ∧ w'.cell? ⟨(ad228.add ((x3_2).toNat * 5)).block, (ad228.add ((x3_2).toNat * 5)).off + 2, none⟩ = some (.bool ((rd_T62 l0_2 x3_2).f2)) ∧ w'.cell? ⟨(ad228.add ((x3_2).toNat * 5)).block, (ad228.add ((x3_2).toNat * 5)).off + 3, none⟩ = some (.slice A228_3 ((rd_T62 l0_2 x3_2).f3).length c228_3) ∧ w'.cell? ⟨(ad228.add ((x3_2).toNat * 5)).block, (ad228.add ((x3_2).toNat * 5)).off + 4, none⟩ = some (.slice A228_4 ((rd_T62 l0_2 x3_2).f4).length c228_4)) (ds := []) (bt_ 0 16) (by kernel_rfl) rfl rfl ⟨(blk_cell BK223.out 0).trans rfl, (blk_cell BK223.out 1).trans rfl, (blk_cell BK223.out 2).trans rfl, (blk_cell BK223.out 3).trans rfl, (blk_cell BK223.out 4).trans rfl, (blk_cell BK223.out 5).trans rfl, (blk_cell BK223.out 6).trans rfl, (blk_cell BK223.out 7).trans rfl, (hy_ HB hw228_0), (hy_ HB hw228_1), (hy_ HB hw228_2), (hy_ HB hw228_3), (hy_ HB hw228_4)⟩ (fun hHeld => ?_); refine with_tabW spec_MachineOk.tab6 spec_MachineOk.bits6 (fun HT_ HW_ => ?_)
       generalize wr.drew = w42 at BK223 HB HR228_0 HR228_3 HR228_4 u228_0 u228_1 u228_2 u228_3 u228_4 hHeld ⊢
       refine pu_ 0 42 (bt_ 1 16) ?_
       refine pu_ 2 44 (bt_ 5 16) ?_
       refine pu_ 5 47 (bt_ 37 16) ?_
       refine tk13_ 1 43 (bt_ 39 16) hHeld ?_
       refine pu_ 3 45 (bt_ 47 16) ?_
       refine tk13_ 4 46 (bt_ 63 16) hHeld ?_
       refine tk13_ 6 48 (bt_ 127 16) hHeld ?_
       refine pu_ 7 49 (bt_ 255 16) ?_
       refine one_ (i := 8) (N := some 50) (bt_ 511 16) rfl rfl (one_of HT_.out (by kernel_rfl)) (by decide) (fun K hK => ?_)
       refine goes_ Tryz.func42 (by kernel_rfl) rfl #[.agg #[.slice A228_0 ((rd_T62 l0_2 x3_2).f0).length c228_0, .int .i64 ((rd_T62 l0_2 x3_2).f1), .bool ((rd_T62 l0_2 x3_2).f2), .slice A228_3 ((rd_T62 l0_2 x3_2).f3).length c228_3, .slice A228_4 ((rd_T62 l0_2 x3_2).f4).length c228_4], .int .i64 (l0_2.length : Int)] (by rfl) rfl rfl al_ ?_
       with_reducible refine (spec_ThreadOk.calls k2 _ _ ((rd_T62 l0_2 x3_2).f0) ((rd_T62 l0_2 x3_2).f1) ((rd_T62 l0_2 x3_2).f2) _ _ ((rd_T62 l0_2 x3_2).f3) _ _ ((rd_T62 l0_2 x3_2).f4) (l0_2.length : Int) true _ ?s1 ?s2 ?s3 ?s4 ?s5 ?s6 A33.out).mono ?_
       (case s1 => exact cb_ (Kd.C_below HR228_0.out HB.out))
       (case s2 => exact HC228_0.out)
       (case s3 => exact cb_ (Kd.C_below HR228_3.out HB.out))
       (case s4 => exact HC228_3.out)
       (case s5 => exact cb_ (Kd.C_below HR228_4.out HB.out))
       (case s6 => exact HC228_4.out)
       rintro e w43 ⟨rfl, hb⟩
       refine ⟨_, rfl, ?_⟩
       replace BK223 := bb_ BK223 hb
       replace HB := hs_ HB hb
       (try clear hb)
       (try clear hb2)
       (try clear hk)
       (try clear hi)
       refine hK.out _ _ ⟨(blk_cell BK223.out 0).trans rfl, (blk_cell BK223.out 1).trans rfl, (blk_cell BK223.out 2).trans rfl, (blk_cell BK223.out 3).trans rfl, (blk_cell BK223.out 4).trans rfl, (blk_cell BK223.out 5).trans rfl, (blk_cell BK223.out 6).trans rfl, (blk_cell BK223.out 7).trans rfl, (hy_ HB hw228_0), (hy_ HB hw228_1), (hy_ HB hw228_2), (hy_ HB hw228_3), (hy_ HB hw228_4)⟩ (fun hHeld => ?_)
       clear hK K
       refine norm_ (a' := ?_) ?_ ?_
       rotate_left
       ·
        show Act.put _ (some 50) _ = _
        simp only [Act.put, List.setIfInBounds_toArray, List.set_cons_zero, List.set_cons_succ, i64_w, i32_w]
        rfl
       refine pu_ 9 51 (bt_ 1023 16) ?_
       refine pu_ 10 52 (bt_ 2047 16) ?_
       refine pu_ 12 54 (bt_ 6143 16) ?_
       refine tk13_ 11 53 (bt_ 8191 16) hHeld ?_
       refine one_ (i := 13) (N := some 55) (bt_ 16383 16) rfl rfl (one_of HT_.out (by kernel_rfl)) (by decide) (fun K hK => ?_)
       refine goes_ Tryz.func104 (by kernel_rfl) rfl #[.agg #[.slice A0_0 l0_0.length c0_0, .slice A0_1 l0_1.length c0_1, .slice (some ad228) l0_2.length c0_2, .int .i64 a0_3, .slice A0_4 l0_4.length c0_4, .slice A0_5 l0_5.length c0_5, .slice A0_6 l0_6.length c0_6, .int .i64 a0_7], .int .i64 x3_2] (by rfl) rfl rfl al_ ?_
       with_reducible refine (spec_l9Thread.calls k2 _ _ l0_0 _ _ l0_1 _ _ l0_2 a0_3 _ _ l0_4 _ _ l0_5 _ _ l0_6 a0_7 x3_2 false _ ?s1 ?s2 ?s3 ?s4 ?s5 ?s6 ?s7 ?s8 ?s9 ?s10 ?s11 ?s12 A35.out).mono ?_
       (case s1 => exact cb_ (Kd.C_below HR0_0.out HB.out))
       (case s2 => exact HC0_0.out)
       (case s3 => exact cb_ (Kd.C_below HR0_1.out HB.out))
       (case s4 => exact HC0_1.out)
       (case s5 => exact cb_ (Kd.C_below HR0_2.out HB.out))
       (case s6 => exact HC0_2.out)
       (case s7 => exact cb_ (Kd.C_below HR0_4.out HB.out))
       (case s8 => exact HC0_4.out)
       (case s9 => exact cb_ (Kd.C_below HR0_5.out HB.out))
       (case s10 => exact HC0_5.out)
       (case s11 => exact cb_ (Kd.C_below HR0_6.out HB.out))
       (case s12 => exact HC0_6.out)
       rintro e w44 ⟨rfl, hb⟩
       refine ⟨_, rfl, ?_⟩
       replace BK223 := bb_ BK223 hb
       replace HB := hs_ HB hb
       (try clear hb)
       (try clear hb2)
       (try clear hk)
       (try clear hi)
       refine hK.out _ _ ⟨(blk_cell BK223.out 0).trans rfl, (blk_cell BK223.out 1).trans rfl, (blk_cell BK223.out 2).trans rfl, (blk_cell BK223.out 3).trans rfl, (blk_cell BK223.out 4).trans rfl, (blk_cell BK223.out 5).trans rfl, (blk_cell BK223.out 6).trans rfl, (blk_cell BK223.out 7).trans rfl, (hy_ HB hw228_0), (hy_ HB hw228_1), (hy_ HB hw228_2), (hy_ HB hw228_3), (hy_ HB hw228_4)⟩ (fun hHeld => ?_)
       clear hK K
       refine norm_ (a' := ?_) ?_ ?_
       rotate_left
       ·
        show Act.put _ (some 55) _ = _
        simp only [Act.put, List.setIfInBounds_toArray, List.set_cons_zero, List.set_cons_succ, i64_w, i32_w]
        rfl
       refine pu_ 14 56 (bt_ 32767 16) ?_
       refine pu_ 15 57 (bt_ 65535 16) ?_
       refine done_ (done_of HT_.out (by kernel_rfl)) ?_
       try go_wp2
       go_ret
       exact ⟨rs_, hb_ HB⟩
      obtain rfl := Bool.eq_false_iff.mpr c34
      replace H := iF_ H
      obtain rfl := Option.some.inj H
      obtain ⟨z45_0, z45_1, z45_2, z45_3, z45_4, z45_5, z45_6, z45_7, y45_0, y45_1, y45_2, y45_3, y45_4, y45_5, y45_6, y45_7⟩ := cz8_ BK223
      try go_wp2
      replace BK223 := A_ (blk_drew BK223.out)
      replace HB := A_ (below_drew1 HB.out)
      have p228 : 0 ≤ (x3_2 : Int) := od_
      have q228 : x3_2 < (l0_2.length : Int) := od_
      obtain ⟨ad228, A228_0, c228_0, A228_3, c228_3, A228_4, c228_4, e228, u228_0, u228_1, u228_2, u228_3, u228_4, hl228_0, hi228_0, hl228_3, hi228_3, hl228_4, hi228_4⟩ := at_T62 HR0_2.out x3_2 p228 q228
      have hw228_4 := u228_4
      have hw228_3 := u228_3
      have hw228_2 := u228_2
      have hw228_1 := u228_1
      have hw228_0 := u228_0
      cases e228
      replace u228_0 := hx_ HB u228_0
      replace u228_1 := hx_ HB u228_1
      replace u228_2 := hx_ HB u228_2
      replace u228_3 := hx_ HB u228_3
      replace u228_4 := hx_ HB u228_4
      have HR228_0 := A_ hi228_0
      have HC228_0 := A_ hl228_0
      clear hi228_0 hl228_0
      have HR228_3 := A_ hi228_3
      have HC228_3 := A_ hl228_3
      clear hi228_3 hl228_3
      have HR228_4 := A_ hi228_4
      have HC228_4 := A_ hl228_4
      clear hi228_4 hl228_4
      replace p228 := eq_true p228
      replace q228 := eq_true q228
      refine start_ (n := 16) (S := fun w' => w'.cell? ⟨gb223, 0, none⟩ = some (.slice A0_0 l0_0.length c0_0) ∧ w'.cell? ⟨gb223, 1, none⟩ = some (.slice A0_1 l0_1.length c0_1) ∧ w'.cell? ⟨gb223, 2, none⟩ = some (.slice (some ad228) l0_2.length c0_2) ∧ w'.cell? ⟨gb223, 3, none⟩ = some (.int .i64 a0_3) ∧ w'.cell? ⟨gb223, 4, none⟩ = some (.slice A0_4 l0_4.length c0_4) ∧ w'.cell? ⟨gb223, 5, none⟩ = some (.slice A0_5 l0_5.length c0_5) ∧ w'.cell? ⟨gb223, 6, none⟩ = some (.slice A0_6 l0_6.length c0_6) ∧ w'.cell? ⟨gb223, 7, none⟩ = some (.int .i64 a0_7) ∧ w'.cell? (ad228.add ((x3_2).toNat * 5)) = some (.slice A228_0 ((rd_T62 l0_2 x3_2).f0).length c228_0) ∧ w'.cell? ⟨(ad228.add ((x3_2).toNat * 5)).block, (ad228.add ((x3_2).toNat * 5)).off + 1, none⟩ = some (.int .i64 ((rd_T62 l0_2 x3_2).f1)) ∧ w'.cell? ⟨(ad228.add ((x3_2).toNat * 5)).block, (ad228.add ((x3_2).toNat * 5)).off + 2, none⟩ = some (.bool ((rd_T62 l0_2 x3_2).f2)) ∧ w'.cell? ⟨(ad228.add ((x3_2).toNat * 5)).block, (ad228.add ((x3_2).toNat * 5)).off + 3, none⟩ = some (.slice A228_3 ((rd_T62 l0_2 x3_2).f3).length c228_3) ∧ w'.cell? ⟨(ad228.add ((x3_2).toNat * 5)).block, (ad228.add ((x3_2).toNat * 5)).off + 4, none⟩ = some (.slice A228_4 ((rd_T62 l0_2 x3_2).f4).length c228_4)) (ds := []) (bt_ 0 16) (by kernel_rfl) rfl rfl ⟨(blk_cell BK223.out 0).trans rfl, (blk_cell BK223.out 1).trans rfl, (blk_cell BK223.out 2).trans rfl, (blk_cell BK223.out 3).trans rfl, (blk_cell BK223.out 4).trans rfl, (blk_cell BK223.out 5).trans rfl, (blk_cell BK223.out 6).trans rfl, (blk_cell BK223.out 7).trans rfl, (hy_ HB hw228_0), (hy_ HB hw228_1), (hy_ HB hw228_2), (hy_ HB hw228_3), (hy_ HB hw228_4)⟩ (fun hHeld => ?_); refine with_tabW spec_MachineOk.tab6 spec_MachineOk.bits6 (fun HT_ HW_ => ?_)
      generalize wr.drew = w46 at BK223 HB HR228_0 HR228_3 HR228_4 u228_0 u228_1 u228_2 u228_3 u228_4 hHeld ⊢
      refine pu_ 0 42 (bt_ 1 16) ?_
      refine pu_ 2 44 (bt_ 5 16) ?_
      refine pu_ 5 47 (bt_ 37 16) ?_
      refine tk13_ 1 43 (bt_ 39 16) hHeld ?_
      refine pu_ 3 45 (bt_ 47 16) ?_
      refine tk13_ 4 46 (bt_ 63 16) hHeld ?_
      refine tk13_ 6 48 (bt_ 127 16) hHeld ?_
      refine pu_ 7 49 (bt_ 255 16) ?_
      refine one_ (i := 8) (N := some 50) (bt_ 511 16) rfl rfl (one_of HT_.out (by kernel_rfl)) (by decide) (fun K hK => ?_)
      refine goes_ Tryz.func42 (by kernel_rfl) rfl #[.agg #[.slice A228_0 ((rd_T62 l0_2 x3_2).f0).length c228_0, .int .i64 ((rd_T62 l0_2 x3_2).f1), .bool ((rd_T62 l0_2 x3_2).f2), .slice A228_3 ((rd_T62 l0_2 x3_2).f3).length c228_3, .slice A228_4 ((rd_T62 l0_2 x3_2).f4).length c228_4], .int .i64 (l0_2.length : Int)] (by rfl) rfl rfl al_ ?_
      with_reducible refine (spec_ThreadOk.calls k2 _ _ ((rd_T62 l0_2 x3_2).f0) ((rd_T62 l0_2 x3_2).f1) ((rd_T62 l0_2 x3_2).f2) _ _ ((rd_T62 l0_2 x3_2).f3) _ _ ((rd_T62 l0_2 x3_2).f4) (l0_2.length : Int) false _ ?s1 ?s2 ?s3 ?s4 ?s5 ?s6 A33.out).mono ?_
      (case s1 => exact cb_ (Kd.C_below HR228_0.out HB.out))
      (case s2 => exact HC228_0.out)
      (case s3 => exact cb_ (Kd.C_below HR228_3.out HB.out))
      (case s4 => exact HC228_3.out)
      (case s5 => exact cb_ (Kd.C_below HR228_4.out HB.out))
      (case s6 => exact HC228_4.out)
      rintro e w47 ⟨rfl, hb⟩
      refine ⟨_, rfl, ?_⟩
      replace BK223 := bb_ BK223 hb
      replace HB := hs_ HB hb
      (try clear hb)
      (try clear hb2)
      (try clear hk)
      (try clear hi)
      refine hK.out _ _ ⟨(blk_cell BK223.out 0).trans rfl, (blk_cell BK223.out 1).trans rfl, (blk_cell BK223.out 2).trans rfl, (blk_cell BK223.out 3).trans rfl, (blk_cell BK223.out 4).trans rfl, (blk_cell BK223.out 5).trans rfl, (blk_cell BK223.out 6).trans rfl, (blk_cell BK223.out 7).trans rfl, (hy_ HB hw228_0), (hy_ HB hw228_1), (hy_ HB hw228_2), (hy_ HB hw228_3), (hy_ HB hw228_4)⟩ (fun hHeld => ?_)
      clear hK K
      refine norm_ (a' := ?_) ?_ ?_
      rotate_left
      ·
       show Act.put _ (some 50) _ = _
       simp only [Act.put, List.setIfInBounds_toArray, List.set_cons_zero, List.set_cons_succ, i64_w, i32_w]
       rfl
      refine pu_ 9 51 (bt_ 1023 16) ?_
      refine pu_ 10 52 (bt_ 2047 16) ?_
      refine pn_ 11 53 (bt_ 4095 16) ?_
      refine pn_ 12 54 (bt_ 8191 16) ?_
      refine pn_ 13 55 (bt_ 16383 16) ?_
      refine pn_ 14 56 (bt_ 32767 16) ?_
      refine pu_ 15 57 (bt_ 65535 16) ?_
      refine done_ (done_of HT_.out (by kernel_rfl)) ?_
      try go_wp2
      go_ret
      exact ⟨rs_, hb_ HB⟩
     obtain rfl := Option.some.inj H
     obtain ⟨z48_0, z48_1, z48_2, z48_3, z48_4, z48_5, z48_6, z48_7, y48_0, y48_1, y48_2, y48_3, y48_4, y48_5, y48_6, y48_7⟩ := cz8_ BK223
     go_wp2
     go_ret
     exact ⟨rs_, hb_ HB⟩
end Go.Proofs.YtdcinhpdpoodfaaGreat.PFnExactFinished
