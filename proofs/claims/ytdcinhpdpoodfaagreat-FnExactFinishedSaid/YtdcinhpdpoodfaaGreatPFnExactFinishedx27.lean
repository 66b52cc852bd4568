/- Contracts of functions of the program. No condition beyond the hypotheses that each theorem names. -/
import Derived.Test.YtdcinhpdpoodfaaGreatPFnExactFinishedx0
import Derived.Test.YtdcinhpdpoodfaaGreatPFnExactFinishedx1
import Derived.Test.YtdcinhpdpoodfaaGreatPFnExactFinishedx2
import Derived.Test.YtdcinhpdpoodfaaGreatPFnExactFinishedx3
import Derived.Test.YtdcinhpdpoodfaaGreatPFnExactFinishedx4
import Derived.Test.YtdcinhpdpoodfaaGreatPFnExactFinishedx5
import Derived.Test.YtdcinhpdpoodfaaGreatPFnExactFinishedx6
import Derived.Test.YtdcinhpdpoodfaaGreatPFnExactFinishedx7
import Derived.Test.YtdcinhpdpoodfaaGreatPFnExactFinishedx8
import Derived.Test.YtdcinhpdpoodfaaGreatPFnExactFinishedx9
import Derived.Test.YtdcinhpdpoodfaaGreatPFnExactFinishedx10
import Derived.Test.YtdcinhpdpoodfaaGreatPFnExactFinishedx11
import Derived.Test.YtdcinhpdpoodfaaGreatPFnExactFinishedx12
import Derived.Test.YtdcinhpdpoodfaaGreatPFnExactFinishedx13
import Derived.Test.YtdcinhpdpoodfaaGreatPFnExactFinishedx14
import Derived.Test.YtdcinhpdpoodfaaGreatPFnExactFinishedx15
import Derived.Test.YtdcinhpdpoodfaaGreatPFnExactFinishedx16
import Derived.Test.YtdcinhpdpoodfaaGreatPFnExactFinishedx17
import Derived.Test.YtdcinhpdpoodfaaGreatPFnExactFinishedx18
import Derived.Test.YtdcinhpdpoodfaaGreatPFnExactFinishedx19
import Derived.Test.YtdcinhpdpoodfaaGreatPFnExactFinishedx20
import Derived.Test.YtdcinhpdpoodfaaGreatPFnExactFinishedx21
import Derived.Test.YtdcinhpdpoodfaaGreatPFnExactFinishedx22
import Derived.Test.YtdcinhpdpoodfaaGreatPFnExactFinishedx23
import Derived.Test.YtdcinhpdpoodfaaGreatPFnExactFinishedx24
import Derived.Test.YtdcinhpdpoodfaaGreatPFnExactFinishedx25
import Derived.Test.YtdcinhpdpoodfaaGreatPFnExactFinishedx26
namespace Go.Proofs.YtdcinhpdpoodfaaGreat.PFnExactFinished
open Go.RowKit Go.Proofs.YtdcinhpdpoodfaaGreatW.PrintWords Go.Proofs.YtdcinhpdpoodfaaGreatW.PrintLast Go.Proofs.YtdcinhpdpoodfaaGreatW.PrintMore
attribute [local go_sem] max2_int min2_int max_two min_two max_three min_three max_four min_four
set_option linter.unusedVariables false
set_option linter.unusedSimpArgs false
def spec_ThreadDone.f (l0_0 : List (S122)) (a0_1 : Int) (a0_2 : Bool) (l0_3 : List (S125)) (l0_4 : List (S42)) : Option (Bool) := some (a0_1 == (l0_0.length : Int))
set_option maxHeartbeats 8000000 in
set_option maxRecDepth 100000 in
theorem spec_ThreadDone.calls (A0_0 : Option Addr) (c0_0 : Nat) (l0_0 : List (S122)) (a0_1 : Int) (a0_2 : Bool) (A0_3 : Option Addr) (c0_3 : Nat) (l0_3 : List (S125)) (A0_4 : Option Addr) (c0_4 : Nat) (l0_4 : List (S42)) (r : Bool) (w : World) (hr0_0 : Kd.C k122 w A0_0 l0_0.length l0_0) (hc0_0 : l0_0.length ≤ c0_0) (hr0_3 : Kd.C k125 w A0_3 l0_3.length l0_3) (hc0_3 : l0_3.length ≤ c0_3) (hr0_4 : Kd.C k42 w A0_4 l0_4.length l0_4) (hc0_4 : l0_4.length ≤ c0_4) (h : spec_ThreadDone.f l0_0 a0_1 a0_2 l0_3 l0_4 = some r) :
    Calls Tryz.prog 46 #[.agg #[.slice A0_0 l0_0.length c0_0, .int .i64 a0_1, .bool a0_2, .slice A0_3 l0_3.length c0_3, .slice A0_4 l0_4.length c0_4]] w fun e w' => e = .returned (.bool r) ∧ Below w.heap.size w w' := by
 have hu62 := Tryz.underlying62
 have HR0_0 := A_ hr0_0
 have HC0_0 := A_ hc0_0
 clear hr0_0 hc0_0
 have HR0_3 := A_ hr0_3
 have HC0_3 := A_ hc0_3
 clear hr0_3 hc0_3
 have HR0_4 := A_ hr0_4
 have HC0_4 := A_ hc0_4
 clear hr0_4 hc0_4
 have HB := A_ (Below.refl w.heap.size w)
 have H : (some (a0_1 == (l0_0.length : Int))) = some r := h
 clear h
 obtain rfl := Option.some.inj H
 go_enter Tryz.func46, Tryz.ntmps46
 go_wp2_with (first | ((with_reducible refine gate_dst (N := 1) rfl ?_); refine bx_ HB rfl (N := 1) rfl (cs := #[.slice A0_0 l0_0.length c0_0, .int .i64 a0_1, .bool a0_2, .slice A0_3 l0_3.length c0_3, .slice A0_4 l0_4.length c0_4]) (t := 62) hr_ ?_; clear HB; intro gb376 w2 hg hb BK376 GW376 HB; clear hb hg; obtain ⟨z3_0, z3_1, z3_2, z3_3, z3_4, y3_0, y3_1, y3_2, y3_3, y3_4⟩ := cz5_ BK376))
 go_ret
 exact ⟨rs_, hb_ HB⟩
def spec_Finished.l0 : Nat → Int → List (S39) → List (S52) → List (S62) → Int → List (S147) → List Int → List Int → Int → Option (Bool)
 | 0, _, _, _, _, _, _, _, _, _ => none
 | k + 1, x3, x480000, x480001, x480002, x480003, x480004, x480005, x480006, x480007 => if x3 < (x480002.length : Int) then (if 0 ≤ x3 then ((spec_ThreadDone.f ((rd_T62 x480002 x3).f0) ((rd_T62 x480002 x3).f1) ((rd_T62 x480002 x3).f2) ((rd_T62 x480002 x3).f3) ((rd_T62 x480002 x3).f4)).bind fun t482 => (if t482 = true then (spec_Finished.l0 k (wrap64 (x3 + 1)) x480000 x480001 x480002 x480003 x480004 x480005 x480006 x480007) else (some false))) else (none)) else (some true)
def spec_Finished.f (k : Nat) (l0_0 : List (S39)) (l0_1 : List (S52)) (l0_2 : List (S62)) (a0_3 : Int) (l0_4 : List (S147)) (l0_5 : List Int) (l0_6 : List Int) (a0_7 : Int) : Option (Bool) := (spec_MachineOk.f k l0_0 l0_1 l0_2 a0_3 l0_4 l0_5 l0_6 a0_7).bind fun t480 => (if t480 = true then (spec_Finished.l0 k 0 l0_0 l0_1 l0_2 a0_3 l0_4 l0_5 l0_6 a0_7) else (some false))
set_option maxHeartbeats 8000000 in
set_option maxRecDepth 100000 in
theorem spec_Finished.calls (k : Nat) (A0_0 : Option Addr) (c0_0 : Nat) (l0_0 : List (S39)) (A0_1 : Option Addr) (c0_1 : Nat) (l0_1 : List (S52)) (A0_2 : Option Addr) (c0_2 : Nat) (l0_2 : List (S62)) (a0_3 : Int) (A0_4 : Option Addr) (c0_4 : Nat) (l0_4 : List (S147)) (A0_5 : Option Addr) (c0_5 : Nat) (l0_5 : List Int) (A0_6 : Option Addr) (c0_6 : Nat) (l0_6 : List Int) (a0_7 : Int) (r : Bool) (w : World) (hr0_0 : Kd.C k39 w A0_0 l0_0.length l0_0) (hc0_0 : l0_0.length ≤ c0_0) (hr0_1 : Kd.C k52 w A0_1 l0_1.length l0_1) (hc0_1 : l0_1.length ≤ c0_1) (hr0_2 : Kd.C k62 w A0_2 l0_2.length l0_2) (hc0_2 : l0_2.length ≤ c0_2) (hr0_4 : Kd.C k147 w A0_4 l0_4.length l0_4) (hc0_4 : l0_4.length ≤ c0_4) (hr0_5 : Kd.C (Kd.int .i64) w A0_5 l0_5.length l0_5) (hc0_5 : l0_5.length ≤ c0_5) (hr0_6 : Kd.C (Kd.int .i64) w A0_6 l0_6.length l0_6) (hc0_6 : l0_6.length ≤ c0_6) (h : spec_Finished.f k l0_0 l0_1 l0_2 a0_3 l0_4 l0_5 l0_6 a0_7 = some r) :
    Calls Tryz.prog 52 #[.agg #[.slice A0_0 l0_0.length c0_0, .slice A0_1 l0_1.length c0_1, .slice A0_2 l0_2.length c0_2, .int .i64 a0_3, .slice A0_4 l0_4.length c0_4, .slice A0_5 l0_5.length c0_5, .slice A0_6 l0_6.length c0_6, .int .i64 a0_7]] w fun e w' => e = .returned (.bool r) ∧ Below w.heap.size w w' := by
 have hu93 := Tryz.underlying93
 have hu62 := Tryz.underlying62
 have HR0_0 := A_ hr0_0
 have HC0_0 := A_ hc0_0
 clear hr0_0 hc0_0
 have HR0_1 := A_ hr0_1
 have HC0_1 := A_ hc0_1
 clear hr0_1 hc0_1
 have HR0_2 := A_ hr0_2
 have HC0_2 := A_ hc0_2
 clear hr0_2 hc0_2
 have HR0_4 := A_ hr0_4
 have HC0_4 := A_ hc0_4
 clear hr0_4 hc0_4
 have HR0_5 := A_ hr0_5
 have HC0_5 := A_ hc0_5
 clear hr0_5 hc0_5
 have HR0_6 := A_ hr0_6
 have HC0_6 := A_ hc0_6
 clear hr0_6 hc0_6
 have HB := A_ (Below.refl w.heap.size w)
 have H : ((spec_MachineOk.f k l0_0 l0_1 l0_2 a0_3 l0_4 l0_5 l0_6 a0_7).bind fun t480 => (if t480 = true then (spec_Finished.l0 k 0 l0_0 l0_1 l0_2 a0_3 l0_4 l0_5 l0_6 a0_7) else (some false))) = some r := h
 clear h
 replace H := bs_ H
 obtain ⟨t480, A2, H⟩ := H
 by_cases c3 : t480 = true
 ·
  subst c3
  replace H := it_ H
  replace H' := A_ H; clear H
  go_enter Tryz.func52, Tryz.ntmps52
  go_wp2_with (first | ((with_reducible refine gate_dst (N := 1) rfl ?_); refine bx_ HB rfl (N := 1) rfl (cs := #[.slice A0_0 l0_0.length c0_0, .slice A0_1 l0_1.length c0_1, .slice A0_2 l0_2.length c0_2, .int .i64 a0_3, .slice A0_4 l0_4.length c0_4, .slice A0_5 l0_5.length c0_5, .slice A0_6 l0_6.length c0_6, .int .i64 a0_7]) (t := 93) hr_ ?_; clear HB; intro gb479 w4 hg hb BK479 GW479 HB; clear hb hg; obtain ⟨z5_0, z5_1, z5_2, z5_3, z5_4, z5_5, z5_6, z5_7, y5_0, y5_1, y5_2, y5_3, y5_4, y5_5, y5_6, y5_7⟩ := cz8_ BK479) | ((with_reducible refine gate_callee (f := 48) rfl ?_); refine goesL_ (some 5) rfl rfl Tryz.func48 (by kernel_rfl) rfl #[.agg #[.slice A0_0 l0_0.length c0_0, .slice A0_1 l0_1.length c0_1, .slice A0_2 l0_2.length c0_2, .int .i64 a0_3, .slice A0_4 l0_4.length c0_4, .slice A0_5 l0_5.length c0_5, .slice A0_6 l0_6.length c0_6, .int .i64 a0_7]] rfl al_ ?_; (with_reducible refine (spec_MachineOk.calls k _ _ l0_0 _ _ l0_1 _ _ l0_2 a0_3 _ _ l0_4 _ _ l0_5 _ _ l0_6 a0_7 true _ ?s1 ?s2 ?s3 ?s4 ?s5 ?s6 ?s7 ?s8 ?s9 ?s10 ?s11 ?s12 A2.out).mono ?_); (case s1 => exact cb_ (Kd.C_below HR0_0.out HB.out)); (case s2 => exact HC0_0.out); (case s3 => exact cb_ (Kd.C_below HR0_1.out HB.out)); (case s4 => exact HC0_1.out); (case s5 => exact cb_ (Kd.C_below HR0_2.out HB.out)); (case s6 => exact HC0_2.out); (case s7 => exact cb_ (Kd.C_below HR0_4.out HB.out)); (case s8 => exact HC0_4.out); (case s9 => exact cb_ (Kd.C_below HR0_5.out HB.out)); (case s10 => exact HC0_5.out); (case s11 => exact cb_ (Kd.C_below HR0_6.out HB.out)); (case s12 => exact HC0_6.out); rintro e w6 ⟨rfl, hb⟩; refine ⟨_, rfl, ?_⟩; replace BK479 := bb_ BK479 hb; replace HB := hs_ HB hb; clear hb))
  go_loopg [3] k (fun kq v3 w' => ∃ (x3_1 : Int), v3 = .int .i64 x3_1 ∧ Aside0 (spec_Finished.l0 kq x3_1 l0_0 l0_1 l0_2 a0_3 l0_4 l0_5 l0_6 a0_7 = some r) ∧ Aside0 (kq ≤ k) ∧ Aside0 (w'.heap[gb479]? = some (.cells #[(.slice A0_0 l0_0.length c0_0), (.slice A0_1 l0_1.length c0_1), (.slice A0_2 l0_2.length c0_2), .int .i64 a0_3, (.slice A0_4 l0_4.length c0_4), (.slice A0_5 l0_5.length c0_5), (.slice A0_6 l0_6.length c0_6), .int .i64 a0_7] 93 (0, 0))) ∧ Aside0 (Below w.heap.size w w'))
  case atStart => exact ⟨(0), rt_, H', ⟨Nat.le_refl _⟩, ⟨bk_ BK479⟩, ⟨hb_ HB⟩⟩
  case round =>
   clear H'
   try clear c3
   try clear c5
   obtain ⟨x3_1, rfl, HA, HK1, BK479, HB⟩ := hrel
   cases gk with
   | zero => exact absurd HA.out (by simp [spec_Finished.l0])
   | succ k1 =>
    have H := HA.out
    clear HA
    simp only [spec_Finished.l0] at H
    replace H := ic_ H
    rcases H with ⟨c7b0, H⟩ | ⟨c7b0, H⟩
    ·
     replace H := ix_ H
     obtain ⟨c8b0, H⟩ := H
     replace H := bs_ H
     obtain ⟨t482, A9, H⟩ := H
     by_cases c10 : t482 = true
     ·
      subst c10
      replace H := it_ H
      replace H' := A_ H; clear H
      obtain ⟨z11_0, z11_1, z11_2, z11_3, z11_4, z11_5, z11_6, z11_7, y11_0, y11_1, y11_2, y11_3, y11_4, y11_5, y11_6, y11_7⟩ := cz8_ BK479
      obtain ⟨ad481, A481_0, c481_0, A481_3, c481_3, A481_4, c481_4, p481, q481, rfl, u481_0, u481_1, u481_2, u481_3, u481_4, HC481_0, HR481_0, HC481_3, HR481_3, HC481_4, HR481_4⟩ := ab_T62 HB HR0_2 x3_1
      go_wp2_with (first | ((with_reducible refine gate_callee (f := 46) rfl ?_); refine goesL_ (some 19) rfl rfl Tryz.func46 (by kernel_rfl) rfl #[.agg #[.slice A481_0 ((rd_T62 l0_2 x3_1).f0).length c481_0, .int .i64 ((rd_T62 l0_2 x3_1).f1), .bool ((rd_T62 l0_2 x3_1).f2), .slice A481_3 ((rd_T62 l0_2 x3_1).f3).length c481_3, .slice A481_4 ((rd_T62 l0_2 x3_1).f4).length c481_4]] rfl al_ ?_; (with_reducible refine (spec_ThreadDone.calls _ _ ((rd_T62 l0_2 x3_1).f0) ((rd_T62 l0_2 x3_1).f1) ((rd_T62 l0_2 x3_1).f2) _ _ ((rd_T62 l0_2 x3_1).f3) _ _ ((rd_T62 l0_2 x3_1).f4) true _ ?s1 ?s2 ?s3 ?s4 ?s5 ?s6 A9.out).mono ?_); (case s1 => exact cb_ (Kd.C_below HR481_0.out HB.out)); (case s2 => exact HC481_0.out); (case s3 => exact cb_ (Kd.C_below HR481_3.out HB.out)); (case s4 => exact HC481_3.out); (case s5 => exact cb_ (Kd.C_below HR481_4.out HB.out)); (case s6 => exact HC481_4.out); rintro e w12 ⟨rfl, hb⟩; refine ⟨_, rfl, ?_⟩; replace BK479 := bb_ BK479 hb; replace HB := hs_ HB hb; clear hb))
      go_roundg k1
      case measure => have := HK1.out; omega
      case rel => exact ⟨(wrap64 (x3_1 + 1)), rt_, H', ⟨by have := HK1.out; omega⟩, ⟨bk_ BK479⟩, ⟨hb_ HB⟩⟩
     obtain rfl := Bool.eq_false_iff.mpr c10
     replace H := iF_ H
     obtain rfl := Option.some.inj H
     obtain ⟨z13_0, z13_1, z13_2, z13_3, z13_4, z13_5, z13_6, z13_7, y13_0, y13_1, y13_2, y13_3, y13_4, y13_5, y13_6, y13_7⟩ := cz8_ BK479
     obtain ⟨ad481, A481_0, c481_0, A481_3, c481_3, A481_4, c481_4, p481, q481, rfl, u481_0, u481_1, u481_2, u481_3, u481_4, HC481_0, HR481_0, HC481_3, HR481_3, HC481_4, HR481_4⟩ := ab_T62 HB HR0_2 x3_1
     go_wp2_with (first | ((with_reducible refine gate_callee (f := 46) rfl ?_); refine goesL_ (some 19) rfl rfl Tryz.func46 (by kernel_rfl) rfl #[.agg #[.slice A481_0 ((rd_T62 l0_2 x3_1).f0).length c481_0, .int .i64 ((rd_T62 l0_2 x3_1).f1), .bool ((rd_T62 l0_2 x3_1).f2), .slice A481_3 ((rd_T62 l0_2 x3_1).f3).length c481_3, .slice A481_4 ((rd_T62 l0_2 x3_1).f4).length c481_4]] rfl al_ ?_; (with_reducible refine (spec_ThreadDone.calls _ _ ((rd_T62 l0_2 x3_1).f0) ((rd_T62 l0_2 x3_1).f1) ((rd_T62 l0_2 x3_1).f2) _ _ ((rd_T62 l0_2 x3_1).f3) _ _ ((rd_T62 l0_2 x3_1).f4) false _ ?s1 ?s2 ?s3 ?s4 ?s5 ?s6 A9.out).mono ?_); (case s1 => exact cb_ (Kd.C_below HR481_0.out HB.out)); (case s2 => exact HC481_0.out); (case s3 => exact cb_ (Kd.C_below HR481_3.out HB.out)); (case s4 => exact HC481_3.out); (case s5 => exact cb_ (Kd.C_below HR481_4.out HB.out)); (case s6 => exact HC481_4.out); rintro e w14 ⟨rfl, hb⟩; refine ⟨_, rfl, ?_⟩; replace BK479 := bb_ BK479 hb; replace HB := hs_ HB hb; clear hb))
     go_ret
     exact ⟨rs_, hb_ HB⟩
    obtain rfl := Option.some.inj H
    obtain ⟨z15_0, z15_1, z15_2, z15_3, z15_4, z15_5, z15_6, z15_7, y15_0, y15_1, y15_2, y15_3, y15_4, y15_5, y15_6, y15_7⟩ := cz8_ BK479
    go_wp2
    go_ret
    exact ⟨rs_, hb_ HB⟩
 obtain rfl := Bool.eq_false_iff.mpr c3
 replace H := iF_ H
 obtain rfl := Option.some.inj H
 go_enter Tryz.func52, Tryz.ntmps52
 go_wp2_with (first | ((with_reducible refine gate_dst (N := 1) rfl ?_); refine bx_ HB rfl (N := 1) rfl (cs := #[.slice A0_0 l0_0.length c0_0, .slice A0_1 l0_1.length c0_1, .slice A0_2 l0_2.length c0_2, .int .i64 a0_3, .slice A0_4 l0_4.length c0_4, .slice A0_5 l0_5.length c0_5, .slice A0_6 l0_6.length c0_6, .int .i64 a0_7]) (t := 93) hr_ ?_; clear HB; intro gb479 w16 hg hb BK479 GW479 HB; clear hb hg; obtain ⟨z17_0, z17_1, z17_2, z17_3, z17_4, z17_5, z17_6, z17_7, y17_0, y17_1, y17_2, y17_3, y17_4, y17_5, y17_6, y17_7⟩ := cz8_ BK479) | ((with_reducible refine gate_callee (f := 48) rfl ?_); refine goesL_ (some 5) rfl rfl Tryz.func48 (by kernel_rfl) rfl #[.agg #[.slice A0_0 l0_0.length c0_0, .slice A0_1 l0_1.length c0_1, .slice A0_2 l0_2.length c0_2, .int .i64 a0_3, .slice A0_4 l0_4.length c0_4, .slice A0_5 l0_5.length c0_5, .slice A0_6 l0_6.length c0_6, .int .i64 a0_7]] rfl al_ ?_; (with_reducible refine (spec_MachineOk.calls k _ _ l0_0 _ _ l0_1 _ _ l0_2 a0_3 _ _ l0_4 _ _ l0_5 _ _ l0_6 a0_7 false _ ?s1 ?s2 ?s3 ?s4 ?s5 ?s6 ?s7 ?s8 ?s9 ?s10 ?s11 ?s12 A2.out).mono ?_); (case s1 => exact cb_ (Kd.C_below HR0_0.out HB.out)); (case s2 => exact HC0_0.out); (case s3 => exact cb_ (Kd.C_below HR0_1.out HB.out)); (case s4 => exact HC0_1.out); (case s5 => exact cb_ (Kd.C_below HR0_2.out HB.out)); (case s6 => exact HC0_2.out); (case s7 => exact cb_ (Kd.C_below HR0_4.out HB.out)); (case s8 => exact HC0_4.out); (case s9 => exact cb_ (Kd.C_below HR0_5.out HB.out)); (case s10 => exact HC0_5.out); (case s11 => exact cb_ (Kd.C_below HR0_6.out HB.out)); (case s12 => exact HC0_6.out); rintro e w18 ⟨rfl, hb⟩; refine ⟨_, rfl, ?_⟩; replace BK479 := bb_ BK479 hb; replace HB := hs_ HB hb; clear hb))
 go_ret
 exact ⟨rs_, hb_ HB⟩
def impl_ThreadDone.f (l0_0 : List (S122)) (a0_1 : Int) (a0_2 : Bool) (l0_3 : List (S125)) (l0_4 : List (S42)) : Option (Bool) := some (a0_1 == (l0_0.length : Int))
set_option maxHeartbeats 8000000 in
set_option maxRecDepth 100000 in
theorem impl_ThreadDone.calls (A0_0 : Option Addr) (c0_0 : Nat) (l0_0 : List (S122)) (a0_1 : Int) (a0_2 : Bool) (A0_3 : Option Addr) (c0_3 : Nat) (l0_3 : List (S125)) (A0_4 : Option Addr) (c0_4 : Nat) (l0_4 : List (S42)) (r : Bool) (w : World) (hr0_0 : Kd.C k122 w A0_0 l0_0.length l0_0) (hc0_0 : l0_0.length ≤ c0_0) (hr0_3 : Kd.C k125 w A0_3 l0_3.length l0_3) (hc0_3 : l0_3.length ≤ c0_3) (hr0_4 : Kd.C k42 w A0_4 l0_4.length l0_4) (hc0_4 : l0_4.length ≤ c0_4) (h : impl_ThreadDone.f l0_0 a0_1 a0_2 l0_3 l0_4 = some r) :
    Calls Tryz.prog 45 #[.agg #[.slice A0_0 l0_0.length c0_0, .int .i64 a0_1, .bool a0_2, .slice A0_3 l0_3.length c0_3, .slice A0_4 l0_4.length c0_4]] w fun e w' => e = .returned (.bool r) ∧ Below w.heap.size w w' := by
 have hu62 := Tryz.underlying62
 have HR0_0 := A_ hr0_0
 have HC0_0 := A_ hc0_0
 clear hr0_0 hc0_0
 have HR0_3 := A_ hr0_3
 have HC0_3 := A_ hc0_3
 clear hr0_3 hc0_3
 have HR0_4 := A_ hr0_4
 have HC0_4 := A_ hc0_4
 clear hr0_4 hc0_4
 have HB := A_ (Below.refl w.heap.size w)
 have H : (some (a0_1 == (l0_0.length : Int))) = some r := h
 clear h
 obtain rfl := Option.some.inj H
 go_enter Tryz.func45, Tryz.ntmps45
 go_wp2_with (first | ((with_reducible refine gate_dst (N := 1) rfl ?_); refine bx_ HB rfl (N := 1) rfl (cs := #[.slice A0_0 l0_0.length c0_0, .int .i64 a0_1, .bool a0_2, .slice A0_3 l0_3.length c0_3, .slice A0_4 l0_4.length c0_4]) (t := 62) hr_ ?_; clear HB; intro gb598 w2 hg hb BK598 GW598 HB; clear hb hg; obtain ⟨z3_0, z3_1, z3_2, z3_3, z3_4, y3_0, y3_1, y3_2, y3_3, y3_4⟩ := cz5_ BK598))
 go_ret
 exact ⟨rs_, hb_ HB⟩
def impl_Finished_c1.f (l0_0 : List (S122)) (a0_1 : Int) (a0_2 : Bool) (l0_3 : List (S125)) (l0_4 : List (S42)) : Option (Bool) := (impl_ThreadDone.f l0_0 a0_1 a0_2 l0_3 l0_4).bind fun t600 => (some (!t600))
set_option maxHeartbeats 8000000 in
set_option maxRecDepth 100000 in
theorem impl_Finished_c1.calls (A0_0 : Option Addr) (c0_0 : Nat) (l0_0 : List (S122)) (a0_1 : Int) (a0_2 : Bool) (A0_3 : Option Addr) (c0_3 : Nat) (l0_3 : List (S125)) (A0_4 : Option Addr) (c0_4 : Nat) (l0_4 : List (S42)) (r : Bool) (w : World) (hr0_0 : Kd.C k122 w A0_0 l0_0.length l0_0) (hc0_0 : l0_0.length ≤ c0_0) (hr0_3 : Kd.C k125 w A0_3 l0_3.length l0_3) (hc0_3 : l0_3.length ≤ c0_3) (hr0_4 : Kd.C k42 w A0_4 l0_4.length l0_4) (hc0_4 : l0_4.length ≤ c0_4) (h : impl_Finished_c1.f l0_0 a0_1 a0_2 l0_3 l0_4 = some r) :
    Calls Tryz.prog 120 #[.agg #[.slice A0_0 l0_0.length c0_0, .int .i64 a0_1, .bool a0_2, .slice A0_3 l0_3.length c0_3, .slice A0_4 l0_4.length c0_4]] w fun e w' => e = .returned (.bool r) ∧ Below w.heap.size w w' := by
 have hu62 := Tryz.underlying62
 have HR0_0 := A_ hr0_0
 have HC0_0 := A_ hc0_0
 clear hr0_0 hc0_0
 have HR0_3 := A_ hr0_3
 have HC0_3 := A_ hc0_3
 clear hr0_3 hc0_3
 have HR0_4 := A_ hr0_4
 have HC0_4 := A_ hc0_4
 clear hr0_4 hc0_4
 have HB := A_ (Below.refl w.heap.size w)
 have H : ((impl_ThreadDone.f l0_0 a0_1 a0_2 l0_3 l0_4).bind fun t600 => (some (!t600))) = some r := h
 clear h
 replace H := bs_ H
 obtain ⟨t600, A2, H⟩ := H
 obtain rfl := Option.some.inj H
 go_enter Tryz.func120, Tryz.ntmps120
 go_wp2_with (first | ((with_reducible refine gate_dst (N := 1) rfl ?_); refine bx_ HB rfl (N := 1) rfl (cs := #[.slice A0_0 l0_0.length c0_0, .int .i64 a0_1, .bool a0_2, .slice A0_3 l0_3.length c0_3, .slice A0_4 l0_4.length c0_4]) (t := 62) hr_ ?_; clear HB; intro gb599 w3 hg hb BK599 GW599 HB; clear hb hg; obtain ⟨z4_0, z4_1, z4_2, z4_3, z4_4, y4_0, y4_1, y4_2, y4_3, y4_4⟩ := cz5_ BK599) | ((with_reducible refine gate_callee (f := 45) rfl ?_); refine goesL_ (some 4) rfl rfl Tryz.func45 (by kernel_rfl) rfl #[.agg #[.slice A0_0 l0_0.length c0_0, .int .i64 a0_1, .bool a0_2, .slice A0_3 l0_3.length c0_3, .slice A0_4 l0_4.length c0_4]] rfl al_ ?_; (with_reducible refine (impl_ThreadDone.calls _ _ l0_0 a0_1 a0_2 _ _ l0_3 _ _ l0_4 t600 _ ?s1 ?s2 ?s3 ?s4 ?s5 ?s6 A2.out).mono ?_); (case s1 => exact cb_ (Kd.C_below HR0_0.out HB.out)); (case s2 => exact HC0_0.out); (case s3 => exact cb_ (Kd.C_below HR0_3.out HB.out)); (case s4 => exact HC0_3.out); (case s5 => exact cb_ (Kd.C_below HR0_4.out HB.out)); (case s6 => exact HC0_4.out); rintro e w5 ⟨rfl, hb⟩; refine ⟨_, rfl, ?_⟩; replace BK599 := bb_ BK599 hb; replace HB := hs_ HB hb; clear hb))
 go_ret
 exact ⟨rs_, hb_ HB⟩
def slices_IndexFuncFinished_c1.l0 : Nat → List (S62) → Int → Int → Option (Int)
 | 0, _, _, _ => none
 | k + 1, x0, x7, x8 => if x8 < x7 then (if 0 ≤ x8 then (if x8 < (x0.length : Int) then ((impl_Finished_c1.f ((rd_T62 x0 x8).f0) ((rd_T62 x0 x8).f1) ((rd_T62 x0 x8).f2) ((rd_T62 x0 x8).f3) ((rd_T62 x0 x8).f4)).bind fun t602 => (if t602 = true then (some x8) else (slices_IndexFuncFinished_c1.l0 k x0 x7 (wrap64 (x8 + 1))))) else (none)) else (none)) else (some (-1))
def slices_IndexFuncFinished_c1.f (k : Nat) (l0 : List (S62)) : Option (Int) := slices_IndexFuncFinished_c1.l0 k l0 (l0.length : Int) 0
set_option maxHeartbeats 8000000 in
set_option maxRecDepth 100000 in
theorem slices_IndexFuncFinished_c1.calls (k : Nat) (A0 : Option Addr) (c0 : Nat) (l0 : List (S62)) (r : Int) (w : World) (hr0 : Kd.C k62 w A0 l0.length l0) (hc0 : l0.length ≤ c0) (h : slices_IndexFuncFinished_c1.f k l0 = some r) :
    Calls Tryz.prog 166 #[.slice A0 l0.length c0, .func (.func 120) #[] #[]] w fun e w' => e = .returned (.int .i64 r) ∧ Below w.heap.size w w' := by
 have hu62 := Tryz.underlying62
 have HR0 := A_ hr0
 have HC0 := A_ hc0
 clear hr0 hc0
 have HB := A_ (Below.refl w.heap.size w)
 have H : (slices_IndexFuncFinished_c1.l0 k l0 (l0.length : Int) 0) = some r := h
 clear h
 replace H' := A_ H; clear H
 go_enter Tryz.func166, Tryz.ntmps166
 go_wp2
 go_loopg [8] k (fun kq v8 w' => ∃ (x8_1 : Int), v8 = .int .i64 x8_1 ∧ Aside0 (slices_IndexFuncFinished_c1.l0 kq l0 (l0.length : Int) x8_1 = some r) ∧ Aside0 (kq ≤ k) ∧ Aside0 (Below w.heap.size w w'))
 case atStart => exact ⟨(0), rt_, H', ⟨Nat.le_refl _⟩, ⟨hb_ HB⟩⟩
 case round =>
  clear H'
  obtain ⟨x8_1, rfl, HA, HK1, HB⟩ := hrel
  cases gk with
  | zero => exact absurd HA.out (by simp [slices_IndexFuncFinished_c1.l0])
  | succ k1 =>
   have H := HA.out
   clear HA
   simp only [slices_IndexFuncFinished_c1.l0] at H
   replace H := ic_ H
   rcases H with ⟨c2b0, H⟩ | ⟨c2b0, H⟩
   ·
    replace H := ix_ H
    obtain ⟨c3b0, H⟩ := H
    replace H := ix_ H
    obtain ⟨c4b0, H⟩ := H
    replace H := bs_ H
    obtain ⟨t602, A5, H⟩ := H
    by_cases c6 : t602 = true
    ·
     subst c6
     replace H := it_ H
     obtain rfl := Option.some.inj H
     obtain ⟨ad601, A601_0, c601_0, A601_3, c601_3, A601_4, c601_4, p601, q601, rfl, u601_0, u601_1, u601_2, u601_3, u601_4, HC601_0, HR601_0, HC601_3, HR601_3, HC601_4, HR601_4⟩ := ab_T62 HB HR0 x8_1
     go_wp2_with (first | ((with_reducible refine gate_dst (N := 16) rfl ?_); refine goesV_ (c := .tmp 11) (some 16) rfl rfl Tryz.func120 (by kernel_rfl) rfl #[.agg #[.slice A601_0 ((rd_T62 l0 x8_1).f0).length c601_0, .int .i64 ((rd_T62 l0 x8_1).f1), .bool ((rd_T62 l0 x8_1).f2), .slice A601_3 ((rd_T62 l0 x8_1).f3).length c601_3, .slice A601_4 ((rd_T62 l0 x8_1).f4).length c601_4]] rfl rfl al_ ?_; (with_reducible refine (impl_Finished_c1.calls _ _ ((rd_T62 l0 x8_1).f0) ((rd_T62 l0 x8_1).f1) ((rd_T62 l0 x8_1).f2) _ _ ((rd_T62 l0 x8_1).f3) _ _ ((rd_T62 l0 x8_1).f4) true _ ?s1 ?s2 ?s3 ?s4 ?s5 ?s6 A5.out).mono ?_); (case s1 => exact cb_ (Kd.C_below HR601_0.out HB.out)); (case s2 => exact HC601_0.out); (case s3 => exact cb_ (Kd.C_below HR601_3.out HB.out)); (case s4 => exact HC601_3.out); (case s5 => exact cb_ (Kd.C_below HR601_4.out HB.out)); (case s6 => exact HC601_4.out); rintro e w7 ⟨rfl, hb⟩; refine ⟨_, rfl, ?_⟩; replace HB := hs_ HB hb; clear hb))
     go_ret
     exact ⟨rs_, hb_ HB⟩
    obtain rfl := Bool.eq_false_iff.mpr c6
    replace H := iF_ H
    replace H' := A_ H; clear H
    obtain ⟨ad601, A601_0, c601_0, A601_3, c601_3, A601_4, c601_4, p601, q601, rfl, u601_0, u601_1, u601_2, u601_3, u601_4, HC601_0, HR601_0, HC601_3, HR601_3, HC601_4, HR601_4⟩ := ab_T62 HB HR0 x8_1
    go_wp2_with (first | ((with_reducible refine gate_dst (N := 16) rfl ?_); refine goesV_ (c := .tmp 11) (some 16) rfl rfl Tryz.func120 (by kernel_rfl) rfl #[.agg #[.slice A601_0 ((rd_T62 l0 x8_1).f0).length c601_0, .int .i64 ((rd_T62 l0 x8_1).f1), .bool ((rd_T62 l0 x8_1).f2), .slice A601_3 ((rd_T62 l0 x8_1).f3).length c601_3, .slice A601_4 ((rd_T62 l0 x8_1).f4).length c601_4]] rfl rfl al_ ?_; (with_reducible refine (impl_Finished_c1.calls _ _ ((rd_T62 l0 x8_1).f0) ((rd_T62 l0 x8_1).f1) ((rd_T62 l0 x8_1).f2) _ _ ((rd_T62 l0 x8_1).f3) _ _ ((rd_T62 l0 x8_1).f4) false _ ?s1 ?s2 ?s3 ?s4 ?s5 ?s6 A5.out).mono ?_); (case s1 => exact cb_ (Kd.C_below HR601_0.out HB.out)); (case s2 => exact HC601_0.out); (case s3 => exact cb_ (Kd.C_below HR601_3.out HB.out)); (case s4 => exact HC601_3.out); (case s5 => exact cb_ (Kd.C_below HR601_4.out HB.out)); (case s6 => exact HC601_4.out); rintro e w8 ⟨rfl, hb⟩; refine ⟨_, rfl, ?_⟩; replace HB := hs_ HB hb; clear hb))
    go_roundg k1
    case measure => have := HK1.out; omega
    case rel => exact ⟨(wrap64 (x8_1 + 1)), rt_, H', ⟨by have := HK1.out; omega⟩, ⟨hb_ HB⟩⟩
   obtain rfl := Option.some.inj H
   go_wp2
   go_ret
   exact ⟨rs_, hb_ HB⟩
def slices_ContainsFuncFinished_c1.f (k : Nat) (l0 : List (S62)) : Option (Bool) := (slices_IndexFuncFinished_c1.f k l0).bind fun t603 => (some (decide (t603 ≥ 0)))
set_option maxHeartbeats 8000000 in
set_option maxRecDepth 100000 in
theorem slices_ContainsFuncFinished_c1.calls (k : Nat) (A0 : Option Addr) (c0 : Nat) (l0 : List (S62)) (r : Bool) (w : World) (hr0 : Kd.C k62 w A0 l0.length l0) (hc0 : l0.length ≤ c0) (h : slices_ContainsFuncFinished_c1.f k l0 = some r) :
    Calls Tryz.prog 119 #[.slice A0 l0.length c0, .func (.func 120) #[] #[]] w fun e w' => e = .returned (.bool r) ∧ Below w.heap.size w w' := by
 have HR0 := A_ hr0
 have HC0 := A_ hc0
 clear hr0 hc0
 have HB := A_ (Below.refl w.heap.size w)
 have H : ((slices_IndexFuncFinished_c1.f k l0).bind fun t603 => (some (decide (t603 ≥ 0)))) = some r := h
 clear h
 replace H := bs_ H
 obtain ⟨t603, A2, H⟩ := H
 obtain rfl := Option.some.inj H
 go_enter Tryz.func119, Tryz.ntmps119
 go_wp2_with (first | ((with_reducible refine gate_callee (f := 166) rfl ?_); refine goesL_ (some 7) rfl rfl Tryz.func166 (by kernel_rfl) rfl #[.slice A0 l0.length c0, .func (.func 120) #[] #[]] rfl al_ ?_; (with_reducible refine (slices_IndexFuncFinished_c1.calls k _ _ l0 t603 _ ?s1 ?s2 A2.out).mono ?_); (case s1 => exact cb_ HR0.out); (case s2 => exact HC0.out); rintro e w3 ⟨rfl, hb⟩; refine ⟨_, rfl, ?_⟩; replace HB := hs_ HB hb; clear hb))
 go_ret
 exact ⟨rs_, hb_ HB⟩
def impl_Finished.f (k : Nat) (l0_0 : List (S39)) (l0_1 : List (S52)) (l0_2 : List (S62)) (a0_3 : Int) (l0_4 : List (S147)) (l0_5 : List Int) (l0_6 : List Int) (a0_7 : Int) : Option (Bool) := (impl_MachineOk.f k l0_0 l0_1 l0_2 a0_3 l0_4 l0_5 l0_6 a0_7).bind fun t605 => (if t605 = true then ((slices_ContainsFuncFinished_c1.f k l0_2).bind fun t606 => (some (!t606))) else (some false))
set_option maxHeartbeats 8000000 in
set_option maxRecDepth 100000 in
theorem impl_Finished.calls (k : Nat) (A0_0 : Option Addr) (c0_0 : Nat) (l0_0 : List (S39)) (A0_1 : Option Addr) (c0_1 : Nat) (l0_1 : List (S52)) (A0_2 : Option Addr) (c0_2 : Nat) (l0_2 : List (S62)) (a0_3 : Int) (A0_4 : Option Addr) (c0_4 : Nat) (l0_4 : List (S147)) (A0_5 : Option Addr) (c0_5 : Nat) (l0_5 : List Int) (A0_6 : Option Addr) (c0_6 : Nat) (l0_6 : List Int) (a0_7 : Int) (r : Bool) (w : World) (hr0_0 : Kd.C k39 w A0_0 l0_0.length l0_0) (hc0_0 : l0_0.length ≤ c0_0) (hr0_1 : Kd.C k52 w A0_1 l0_1.length l0_1) (hc0_1 : l0_1.length ≤ c0_1) (hr0_2 : Kd.C k62 w A0_2 l0_2.length l0_2) (hc0_2 : l0_2.length ≤ c0_2) (hr0_4 : Kd.C k147 w A0_4 l0_4.length l0_4) (hc0_4 : l0_4.length ≤ c0_4) (hr0_5 : Kd.C (Kd.int .i64) w A0_5 l0_5.length l0_5) (hc0_5 : l0_5.length ≤ c0_5) (hr0_6 : Kd.C (Kd.int .i64) w A0_6 l0_6.length l0_6) (hc0_6 : l0_6.length ≤ c0_6) (h : impl_Finished.f k l0_0 l0_1 l0_2 a0_3 l0_4 l0_5 l0_6 a0_7 = some r) :
    Calls Tryz.prog 53 #[.agg #[.slice A0_0 l0_0.length c0_0, .slice A0_1 l0_1.length c0_1, .slice A0_2 l0_2.length c0_2, .int .i64 a0_3, .slice A0_4 l0_4.length c0_4, .slice A0_5 l0_5.length c0_5, .slice A0_6 l0_6.length c0_6, .int .i64 a0_7]] w fun e w' => e = .returned (.bool r) ∧ Below w.heap.size w w' := by
 have hu93 := Tryz.underlying93
 have HR0_0 := A_ hr0_0
 have HC0_0 := A_ hc0_0
 clear hr0_0 hc0_0
 have HR0_1 := A_ hr0_1
 have HC0_1 := A_ hc0_1
 clear hr0_1 hc0_1
 have HR0_2 := A_ hr0_2
 have HC0_2 := A_ hc0_2
 clear hr0_2 hc0_2
 have HR0_4 := A_ hr0_4
 have HC0_4 := A_ hc0_4
 clear hr0_4 hc0_4
 have HR0_5 := A_ hr0_5
 have HC0_5 := A_ hc0_5
 clear hr0_5 hc0_5
 have HR0_6 := A_ hr0_6
 have HC0_6 := A_ hc0_6
 clear hr0_6 hc0_6
 have HB := A_ (Below.refl w.heap.size w)
 have H : ((impl_MachineOk.f k l0_0 l0_1 l0_2 a0_3 l0_4 l0_5 l0_6 a0_7).bind fun t605 => (if t605 = true then ((slices_ContainsFuncFinished_c1.f k l0_2).bind fun t606 => (some (!t606))) else (some false))) = some r := h
 clear h
 replace H := bs_ H
 obtain ⟨t605, A2, H⟩ := H
 by_cases c3 : t605 = true
 ·
  subst c3
  replace H := it_ H
  replace H := bs_ H
  obtain ⟨t606, A4, H⟩ := H
  obtain rfl := Option.some.inj H
  go_enter Tryz.func53, Tryz.ntmps53
  go_wp2_with (first | ((with_reducible refine gate_dst (N := 1) rfl ?_); refine bx_ HB rfl (N := 1) rfl (cs := #[.slice A0_0 l0_0.length c0_0, .slice A0_1 l0_1.length c0_1, .slice A0_2 l0_2.length c0_2, .int .i64 a0_3, .slice A0_4 l0_4.length c0_4, .slice A0_5 l0_5.length c0_5, .slice A0_6 l0_6.length c0_6, .int .i64 a0_7]) (t := 93) hr_ ?_; clear HB; intro gb604 w5 hg hb BK604 GW604 HB; clear hb hg; obtain ⟨z6_0, z6_1, z6_2, z6_3, z6_4, z6_5, z6_6, z6_7, y6_0, y6_1, y6_2, y6_3, y6_4, y6_5, y6_6, y6_7⟩ := cz8_ BK604) | ((with_reducible refine gate_callee (f := 50) rfl ?_); refine goesL_ (some 4) rfl rfl Tryz.func50 (by kernel_rfl) rfl #[.agg #[.slice A0_0 l0_0.length c0_0, .slice A0_1 l0_1.length c0_1, .slice A0_2 l0_2.length c0_2, .int .i64 a0_3, .slice A0_4 l0_4.length c0_4, .slice A0_5 l0_5.length c0_5, .slice A0_6 l0_6.length c0_6, .int .i64 a0_7]] rfl al_ ?_; (with_reducible refine (impl_MachineOk.calls k _ _ l0_0 _ _ l0_1 _ _ l0_2 a0_3 _ _ l0_4 _ _ l0_5 _ _ l0_6 a0_7 true _ ?s1 ?s2 ?s3 ?s4 ?s5 ?s6 ?s7 ?s8 ?s9 ?s10 ?s11 ?s12 A2.out).mono ?_); (case s1 => exact cb_ (Kd.C_below HR0_0.out HB.out)); (case s2 => exact HC0_0.out); (case s3 => exact cb_ (Kd.C_below HR0_1.out HB.out)); (case s4 => exact HC0_1.out); (case s5 => exact cb_ (Kd.C_below HR0_2.out HB.out)); (case s6 => exact HC0_2.out); (case s7 => exact cb_ (Kd.C_below HR0_4.out HB.out)); (case s8 => exact HC0_4.out); (case s9 => exact cb_ (Kd.C_below HR0_5.out HB.out)); (case s10 => exact HC0_5.out); (case s11 => exact cb_ (Kd.C_below HR0_6.out HB.out)); (case s12 => exact HC0_6.out); rintro e w7 ⟨rfl, hb⟩; refine ⟨_, rfl, ?_⟩; replace BK604 := bb_ BK604 hb; replace HB := hs_ HB hb; clear hb; obtain ⟨z8_0, z8_1, z8_2, z8_3, z8_4, z8_5, z8_6, z8_7, y8_0, y8_1, y8_2, y8_3, y8_4, y8_5, y8_6, y8_7⟩ := cz8_ BK604) | (go_at_call 119; (with_reducible refine (slices_ContainsFuncFinished_c1.calls k _ _ l0_2 t606 _ ?s1 ?s2 A4.out).mono ?_); (case s1 => exact cb_ (Kd.C_below HR0_2.out HB.out)); (case s2 => exact HC0_2.out); rintro e w9 ⟨rfl, hb⟩; replace BK604 := bb_ BK604 hb; replace HB := hs_ HB hb; clear hb))
  go_ret
  exact ⟨rs_, hb_ HB⟩
 obtain rfl := Bool.eq_false_iff.mpr c3
 replace H := iF_ H
 obtain rfl := Option.some.inj H
 go_enter Tryz.func53, Tryz.ntmps53
 go_wp2_with (first | ((with_reducible refine gate_dst (N := 1) rfl ?_); refine bx_ HB rfl (N := 1) rfl (cs := #[.slice A0_0 l0_0.length c0_0, .slice A0_1 l0_1.length c0_1, .slice A0_2 l0_2.length c0_2, .int .i64 a0_3, .slice A0_4 l0_4.length c0_4, .slice A0_5 l0_5.length c0_5, .slice A0_6 l0_6.length c0_6, .int .i64 a0_7]) (t := 93) hr_ ?_; clear HB; intro gb604 w10 hg hb BK604 GW604 HB; clear hb hg; obtain ⟨z11_0, z11_1, z11_2, z11_3, z11_4, z11_5, z11_6, z11_7, y11_0, y11_1, y11_2, y11_3, y11_4, y11_5, y11_6, y11_7⟩ := cz8_ BK604) | ((with_reducible refine gate_callee (f := 50) rfl ?_); refine goesL_ (some 4) rfl rfl Tryz.func50 (by kernel_rfl) rfl #[.agg #[.slice A0_0 l0_0.length c0_0, .slice A0_1 l0_1.length c0_1, .slice A0_2 l0_2.length c0_2, .int .i64 a0_3, .slice A0_4 l0_4.length c0_4, .slice A0_5 l0_5.length c0_5, .slice A0_6 l0_6.length c0_6, .int .i64 a0_7]] rfl al_ ?_; (with_reducible refine (impl_MachineOk.calls k _ _ l0_0 _ _ l0_1 _ _ l0_2 a0_3 _ _ l0_4 _ _ l0_5 _ _ l0_6 a0_7 false _ ?s1 ?s2 ?s3 ?s4 ?s5 ?s6 ?s7 ?s8 ?s9 ?s10 ?s11 ?s12 A2.out).mono ?_); (case s1 => exact cb_ (Kd.C_below HR0_0.out HB.out)); (case s2 => exact HC0_0.out); (case s3 => exact cb_ (Kd.C_below HR0_1.out HB.out)); (case s4 => exact HC0_1.out); (case s5 => exact cb_ (Kd.C_below HR0_2.out HB.out)); (case s6 => exact HC0_2.out); (case s7 => exact cb_ (Kd.C_below HR0_4.out HB.out)); (case s8 => exact HC0_4.out); (case s9 => exact cb_ (Kd.C_below HR0_5.out HB.out)); (case s10 => exact HC0_5.out); (case s11 => exact cb_ (Kd.C_below HR0_6.out HB.out)); (case s12 => exact HC0_6.out); rintro e w12 ⟨rfl, hb⟩; refine ⟨_, rfl, ?_⟩; replace BK604 := bb_ BK604 hb; replace HB := hs_ HB hb; clear hb))
 go_ret
 exact ⟨rs_, hb_ HB⟩
end Go.Proofs.YtdcinhpdpoodfaaGreat.PFnExactFinished
