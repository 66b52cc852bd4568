/- Contracts of functions of the program. No condition beyond the hypotheses that each theorem names. -/
import Derived.Test.YtdcinhpdpoodfaaGreatPFnExactFinishedx0
namespace Go.Proofs.YtdcinhpdpoodfaaGreat.PFnExactFinished
open Go.RowKit Go.Proofs.YtdcinhpdpoodfaaGreatW.PrintWords Go.Proofs.YtdcinhpdpoodfaaGreatW.PrintLast Go.Proofs.YtdcinhpdpoodfaaGreatW.PrintMore
attribute [local go_sem] max2_int min2_int max_two min_two max_three min_three max_four min_four
set_option linter.unusedVariables false
set_option linter.unusedSimpArgs false
def spec_l9Last.l0 : Nat → Int → Int → List (S39) → List (S52) → List (S62) → Int → List (S147) → List Int → List Int → Int → Option (Int)
 | 0, _, _, _, _, _, _, _, _, _, _ => none
 | k + 1, x1, x5, x213000, x213001, x213002, x213003, x213004, x213005, x213006, x213007 => if x5 ≥ 0 then (if 0 ≤ x5 then (if x5 < (x213004.length : Int) then (if ((rd_T147 x213004 x5).f0) = x1 then (some x5) else (spec_l9Last.l0 k x1 (wrap64 (x5 - 1)) x213000 x213001 x213002 x213003 x213004 x213005 x213006 x213007)) else (none)) else (none)) else (some (-1))
def spec_l9Last.f (k : Nat) (l0_0 : List (S39)) (l0_1 : List (S52)) (l0_2 : List (S62)) (a0_3 : Int) (l0_4 : List (S147)) (l0_5 : List Int) (l0_6 : List Int) (a0_7 : Int) (a1 : Int) : Option (Int) := spec_l9Last.l0 k a1 (wrap64 ((l0_4.length : Int) - 1)) l0_0 l0_1 l0_2 a0_3 l0_4 l0_5 l0_6 a0_7
set_option maxHeartbeats 8000000 in
set_option maxRecDepth 100000 in
theorem spec_l9Last.calls (k : Nat) (A0_0 : Option Addr) (c0_0 : Nat) (l0_0 : List (S39)) (A0_1 : Option Addr) (c0_1 : Nat) (l0_1 : List (S52)) (A0_2 : Option Addr) (c0_2 : Nat) (l0_2 : List (S62)) (a0_3 : Int) (A0_4 : Option Addr) (c0_4 : Nat) (l0_4 : List (S147)) (A0_5 : Option Addr) (c0_5 : Nat) (l0_5 : List Int) (A0_6 : Option Addr) (c0_6 : Nat) (l0_6 : List Int) (a0_7 : Int) (a1 : Int) (r : Int) (w : World) (hr0_0 : Kd.C k39 w A0_0 l0_0.length l0_0) (hc0_0 : l0_0.length ≤ c0_0) (hr0_1 : Kd.C k52 w A0_1 l0_1.length l0_1) (hc0_1 : l0_1.length ≤ c0_1) (hr0_2 : Kd.C k62 w A0_2 l0_2.length l0_2) (hc0_2 : l0_2.length ≤ c0_2) (hr0_4 : Kd.C k147 w A0_4 l0_4.length l0_4) (hc0_4 : l0_4.length ≤ c0_4) (hr0_5 : Kd.C (Kd.int .i64) w A0_5 l0_5.length l0_5) (hc0_5 : l0_5.length ≤ c0_5) (hr0_6 : Kd.C (Kd.int .i64) w A0_6 l0_6.length l0_6) (hc0_6 : l0_6.length ≤ c0_6) (h : spec_l9Last.f k l0_0 l0_1 l0_2 a0_3 l0_4 l0_5 l0_6 a0_7 a1 = some r) :
    Calls Tryz.prog 156 #[.agg #[.slice A0_0 l0_0.length c0_0, .slice A0_1 l0_1.length c0_1, .slice A0_2 l0_2.length c0_2, .int .i64 a0_3, .slice A0_4 l0_4.length c0_4, .slice A0_5 l0_5.length c0_5, .slice A0_6 l0_6.length c0_6, .int .i64 a0_7], .int .i64 a1] w fun e w' => e = .returned (.int .i64 r) ∧ Below w.heap.size w w' := by
 have hu93 := Tryz.underlying93
 have HR0_0 := A_ hr0_0
 have HC0_0 := A_ hc0_0
 clear hr0_0 hc0_0
 have HR0_1 := A_ hr0_1
 have HC0_1 := A_ hc0_1
 clear hr0_1 hc0_1
 have HR0_2 := A_ hr0_2
 have HC0_2 := A_ hc0_2
 clear hr0_2 hc0_2
 have HR0_4 := A_ hr0_4
 have HC0_4 := A_ hc0_4
 clear hr0_4 hc0_4
 have HR0_5 := A_ hr0_5
 have HC0_5 := A_ hc0_5
 clear hr0_5 hc0_5
 have HR0_6 := A_ hr0_6
 have HC0_6 := A_ hc0_6
 clear hr0_6 hc0_6
 have HB := A_ (Below.refl w.heap.size w)
 have H : (spec_l9Last.l0 k a1 (wrap64 ((l0_4.length : Int) - 1)) l0_0 l0_1 l0_2 a0_3 l0_4 l0_5 l0_6 a0_7) = some r := h
 clear h
 replace H' := A_ H; clear H
 go_enter Tryz.func156, Tryz.ntmps156
 go_wp2_with (first | ((with_reducible refine gate_dst (N := 2) rfl ?_); refine bx_ HB rfl (N := 2) rfl (cs := #[.slice A0_0 l0_0.length c0_0, .slice A0_1 l0_1.length c0_1, .slice A0_2 l0_2.length c0_2, .int .i64 a0_3, .slice A0_4 l0_4.length c0_4, .slice A0_5 l0_5.length c0_5, .slice A0_6 l0_6.length c0_6, .int .i64 a0_7]) (t := 93) hr_ ?_; clear HB; intro gb212 w3 hg hb BK212 GW212 HB; clear hb hg; obtain ⟨z4_0, z4_1, z4_2, z4_3, z4_4, z4_5, z4_6, z4_7, y4_0, y4_1, y4_2, y4_3, y4_4, y4_5, y4_6, y4_7⟩ := cz8_ BK212))
 go_loopg [5] k (fun kq v5 w' => ∃ (x5_1 : Int), v5 = .int .i64 x5_1 ∧ Aside0 (spec_l9Last.l0 kq a1 x5_1 l0_0 l0_1 l0_2 a0_3 l0_4 l0_5 l0_6 a0_7 = some r) ∧ Aside0 (kq ≤ k) ∧ Aside0 (w'.heap[gb212]? = some (.cells #[(.slice A0_0 l0_0.length c0_0), (.slice A0_1 l0_1.length c0_1), (.slice A0_2 l0_2.length c0_2), .int .i64 a0_3, (.slice A0_4 l0_4.length c0_4), (.slice A0_5 l0_5.length c0_5), (.slice A0_6 l0_6.length c0_6), .int .i64 a0_7] 93 (0, 0))) ∧ Aside0 (Below w.heap.size w w'))
 case atStart => exact ⟨(wrap64 ((l0_4.length : Int) - 1)), rt_, H', ⟨Nat.le_refl _⟩, ⟨bk_ BK212⟩, ⟨hb_ HB⟩⟩
 case round =>
  clear H'
  obtain ⟨x5_1, rfl, HA, HK1, BK212, HB⟩ := hrel
  cases gk with
  | zero => exact absurd HA.out (by simp [spec_l9Last.l0])
  | succ k1 =>
   have H := HA.out
   clear HA
   simp only [spec_l9Last.l0] at H
   replace H := ic_ H
   rcases H with ⟨c5b0, H⟩ | ⟨c5b0, H⟩
   ·
    replace H := ix_ H
    obtain ⟨c6b0, H⟩ := H
    replace H := ix_ H
    obtain ⟨c7b0, H⟩ := H
    by_cases c8 : ((rd_T147 l0_4 x5_1).f0) = a1
    ·
     rw [if_pos c8] at H
     have c8b0 : (((rd_T147 l0_4 x5_1).f0) == a1) = true := beq_iff_eq.mpr c8
     have c8b1 : (((rd_T147 l0_4 x5_1).f0) != a1) = false := bne_eq_false_iff_eq.mpr c8
     clear c8
     obtain rfl := Option.some.inj H
     obtain ⟨z9_0, z9_1, z9_2, z9_3, z9_4, z9_5, z9_6, z9_7, y9_0, y9_1, y9_2, y9_3, y9_4, y9_5, y9_6, y9_7⟩ := cz8_ BK212
     obtain ⟨ad213, A213_8, c213_8, p213, q213, rfl, u213_0, u213_1, u213_2, u213_3, u213_4, u213_5, u213_6, u213_7, u213_8, HC213_8, HR213_8⟩ := ab_T147 HB HR0_4 x5_1
     go_wp2
     go_ret
     exact ⟨rs_, hb_ HB⟩
    rw [if_neg c8] at H
    have c8b0 : (((rd_T147 l0_4 x5_1).f0) == a1) = false := beq_eq_false_iff_ne.mpr c8
    have c8b1 : (((rd_T147 l0_4 x5_1).f0) != a1) = true := bne_iff_ne.mpr c8
    replace H' := A_ H; clear H
    obtain ⟨z10_0, z10_1, z10_2, z10_3, z10_4, z10_5, z10_6, z10_7, y10_0, y10_1, y10_2, y10_3, y10_4, y10_5, y10_6, y10_7⟩ := cz8_ BK212
    obtain ⟨ad213, A213_8, c213_8, p213, q213, rfl, u213_0, u213_1, u213_2, u213_3, u213_4, u213_5, u213_6, u213_7, u213_8, HC213_8, HR213_8⟩ := ab_T147 HB HR0_4 x5_1
    go_wp2
    go_roundg k1
    case measure => have := HK1.out; omega
    case rel => exact ⟨(wrap64 (x5_1 - 1)), rt_, H', ⟨by have := HK1.out; omega⟩, ⟨bk_ BK212⟩, ⟨hb_ HB⟩⟩
   obtain rfl := Option.some.inj H
   go_wp2
   go_ret
   exact ⟨rs_, hb_ HB⟩
end Go.Proofs.YtdcinhpdpoodfaaGreat.PFnExactFinished
