/- Contracts of functions of the program. No condition beyond the hypotheses that each theorem names. -/
import Derived.Test.YtdcinhpdpoodfaaGreatPFnExactFinishedx0
import Derived.Test.YtdcinhpdpoodfaaGreatPFnExactFinishedx1
import Derived.Test.YtdcinhpdpoodfaaGreatPFnExactFinishedx10
namespace Go.Proofs.YtdcinhpdpoodfaaGreat.PFnExactFinished
open Go.RowKit Go.Proofs.YtdcinhpdpoodfaaGreatW.PrintWords Go.Proofs.YtdcinhpdpoodfaaGreatW.PrintLast Go.Proofs.YtdcinhpdpoodfaaGreatW.PrintMore
attribute [local go_sem] max2_int min2_int max_two min_two max_three min_three max_four min_four
set_option linter.unusedVariables false
set_option linter.unusedSimpArgs false
attribute [local go_sem high] eqA122
def spec_l9Thread.l0 : Nat → Int → Int → Int → Int → List (S39) → List (S52) → List (S62) → Int → List (S147) → List Int → List Int → Int → List (S122) → Int → Bool → List (S125) → List (S42) → Option (Bool)
 | 0, _, _, _, _, _, _, _, _, _, _, _, _, _, _, _, _, _ => none
 | k + 1, x1, x6, x7, x8, x215000, x215001, x215002, x215003, x215004, x215005, x215006, x215007, x217000, x217001, x217002, x217003, x217004 => if x8 < (x215004.length : Int) then (if 0 ≤ x8 then (if ((rd_T147 x215004 x8).f0) = x1 then (if ((rd_T147 x215004 x8).f4) ≥ 0 then (spec_l9Thread.l0 k x1 x6 (wrap64 (x7 + 1)) (wrap64 (x8 + 1)) x215000 x215001 x215002 x215003 x215004 x215005 x215006 x215007 x217000 x217001 x217002 x217003 x217004) else (if x217002 = true then (if x8 = x6 then (spec_l9Thread.l0 k x1 x6 x7 (wrap64 (x8 + 1)) x215000 x215001 x215002 x215003 x215004 x215005 x215006 x215007 x217000 x217001 x217002 x217003 x217004) else (some false)) else (some false))) else (spec_l9Thread.l0 k x1 x6 x7 (wrap64 (x8 + 1)) x215000 x215001 x215002 x215003 x215004 x215005 x215006 x215007 x217000 x217001 x217002 x217003 x217004)) else (none)) else (if x7 = x217001 then (if x217002 = true then (if x6 ≥ 0 then (if 0 ≤ x6 then (if x6 < (x215004.length : Int) then (if ((rd_T147 x215004 x6).f4) = (-1) then (if 0 ≤ x217001 then (if x217001 < (x217000.length : Int) then (some (((rd_T147 x215004 x6).f1.f0) == ((rd_T122 x217000 x217001).f0) && (((rd_T147 x215004 x6).f1.f1) == ((rd_T122 x217000 x217001).f1) && (((rd_T147 x215004 x6).f1.f2) == ((rd_T122 x217000 x217001).f2))))) else (none)) else (none)) else (some false)) else (none)) else (none)) else (some false)) else (some true)) else (some false))
def spec_l9Thread.f (k : Nat) (l0_0 : List (S39)) (l0_1 : List (S52)) (l0_2 : List (S62)) (a0_3 : Int) (l0_4 : List (S147)) (l0_5 : List Int) (l0_6 : List Int) (a0_7 : Int) (a1 : Int) : Option (Bool) := if 0 ≤ a1 then (if a1 < (l0_2.length : Int) then ((spec_l9Last.f k l0_0 l0_1 l0_2 a0_3 l0_4 l0_5 l0_6 a0_7 a1).bind fun t217 => (spec_l9Thread.l0 k a1 t217 0 0 l0_0 l0_1 l0_2 a0_3 l0_4 l0_5 l0_6 a0_7 ((rd_T62 l0_2 a1).f0) ((rd_T62 l0_2 a1).f1) ((rd_T62 l0_2 a1).f2) ((rd_T62 l0_2 a1).f3) ((rd_T62 l0_2 a1).f4))) else (none)) else (none)
set_option maxHeartbeats 8000000 in
set_option maxRecDepth 100000 in
theorem spec_l9Thread.calls (k : Nat) (A0_0 : Option Addr) (c0_0 : Nat) (l0_0 : List (S39)) (A0_1 : Option Addr) (c0_1 : Nat) (l0_1 : List (S52)) (A0_2 : Option Addr) (c0_2 : Nat) (l0_2 : List (S62)) (a0_3 : Int) (A0_4 : Option Addr) (c0_4 : Nat) (l0_4 : List (S147)) (A0_5 : Option Addr) (c0_5 : Nat) (l0_5 : List Int) (A0_6 : Option Addr) (c0_6 : Nat) (l0_6 : List Int) (a0_7 : Int) (a1 : Int) (r : Bool) (w : World) (hr0_0 : Kd.C k39 w A0_0 l0_0.length l0_0) (hc0_0 : l0_0.length ≤ c0_0) (hr0_1 : Kd.C k52 w A0_1 l0_1.length l0_1) (hc0_1 : l0_1.length ≤ c0_1) (hr0_2 : Kd.C k62 w A0_2 l0_2.length l0_2) (hc0_2 : l0_2.length ≤ c0_2) (hr0_4 : Kd.C k147 w A0_4 l0_4.length l0_4) (hc0_4 : l0_4.length ≤ c0_4) (hr0_5 : Kd.C (Kd.int .i64) w A0_5 l0_5.length l0_5) (hc0_5 : l0_5.length ≤ c0_5) (hr0_6 : Kd.C (Kd.int .i64) w A0_6 l0_6.length l0_6) (hc0_6 : l0_6.length ≤ c0_6) (h : spec_l9Thread.f k l0_0 l0_1 l0_2 a0_3 l0_4 l0_5 l0_6 a0_7 a1 = some r) :
    Calls Tryz.prog 104 #[.agg #[.slice A0_0 l0_0.length c0_0, .slice A0_1 l0_1.length c0_1, .slice A0_2 l0_2.length c0_2, .int .i64 a0_3, .slice A0_4 l0_4.length c0_4, .slice A0_5 l0_5.length c0_5, .slice A0_6 l0_6.length c0_6, .int .i64 a0_7], .int .i64 a1] w fun e w' => e = .returned (.bool r) ∧ Below w.heap.size w w' := by
 have hu93 := Tryz.underlying93
 have hu62 := Tryz.underlying62
 have hu122 := Tryz.underlying122
 have HR0_0 := A_ hr0_0
 have HC0_0 := A_ hc0_0
 clear hr0_0 hc0_0
 have HR0_1 := A_ hr0_1
 have HC0_1 := A_ hc0_1
 clear hr0_1 hc0_1
 have HR0_2 := A_ hr0_2
 have HC0_2 := A_ hc0_2
 clear hr0_2 hc0_2
 have HR0_4 := A_ hr0_4
 have HC0_4 := A_ hc0_4
 clear hr0_4 hc0_4
 have HR0_5 := A_ hr0_5
 have HC0_5 := A_ hc0_5
 clear hr0_5 hc0_5
 have HR0_6 := A_ hr0_6
 have HC0_6 := A_ hc0_6
 clear hr0_6 hc0_6
 have HB := A_ (Below.refl w.heap.size w)
 have H : (if 0 ≤ a1 then (if a1 < (l0_2.length : Int) then ((spec_l9Last.f k l0_0 l0_1 l0_2 a0_3 l0_4 l0_5 l0_6 a0_7 a1).bind fun t217 => (spec_l9Thread.l0 k a1 t217 0 0 l0_0 l0_1 l0_2 a0_3 l0_4 l0_5 l0_6 a0_7 ((rd_T62 l0_2 a1).f0) ((rd_T62 l0_2 a1).f1) ((rd_T62 l0_2 a1).f2) ((rd_T62 l0_2 a1).f3) ((rd_T62 l0_2 a1).f4))) else (none)) else (none)) = some r := h
 clear h
 replace H := ix_ H
 obtain ⟨c3b0, H⟩ := H
 replace H := ix_ H
 obtain ⟨c4b0, H⟩ := H
 replace H := bs_ H
 obtain ⟨t217, A5, H⟩ := H
 replace H' := A_ H; clear H
 go_enter Tryz.func104, Tryz.ntmps104
 iterate 5 (try go_wp2_with (first | ((with_reducible refine gate_dst (N := 2) rfl ?_); refine bx_ HB rfl (N := 2) rfl (cs := #[.slice A0_0 l0_0.length c0_0, .slice A0_1 l0_1.length c0_1, .slice A0_2 l0_2.length c0_2, .int .i64 a0_3, .slice A0_4 l0_4.length c0_4, .slice A0_5 l0_5.length c0_5, .slice A0_6 l0_6.length c0_6, .int .i64 a0_7]) (t := 93) hr_ ?_; clear HB; intro gb214 w6 hg hb BK214 GW214 HB; clear hb hg; obtain ⟨z7_0, z7_1, z7_2, z7_3, z7_4, z7_5, z7_6, z7_7, y7_0, y7_1, y7_2, y7_3, y7_4, y7_5, y7_6, y7_7⟩ := cz8_ BK214; have p215 : 0 ≤ (a1 : Int) := od_; have q215 : a1 < (l0_2.length : Int) := od_; obtain ⟨ad215, A215_0, c215_0, A215_3, c215_3, A215_4, c215_4, e215, u215_0, u215_1, u215_2, u215_3, u215_4, hl215_0, hi215_0, hl215_3, hi215_3, hl215_4, hi215_4⟩ := at_T62 HR0_2.out a1 p215 q215; cases e215; replace u215_0 := hx_ HB u215_0; replace u215_1 := hx_ HB u215_1; replace u215_2 := hx_ HB u215_2; replace u215_3 := hx_ HB u215_3; replace u215_4 := hx_ HB u215_4; have HR215_0 := A_ hi215_0; have HC215_0 := A_ hl215_0; clear hi215_0 hl215_0; have HR215_3 := A_ hi215_3; have HC215_3 := A_ hl215_3; clear hi215_3 hl215_3; have HR215_4 := A_ hi215_4; have HC215_4 := A_ hl215_4; clear hi215_4 hl215_4; replace p215 := eq_true p215; replace q215 := eq_true q215) | ((with_reducible refine gate_dst (N := 5) rfl ?_); refine bx_ HB rfl (N := 5) rfl (cs := #[.slice none 0 0, .int .i64 0, .bool false, .slice none 0 0, .slice none 0 0]) (t := 62) hr_ ?_; clear HB; intro gb216 w8 hg hb BK216 GW216 HB; have NB214_216 := ng_ BK214 hg; have NB216_214 := ns_ (ng_ BK214 hg); replace BK214 := bb_ BK214 hb; clear hb hg; have hnb9 := NB216_214.out; have hnc9 := NB214_216.out; obtain ⟨z10_0, z10_1, z10_2, z10_3, z10_4, y10_0, y10_1, y10_2, y10_3, y10_4⟩ := cz5_ BK216; obtain ⟨z11_0, z11_1, z11_2, z11_3, z11_4, z11_5, z11_6, z11_7, y11_0, y11_1, y11_2, y11_3, y11_4, y11_5, y11_6, y11_7⟩ := cz8_ BK214) | (go_at_call 156; (with_reducible refine (spec_l9Last.calls k _ _ l0_0 _ _ l0_1 _ _ l0_2 a0_3 _ _ l0_4 _ _ l0_5 _ _ l0_6 a0_7 a1 t217 _ ?s1 ?s2 ?s3 ?s4 ?s5 ?s6 ?s7 ?s8 ?s9 ?s10 ?s11 ?s12 A5.out).mono ?_); (case s1 => exact Kd.C_below HR0_0.out (hb_ HB)); (case s2 => exact HC0_0.out); (case s3 => exact Kd.C_below HR0_1.out (hb_ HB)); (case s4 => exact HC0_1.out); (case s5 => exact Kd.C_below HR0_2.out (hb_ HB)); (case s6 => exact HC0_2.out); (case s7 => exact Kd.C_below HR0_4.out (hb_ HB)); (case s8 => exact HC0_4.out); (case s9 => exact Kd.C_below HR0_5.out (hb_ HB)); (case s10 => exact HC0_5.out); (case s11 => exact Kd.C_below HR0_6.out (hb_ HB)); (case s12 => exact HC0_6.out); rintro e w12 ⟨rfl, hb⟩; replace BK214 := bb_ BK214 hb; replace BK216 := bq_ (o' := .cells #[.slice A215_0 ((rd_T62 l0_2 a1).f0).length c215_0, .int .i64 ((rd_T62 l0_2 a1).f1), .bool ((rd_T62 l0_2 a1).f2), .slice A215_3 ((rd_T62 l0_2 a1).f3).length c215_3, .slice A215_4 ((rd_T62 l0_2 a1).f4).length c215_4] 62 (0, 0)) BK216 hb; replace HB := hs_ HB hb; clear hb)); try go_quiet (first | ((with_reducible refine gate_dst (N := 2) rfl ?_); refine bx_ HB rfl (N := 2) rfl (cs := #[.slice A0_0 l0_0.length c0_0, .slice A0_1 l0_1.length c0_1, .slice A0_2 l0_2.length c0_2, .int .i64 a0_3, .slice A0_4 l0_4.length c0_4, .slice A0_5 l0_5.length c0_5, .slice A0_6 l0_6.length c0_6, .int .i64 a0_7]) (t := 93) hr_ ?_; clear HB; intro gb214 w6 hg hb BK214 GW214 HB; clear hb hg; obtain ⟨z7_0, z7_1, z7_2, z7_3, z7_4, z7_5, z7_6, z7_7, y7_0, y7_1, y7_2, y7_3, y7_4, y7_5, y7_6, y7_7⟩ := cz8_ BK214; have p215 : 0 ≤ (a1 : Int) := od_; have q215 : a1 < (l0_2.length : Int) := od_; obtain ⟨ad215, A215_0, c215_0, A215_3, c215_3, A215_4, c215_4, e215, u215_0, u215_1, u215_2, u215_3, u215_4, hl215_0, hi215_0, hl215_3, hi215_3, hl215_4, hi215_4⟩ := at_T62 HR0_2.out a1 p215 q215; cases e215; replace u215_0 := hx_ HB u215_0; replace u215_1 := hx_ HB u215_1; replace u215_2 := hx_ HB u215_2; replace u215_3 := hx_ HB u215_3; replace u215_4 := hx_ HB u215_4; have HR215_0 := A_ hi215_0; have HC215_0 := A_ hl215_0; clear hi215_0 hl215_0; have HR215_3 := A_ hi215_3; have HC215_3 := A_ hl215_3; clear hi215_3 hl215_3; have HR215_4 := A_ hi215_4; have HC215_4 := A_ hl215_4; clear hi215_4 hl215_4; replace p215 := eq_true p215; replace q215 := eq_true q215) | ((with_reducible refine gate_dst (N := 5) rfl ?_); refine bx_ HB rfl (N := 5) rfl (cs := #[.slice none 0 0, .int .i64 0, .bool false, .slice none 0 0, .slice none 0 0]) (t := 62) hr_ ?_; clear HB; intro gb216 w8 hg hb BK216 GW216 HB; have NB214_216 := ng_ BK214 hg; have NB216_214 := ns_ (ng_ BK214 hg); replace BK214 := bb_ BK214 hb; clear hb hg; have hnb9 := NB216_214.out; have hnc9 := NB214_216.out; obtain ⟨z10_0, z10_1, z10_2, z10_3, z10_4, y10_0, y10_1, y10_2, y10_3, y10_4⟩ := cz5_ BK216; obtain ⟨z11_0, z11_1, z11_2, z11_3, z11_4, z11_5, z11_6, z11_7, y11_0, y11_1, y11_2, y11_3, y11_4, y11_5, y11_6, y11_7⟩ := cz8_ BK214) | (go_at_call 156; (with_reducible refine (spec_l9Last.calls k _ _ l0_0 _ _ l0_1 _ _ l0_2 a0_3 _ _ l0_4 _ _ l0_5 _ _ l0_6 a0_7 a1 t217 _ ?s1 ?s2 ?s3 ?s4 ?s5 ?s6 ?s7 ?s8 ?s9 ?s10 ?s11 ?s12 A5.out).mono ?_); (case s1 => exact Kd.C_below HR0_0.out (hb_ HB)); (case s2 => exact HC0_0.out); (case s3 => exact Kd.C_below HR0_1.out (hb_ HB)); (case s4 => exact HC0_1.out); (case s5 => exact Kd.C_below HR0_2.out (hb_ HB)); (case s6 => exact HC0_2.out); (case s7 => exact Kd.C_below HR0_4.out (hb_ HB)); (case s8 => exact HC0_4.out); (case s9 => exact Kd.C_below HR0_5.out (hb_ HB)); (case s10 => exact HC0_5.out); (case s11 => exact Kd.C_below HR0_6.out (hb_ HB)); (case s12 => exact HC0_6.out); rintro e w12 ⟨rfl, hb⟩; replace BK214 := bb_ BK214 hb; replace BK216 := bq_ (o' := .cells #[.slice A215_0 ((rd_T62 l0_2 a1).f0).length c215_0, .int .i64 ((rd_T62 l0_2 a1).f1), .bool ((rd_T62 l0_2 a1).f2), .slice A215_3 ((rd_T62 l0_2 a1).f3).length c215_3, .slice A215_4 ((rd_T62 l0_2 a1).f4).length c215_4] 62 (0, 0)) BK216 hb; replace HB := hs_ HB hb; clear hb)))
 go_loopg [7, 8] k (fun kq v7 v8 w' => ∃ (x7_1 : Int) (x8_1 : Int), v7 = .int .i64 x7_1 ∧ v8 = .int .i64 x8_1 ∧ Aside0 (spec_l9Thread.l0 kq a1 t217 x7_1 x8_1 l0_0 l0_1 l0_2 a0_3 l0_4 l0_5 l0_6 a0_7 ((rd_T62 l0_2 a1).f0) ((rd_T62 l0_2 a1).f1) ((rd_T62 l0_2 a1).f2) ((rd_T62 l0_2 a1).f3) ((rd_T62 l0_2 a1).f4) = some r) ∧ Aside0 (kq ≤ k) ∧ Aside0 (w'.heap[gb214]? = some (.cells #[(.slice A0_0 l0_0.length c0_0), (.slice A0_1 l0_1.length c0_1), (.slice (some ad215) l0_2.length c0_2), .int .i64 a0_3, (.slice A0_4 l0_4.length c0_4), (.slice A0_5 l0_5.length c0_5), (.slice A0_6 l0_6.length c0_6), .int .i64 a0_7] 93 (0, 0))) ∧ Aside0 (w'.heap[gb216]? = some (.cells #[(.slice A215_0 ((rd_T62 l0_2 a1).f0).length c215_0), .int .i64 ((rd_T62 l0_2 a1).f1), .bool ((rd_T62 l0_2 a1).f2), (.slice A215_3 ((rd_T62 l0_2 a1).f3).length c215_3), (.slice A215_4 ((rd_T62 l0_2 a1).f4).length c215_4)] 62 (0, 0))) ∧ Aside0 (Below w.heap.size w w'))
 case atStart => exact ⟨(0), (0), rt_, rt_, H', ⟨Nat.le_refl _⟩, ⟨bk_ BK214⟩, ⟨bk_ BK216⟩, ⟨hb_ HB⟩⟩
 case round =>
  clear H'
  try clear c3b0
  try clear c4b0
  try clear u215_0
  try clear u215_1
  try clear u215_2
  try clear u215_3
  try clear u215_4
  try clear p215
  try clear q215
  obtain ⟨x7_1, x8_1, rfl, rfl, HA, HK1, BK214, BK216, HB⟩ := hrel
  cases gk with
  | zero => exact absurd HA.out (by simp [spec_l9Thread.l0])
  | succ k1 =>
   have H := HA.out
   clear HA
   simp only [spec_l9Thread.l0] at H
   replace H := ic_ H
   rcases H with ⟨c13b0, H⟩ | ⟨c13b0, H⟩
   ·
    replace H := ix_ H
    obtain ⟨c14b0, H⟩ := H
    by_cases c15 : ((rd_T147 l0_4 x8_1).f0) = a1
    ·
     rw [if_pos c15] at H
     have c15b0 : (((rd_T147 l0_4 x8_1).f0) == a1) = true := beq_iff_eq.mpr c15
     have c15b1 : (((rd_T147 l0_4 x8_1).f0) != a1) = false := bne_eq_false_iff_eq.mpr c15
     clear c15
     replace H := ic_ H
     rcases H with ⟨c16b0, H⟩ | ⟨c16b0, H⟩
     ·
      replace H' := A_ H; clear H
      have hnb17 := NB214_216.out
      have hnc17 := NB216_214.out
      obtain ⟨z18_0, z18_1, z18_2, z18_3, z18_4, z18_5, z18_6, z18_7, y18_0, y18_1, y18_2, y18_3, y18_4, y18_5, y18_6, y18_7⟩ := cz8_ BK214
      obtain ⟨ad221, A221_8, c221_8, p221, q221, rfl, u221_0, u221_1, u221_2, u221_3, u221_4, u221_5, u221_6, u221_7, u221_8, HC221_8, HR221_8⟩ := ab_T147 HB HR0_4 x8_1
      have p222 : 0 ≤ (x8_1 : Int) := od_
      have q222 : x8_1 < (l0_4.length : Int) := od_
      obtain ⟨ad222, A222_8, c222_8, e222, u222_0, u222_1, u222_2, u222_3, u222_4, u222_5, u222_6, u222_7, u222_8, hl222_8, hi222_8⟩ := at_T147 HR0_4.out x8_1 p222 q222
      obtain rfl : ad221 = ad222 := (by injection e222)
      replace u222_0 := hx_ HB u222_0
      replace u222_1 := hx_ HB u222_1
      replace u222_2 := hx_ HB u222_2
      replace u222_3 := hx_ HB u222_3
      replace u222_4 := hx_ HB u222_4
      replace u222_5 := hx_ HB u222_5
      replace u222_6 := hx_ HB u222_6
      replace u222_7 := hx_ HB u222_7
      replace u222_8 := hx_ HB u222_8
      have HR222_8 := A_ hi222_8
      have HC222_8 := A_ hl222_8
      clear hi222_8 hl222_8
      replace p222 := eq_true p222
      replace q222 := eq_true q222
      have ea_ := Option.some.inj (u221_8.symm.trans u222_8)
      injection ea_ with ea_ en_ ec_
      subst ea_
      subst ec_
      clear en_
      go_wp2
      repeat (go_quiet (fail); try go_wp2)
      go_roundg k1
      case measure => have := HK1.out; omega
      case rel => exact ⟨(wrap64 (x7_1 + 1)), (wrap64 (x8_1 + 1)), rt_, rt_, H', ⟨by have := HK1.out; omega⟩, ⟨bk_ BK214⟩, ⟨bk_ BK216⟩, ⟨hb_ HB⟩⟩
     by_cases c19 : ((rd_T62 l0_2 a1).f2) = true
     ·
      rw [if_pos c19] at H
      have c19b0 : ((rd_T62 l0_2 a1).f2) = true := c19
      clear c19
      by_cases c20 : x8_1 = t217
      ·
       rw [if_pos c20] at H
       have c20b0 : (x8_1 == t217) = true := beq_iff_eq.mpr c20
       have c20b1 : (x8_1 != t217) = false := bne_eq_false_iff_eq.mpr c20
       clear c20
       replace H' := A_ H; clear H
       have hnb21 := NB214_216.out
       have hnc21 := NB216_214.out
       obtain ⟨z22_0, z22_1, z22_2, z22_3, z22_4, z22_5, z22_6, z22_7, y22_0, y22_1, y22_2, y22_3, y22_4, y22_5, y22_6, y22_7⟩ := cz8_ BK214
       obtain ⟨ad221, A221_8, c221_8, p221, q221, rfl, u221_0, u221_1, u221_2, u221_3, u221_4, u221_5, u221_6, u221_7, u221_8, HC221_8, HR221_8⟩ := ab_T147 HB HR0_4 x8_1
       have p222 : 0 ≤ (x8_1 : Int) := od_
       have q222 : x8_1 < (l0_4.length : Int) := od_
       obtain ⟨ad222, A222_8, c222_8, e222, u222_0, u222_1, u222_2, u222_3, u222_4, u222_5, u222_6, u222_7, u222_8, hl222_8, hi222_8⟩ := at_T147 HR0_4.out x8_1 p222 q222
       obtain rfl : ad221 = ad222 := (by injection e222)
       replace u222_0 := hx_ HB u222_0
       replace u222_1 := hx_ HB u222_1
       replace u222_2 := hx_ HB u222_2
       replace u222_3 := hx_ HB u222_3
       replace u222_4 := hx_ HB u222_4
       replace u222_5 := hx_ HB u222_5
       replace u222_6 := hx_ HB u222_6
       replace u222_7 := hx_ HB u222_7
       replace u222_8 := hx_ HB u222_8
       have HR222_8 := A_ hi222_8
       have HC222_8 := A_ hl222_8
       clear hi222_8 hl222_8
       replace p222 := eq_true p222
       replace q222 := eq_true q222
       have ea_ := Option.some.inj (u221_8.symm.trans u222_8)
       injection ea_ with ea_ en_ ec_
       subst ea_
       subst ec_
       clear en_
       obtain ⟨z23_0, z23_1, z23_2, z23_3, z23_4, y23_0, y23_1, y23_2, y23_3, y23_4⟩ := cz5_ BK216
       go_wp2
       repeat (go_quiet (fail); try go_wp2)
       refine Handed.intro k1 ?measure ?_
       rotate_left
       go_step
       (repeat apply Exists.intro)
       refine ⟨?rel, ?same⟩
       case same => first | exact rfl | (rw [c19b0]; done) | (rw [c19b0]; exact rfl)
       case measure => have := HK1.out; omega
       case rel => exact ⟨(x7_1), (wrap64 (x8_1 + 1)), rt_, rt_, H', ⟨by have := HK1.out; omega⟩, ⟨bk_ BK214⟩, ⟨bk_ BK216⟩, ⟨hb_ HB⟩⟩
      rw [if_neg c20] at H
      have c20b0 : (x8_1 == t217) = false := beq_eq_false_iff_ne.mpr c20
      have c20b1 : (x8_1 != t217) = true := bne_iff_ne.mpr c20
      obtain rfl := Option.some.inj H
      have hnb24 := NB214_216.out
      have hnc24 := NB216_214.out
      obtain ⟨z25_0, z25_1, z25_2, z25_3, z25_4, z25_5, z25_6, z25_7, y25_0, y25_1, y25_2, y25_3, y25_4, y25_5, y25_6, y25_7⟩ := cz8_ BK214
      obtain ⟨ad221, A221_8, c221_8, p221, q221, rfl, u221_0, u221_1, u221_2, u221_3, u221_4, u221_5, u221_6, u221_7, u221_8, HC221_8, HR221_8⟩ := ab_T147 HB HR0_4 x8_1
      have p222 : 0 ≤ (x8_1 : Int) := od_
      have q222 : x8_1 < (l0_4.length : Int) := od_
      obtain ⟨ad222, A222_8, c222_8, e222, u222_0, u222_1, u222_2, u222_3, u222_4, u222_5, u222_6, u222_7, u222_8, hl222_8, hi222_8⟩ := at_T147 HR0_4.out x8_1 p222 q222
      obtain rfl : ad221 = ad222 := (by injection e222)
      replace u222_0 := hx_ HB u222_0
      replace u222_1 := hx_ HB u222_1
      replace u222_2 := hx_ HB u222_2
      replace u222_3 := hx_ HB u222_3
      replace u222_4 := hx_ HB u222_4
      replace u222_5 := hx_ HB u222_5
      replace u222_6 := hx_ HB u222_6
      replace u222_7 := hx_ HB u222_7
      replace u222_8 := hx_ HB u222_8
      have HR222_8 := A_ hi222_8
      have HC222_8 := A_ hl222_8
      clear hi222_8 hl222_8
      replace p222 := eq_true p222
      replace q222 := eq_true q222
      have ea_ := Option.some.inj (u221_8.symm.trans u222_8)
      injection ea_ with ea_ en_ ec_
      subst ea_
      subst ec_
      clear en_
      obtain ⟨z26_0, z26_1, z26_2, z26_3, z26_4, y26_0, y26_1, y26_2, y26_3, y26_4⟩ := cz5_ BK216
      go_wp2
      repeat (go_quiet (fail); try go_wp2)
      go_ret
      exact ⟨rs_, hb_ HB⟩
     rw [if_neg c19] at H
     have c19b0 : ((rd_T62 l0_2 a1).f2) = false := by simpa using c19
     clear c19
     obtain rfl := Option.some.inj H
     have hnb27 := NB214_216.out
     have hnc27 := NB216_214.out
     obtain ⟨z28_0, z28_1, z28_2, z28_3, z28_4, z28_5, z28_6, z28_7, y28_0, y28_1, y28_2, y28_3, y28_4, y28_5, y28_6, y28_7⟩ := cz8_ BK214
     obtain ⟨ad221, A221_8, c221_8, p221, q221, rfl, u221_0, u221_1, u221_2, u221_3, u221_4, u221_5, u221_6, u221_7, u221_8, HC221_8, HR221_8⟩ := ab_T147 HB HR0_4 x8_1
     have p222 : 0 ≤ (x8_1 : Int) := od_
     have q222 : x8_1 < (l0_4.length : Int) := od_
     obtain ⟨ad222, A222_8, c222_8, e222, u222_0, u222_1, u222_2, u222_3, u222_4, u222_5, u222_6, u222_7, u222_8, hl222_8, hi222_8⟩ := at_T147 HR0_4.out x8_1 p222 q222
     obtain rfl : ad221 = ad222 := (by injection e222)
     replace u222_0 := hx_ HB u222_0
     replace u222_1 := hx_ HB u222_1
     replace u222_2 := hx_ HB u222_2
     replace u222_3 := hx_ HB u222_3
     replace u222_4 := hx_ HB u222_4
     replace u222_5 := hx_ HB u222_5
     replace u222_6 := hx_ HB u222_6
     replace u222_7 := hx_ HB u222_7
     replace u222_8 := hx_ HB u222_8
     have HR222_8 := A_ hi222_8
     have HC222_8 := A_ hl222_8
     clear hi222_8 hl222_8
     replace p222 := eq_true p222
     replace q222 := eq_true q222
     have ea_ := Option.some.inj (u221_8.symm.trans u222_8)
     injection ea_ with ea_ en_ ec_
     subst ea_
     subst ec_
     clear en_
     obtain ⟨z29_0, z29_1, z29_2, z29_3, z29_4, y29_0, y29_1, y29_2, y29_3, y29_4⟩ := cz5_ BK216
     go_wp2
     repeat (go_quiet (fail); try go_wp2)
     go_ret
     exact ⟨rs_, hb_ HB⟩
    rw [if_neg c15] at H
    have c15b0 : (((rd_T147 l0_4 x8_1).f0) == a1) = false := beq_eq_false_iff_ne.mpr c15
    have c15b1 : (((rd_T147 l0_4 x8_1).f0) != a1) = true := bne_iff_ne.mpr c15
    replace H' := A_ H; clear H
    have hnb30 := NB214_216.out
    have hnc30 := NB216_214.out
    obtain ⟨z31_0, z31_1, z31_2, z31_3, z31_4, z31_5, z31_6, z31_7, y31_0, y31_1, y31_2, y31_3, y31_4, y31_5, y31_6, y31_7⟩ := cz8_ BK214
    obtain ⟨ad221, A221_8, c221_8, p221, q221, rfl, u221_0, u221_1, u221_2, u221_3, u221_4, u221_5, u221_6, u221_7, u221_8, HC221_8, HR221_8⟩ := ab_T147 HB HR0_4 x8_1
    go_wp2
    repeat (go_quiet (fail); try go_wp2)
    go_roundg k1
    case measure => have := HK1.out; omega
    case rel => exact ⟨(x7_1), (wrap64 (x8_1 + 1)), rt_, rt_, H', ⟨by have := HK1.out; omega⟩, ⟨bk_ BK214⟩, ⟨bk_ BK216⟩, ⟨hb_ HB⟩⟩
   by_cases c32 : x7_1 = ((rd_T62 l0_2 a1).f1)
   ·
    rw [if_pos c32] at H
    have c32b0 : (x7_1 == ((rd_T62 l0_2 a1).f1)) = true := beq_iff_eq.mpr c32
    have c32b1 : (x7_1 != ((rd_T62 l0_2 a1).f1)) = false := bne_eq_false_iff_eq.mpr c32
    clear c32
    by_cases c33 : ((rd_T62 l0_2 a1).f2) = true
    ·
     rw [if_pos c33] at H
     have c33b0 : ((rd_T62 l0_2 a1).f2) = true := c33
     clear c33
     replace H := ic_ H
     rcases H with ⟨c34b0, H⟩ | ⟨c34b0, H⟩
     ·
      replace H := ix_ H
      obtain ⟨c35b0, H⟩ := H
      replace H := ix_ H
      obtain ⟨c36b0, H⟩ := H
      by_cases c37 : ((rd_T147 l0_4 t217).f4) = (-1)
      ·
       rw [if_pos c37] at H
       have c37b0 : (((rd_T147 l0_4 t217).f4) == (-1)) = true := beq_iff_eq.mpr c37
       have c37b1 : (((rd_T147 l0_4 t217).f4) != (-1)) = false := bne_eq_false_iff_eq.mpr c37
       clear c37
       replace H := ix_ H
       obtain ⟨c38b0, H⟩ := H
       replace H := ix_ H
       obtain ⟨c39b0, H⟩ := H
       obtain rfl := Option.some.inj H
       have hnb40 := NB214_216.out
       have hnc40 := NB216_214.out
       obtain ⟨z41_0, z41_1, z41_2, z41_3, z41_4, z41_5, z41_6, z41_7, y41_0, y41_1, y41_2, y41_3, y41_4, y41_5, y41_6, y41_7⟩ := cz8_ BK214
       obtain ⟨z42_0, z42_1, z42_2, z42_3, z42_4, y42_0, y42_1, y42_2, y42_3, y42_4⟩ := cz5_ BK216
       obtain ⟨ad218, A218_8, c218_8, p218, q218, rfl, u218_0, u218_1, u218_2, u218_3, u218_4, u218_5, u218_6, u218_7, u218_8, HC218_8, HR218_8⟩ := ab_T147 HB HR0_4 t217
       have p219 : 0 ≤ (t217 : Int) := od_
       have q219 : t217 < (l0_4.length : Int) := od_
       obtain ⟨ad219, A219_8, c219_8, e219, u219_0, u219_1, u219_2, u219_3, u219_4, u219_5, u219_6, u219_7, u219_8, hl219_8, hi219_8⟩ := at_T147 HR0_4.out t217 p219 q219
       obtain rfl : ad218 = ad219 := (by injection e219)
       replace u219_0 := hx_ HB u219_0
       replace u219_1 := hx_ HB u219_1
       replace u219_2 := hx_ HB u219_2
       replace u219_3 := hx_ HB u219_3
       replace u219_4 := hx_ HB u219_4
       replace u219_5 := hx_ HB u219_5
       replace u219_6 := hx_ HB u219_6
       replace u219_7 := hx_ HB u219_7
       replace u219_8 := hx_ HB u219_8
       have HR219_8 := A_ hi219_8
       have HC219_8 := A_ hl219_8
       clear hi219_8 hl219_8
       replace p219 := eq_true p219
       replace q219 := eq_true q219
       have ea_ := Option.some.inj (u218_8.symm.trans u219_8)
       injection ea_ with ea_ en_ ec_
       subst ea_
       subst ec_
       clear en_
       have p220 : 0 ≤ (((rd_T62 l0_2 a1).f1) : Int) := od_
       have q220 : ((rd_T62 l0_2 a1).f1) < (((rd_T62 l0_2 a1).f0).length : Int) := od_
       obtain ⟨ad220, e220, u220_0, u220_1, u220_2⟩ := at_T122 HR215_0.out ((rd_T62 l0_2 a1).f1) p220 q220
       cases e220
       replace u220_0 := hx_ HB u220_0
       replace u220_1 := hx_ HB u220_1
       replace u220_2 := hx_ HB u220_2
       replace p220 := eq_true p220
       replace q220 := eq_true q220
       go_wp2
       repeat (go_quiet (fail); try go_wp2)
       go_ret
       exact ⟨rs_, hb_ HB⟩
      rw [if_neg c37] at H
      have c37b0 : (((rd_T147 l0_4 t217).f4) == (-1)) = false := beq_eq_false_iff_ne.mpr c37
      have c37b1 : (((rd_T147 l0_4 t217).f4) != (-1)) = true := bne_iff_ne.mpr c37
      obtain rfl := Option.some.inj H
      have hnb43 := NB214_216.out
      have hnc43 := NB216_214.out
      obtain ⟨z44_0, z44_1, z44_2, z44_3, z44_4, z44_5, z44_6, z44_7, y44_0, y44_1, y44_2, y44_3, y44_4, y44_5, y44_6, y44_7⟩ := cz8_ BK214
      obtain ⟨z45_0, z45_1, z45_2, z45_3, z45_4, y45_0, y45_1, y45_2, y45_3, y45_4⟩ := cz5_ BK216
      obtain ⟨ad218, A218_8, c218_8, p218, q218, rfl, u218_0, u218_1, u218_2, u218_3, u218_4, u218_5, u218_6, u218_7, u218_8, HC218_8, HR218_8⟩ := ab_T147 HB HR0_4 t217
      go_wp2
      repeat (go_quiet (fail); try go_wp2)
      go_ret
      exact ⟨rs_, hb_ HB⟩
     obtain rfl := Option.some.inj H
     have hnb46 := NB214_216.out
     have hnc46 := NB216_214.out
     obtain ⟨z47_0, z47_1, z47_2, z47_3, z47_4, z47_5, z47_6, z47_7, y47_0, y47_1, y47_2, y47_3, y47_4, y47_5, y47_6, y47_7⟩ := cz8_ BK214
     obtain ⟨z48_0, z48_1, z48_2, z48_3, z48_4, y48_0, y48_1, y48_2, y48_3, y48_4⟩ := cz5_ BK216
     go_wp2
     repeat (go_quiet (fail); try go_wp2)
     go_ret
     exact ⟨rs_, hb_ HB⟩
    rw [if_neg c33] at H
    have c33b0 : ((rd_T62 l0_2 a1).f2) = false := by simpa using c33
    clear c33
    obtain rfl := Option.some.inj H
    have hnb49 := NB214_216.out
    have hnc49 := NB216_214.out
    obtain ⟨z50_0, z50_1, z50_2, z50_3, z50_4, z50_5, z50_6, z50_7, y50_0, y50_1, y50_2, y50_3, y50_4, y50_5, y50_6, y50_7⟩ := cz8_ BK214
    obtain ⟨z51_0, z51_1, z51_2, z51_3, z51_4, y51_0, y51_1, y51_2, y51_3, y51_4⟩ := cz5_ BK216
    go_wp2
    repeat (go_quiet (fail); try go_wp2)
    go_ret
    exact ⟨rs_, hb_ HB⟩
   rw [if_neg c32] at H
   have c32b0 : (x7_1 == ((rd_T62 l0_2 a1).f1)) = false := beq_eq_false_iff_ne.mpr c32
   have c32b1 : (x7_1 != ((rd_T62 l0_2 a1).f1)) = true := bne_iff_ne.mpr c32
   obtain rfl := Option.some.inj H
   have hnb52 := NB214_216.out
   have hnc52 := NB216_214.out
   obtain ⟨z53_0, z53_1, z53_2, z53_3, z53_4, z53_5, z53_6, z53_7, y53_0, y53_1, y53_2, y53_3, y53_4, y53_5, y53_6, y53_7⟩ := cz8_ BK214
   obtain ⟨z54_0, z54_1, z54_2, z54_3, z54_4, y54_0, y54_1, y54_2, y54_3, y54_4⟩ := cz5_ BK216
   go_wp2
   repeat (go_quiet (fail); try go_wp2)
   go_ret
   exact ⟨rs_, hb_ HB⟩
end Go.Proofs.YtdcinhpdpoodfaaGreat.PFnExactFinished
