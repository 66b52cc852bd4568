/- Contracts of functions of the program. No condition beyond the hypotheses that each theorem names. -/
import Derived.Test.YtdcinhpdpoodfaaGreatPFnExactFinishedx0
import Derived.Test.YtdcinhpdpoodfaaGreatPFnExactFinishedx15
import Derived.Test.YtdcinhpdpoodfaaGreatPFnExactFinishedx20
namespace Go.Proofs.YtdcinhpdpoodfaaGreat.PFnExactFinished
open Go.RowKit Go.Proofs.YtdcinhpdpoodfaaGreatW.PrintWords Go.Proofs.YtdcinhpdpoodfaaGreatW.PrintLast Go.Proofs.YtdcinhpdpoodfaaGreatW.PrintMore
attribute [local go_sem] max2_int min2_int max_two min_two max_three min_three max_four min_four
set_option linter.unusedVariables false
set_option linter.unusedSimpArgs false
mutual
def impl_orderOk.l0 : Nat → Int → List (S147) → Int → Int → List (S39) → List (S52) → List (S62) → Int → List (S147) → List Int → List Int → Int → Option (Bool)
 | 0, _, _, _, _, _, _, _, _, _, _, _, _ => none
 | k + 1, x3, x9, x10, x11, x499000, x499001, x499002, x499003, x499004, x499005, x499006, x499007 => if x11 < x10 then (if 0 ≤ x11 then (if x11 < (x9.length : Int) then (if ((rd_T147 x9 x11).f3) ≥ 0 then (impl_orderOk.l0 k (wrap64 (x3 + 1)) x9 x10 (wrap64 (x11 + 1)) x499000 x499001 x499002 x499003 x499004 x499005 x499006 x499007) else (impl_orderOk.l0 k x3 x9 x10 (wrap64 (x11 + 1)) x499000 x499001 x499002 x499003 x499004 x499005 x499006 x499007)) else (none)) else (none)) else (impl_orderOk.l1 k x3 x499005 (x499005.length : Int) 0 x499000 x499001 x499002 x499003 x499004 x499005 x499006 x499007)
def impl_orderOk.l1 : Nat → Int → List Int → Int → Int → List (S39) → List (S52) → List (S62) → Int → List (S147) → List Int → List Int → Int → Option (Bool)
 | 0, _, _, _, _, _, _, _, _, _, _, _, _ => none
 | k + 1, x3, x22, x23, x24, x499000, x499001, x499002, x499003, x499004, x499005, x499006, x499007 => if x24 < x23 then (if 0 ≤ x24 then (if x24 < (x22.length : Int) then ((impl_from.f (rd x22 x24) 0 (wrap64 ((x499004.length : Int) - 1))).bind fun t502 => (if t502 = true then (if 0 ≤ (rd x22 x24) then (if (rd x22 x24) < (x499004.length : Int) then (if ((rd_T147 x499004 (rd x22 x24)).f3) < 0 then (some false) else (if x24 ≤ (x499005.length : Int) then ((slices_Contains_int_int.f k (x499005.take (x24 : Int).toNat) (rd x22 x24)).bind fun t505 => (if t505 = true then (some false) else (if x24 > 0 then (if 0 ≤ (wrap64 (x24 - 1)) then (if (wrap64 (x24 - 1)) < (x499005.length : Int) then (if 0 ≤ (rd x499005 (wrap64 (x24 - 1))) then (if (rd x499005 (wrap64 (x24 - 1))) < (x499004.length : Int) then (if ((rd_T147 x499004 (rd x499005 (wrap64 (x24 - 1)))).f3) > ((rd_T147 x499004 (rd x22 x24)).f3) then (some false) else (impl_orderOk.l1 k x3 x22 x23 (wrap64 (x24 + 1)) x499000 x499001 x499002 x499003 x499004 x499005 x499006 x499007)) else (none)) else (none)) else (none)) else (none)) else (impl_orderOk.l1 k x3 x22 x23 (wrap64 (x24 + 1)) x499000 x499001 x499002 x499003 x499004 x499005 x499006 x499007)))) else (none))) else (none)) else (none)) else (some false))) else (none)) else (none)) else (some (x3 == (x499005.length : Int)))
end
def impl_orderOk.f (k : Nat) (l0_0 : List (S39)) (l0_1 : List (S52)) (l0_2 : List (S62)) (a0_3 : Int) (l0_4 : List (S147)) (l0_5 : List Int) (l0_6 : List Int) (a0_7 : Int) : Option (Bool) := impl_orderOk.l0 k 0 l0_4 (l0_4.length : Int) 0 l0_0 l0_1 l0_2 a0_3 l0_4 l0_5 l0_6 a0_7
set_option maxHeartbeats 8000000 in
set_option maxRecDepth 100000 in
theorem impl_orderOk.calls (k : Nat) (A0_0 : Option Addr) (c0_0 : Nat) (l0_0 : List (S39)) (A0_1 : Option Addr) (c0_1 : Nat) (l0_1 : List (S52)) (A0_2 : Option Addr) (c0_2 : Nat) (l0_2 : List (S62)) (a0_3 : Int) (A0_4 : Option Addr) (c0_4 : Nat) (l0_4 : List (S147)) (A0_5 : Option Addr) (c0_5 : Nat) (l0_5 : List Int) (A0_6 : Option Addr) (c0_6 : Nat) (l0_6 : List Int) (a0_7 : Int) (r : Bool) (w : World) (hr0_0 : Kd.C k39 w A0_0 l0_0.length l0_0) (hc0_0 : l0_0.length ≤ c0_0) (hr0_1 : Kd.C k52 w A0_1 l0_1.length l0_1) (hc0_1 : l0_1.length ≤ c0_1) (hr0_2 : Kd.C k62 w A0_2 l0_2.length l0_2) (hc0_2 : l0_2.length ≤ c0_2) (hr0_4 : Kd.C k147 w A0_4 l0_4.length l0_4) (hc0_4 : l0_4.length ≤ c0_4) (hr0_5 : Kd.C (Kd.int .i64) w A0_5 l0_5.length l0_5) (hc0_5 : l0_5.length ≤ c0_5) (hr0_6 : Kd.C (Kd.int .i64) w A0_6 l0_6.length l0_6) (hc0_6 : l0_6.length ≤ c0_6) (h : impl_orderOk.f k l0_0 l0_1 l0_2 a0_3 l0_4 l0_5 l0_6 a0_7 = some r) :
    Calls Tryz.prog 113 #[.agg #[.slice A0_0 l0_0.length c0_0, .slice A0_1 l0_1.length c0_1, .slice A0_2 l0_2.length c0_2, .int .i64 a0_3, .slice A0_4 l0_4.length c0_4, .slice A0_5 l0_5.length c0_5, .slice A0_6 l0_6.length c0_6, .int .i64 a0_7]] w fun e w' => e = .returned (.bool r) ∧ Below w.heap.size w w' := by
 have hu93 := Tryz.underlying93
 have hu147 := Tryz.underlying147
 have HR0_0 := A_ hr0_0
 have HC0_0 := A_ hc0_0
 clear hr0_0 hc0_0
 have HR0_1 := A_ hr0_1
 have HC0_1 := A_ hc0_1
 clear hr0_1 hc0_1
 have HR0_2 := A_ hr0_2
 have HC0_2 := A_ hc0_2
 clear hr0_2 hc0_2
 have HR0_4 := A_ hr0_4
 have HC0_4 := A_ hc0_4
 clear hr0_4 hc0_4
 have HR0_5 := A_ hr0_5
 have HC0_5 := A_ hc0_5
 clear hr0_5 hc0_5
 have HR0_6 := A_ hr0_6
 have HC0_6 := A_ hc0_6
 clear hr0_6 hc0_6
 have HB := A_ (Below.refl w.heap.size w)
 have H : (impl_orderOk.l0 k 0 l0_4 (l0_4.length : Int) 0 l0_0 l0_1 l0_2 a0_3 l0_4 l0_5 l0_6 a0_7) = some r := h
 clear h
 replace H' := A_ H; clear H
 go_enter Tryz.func113, Tryz.ntmps113
 iterate 5 (try go_wp2_with (first | ((with_reducible refine gate_dst (N := 1) rfl ?_); refine bx_ HB rfl (N := 1) rfl (cs := #[.slice A0_0 l0_0.length c0_0, .slice A0_1 l0_1.length c0_1, .slice A0_2 l0_2.length c0_2, .int .i64 a0_3, .slice A0_4 l0_4.length c0_4, .slice A0_5 l0_5.length c0_5, .slice A0_6 l0_6.length c0_6, .int .i64 a0_7]) (t := 93) hr_ ?_; clear HB; intro gb498 w2 hg hb BK498 GW498 HB; clear hb hg; obtain ⟨z3_0, z3_1, z3_2, z3_3, z3_4, z3_5, z3_6, z3_7, y3_0, y3_1, y3_2, y3_3, y3_4, y3_5, y3_6, y3_7⟩ := cz8_ BK498)); try go_quiet (first | ((with_reducible refine gate_dst (N := 1) rfl ?_); refine bx_ HB rfl (N := 1) rfl (cs := #[.slice A0_0 l0_0.length c0_0, .slice A0_1 l0_1.length c0_1, .slice A0_2 l0_2.length c0_2, .int .i64 a0_3, .slice A0_4 l0_4.length c0_4, .slice A0_5 l0_5.length c0_5, .slice A0_6 l0_6.length c0_6, .int .i64 a0_7]) (t := 93) hr_ ?_; clear HB; intro gb498 w2 hg hb BK498 GW498 HB; clear hb hg; obtain ⟨z3_0, z3_1, z3_2, z3_3, z3_4, z3_5, z3_6, z3_7, y3_0, y3_1, y3_2, y3_3, y3_4, y3_5, y3_6, y3_7⟩ := cz8_ BK498)))
 go_loopg [3, 11] k (fun kq v3 v11 w' => ∃ (x3_1 : Int) (x11_1 : Int), v3 = .int .i64 x3_1 ∧ v11 = .int .i64 x11_1 ∧ Aside0 (impl_orderOk.l0 kq x3_1 l0_4 (l0_4.length : Int) x11_1 l0_0 l0_1 l0_2 a0_3 l0_4 l0_5 l0_6 a0_7 = some r) ∧ Aside0 (kq ≤ k) ∧ Aside0 (w'.heap[gb498]? = some (.cells #[(.slice A0_0 l0_0.length c0_0), (.slice A0_1 l0_1.length c0_1), (.slice A0_2 l0_2.length c0_2), .int .i64 a0_3, (.slice A0_4 l0_4.length c0_4), (.slice A0_5 l0_5.length c0_5), (.slice A0_6 l0_6.length c0_6), .int .i64 a0_7] 93 (0, 0))) ∧ Aside0 (Below w.heap.size w w'))
 case atStart => exact ⟨(0), (0), rt_, rt_, H', ⟨Nat.le_refl _⟩, ⟨bk_ BK498⟩, ⟨hb_ HB⟩⟩
 case round =>
  clear H'
  obtain ⟨x3_1, x11_1, rfl, rfl, HA, HK1, BK498, HB⟩ := hrel
  cases gk with
  | zero => exact absurd HA.out (by simp [impl_orderOk.l0])
  | succ k1 =>
   have H := HA.out
   clear HA
   simp only [impl_orderOk.l0] at H
   replace H := ic_ H
   rcases H with ⟨c4b0, H⟩ | ⟨c4b0, H⟩
   ·
    replace H := ix_ H
    obtain ⟨c5b0, H⟩ := H
    replace H := ix_ H
    obtain ⟨c6b0, H⟩ := H
    replace H := ic_ H
    rcases H with ⟨c7b0, H⟩ | ⟨c7b0, H⟩
    ·
     replace H' := A_ H; clear H
     obtain ⟨ad499, A499_8, c499_8, p499, q499, rfl, u499_0, u499_1, u499_2, u499_3, u499_4, u499_5, u499_6, u499_7, u499_8, HC499_8, HR499_8⟩ := ab_T147 HB HR0_4 x11_1
     iterate 5 (try go_wp2_with (first | ((with_reducible refine gate_dst (N := 5) rfl ?_); refine bx_ HB rfl (N := 5) rfl (cs := #[.int .i64 0, .int .i64 0, .int .i64 0, .int .i64 0, .int .i64 0, .int .i64 0, .int .i64 0, .int .i64 0, .slice none 0 0]) (t := 147) hr_ ?_; clear HB; intro gb500 w8 hg hb BK500 GW500 HB; have NB498_500 := ng_ BK498 hg; have NB500_498 := ns_ (ng_ BK498 hg); replace BK498 := bb_ BK498 hb; clear hb hg; have hnb9 := NB500_498.out; have hnc9 := NB498_500.out; obtain ⟨z10_0, z10_1, z10_2, z10_3, z10_4, z10_5, z10_6, z10_7, z10_8, y10_0, y10_1, y10_2, y10_3, y10_4, y10_5, y10_6, y10_7, y10_8⟩ := cz9_ BK500)); try go_quiet (first | ((with_reducible refine gate_dst (N := 5) rfl ?_); refine bx_ HB rfl (N := 5) rfl (cs := #[.int .i64 0, .int .i64 0, .int .i64 0, .int .i64 0, .int .i64 0, .int .i64 0, .int .i64 0, .int .i64 0, .slice none 0 0]) (t := 147) hr_ ?_; clear HB; intro gb500 w8 hg hb BK500 GW500 HB; have NB498_500 := ng_ BK498 hg; have NB500_498 := ns_ (ng_ BK498 hg); replace BK498 := bb_ BK498 hb; clear hb hg; have hnb9 := NB500_498.out; have hnc9 := NB498_500.out; obtain ⟨z10_0, z10_1, z10_2, z10_3, z10_4, z10_5, z10_6, z10_7, z10_8, y10_0, y10_1, y10_2, y10_3, y10_4, y10_5, y10_6, y10_7, y10_8⟩ := cz9_ BK500)))
     go_roundg k1
     case measure => have := HK1.out; omega
     case rel => exact ⟨(wrap64 (x3_1 + 1)), (wrap64 (x11_1 + 1)), rt_, rt_, H', ⟨by have := HK1.out; omega⟩, ⟨bk_ BK498⟩, ⟨hb_ HB⟩⟩
    replace H' := A_ H; clear H
    obtain ⟨ad499, A499_8, c499_8, p499, q499, rfl, u499_0, u499_1, u499_2, u499_3, u499_4, u499_5, u499_6, u499_7, u499_8, HC499_8, HR499_8⟩ := ab_T147 HB HR0_4 x11_1
    iterate 5 (try go_wp2_with (first | ((with_reducible refine gate_dst (N := 5) rfl ?_); refine bx_ HB rfl (N := 5) rfl (cs := #[.int .i64 0, .int .i64 0, .int .i64 0, .int .i64 0, .int .i64 0, .int .i64 0, .int .i64 0, .int .i64 0, .slice none 0 0]) (t := 147) hr_ ?_; clear HB; intro gb500 w11 hg hb BK500 GW500 HB; have NB498_500 := ng_ BK498 hg; have NB500_498 := ns_ (ng_ BK498 hg); replace BK498 := bb_ BK498 hb; clear hb hg; have hnb12 := NB500_498.out; have hnc12 := NB498_500.out; obtain ⟨z13_0, z13_1, z13_2, z13_3, z13_4, z13_5, z13_6, z13_7, z13_8, y13_0, y13_1, y13_2, y13_3, y13_4, y13_5, y13_6, y13_7, y13_8⟩ := cz9_ BK500)); try go_quiet (first | ((with_reducible refine gate_dst (N := 5) rfl ?_); refine bx_ HB rfl (N := 5) rfl (cs := #[.int .i64 0, .int .i64 0, .int .i64 0, .int .i64 0, .int .i64 0, .int .i64 0, .int .i64 0, .int .i64 0, .slice none 0 0]) (t := 147) hr_ ?_; clear HB; intro gb500 w11 hg hb BK500 GW500 HB; have NB498_500 := ng_ BK498 hg; have NB500_498 := ns_ (ng_ BK498 hg); replace BK498 := bb_ BK498 hb; clear hb hg; have hnb12 := NB500_498.out; have hnc12 := NB498_500.out; obtain ⟨z13_0, z13_1, z13_2, z13_3, z13_4, z13_5, z13_6, z13_7, z13_8, y13_0, y13_1, y13_2, y13_3, y13_4, y13_5, y13_6, y13_7, y13_8⟩ := cz9_ BK500)))
    go_roundg k1
    case measure => have := HK1.out; omega
    case rel => exact ⟨(x3_1), (wrap64 (x11_1 + 1)), rt_, rt_, H', ⟨by have := HK1.out; omega⟩, ⟨bk_ BK498⟩, ⟨hb_ HB⟩⟩
   replace H' := A_ H; clear H
   obtain ⟨z14_0, z14_1, z14_2, z14_3, z14_4, z14_5, z14_6, z14_7, y14_0, y14_1, y14_2, y14_3, y14_4, y14_5, y14_6, y14_7⟩ := cz8_ BK498
   go_wp2
   repeat (go_quiet (fail); try go_wp2)
   go_loopg [24] k1 (fun kq v24 w' => ∃ (x24_2 : Int), v24 = .int .i64 x24_2 ∧ Aside0 (impl_orderOk.l1 kq x3_1 l0_5 (l0_5.length : Int) x24_2 l0_0 l0_1 l0_2 a0_3 l0_4 l0_5 l0_6 a0_7 = some r) ∧ Aside0 (kq ≤ k1) ∧ Aside0 (w'.heap[gb498]? = some (.cells #[(.slice A0_0 l0_0.length c0_0), (.slice A0_1 l0_1.length c0_1), (.slice A0_2 l0_2.length c0_2), .int .i64 a0_3, (.slice A0_4 l0_4.length c0_4), (.slice A0_5 l0_5.length c0_5), (.slice A0_6 l0_6.length c0_6), .int .i64 a0_7] 93 (0, 0))) ∧ Aside0 (Below w.heap.size w w'))
   case atStart => exact ⟨(0), rt_, H', ⟨Nat.le_refl _⟩, ⟨bk_ BK498⟩, ⟨hb_ HB⟩⟩
   case round =>
    clear H'
    try clear c4
    try clear c4b0
    try clear c5b0
    try clear c6b0
    try clear c7b0
    try clear u499_0
    try clear u499_1
    try clear u499_2
    try clear u499_3
    try clear u499_4
    try clear u499_5
    try clear u499_6
    try clear u499_7
    try clear u499_8
    try clear p499
    try clear q499
    obtain ⟨x24_2, rfl, HA, HK2, BK498, HB⟩ := hrel
    cases gk with
    | zero => exact absurd HA.out (by simp [impl_orderOk.l1])
    | succ k2 =>
     have H := HA.out
     clear HA
     simp only [impl_orderOk.l1] at H
     replace H := ic_ H
     rcases H with ⟨c15b0, H⟩ | ⟨c15b0, H⟩
     ·
      replace H := ix_ H
      obtain ⟨c16b0, H⟩ := H
      replace H := ix_ H
      obtain ⟨c17b0, H⟩ := H
      replace H := bs_ H
      obtain ⟨t502, A18, H⟩ := H
      by_cases c19 : t502 = true
      ·
       subst c19
       replace H := it_ H
       replace H := ix_ H
       obtain ⟨c20b0, H⟩ := H
       replace H := ix_ H
       obtain ⟨c21b0, H⟩ := H
       replace H := ic_ H
       rcases H with ⟨c22b0, H⟩ | ⟨c22b0, H⟩
       ·
        obtain rfl := Option.some.inj H
        obtain ⟨ad501, p501, q501, rfl, u501_0⟩ := ab_int HB HR0_5 x24_2
        obtain ⟨z23_0, z23_1, z23_2, z23_3, z23_4, z23_5, z23_6, z23_7, y23_0, y23_1, y23_2, y23_3, y23_4, y23_5, y23_6, y23_7⟩ := cz8_ BK498
        obtain ⟨ad503, A503_8, c503_8, p503, q503, rfl, u503_0, u503_1, u503_2, u503_3, u503_4, u503_5, u503_6, u503_7, u503_8, HC503_8, HR503_8⟩ := ab_T147 HB HR0_4 (rd l0_5 x24_2)
        iterate 5 (try go_wp2_with (first | (go_at_call 62; (with_reducible refine (impl_from.calls (rd l0_5 x24_2) 0 (wrap64 ((l0_4.length : Int) - 1)) true _ A18.out).mono ?_); rintro e w' ⟨rfl, ⟨nd, rfl⟩⟩; (try exact dd_))); try go_quiet (first | (go_at_call 62; (with_reducible refine (impl_from.calls (rd l0_5 x24_2) 0 (wrap64 ((l0_4.length : Int) - 1)) true _ A18.out).mono ?_); rintro e w' ⟨rfl, ⟨nd, rfl⟩⟩; (try exact dd_))))
        go_ret
        exact ⟨rs_, hb_ HB⟩
       have c24b0 := eq_true (od_ : 0 ≤ x24_2)
       by_cases c25 : x24_2 ≤ (l0_5.length : Int)
       ·
        rw [if_pos c25] at H
        have c25b0 := eq_true c25
        have c25b1 : decide (x24_2 ≤ (l0_5.length : Int)) = true := decide_eq_true c25
        clear c25
        replace H := bs_ H
        obtain ⟨t505, A26, H⟩ := H
        by_cases c27 : t505 = true
        ·
         subst c27
         replace H := it_ H
         obtain rfl := Option.some.inj H
         obtain ⟨ad501, p501, q501, rfl, u501_0⟩ := ab_int HB HR0_5 x24_2
         obtain ⟨z28_0, z28_1, z28_2, z28_3, z28_4, z28_5, z28_6, z28_7, y28_0, y28_1, y28_2, y28_3, y28_4, y28_5, y28_6, y28_7⟩ := cz8_ BK498
         obtain ⟨ad503, A503_8, c503_8, p503, q503, rfl, u503_0, u503_1, u503_2, u503_3, u503_4, u503_5, u503_6, u503_7, u503_8, HC503_8, HR503_8⟩ := ab_T147 HB HR0_4 (rd l0_5 x24_2)
         obtain ⟨i029, hi029, _, hsz29, _⟩ := info_parts info3
         obtain ⟨hcut29, hA29, hC29⟩ := print_take_of (P := Tryz.prog) (Value.int .i64) 0 29 3 .i64 Tryz.underlying29 hi029 hsz29 (some ad501) c0_5 l0_5 x24_2 (od_) (od_) HC0_5.out
         have HR504 := A_ (Kd.C_of_reads (h1 := fun _ => rfl) (hA29 _ (Kd.reads_of_C HR0_5.out)))
         have HC504 := A_ hC29
         clear hA29 hC29 hi029 hsz29
         have HLN_ : Aside0 ((l0_5.take (x24_2 : Int).toNat).length = x24_2.toNat) := ⟨by have h_ : x24_2 < (l0_5.length : Int) := od_; rw [List.length_take]; omega⟩
         iterate 5 (try go_wp2_with (first | (go_at_call 62; (with_reducible refine (impl_from.calls (rd l0_5 x24_2) 0 (wrap64 ((l0_4.length : Int) - 1)) true _ A18.out).mono ?_); rintro e w' ⟨rfl, ⟨nd, rfl⟩⟩; (try exact dd_)) | (go_at_call 161; (with_reducible refine (slices_Contains_int_int.calls_n x24_2.toNat k2 _ _ (l0_5.take (x24_2 : Int).toNat) (rd l0_5 x24_2) true _ ?s1 ?s2 A26.out HLN_.out).mono ?_); (case s1 => exact cb_ (Kd.C_below HR504.out (hb_ HB))); (case s2 => exact HC504.out); rintro e w' ⟨rfl, ⟨nd, rfl⟩⟩; (try exact dd_))); try go_quiet (first | (go_at_call 62; (with_reducible refine (impl_from.calls (rd l0_5 x24_2) 0 (wrap64 ((l0_4.length : Int) - 1)) true _ A18.out).mono ?_); rintro e w' ⟨rfl, ⟨nd, rfl⟩⟩; (try exact dd_)) | (go_at_call 161; (with_reducible refine (slices_Contains_int_int.calls_n x24_2.toNat k2 _ _ (l0_5.take (x24_2 : Int).toNat) (rd l0_5 x24_2) true _ ?s1 ?s2 A26.out HLN_.out).mono ?_); (case s1 => exact cb_ (Kd.C_below HR504.out (hb_ HB))); (case s2 => exact HC504.out); rintro e w' ⟨rfl, ⟨nd, rfl⟩⟩; (try exact dd_))))
         go_ret
         exact ⟨rs_, hb_ HB⟩
        obtain rfl := Bool.eq_false_iff.mpr c27
        replace H := iF_ H
        replace H := ic_ H
        rcases H with ⟨c30b0, H⟩ | ⟨c30b0, H⟩
        ·
         obtain ⟨ji31, hji31⟩ : ∃ j_ : Int, (wrap64 (x24_2 - 1)) = j_ := ⟨_, rfl⟩
         replace H : (if 0 ≤ (ji31) then (if (ji31) < (l0_5.length : Int) then (if 0 ≤ (rd l0_5 (ji31)) then (if (rd l0_5 (ji31)) < (l0_4.length : Int) then (if ((rd_T147 l0_4 (rd l0_5 (ji31))).f3) > ((rd_T147 l0_4 (rd l0_5 x24_2)).f3) then (some false) else (impl_orderOk.l1 k2 x3_1 l0_5 (l0_5.length : Int) (wrap64 (x24_2 + 1)) l0_0 l0_1 l0_2 a0_3 l0_4 l0_5 l0_6 a0_7)) else (none)) else (none)) else (none)) else (none)) = some r := by first | (rw [hji31] at H; exact H) | (simp only [hji31] at H ⊢; exact H)
         (try rw [hji31] at A18)
         (try rw [hji31] at A26)
         have hji31w : (IntKind.i64.wrap (x24_2 - 1)) = ji31 := (i64_w _).trans hji31
         replace H := ix_ H
         obtain ⟨c32b0, H⟩ := H
         replace H := ix_ H
         obtain ⟨c33b0, H⟩ := H
         replace H := ix_ H
         obtain ⟨c34b0, H⟩ := H
         replace H := ix_ H
         obtain ⟨c35b0, H⟩ := H
         replace H := ic_ H
         rcases H with ⟨c36b0, H⟩ | ⟨c36b0, H⟩
         ·
          obtain rfl := Option.some.inj H
          obtain ⟨ad501, p501, q501, rfl, u501_0⟩ := ab_int HB HR0_5 x24_2
          obtain ⟨z37_0, z37_1, z37_2, z37_3, z37_4, z37_5, z37_6, z37_7, y37_0, y37_1, y37_2, y37_3, y37_4, y37_5, y37_6, y37_7⟩ := cz8_ BK498
          obtain ⟨ad503, A503_8, c503_8, p503, q503, rfl, u503_0, u503_1, u503_2, u503_3, u503_4, u503_5, u503_6, u503_7, u503_8, HC503_8, HR503_8⟩ := ab_T147 HB HR0_4 (rd l0_5 x24_2)
          obtain ⟨i038, hi038, _, hsz38, _⟩ := info_parts info3
          obtain ⟨hcut38, hA38, hC38⟩ := print_take_of (P := Tryz.prog) (Value.int .i64) 0 29 3 .i64 Tryz.underlying29 hi038 hsz38 (some ad501) c0_5 l0_5 x24_2 (od_) (od_) HC0_5.out
          have HR504 := A_ (Kd.C_of_reads (h1 := fun _ => rfl) (hA38 _ (Kd.reads_of_C HR0_5.out)))
          have HC504 := A_ hC38
          clear hA38 hC38 hi038 hsz38
          have p506 : 0 ≤ ((ji31) : Int) := od_
          have q506 : (ji31) < (l0_5.length : Int) := od_
          obtain ⟨ad506, e506, u506_0⟩ := Kd.at_int HR0_5.out (ji31) p506 q506
          obtain rfl : ad501 = ad506 := (by injection e506)
          replace u506_0 := hx_ HB u506_0
          replace p506 := eq_true p506
          replace q506 := eq_true q506
          have p507 : 0 ≤ ((rd l0_5 (ji31)) : Int) := od_
          have q507 : (rd l0_5 (ji31)) < (l0_4.length : Int) := od_
          obtain ⟨ad507, A507_8, c507_8, e507, u507_0, u507_1, u507_2, u507_3, u507_4, u507_5, u507_6, u507_7, u507_8, hl507_8, hi507_8⟩ := at_T147 HR0_4.out (rd l0_5 (ji31)) p507 q507
          obtain rfl : ad503 = ad507 := (by injection e507)
          replace u507_0 := hx_ HB u507_0
          replace u507_1 := hx_ HB u507_1
          replace u507_2 := hx_ HB u507_2
          replace u507_3 := hx_ HB u507_3
          replace u507_4 := hx_ HB u507_4
          replace u507_5 := hx_ HB u507_5
          replace u507_6 := hx_ HB u507_6
          replace u507_7 := hx_ HB u507_7
          replace u507_8 := hx_ HB u507_8
          have HR507_8 := A_ hi507_8
          have HC507_8 := A_ hl507_8
          clear hi507_8 hl507_8
          replace p507 := eq_true p507
          replace q507 := eq_true q507
          have p508 : 0 ≤ ((rd l0_5 x24_2) : Int) := od_
          have q508 : (rd l0_5 x24_2) < (l0_4.length : Int) := od_
          obtain ⟨ad508, A508_8, c508_8, e508, u508_0, u508_1, u508_2, u508_3, u508_4, u508_5, u508_6, u508_7, u508_8, hl508_8, hi508_8⟩ := at_T147 HR0_4.out (rd l0_5 x24_2) p508 q508
          obtain rfl : ad503 = ad508 := (by injection e508)
          replace u508_0 := hx_ HB u508_0
          replace u508_1 := hx_ HB u508_1
          replace u508_2 := hx_ HB u508_2
          replace u508_3 := hx_ HB u508_3
          replace u508_4 := hx_ HB u508_4
          replace u508_5 := hx_ HB u508_5
          replace u508_6 := hx_ HB u508_6
          replace u508_7 := hx_ HB u508_7
          replace u508_8 := hx_ HB u508_8
          have HR508_8 := A_ hi508_8
          have HC508_8 := A_ hl508_8
          clear hi508_8 hl508_8
          replace p508 := eq_true p508
          replace q508 := eq_true q508
          have ea_ := Option.some.inj (u503_8.symm.trans u508_8)
          injection ea_ with ea_ en_ ec_
          subst ea_
          subst ec_
          clear en_
          have HLN_ : Aside0 ((l0_5.take (x24_2 : Int).toNat).length = x24_2.toNat) := ⟨by have h_ : x24_2 < (l0_5.length : Int) := od_; rw [List.length_take]; omega⟩
          iterate 5 (try go_wp2_with (first | (go_at_call 62; (with_reducible refine (impl_from.calls (rd l0_5 x24_2) 0 (wrap64 ((l0_4.length : Int) - 1)) true _ A18.out).mono ?_); rintro e w' ⟨rfl, ⟨nd, rfl⟩⟩; (try exact dd_)) | (go_at_call 161; (with_reducible refine (slices_Contains_int_int.calls_n x24_2.toNat k2 _ _ (l0_5.take (x24_2 : Int).toNat) (rd l0_5 x24_2) false _ ?s1 ?s2 A26.out HLN_.out).mono ?_); (case s1 => exact cb_ (Kd.C_below HR504.out (hb_ HB))); (case s2 => exact HC504.out); rintro e w' ⟨rfl, ⟨nd, rfl⟩⟩; (try exact dd_))); try go_quiet (first | (go_at_call 62; (with_reducible refine (impl_from.calls (rd l0_5 x24_2) 0 (wrap64 ((l0_4.length : Int) - 1)) true _ A18.out).mono ?_); rintro e w' ⟨rfl, ⟨nd, rfl⟩⟩; (try exact dd_)) | (go_at_call 161; (with_reducible refine (slices_Contains_int_int.calls_n x24_2.toNat k2 _ _ (l0_5.take (x24_2 : Int).toNat) (rd l0_5 x24_2) false _ ?s1 ?s2 A26.out HLN_.out).mono ?_); (case s1 => exact cb_ (Kd.C_below HR504.out (hb_ HB))); (case s2 => exact HC504.out); rintro e w' ⟨rfl, ⟨nd, rfl⟩⟩; (try exact dd_))))
          go_ret
          exact ⟨by first | rfl | (simp [errW_none, errW_some] <;> rfl) | (simp only [← hji31]; first | rfl | (simp [errW_none, errW_some] <;> rfl)) | (simp [*, errW_none, errW_some] <;> rfl), hb_ HB⟩
         replace H' := A_ H; clear H
         obtain ⟨ad501, p501, q501, rfl, u501_0⟩ := ab_int HB HR0_5 x24_2
         obtain ⟨z39_0, z39_1, z39_2, z39_3, z39_4, z39_5, z39_6, z39_7, y39_0, y39_1, y39_2, y39_3, y39_4, y39_5, y39_6, y39_7⟩ := cz8_ BK498
         obtain ⟨ad503, A503_8, c503_8, p503, q503, rfl, u503_0, u503_1, u503_2, u503_3, u503_4, u503_5, u503_6, u503_7, u503_8, HC503_8, HR503_8⟩ := ab_T147 HB HR0_4 (rd l0_5 x24_2)
         obtain ⟨i040, hi040, _, hsz40, _⟩ := info_parts info3
         obtain ⟨hcut40, hA40, hC40⟩ := print_take_of (P := Tryz.prog) (Value.int .i64) 0 29 3 .i64 Tryz.underlying29 hi040 hsz40 (some ad501) c0_5 l0_5 x24_2 (od_) (od_) HC0_5.out
         have HR504 := A_ (Kd.C_of_reads (h1 := fun _ => rfl) (hA40 _ (Kd.reads_of_C HR0_5.out)))
         have HC504 := A_ hC40
         clear hA40 hC40 hi040 hsz40
         have p506 : 0 ≤ ((ji31) : Int) := od_
         have q506 : (ji31) < (l0_5.length : Int) := od_
         obtain ⟨ad506, e506, u506_0⟩ := Kd.at_int HR0_5.out (ji31) p506 q506
         obtain rfl : ad501 = ad506 := (by injection e506)
         replace u506_0 := hx_ HB u506_0
         replace p506 := eq_true p506
         replace q506 := eq_true q506
         have p507 : 0 ≤ ((rd l0_5 (ji31)) : Int) := od_
         have q507 : (rd l0_5 (ji31)) < (l0_4.length : Int) := od_
         obtain ⟨ad507, A507_8, c507_8, e507, u507_0, u507_1, u507_2, u507_3, u507_4, u507_5, u507_6, u507_7, u507_8, hl507_8, hi507_8⟩ := at_T147 HR0_4.out (rd l0_5 (ji31)) p507 q507
         obtain rfl : ad503 = ad507 := (by injection e507)
         replace u507_0 := hx_ HB u507_0
         replace u507_1 := hx_ HB u507_1
         replace u507_2 := hx_ HB u507_2
         replace u507_3 := hx_ HB u507_3
         replace u507_4 := hx_ HB u507_4
         replace u507_5 := hx_ HB u507_5
         replace u507_6 := hx_ HB u507_6
         replace u507_7 := hx_ HB u507_7
         replace u507_8 := hx_ HB u507_8
         have HR507_8 := A_ hi507_8
         have HC507_8 := A_ hl507_8
         clear hi507_8 hl507_8
         replace p507 := eq_true p507
         replace q507 := eq_true q507
         have p508 : 0 ≤ ((rd l0_5 x24_2) : Int) := od_
         have q508 : (rd l0_5 x24_2) < (l0_4.length : Int) := od_
         obtain ⟨ad508, A508_8, c508_8, e508, u508_0, u508_1, u508_2, u508_3, u508_4, u508_5, u508_6, u508_7, u508_8, hl508_8, hi508_8⟩ := at_T147 HR0_4.out (rd l0_5 x24_2) p508 q508
         obtain rfl : ad503 = ad508 := (by injection e508)
         replace u508_0 := hx_ HB u508_0
         replace u508_1 := hx_ HB u508_1
         replace u508_2 := hx_ HB u508_2
         replace u508_3 := hx_ HB u508_3
         replace u508_4 := hx_ HB u508_4
         replace u508_5 := hx_ HB u508_5
         replace u508_6 := hx_ HB u508_6
         replace u508_7 := hx_ HB u508_7
         replace u508_8 := hx_ HB u508_8
         have HR508_8 := A_ hi508_8
         have HC508_8 := A_ hl508_8
         clear hi508_8 hl508_8
         replace p508 := eq_true p508
         replace q508 := eq_true q508
         have ea_ := Option.some.inj (u503_8.symm.trans u508_8)
         injection ea_ with ea_ en_ ec_
         subst ea_
         subst ec_
         clear en_
         have HLN_ : Aside0 ((l0_5.take (x24_2 : Int).toNat).length = x24_2.toNat) := ⟨by have h_ : x24_2 < (l0_5.length : Int) := od_; rw [List.length_take]; omega⟩
         iterate 5 (try go_wp2_with (first | (go_at_call 62; (with_reducible refine (impl_from.calls (rd l0_5 x24_2) 0 (wrap64 ((l0_4.length : Int) - 1)) true _ A18.out).mono ?_); rintro e w' ⟨rfl, ⟨nd, rfl⟩⟩; (try exact dd_)) | (go_at_call 161; (with_reducible refine (slices_Contains_int_int.calls_n x24_2.toNat k2 _ _ (l0_5.take (x24_2 : Int).toNat) (rd l0_5 x24_2) false _ ?s1 ?s2 A26.out HLN_.out).mono ?_); (case s1 => exact cb_ (Kd.C_below HR504.out (hb_ HB))); (case s2 => exact HC504.out); rintro e w' ⟨rfl, ⟨nd, rfl⟩⟩; (try exact dd_))); try go_quiet (first | (go_at_call 62; (with_reducible refine (impl_from.calls (rd l0_5 x24_2) 0 (wrap64 ((l0_4.length : Int) - 1)) true _ A18.out).mono ?_); rintro e w' ⟨rfl, ⟨nd, rfl⟩⟩; (try exact dd_)) | (go_at_call 161; (with_reducible refine (slices_Contains_int_int.calls_n x24_2.toNat k2 _ _ (l0_5.take (x24_2 : Int).toNat) (rd l0_5 x24_2) false _ ?s1 ?s2 A26.out HLN_.out).mono ?_); (case s1 => exact cb_ (Kd.C_below HR504.out (hb_ HB))); (case s2 => exact HC504.out); rintro e w' ⟨rfl, ⟨nd, rfl⟩⟩; (try exact dd_))))
         go_roundg k2
         case measure => have := HK1.out; have := HK2.out; omega
         case rel => exact ⟨(wrap64 (x24_2 + 1)), rt_, H', ⟨by have := HK1.out; have := HK2.out; omega⟩, ⟨bk_ BK498⟩, ⟨hb_ HB⟩⟩
        replace H' := A_ H; clear H
        obtain ⟨ad501, p501, q501, rfl, u501_0⟩ := ab_int HB HR0_5 x24_2
        obtain ⟨z41_0, z41_1, z41_2, z41_3, z41_4, z41_5, z41_6, z41_7, y41_0, y41_1, y41_2, y41_3, y41_4, y41_5, y41_6, y41_7⟩ := cz8_ BK498
        obtain ⟨ad503, A503_8, c503_8, p503, q503, rfl, u503_0, u503_1, u503_2, u503_3, u503_4, u503_5, u503_6, u503_7, u503_8, HC503_8, HR503_8⟩ := ab_T147 HB HR0_4 (rd l0_5 x24_2)
        obtain ⟨i042, hi042, _, hsz42, _⟩ := info_parts info3
        obtain ⟨hcut42, hA42, hC42⟩ := print_take_of (P := Tryz.prog) (Value.int .i64) 0 29 3 .i64 Tryz.underlying29 hi042 hsz42 (some ad501) c0_5 l0_5 x24_2 (od_) (od_) HC0_5.out
        have HR504 := A_ (Kd.C_of_reads (h1 := fun _ => rfl) (hA42 _ (Kd.reads_of_C HR0_5.out)))
        have HC504 := A_ hC42
        clear hA42 hC42 hi042 hsz42
        have HLN_ : Aside0 ((l0_5.take (x24_2 : Int).toNat).length = x24_2.toNat) := ⟨by have h_ : x24_2 < (l0_5.length : Int) := od_; rw [List.length_take]; omega⟩
        iterate 5 (try go_wp2_with (first | (go_at_call 62; (with_reducible refine (impl_from.calls (rd l0_5 x24_2) 0 (wrap64 ((l0_4.length : Int) - 1)) true _ A18.out).mono ?_); rintro e w' ⟨rfl, ⟨nd, rfl⟩⟩; (try exact dd_)) | (go_at_call 161; (with_reducible refine (slices_Contains_int_int.calls_n x24_2.toNat k2 _ _ (l0_5.take (x24_2 : Int).toNat) (rd l0_5 x24_2) false _ ?s1 ?s2 A26.out HLN_.out).mono ?_); (case s1 => exact cb_ (Kd.C_below HR504.out (hb_ HB))); (case s2 => exact HC504.out); rintro e w' ⟨rfl, ⟨nd, rfl⟩⟩; (try exact dd_))); try go_quiet (first | (go_at_call 62; (with_reducible refine (impl_from.calls (rd l0_5 x24_2) 0 (wrap64 ((l0_4.length : Int) - 1)) true _ A18.out).mono ?_); rintro e w' ⟨rfl, ⟨nd, rfl⟩⟩; (try exact dd_)) | (go_at_call 161; (with_reducible refine (slices_Contains_int_int.calls_n x24_2.toNat k2 _ _ (l0_5.take (x24_2 : Int).toNat) (rd l0_5 x24_2) false _ ?s1 ?s2 A26.out HLN_.out).mono ?_); (case s1 => exact cb_ (Kd.C_below HR504.out (hb_ HB))); (case s2 => exact HC504.out); rintro e w' ⟨rfl, ⟨nd, rfl⟩⟩; (try exact dd_))))
        go_roundg k2
        case measure => have := HK1.out; have := HK2.out; omega
        case rel => exact ⟨(wrap64 (x24_2 + 1)), rt_, H', ⟨by have := HK1.out; have := HK2.out; omega⟩, ⟨bk_ BK498⟩, ⟨hb_ HB⟩⟩
       rw [if_neg c25] at H
       exact absurd H (by simp)
      obtain rfl := Bool.eq_false_iff.mpr c19
      replace H := iF_ H
      obtain rfl := Option.some.inj H
      obtain ⟨ad501, p501, q501, rfl, u501_0⟩ := ab_int HB HR0_5 x24_2
      obtain ⟨z43_0, z43_1, z43_2, z43_3, z43_4, z43_5, z43_6, z43_7, y43_0, y43_1, y43_2, y43_3, y43_4, y43_5, y43_6, y43_7⟩ := cz8_ BK498
      iterate 5 (try go_wp2_with (first | (go_at_call 62; (with_reducible refine (impl_from.calls (rd l0_5 x24_2) 0 (wrap64 ((l0_4.length : Int) - 1)) false _ A18.out).mono ?_); rintro e w' ⟨rfl, ⟨nd, rfl⟩⟩; (try exact dd_))); try go_quiet (first | (go_at_call 62; (with_reducible refine (impl_from.calls (rd l0_5 x24_2) 0 (wrap64 ((l0_4.length : Int) - 1)) false _ A18.out).mono ?_); rintro e w' ⟨rfl, ⟨nd, rfl⟩⟩; (try exact dd_))))
      go_ret
      exact ⟨rs_, hb_ HB⟩
     obtain rfl := Option.some.inj H
     obtain ⟨z44_0, z44_1, z44_2, z44_3, z44_4, z44_5, z44_6, z44_7, y44_0, y44_1, y44_2, y44_3, y44_4, y44_5, y44_6, y44_7⟩ := cz8_ BK498
     go_wp2
     repeat (go_quiet (fail); try go_wp2)
     go_ret
     exact ⟨rs_, hb_ HB⟩
def impl_MachineOkWhen.f (a0_0 : Int) (a0_1 : Int) (a0_2 : Int) (a0_3 : Int) (a0_4 : Int) (a0_5 : Int) (a0_6 : Int) (a0_7 : Int) (l0_8 : List Int) (a1 : Int) (a2 : Int) : Option (Bool) := if a1 = (-1) then (some true) else ((impl_from.f a1 a0_4 a2).bind fun t510 => (some t510))
set_option maxHeartbeats 8000000 in
set_option maxRecDepth 100000 in
theorem impl_MachineOkWhen.calls (a0_0 : Int) (a0_1 : Int) (a0_2 : Int) (a0_3 : Int) (a0_4 : Int) (a0_5 : Int) (a0_6 : Int) (a0_7 : Int) (A0_8 : Option Addr) (c0_8 : Nat) (l0_8 : List Int) (a1 : Int) (a2 : Int) (gw_ : Nat) (r : Bool) (w : World) (hcap : w.cell? ⟨gw_, 3, none⟩ = some (.int .i64 a2)) (hr0_8 : Kd.C (Kd.int .i64) w A0_8 l0_8.length l0_8) (hc0_8 : l0_8.length ≤ c0_8) (h : impl_MachineOkWhen.f a0_0 a0_1 a0_2 a0_3 a0_4 a0_5 a0_6 a0_7 l0_8 a1 a2 = some r) :
    Calls Tryz.prog 111 #[.agg #[.int .i64 a0_0, .int .i64 a0_1, .int .i64 a0_2, .int .i64 a0_3, .int .i64 a0_4, .int .i64 a0_5, .int .i64 a0_6, .int .i64 a0_7, .slice A0_8 l0_8.length c0_8], .int .i64 a1, .pointer (some ⟨gw_, 0, none⟩)] w fun e w' => e = .returned (.bool r) ∧ Below w.heap.size w w' := by
 have hu147 := Tryz.underlying147
 have HR0_8 := A_ hr0_8
 have HC0_8 := A_ hc0_8
 clear hr0_8 hc0_8
 have HB := A_ (Below.refl w.heap.size w)
 have H : (if a1 = (-1) then (some true) else ((impl_from.f a1 a0_4 a2).bind fun t510 => (some t510))) = some r := h
 clear h
 by_cases c4 : a1 = (-1)
 ·
  rw [if_pos c4] at H
  have c4b0 : (a1 == (-1)) = true := beq_iff_eq.mpr c4
  have c4b1 : (a1 != (-1)) = false := bne_eq_false_iff_eq.mpr c4
  clear c4
  obtain rfl := Option.some.inj H
  go_enter Tryz.func111, Tryz.ntmps111
  go_wp2_with (first | ((with_reducible refine gate_dst (N := 3) rfl ?_); refine box_event rfl (N := 3) rfl (cs := #[.int .i64 a0_0, .int .i64 a0_1, .int .i64 a0_2, .int .i64 a0_3, .int .i64 a0_4, .int .i64 a0_5, .int .i64 a0_6, .int .i64 a0_7, .slice A0_8 l0_8.length c0_8]) (t := 147) hr_ ?_; intro gb509 hg w5 hbox hb; have n0_ := hs_ HB hb; have n1_ := A_ hbox; have n2_ := gs_ HB hg; have n3_ := gs_ HB hg; clear HB; have HB := n0_; have hcap2_ := (HB.out.cell (World.block_lt_of_cell? w _ hcap)).trans hcap; have BK509 := n1_; have GW509 := n2_; have GE509 := n3_; clear n0_ n1_ n2_ n3_; clear hb hbox hg))
  go_ret
  exact ⟨rs_, hb_ HB⟩
 rw [if_neg c4] at H
 have c4b0 : (a1 == (-1)) = false := beq_eq_false_iff_ne.mpr c4
 have c4b1 : (a1 != (-1)) = true := bne_iff_ne.mpr c4
 replace H := bs_ H
 obtain ⟨t510, A6, H⟩ := H
 obtain rfl := Option.some.inj H
 go_enter Tryz.func111, Tryz.ntmps111
 go_wp2_with (first | ((with_reducible refine gate_dst (N := 3) rfl ?_); refine box_event rfl (N := 3) rfl (cs := #[.int .i64 a0_0, .int .i64 a0_1, .int .i64 a0_2, .int .i64 a0_3, .int .i64 a0_4, .int .i64 a0_5, .int .i64 a0_6, .int .i64 a0_7, .slice A0_8 l0_8.length c0_8]) (t := 147) hr_ ?_; intro gb509 hg w7 hbox hb; have n0_ := hs_ HB hb; have n1_ := A_ hbox; have n2_ := gs_ HB hg; have n3_ := gs_ HB hg; clear HB; have HB := n0_; have hcap2_ := (HB.out.cell (World.block_lt_of_cell? w _ hcap)).trans hcap; have BK509 := n1_; have GW509 := n2_; have GE509 := n3_; clear n0_ n1_ n2_ n3_; clear hb hbox hg; obtain ⟨z8_0, z8_1, z8_2, z8_3, z8_4, z8_5, z8_6, z8_7, z8_8, y8_0, y8_1, y8_2, y8_3, y8_4, y8_5, y8_6, y8_7, y8_8⟩ := cz9_ BK509) | (go_at_call 62; (with_reducible refine (impl_from.calls a1 a0_4 a2 t510 _ A6.out).mono ?_); rintro e w' ⟨rfl, ⟨nd, rfl⟩⟩))
 go_ret
 exact ⟨rs_, hb_ HB⟩
end Go.Proofs.YtdcinhpdpoodfaaGreat.PFnExactFinished
