/- Contracts of functions of the program. No condition beyond the hypotheses that each theorem names. -/
import Derived.Test.YtdcinhpdpoodfaaGreatPFnExactFinishedx0
import Derived.Test.YtdcinhpdpoodfaaGreatPFnExactFinishedx15
import Derived.Test.YtdcinhpdpoodfaaGreatPFnExactFinishedx17
namespace Go.Proofs.YtdcinhpdpoodfaaGreat.PFnExactFinished
open Go.RowKit Go.Proofs.YtdcinhpdpoodfaaGreatW.PrintWords Go.Proofs.YtdcinhpdpoodfaaGreatW.PrintLast Go.Proofs.YtdcinhpdpoodfaaGreatW.PrintMore
attribute [local go_sem] max2_int min2_int max_two min_two max_three min_three max_four min_four
set_option linter.unusedVariables false
set_option linter.unusedSimpArgs false
def slices_IndexFuncThreadOk_c2.l0 : Nat → List (S125) → Int → Int → Option (Int)
 | 0, _, _, _ => none
 | k + 1, x0, x7, x8 => if x8 < x7 then (if 0 ≤ x8 then (if x8 < (x0.length : Int) then ((impl_ThreadOk_c2.f ((rd_T125 x0 x8).f0) ((rd_T125 x0 x8).f1)).bind fun t467 => (if t467 = true then (some x8) else (slices_IndexFuncThreadOk_c2.l0 k x0 x7 (wrap64 (x8 + 1))))) else (none)) else (none)) else (some (-1))
def slices_IndexFuncThreadOk_c2.f (k : Nat) (l0 : List (S125)) : Option (Int) := slices_IndexFuncThreadOk_c2.l0 k l0 (l0.length : Int) 0
set_option maxHeartbeats 8000000 in
set_option maxRecDepth 100000 in
theorem slices_IndexFuncThreadOk_c2.calls (k : Nat) (A0 : Option Addr) (c0 : Nat) (l0 : List (S125)) (r : Int) (w : World) (hr0 : Kd.C k125 w A0 l0.length l0) (hc0 : l0.length ≤ c0) (h : slices_IndexFuncThreadOk_c2.f k l0 = some r) :
    Calls Tryz.prog 143 #[.slice A0 l0.length c0, .func (.func 90) #[] #[]] w fun e w' => e = .returned (.int .i64 r) ∧ Below w.heap.size w w' := by
 have hu125 := Tryz.underlying125
 have HR0 := A_ hr0
 have HC0 := A_ hc0
 clear hr0 hc0
 have HB := A_ (Below.refl w.heap.size w)
 have H : (slices_IndexFuncThreadOk_c2.l0 k l0 (l0.length : Int) 0) = some r := h
 clear h
 replace H' := A_ H; clear H
 go_enter Tryz.func143, Tryz.ntmps143
 go_wp2
 go_loopg [8] k (fun kq v8 w' => ∃ (x8_1 : Int), v8 = .int .i64 x8_1 ∧ Aside0 (slices_IndexFuncThreadOk_c2.l0 kq l0 (l0.length : Int) x8_1 = some r) ∧ Aside0 (kq ≤ k) ∧ Aside0 (Below w.heap.size w w'))
 case atStart => exact ⟨(0), rt_, H', ⟨Nat.le_refl _⟩, ⟨hb_ HB⟩⟩
 case round =>
  clear H'
  obtain ⟨x8_1, rfl, HA, HK1, HB⟩ := hrel
  cases gk with
  | zero => exact absurd HA.out (by simp [slices_IndexFuncThreadOk_c2.l0])
  | succ k1 =>
   have H := HA.out
   clear HA
   simp only [slices_IndexFuncThreadOk_c2.l0] at H
   replace H := ic_ H
   rcases H with ⟨c2b0, H⟩ | ⟨c2b0, H⟩
   ·
    replace H := ix_ H
    obtain ⟨c3b0, H⟩ := H
    replace H := ix_ H
    obtain ⟨c4b0, H⟩ := H
    replace H := bs_ H
    obtain ⟨t467, A5, H⟩ := H
    by_cases c6 : t467 = true
    ·
     subst c6
     replace H := it_ H
     obtain rfl := Option.some.inj H
     obtain ⟨ad466, p466, q466, rfl, u466_0, u466_1⟩ := ab_T125 HB HR0 x8_1
     go_wp2_with (first | ((with_reducible refine gate_dst (N := 16) rfl ?_); refine goesV_ (c := .tmp 11) (some 16) rfl rfl Tryz.func90 (by kernel_rfl) rfl #[.agg #[.int .i64 ((rd_T125 l0 x8_1).f0), .int .i64 ((rd_T125 l0 x8_1).f1)]] rfl rfl al_ ?_; (with_reducible refine (impl_ThreadOk_c2.calls ((rd_T125 l0 x8_1).f0) ((rd_T125 l0 x8_1).f1) true _ A5.out).mono ?_); rintro e w7 ⟨rfl, hb⟩; refine ⟨_, rfl, ?_⟩; replace HB := hs_ HB hb; clear hb))
     go_ret
     exact ⟨rs_, hb_ HB⟩
    obtain rfl := Bool.eq_false_iff.mpr c6
    replace H := iF_ H
    replace H' := A_ H; clear H
    obtain ⟨ad466, p466, q466, rfl, u466_0, u466_1⟩ := ab_T125 HB HR0 x8_1
    go_wp2_with (first | ((with_reducible refine gate_dst (N := 16) rfl ?_); refine goesV_ (c := .tmp 11) (some 16) rfl rfl Tryz.func90 (by kernel_rfl) rfl #[.agg #[.int .i64 ((rd_T125 l0 x8_1).f0), .int .i64 ((rd_T125 l0 x8_1).f1)]] rfl rfl al_ ?_; (with_reducible refine (impl_ThreadOk_c2.calls ((rd_T125 l0 x8_1).f0) ((rd_T125 l0 x8_1).f1) false _ A5.out).mono ?_); rintro e w8 ⟨rfl, hb⟩; refine ⟨_, rfl, ?_⟩; replace HB := hs_ HB hb; clear hb))
    go_roundg k1
    case measure => have := HK1.out; omega
    case rel => exact ⟨(wrap64 (x8_1 + 1)), rt_, H', ⟨by have := HK1.out; omega⟩, ⟨hb_ HB⟩⟩
   obtain rfl := Option.some.inj H
   go_wp2
   go_ret
   exact ⟨rs_, hb_ HB⟩
def slices_ContainsFuncThreadOk_c2.f (k : Nat) (l0 : List (S125)) : Option (Bool) := (slices_IndexFuncThreadOk_c2.f k l0).bind fun t468 => (some (decide (t468 ≥ 0)))
set_option maxHeartbeats 8000000 in
set_option maxRecDepth 100000 in
theorem slices_ContainsFuncThreadOk_c2.calls (k : Nat) (A0 : Option Addr) (c0 : Nat) (l0 : List (S125)) (r : Bool) (w : World) (hr0 : Kd.C k125 w A0 l0.length l0) (hc0 : l0.length ≤ c0) (h : slices_ContainsFuncThreadOk_c2.f k l0 = some r) :
    Calls Tryz.prog 89 #[.slice A0 l0.length c0, .func (.func 90) #[] #[]] w fun e w' => e = .returned (.bool r) ∧ Below w.heap.size w w' := by
 have HR0 := A_ hr0
 have HC0 := A_ hc0
 clear hr0 hc0
 have HB := A_ (Below.refl w.heap.size w)
 have H : ((slices_IndexFuncThreadOk_c2.f k l0).bind fun t468 => (some (decide (t468 ≥ 0)))) = some r := h
 clear h
 replace H := bs_ H
 obtain ⟨t468, A2, H⟩ := H
 obtain rfl := Option.some.inj H
 go_enter Tryz.func89, Tryz.ntmps89
 go_wp2_with (first | ((with_reducible refine gate_callee (f := 143) rfl ?_); refine goesL_ (some 7) rfl rfl Tryz.func143 (by kernel_rfl) rfl #[.slice A0 l0.length c0, .func (.func 90) #[] #[]] rfl al_ ?_; (with_reducible refine (slices_IndexFuncThreadOk_c2.calls k _ _ l0 t468 _ ?s1 ?s2 A2.out).mono ?_); (case s1 => exact cb_ HR0.out); (case s2 => exact HC0.out); rintro e w3 ⟨rfl, hb⟩; refine ⟨_, rfl, ?_⟩; replace HB := hs_ HB hb; clear hb))
 go_ret
 exact ⟨rs_, hb_ HB⟩
def impl_ThreadOk_c3.f (a0_0 : Int) (a0_1 : Int) (a0_2 : Int) (a0_3 : Int) (a1 : Int) : Option (Bool) := (impl_from.f a0_0 0 (wrap64 (a1 - 1))).bind fun t470 => (if t470 = true then ((impl_from.f a0_1 1 1000000).bind fun t471 => (if t471 = true then ((impl_from.f a0_2 0 20).bind fun t472 => (if t472 = true then ((impl_from.f a0_3 0 20).bind fun t473 => (some (!t473))) else (some true))) else (some true))) else (some true))
set_option maxHeartbeats 8000000 in
set_option maxRecDepth 100000 in
theorem impl_ThreadOk_c3.calls (a0_0 : Int) (a0_1 : Int) (a0_2 : Int) (a0_3 : Int) (a1 : Int) (ad_ : Addr) (r : Bool) (w : World) (hcap : w.cell? ad_ = some (.int .i64 a1)) (h : impl_ThreadOk_c3.f a0_0 a0_1 a0_2 a0_3 a1 = some r) :
    Calls Tryz.prog 94 #[.agg #[.int .i64 a0_0, .int .i64 a0_1, .int .i64 a0_2, .int .i64 a0_3], .pointer (some ad_)] w fun e w' => e = .returned (.bool r) ∧ Below w.heap.size w w' := by
 have hu42 := Tryz.underlying42
 have HB := A_ (Below.refl w.heap.size w)
 have H : ((impl_from.f a0_0 0 (wrap64 (a1 - 1))).bind fun t470 => (if t470 = true then ((impl_from.f a0_1 1 1000000).bind fun t471 => (if t471 = true then ((impl_from.f a0_2 0 20).bind fun t472 => (if t472 = true then ((impl_from.f a0_3 0 20).bind fun t473 => (some (!t473))) else (some true))) else (some true))) else (some true))) = some r := h
 clear h
 replace H := bs_ H
 obtain ⟨t470, A3, H⟩ := H
 by_cases c4 : t470 = true
 ·
  subst c4
  replace H := it_ H
  replace H := bs_ H
  obtain ⟨t471, A5, H⟩ := H
  by_cases c6 : t471 = true
  ·
   subst c6
   replace H := it_ H
   replace H := bs_ H
   obtain ⟨t472, A7, H⟩ := H
   by_cases c8 : t472 = true
   ·
    subst c8
    replace H := it_ H
    replace H := bs_ H
    obtain ⟨t473, A9, H⟩ := H
    obtain rfl := Option.some.inj H
    go_enter Tryz.func94, Tryz.ntmps94
    go_wp2_with (first | ((with_reducible refine gate_dst (N := 2) rfl ?_); refine box_event rfl (N := 2) rfl (cs := #[.int .i64 a0_0, .int .i64 a0_1, .int .i64 a0_2, .int .i64 a0_3]) (t := 42) hr_ ?_; intro gb469 hg w10 hbox hb; have n0_ := hs_ HB hb; have n1_ := A_ hbox; have n2_ := gs_ HB hg; have n3_ := gs_ HB hg; clear HB; have HB := n0_; have hcap2_ := (HB.out.cell (World.block_lt_of_cell? w _ hcap)).trans hcap; have BK469 := n1_; have GW469 := n2_; have GE469 := n3_; clear n0_ n1_ n2_ n3_; clear hb hbox hg; obtain ⟨z11_0, z11_1, z11_2, z11_3, y11_0, y11_1, y11_2, y11_3⟩ := cz4_ BK469) | ((with_reducible refine gate_callee (f := 62) rfl ?_); refine Y72_ ?_; intro nd) | (go_at_call 62; (with_reducible refine (impl_from.calls a0_1 1 1000000 true _ A5.out).mono ?_); rintro e w' ⟨rfl, ⟨nd, rfl⟩⟩) | (go_at_call 62; (with_reducible refine (impl_from.calls a0_2 0 20 true _ A7.out).mono ?_); rintro e w' ⟨rfl, ⟨nd, rfl⟩⟩) | (go_at_call 62; (with_reducible refine (impl_from.calls a0_3 0 20 t473 _ A9.out).mono ?_); rintro e w' ⟨rfl, ⟨nd, rfl⟩⟩))
    go_ret
    exact ⟨rs_, hb_ HB⟩
   obtain rfl := Bool.eq_false_iff.mpr c8
   replace H := iF_ H
   obtain rfl := Option.some.inj H
   go_enter Tryz.func94, Tryz.ntmps94
   go_wp2_with (first | ((with_reducible refine gate_dst (N := 2) rfl ?_); refine box_event rfl (N := 2) rfl (cs := #[.int .i64 a0_0, .int .i64 a0_1, .int .i64 a0_2, .int .i64 a0_3]) (t := 42) hr_ ?_; intro gb469 hg w12 hbox hb; have n0_ := hs_ HB hb; have n1_ := A_ hbox; have n2_ := gs_ HB hg; have n3_ := gs_ HB hg; clear HB; have HB := n0_; have hcap2_ := (HB.out.cell (World.block_lt_of_cell? w _ hcap)).trans hcap; have BK469 := n1_; have GW469 := n2_; have GE469 := n3_; clear n0_ n1_ n2_ n3_; clear hb hbox hg; obtain ⟨z13_0, z13_1, z13_2, z13_3, y13_0, y13_1, y13_2, y13_3⟩ := cz4_ BK469) | ((with_reducible refine gate_callee (f := 62) rfl ?_); refine Y72_ ?_; intro nd) | (go_at_call 62; (with_reducible refine (impl_from.calls a0_1 1 1000000 true _ A5.out).mono ?_); rintro e w' ⟨rfl, ⟨nd, rfl⟩⟩) | (go_at_call 62; (with_reducible refine (impl_from.calls a0_2 0 20 false _ A7.out).mono ?_); rintro e w' ⟨rfl, ⟨nd, rfl⟩⟩))
   go_ret
   exact ⟨rs_, hb_ HB⟩
  obtain rfl := Bool.eq_false_iff.mpr c6
  replace H := iF_ H
  obtain rfl := Option.some.inj H
  go_enter Tryz.func94, Tryz.ntmps94
  go_wp2_with (first | ((with_reducible refine gate_dst (N := 2) rfl ?_); refine box_event rfl (N := 2) rfl (cs := #[.int .i64 a0_0, .int .i64 a0_1, .int .i64 a0_2, .int .i64 a0_3]) (t := 42) hr_ ?_; intro gb469 hg w14 hbox hb; have n0_ := hs_ HB hb; have n1_ := A_ hbox; have n2_ := gs_ HB hg; have n3_ := gs_ HB hg; clear HB; have HB := n0_; have hcap2_ := (HB.out.cell (World.block_lt_of_cell? w _ hcap)).trans hcap; have BK469 := n1_; have GW469 := n2_; have GE469 := n3_; clear n0_ n1_ n2_ n3_; clear hb hbox hg; obtain ⟨z15_0, z15_1, z15_2, z15_3, y15_0, y15_1, y15_2, y15_3⟩ := cz4_ BK469) | ((with_reducible refine gate_callee (f := 62) rfl ?_); refine Y72_ ?_; intro nd) | (go_at_call 62; (with_reducible refine (impl_from.calls a0_1 1 1000000 false _ A5.out).mono ?_); rintro e w' ⟨rfl, ⟨nd, rfl⟩⟩))
  go_ret
  exact ⟨rs_, hb_ HB⟩
 obtain rfl := Bool.eq_false_iff.mpr c4
 replace H := iF_ H
 obtain rfl := Option.some.inj H
 go_enter Tryz.func94, Tryz.ntmps94
 go_wp2_with (first | ((with_reducible refine gate_dst (N := 2) rfl ?_); refine box_event rfl (N := 2) rfl (cs := #[.int .i64 a0_0, .int .i64 a0_1, .int .i64 a0_2, .int .i64 a0_3]) (t := 42) hr_ ?_; intro gb469 hg w16 hbox hb; have n0_ := hs_ HB hb; have n1_ := A_ hbox; have n2_ := gs_ HB hg; have n3_ := gs_ HB hg; clear HB; have HB := n0_; have hcap2_ := (HB.out.cell (World.block_lt_of_cell? w _ hcap)).trans hcap; have BK469 := n1_; have GW469 := n2_; have GE469 := n3_; clear n0_ n1_ n2_ n3_; clear hb hbox hg; obtain ⟨z17_0, z17_1, z17_2, z17_3, y17_0, y17_1, y17_2, y17_3⟩ := cz4_ BK469) | ((with_reducible refine gate_callee (f := 62) rfl ?_); refine goesL_ (some 8) rfl rfl Tryz.func62 (by kernel_rfl) rfl #[.int .i64 a0_0, .int .i64 0, .int .i64 (wrap64 (a1 - 1))] rfl al_ ?_; (with_reducible refine (impl_from.calls a0_0 0 (wrap64 (a1 - 1)) false _ A3.out).mono ?_); rintro e w' ⟨rfl, ⟨nd, rfl⟩⟩; refine ⟨_, rfl, ?_⟩))
 go_ret
 exact ⟨rs_, hb_ HB⟩
def slices_IndexFuncThreadOk_c3.l0 : Nat → List (S42) → Int → Int → Int → Option (Int)
 | 0, _, _, _, _ => none
 | k + 1, x0, x1, x7, x8 => if x8 < x7 then (if 0 ≤ x8 then (if x8 < (x0.length : Int) then ((impl_ThreadOk_c3.f ((rd_T42 x0 x8).f0) ((rd_T42 x0 x8).f1) ((rd_T42 x0 x8).f2) ((rd_T42 x0 x8).f3) x1).bind fun t475 => (if t475 = true then (some x8) else (slices_IndexFuncThreadOk_c3.l0 k x0 x1 x7 (wrap64 (x8 + 1))))) else (none)) else (none)) else (some (-1))
def slices_IndexFuncThreadOk_c3.f (k : Nat) (l0 : List (S42)) (a1 : Int) : Option (Int) := slices_IndexFuncThreadOk_c3.l0 k l0 a1 (l0.length : Int) 0
set_option maxHeartbeats 8000000 in
set_option maxRecDepth 100000 in
theorem slices_IndexFuncThreadOk_c3.calls (k : Nat) (A0 : Option Addr) (c0 : Nat) (l0 : List (S42)) (a1 : Int) (ad_ : Addr) (r : Int) (w : World) (hcap : w.cell? ad_ = some (.int .i64 a1)) (hr0 : Kd.C k42 w A0 l0.length l0) (hc0 : l0.length ≤ c0) (h : slices_IndexFuncThreadOk_c3.f k l0 a1 = some r) :
    Calls Tryz.prog 144 #[.slice A0 l0.length c0, .func (.func 94) #[] #[.pointer (some ad_)]] w fun e w' => e = .returned (.int .i64 r) ∧ Below w.heap.size w w' := by
 have hu42 := Tryz.underlying42
 have HR0 := A_ hr0
 have HC0 := A_ hc0
 clear hr0 hc0
 have HB := A_ (Below.refl w.heap.size w)
 have H : (slices_IndexFuncThreadOk_c3.l0 k l0 a1 (l0.length : Int) 0) = some r := h
 clear h
 replace H' := A_ H; clear H
 go_enter Tryz.func144, Tryz.ntmps144
 go_wp2
 go_loopg [8] k (fun kq v8 w' => ∃ (x8_1 : Int), v8 = .int .i64 x8_1 ∧ Aside0 (slices_IndexFuncThreadOk_c3.l0 kq l0 a1 (l0.length : Int) x8_1 = some r) ∧ Aside0 (kq ≤ k) ∧ Aside0 (Below w.heap.size w w'))
 case atStart => exact ⟨(0), rt_, H', ⟨Nat.le_refl _⟩, ⟨hb_ HB⟩⟩
 case round =>
  clear H'
  obtain ⟨x8_1, rfl, HA, HK1, HB⟩ := hrel
  cases gk with
  | zero => exact absurd HA.out (by simp [slices_IndexFuncThreadOk_c3.l0])
  | succ k1 =>
   have H := HA.out
   clear HA
   simp only [slices_IndexFuncThreadOk_c3.l0] at H
   replace H := ic_ H
   rcases H with ⟨c3b0, H⟩ | ⟨c3b0, H⟩
   ·
    replace H := ix_ H
    obtain ⟨c4b0, H⟩ := H
    replace H := ix_ H
    obtain ⟨c5b0, H⟩ := H
    replace H := bs_ H
    obtain ⟨t475, A6, H⟩ := H
    by_cases c7 : t475 = true
    ·
     subst c7
     replace H := it_ H
     obtain rfl := Option.some.inj H
     obtain ⟨ad474, p474, q474, rfl, u474_0, u474_1, u474_2, u474_3⟩ := ab_T42 HB HR0 x8_1
     go_wp2_with (first | ((with_reducible refine gate_dst (N := 16) rfl ?_); refine goesW_ (c := .tmp 11) (some 16) rfl rfl Tryz.func94 (by kernel_rfl) rfl #[.pointer (some ad_)] #[.agg #[.int .i64 ((rd_T42 l0 x8_1).f0), .int .i64 ((rd_T42 l0 x8_1).f1), .int .i64 ((rd_T42 l0 x8_1).f2), .int .i64 ((rd_T42 l0 x8_1).f3)], .pointer (some ad_)] rfl rfl (by (try simp only [List.map_toArray, List.map_cons, List.map_nil]); first | done | rfl) ?_; (with_reducible refine (impl_ThreadOk_c3.calls ((rd_T42 l0 x8_1).f0) ((rd_T42 l0 x8_1).f1) ((rd_T42 l0 x8_1).f2) ((rd_T42 l0 x8_1).f3) a1 ad_ true _ ?cap_ A6.out).mono ?_); (case cap_ => exact (HB.out.cell (World.block_lt_of_cell? w _ hcap)).trans hcap); rintro e w8 ⟨rfl, hb⟩; refine ⟨_, rfl, ?_⟩; replace HB := hs_ HB hb; clear hb))
     go_ret
     exact ⟨rs_, hb_ HB⟩
    obtain rfl := Bool.eq_false_iff.mpr c7
    replace H := iF_ H
    replace H' := A_ H; clear H
    obtain ⟨ad474, p474, q474, rfl, u474_0, u474_1, u474_2, u474_3⟩ := ab_T42 HB HR0 x8_1
    go_wp2_with (first | ((with_reducible refine gate_dst (N := 16) rfl ?_); refine goesW_ (c := .tmp 11) (some 16) rfl rfl Tryz.func94 (by kernel_rfl) rfl #[.pointer (some ad_)] #[.agg #[.int .i64 ((rd_T42 l0 x8_1).f0), .int .i64 ((rd_T42 l0 x8_1).f1), .int .i64 ((rd_T42 l0 x8_1).f2), .int .i64 ((rd_T42 l0 x8_1).f3)], .pointer (some ad_)] rfl rfl (by (try simp only [List.map_toArray, List.map_cons, List.map_nil]); first | done | rfl) ?_; (with_reducible refine (impl_ThreadOk_c3.calls ((rd_T42 l0 x8_1).f0) ((rd_T42 l0 x8_1).f1) ((rd_T42 l0 x8_1).f2) ((rd_T42 l0 x8_1).f3) a1 ad_ false _ ?cap_ A6.out).mono ?_); (case cap_ => exact (HB.out.cell (World.block_lt_of_cell? w _ hcap)).trans hcap); rintro e w9 ⟨rfl, hb⟩; refine ⟨_, rfl, ?_⟩; replace HB := hs_ HB hb; clear hb))
    go_roundg k1
    case measure => have := HK1.out; omega
    case rel => exact ⟨(wrap64 (x8_1 + 1)), rt_, H', ⟨by have := HK1.out; omega⟩, ⟨hb_ HB⟩⟩
   obtain rfl := Option.some.inj H
   go_wp2
   go_ret
   exact ⟨rs_, hb_ HB⟩
def slices_ContainsFuncThreadOk_c3.f (k : Nat) (l0 : List (S42)) (a1 : Int) : Option (Bool) := (slices_IndexFuncThreadOk_c3.f k l0 a1).bind fun t476 => (some (decide (t476 ≥ 0)))
set_option maxHeartbeats 8000000 in
set_option maxRecDepth 100000 in
theorem slices_ContainsFuncThreadOk_c3.calls (k : Nat) (A0 : Option Addr) (c0 : Nat) (l0 : List (S42)) (a1 : Int) (ad_ : Addr) (r : Bool) (w : World) (hcap : w.cell? ad_ = some (.int .i64 a1)) (hr0 : Kd.C k42 w A0 l0.length l0) (hc0 : l0.length ≤ c0) (h : slices_ContainsFuncThreadOk_c3.f k l0 a1 = some r) :
    Calls Tryz.prog 93 #[.slice A0 l0.length c0, .func (.func 94) #[] #[.pointer (some ad_)]] w fun e w' => e = .returned (.bool r) ∧ Below w.heap.size w w' := by
 have HR0 := A_ hr0
 have HC0 := A_ hc0
 clear hr0 hc0
 have HB := A_ (Below.refl w.heap.size w)
 have H : ((slices_IndexFuncThreadOk_c3.f k l0 a1).bind fun t476 => (some (decide (t476 ≥ 0)))) = some r := h
 clear h
 replace H := bs_ H
 obtain ⟨t476, A3, H⟩ := H
 obtain rfl := Option.some.inj H
 go_enter Tryz.func93, Tryz.ntmps93
 go_wp2_with (first | ((with_reducible refine gate_callee (f := 144) rfl ?_); refine goesL_ (some 7) rfl rfl Tryz.func144 (by kernel_rfl) rfl #[.slice A0 l0.length c0, .func (.func 94) #[] #[.pointer (some ad_)]] rfl al_ ?_; (with_reducible refine (slices_IndexFuncThreadOk_c3.calls k _ _ l0 a1 ad_ t476 _ ?cap_ ?s1 ?s2 A3.out).mono ?_); (case cap_ => exact (HB.out.cell (World.block_lt_of_cell? w _ hcap)).trans hcap); (case s1 => exact cb_ HR0.out); (case s2 => exact HC0.out); rintro e w4 ⟨rfl, hb⟩; refine ⟨_, rfl, ?_⟩; replace HB := hs_ HB hb; clear hb))
 go_ret
 exact ⟨rs_, hb_ HB⟩
end Go.Proofs.YtdcinhpdpoodfaaGreat.PFnExactFinished
