/- Contracts of functions of the program: each says that the call does what a plain Lean function tells. Made by programs of this session and of the kit. No condition beyond the hypotheses that each theorem names. -/
import Derived.Test.YtmkhghbalnadlaaPFnExactMemNewx0
import Derived.Test.YtmkhghbalnadlaaPFnExactMemNewx8
namespace Go.Proofs.Ytmkhghbalnadlaa.PFnExactMemNew
open Go.RowKit Go.Proofs.YtmkhghbalnadlaaW.PrintWords Go.Proofs.YtmkhghbalnadlaaW.PrintLast Go.Proofs.YtmkhghbalnadlaaW.PrintMore
attribute [local go_sem] max2_int min2_int max_two min_two max_three min_three max_four min_four   -- for this text's walks alone
set_option linter.unusedVariables false
set_option linter.unusedSimpArgs false

/-! ### impl_DescOk: function 120 -/
def impl_DescOk.l0 : Nat → List (S122) → Int → Int → Int → Int → List (S122) → Int → List Int → Option (Bool)
 | 0, _, _, _, _, _, _, _, _ => none
 | k + 1, x31, x32, x33, x249000, x249001, x249002, x249003, x249004 => if x33 < x32 then (if 0 ≤ x33 then (if x33 < (x31.length : Int) then ((impl_isPlace.f ((rd_T122 x31 x33).f0)).bind fun t253 => (if t253 = true then ((impl_isWordNum.f ((rd_T122 x31 x33).f1)).bind fun t254 => (if t254 = true then ((impl_isWordNum.f ((rd_T122 x31 x33).f2)).bind fun t255 => (if t255 = true then (if x33 > 0 then (if 0 ≤ (wrap64 (x33 - 1)) then (if (wrap64 (x33 - 1)) < (x249002.length : Int) then (if ((rd_T122 x249002 (wrap64 (x33 - 1))).f0) ≥ ((rd_T122 x31 x33).f0) then (some false) else (impl_DescOk.l0 k x31 x32 (wrap64 (x33 + 1)) x249000 x249001 x249002 x249003 x249004)) else (none)) else (none)) else (impl_DescOk.l0 k x31 x32 (wrap64 (x33 + 1)) x249000 x249001 x249002 x249003 x249004)) else (some false))) else (some false))) else (some false))) else (none)) else (none)) else ((impl_from.f x249000 1 1000000).bind fun t249 => (if t249 = true then ((impl_from.f x249001 1 3).bind fun t250 => (if t250 = true then (some (decide ((x249002.length : Int) ≤ 20))) else (some false))) else (some false)))
def impl_DescOk.f (k : Nat) (a0_0 : Int) (a0_1 : Int) (l0_2 : List (S122)) (a0_3 : Int) (l0_4 : List Int) : Option (Bool) := if a0_0 = 0 then (if a0_1 = 0 then (if (l0_2.length : Int) = 0 then (if a0_3 = 0 then (some ((l0_4.length : Int) == 0)) else (some false)) else (some false)) else (some false)) else (impl_DescOk.l0 k l0_2 (l0_2.length : Int) 0 a0_0 a0_1 l0_2 a0_3 l0_4)
theorem impl_DescOk.mono_l : ∀ k, (∀ y0 y1 y2 y3 y4 y5 y6 y7, LeO (impl_DescOk.l0 k y0 y1 y2 y3 y4 y5 y6 y7) (impl_DescOk.l0 (k + 1) y0 y1 y2 y3 y4 y5 y6 y7))
 | 0 => fun _ _ _ _ _ _ _ _ r h => by simp [impl_DescOk.l0] at h
 | k + 1 => by
  have ih0 := impl_DescOk.mono_l k
  ·
   intro y0 y1 y2 y3 y4 y5 y6 y7
   unfold impl_DescOk.l0
   repeat' first | (with_reducible first | apply ih0 | apply LeO.refl | apply LeO.none | apply LeO.ite | refine LeO.bind ?_ (fun _ => ?_)) | apply ih0 | apply LeO.none | apply LeO.ite | refine LeO.bind ?_ (fun _ => ?_)
theorem impl_DescOk.mono : ∀ a0 a1 a2 a3 a4 k, LeO (impl_DescOk.f k a0 a1 a2 a3 a4) (impl_DescOk.f (k + 1) a0 a1 a2 a3 a4) := by
 intro a0 a1 a2 a3 a4 k
 have ih0 := impl_DescOk.mono_l k
 unfold impl_DescOk.f
 repeat' first | (with_reducible first | apply ih0 | apply LeO.refl | apply LeO.none | apply LeO.ite | refine LeO.bind ?_ (fun _ => ?_)) | apply ih0 | apply LeO.none | apply LeO.ite | refine LeO.bind ?_ (fun _ => ?_)
set_option maxHeartbeats 8000000 in
set_option maxRecDepth 100000 in
theorem impl_DescOk.calls (k : Nat) (a0_0 : Int) (a0_1 : Int) (A0_2 : Option Addr) (c0_2 : Nat) (l0_2 : List (S122)) (a0_3 : Int) (A0_4 : Option Addr) (c0_4 : Nat) (l0_4 : List Int) (r : Bool) (w : World) (hr0_2 : Kd.C k122 w A0_2 l0_2.length l0_2) (hc0_2 : l0_2.length ≤ c0_2) (hr0_4 : Kd.C (Kd.int .i64) w A0_4 l0_4.length l0_4) (hc0_4 : l0_4.length ≤ c0_4) (h : impl_DescOk.f k a0_0 a0_1 l0_2 a0_3 l0_4 = some r) :
    Calls Try.prog 120 #[.agg #[.int .i64 a0_0, .int .i64 a0_1, .slice A0_2 l0_2.length c0_2, .int .i64 a0_3, .slice A0_4 l0_4.length c0_4]] w fun e w' => e = .returned (.bool r) ∧ Below w.heap.size w w' := by
 have hu119 := Try.underlying119
 have hu122 := Try.underlying122
 have HR0_2 := A_ hr0_2
 have HC0_2 := A_ hc0_2
 clear hr0_2 hc0_2
 have HR0_4 := A_ hr0_4
 have HC0_4 := A_ hc0_4
 clear hr0_4 hc0_4
 have HB := A_ (Below.refl w.heap.size w)
 have H : (if a0_0 = 0 then (if a0_1 = 0 then (if (l0_2.length : Int) = 0 then (if a0_3 = 0 then (some ((l0_4.length : Int) == 0)) else (some false)) else (some false)) else (some false)) else (impl_DescOk.l0 k l0_2 (l0_2.length : Int) 0 a0_0 a0_1 l0_2 a0_3 l0_4)) = some r := h
 clear h
 by_cases c2 : a0_0 = 0
 ·
  rw [if_pos c2] at H
  have c2b0 : (a0_0 == 0) = true := beq_iff_eq.mpr c2
  have c2b1 : (a0_0 != 0) = false := bne_eq_false_iff_eq.mpr c2
  clear c2
  by_cases c3 : a0_1 = 0
  ·
   rw [if_pos c3] at H
   have c3b0 : (a0_1 == 0) = true := beq_iff_eq.mpr c3
   have c3b1 : (a0_1 != 0) = false := bne_eq_false_iff_eq.mpr c3
   clear c3
   by_cases c4 : (l0_2.length : Int) = 0
   ·
    rw [if_pos c4] at H
    have c4b0 : ((l0_2.length : Int) == 0) = true := beq_iff_eq.mpr c4
    have c4b1 : ((l0_2.length : Int) != 0) = false := bne_eq_false_iff_eq.mpr c4
    clear c4
    by_cases c5 : a0_3 = 0
    ·
     rw [if_pos c5] at H
     have c5b0 : (a0_3 == 0) = true := beq_iff_eq.mpr c5
     have c5b1 : (a0_3 != 0) = false := bne_eq_false_iff_eq.mpr c5
     clear c5
     obtain rfl := Option.some.inj H
     go_enter Try.func120, Try.ntmps120
     go_wp2_with (first | ((with_reducible refine gate_dst (N := 1) rfl ?_); (try (refine gate_guard (by rfl) ?_; dsimp only)); refine bx_ HB rfl (N := 1) rfl (cs := #[.int .i64 a0_0, .int .i64 a0_1, .slice A0_2 l0_2.length c0_2, .int .i64 a0_3, .slice A0_4 l0_4.length c0_4]) (t := 119) hr_ ?_; clear HB; intro gb248 w6 hg hb BK248 GW248 HB; clear hb hg; obtain ⟨hcz7_0, hcz7_1, hcz7_2, hcz7_3, hcz7_4, hfz7_0, hfz7_1, hfz7_2, hfz7_3, hfz7_4⟩ := cz5_ BK248))
     repeat (go_quiet (first | ((with_reducible refine gate_dst (N := 1) rfl ?_); (try (refine gate_guard (by rfl) ?_; dsimp only)); refine bx_ HB rfl (N := 1) rfl (cs := #[.int .i64 a0_0, .int .i64 a0_1, .slice A0_2 l0_2.length c0_2, .int .i64 a0_3, .slice A0_4 l0_4.length c0_4]) (t := 119) hr_ ?_; clear HB; intro gb248 w6 hg hb BK248 GW248 HB; clear hb hg; obtain ⟨hcz7_0, hcz7_1, hcz7_2, hcz7_3, hcz7_4, hfz7_0, hfz7_1, hfz7_2, hfz7_3, hfz7_4⟩ := cz5_ BK248)); try go_wp2_with (first | ((with_reducible refine gate_dst (N := 1) rfl ?_); (try (refine gate_guard (by rfl) ?_; dsimp only)); refine bx_ HB rfl (N := 1) rfl (cs := #[.int .i64 a0_0, .int .i64 a0_1, .slice A0_2 l0_2.length c0_2, .int .i64 a0_3, .slice A0_4 l0_4.length c0_4]) (t := 119) hr_ ?_; clear HB; intro gb248 w6 hg hb BK248 GW248 HB; clear hb hg; obtain ⟨hcz7_0, hcz7_1, hcz7_2, hcz7_3, hcz7_4, hfz7_0, hfz7_1, hfz7_2, hfz7_3, hfz7_4⟩ := cz5_ BK248)))
     go_ret
     exact ⟨rs_, hb_ HB⟩
    rw [if_neg c5] at H
    have c5b0 : (a0_3 == 0) = false := beq_eq_false_iff_ne.mpr c5
    have c5b1 : (a0_3 != 0) = true := bne_iff_ne.mpr c5
    obtain rfl := Option.some.inj H
    go_enter Try.func120, Try.ntmps120
    go_wp2_with (first | ((with_reducible refine gate_dst (N := 1) rfl ?_); (try (refine gate_guard (by rfl) ?_; dsimp only)); refine bx_ HB rfl (N := 1) rfl (cs := #[.int .i64 a0_0, .int .i64 a0_1, .slice A0_2 l0_2.length c0_2, .int .i64 a0_3, .slice A0_4 l0_4.length c0_4]) (t := 119) hr_ ?_; clear HB; intro gb248 w8 hg hb BK248 GW248 HB; clear hb hg; obtain ⟨hcz9_0, hcz9_1, hcz9_2, hcz9_3, hcz9_4, hfz9_0, hfz9_1, hfz9_2, hfz9_3, hfz9_4⟩ := cz5_ BK248))
    repeat (go_quiet (first | ((with_reducible refine gate_dst (N := 1) rfl ?_); (try (refine gate_guard (by rfl) ?_; dsimp only)); refine bx_ HB rfl (N := 1) rfl (cs := #[.int .i64 a0_0, .int .i64 a0_1, .slice A0_2 l0_2.length c0_2, .int .i64 a0_3, .slice A0_4 l0_4.length c0_4]) (t := 119) hr_ ?_; clear HB; intro gb248 w8 hg hb BK248 GW248 HB; clear hb hg; obtain ⟨hcz9_0, hcz9_1, hcz9_2, hcz9_3, hcz9_4, hfz9_0, hfz9_1, hfz9_2, hfz9_3, hfz9_4⟩ := cz5_ BK248)); try go_wp2_with (first | ((with_reducible refine gate_dst (N := 1) rfl ?_); (try (refine gate_guard (by rfl) ?_; dsimp only)); refine bx_ HB rfl (N := 1) rfl (cs := #[.int .i64 a0_0, .int .i64 a0_1, .slice A0_2 l0_2.length c0_2, .int .i64 a0_3, .slice A0_4 l0_4.length c0_4]) (t := 119) hr_ ?_; clear HB; intro gb248 w8 hg hb BK248 GW248 HB; clear hb hg; obtain ⟨hcz9_0, hcz9_1, hcz9_2, hcz9_3, hcz9_4, hfz9_0, hfz9_1, hfz9_2, hfz9_3, hfz9_4⟩ := cz5_ BK248)))
    go_ret
    exact ⟨rs_, hb_ HB⟩
   rw [if_neg c4] at H
   have c4b0 : ((l0_2.length : Int) == 0) = false := beq_eq_false_iff_ne.mpr c4
   have c4b1 : ((l0_2.length : Int) != 0) = true := bne_iff_ne.mpr c4
   have c4b2 : ¬ (l0_2 = []) := fun h_ => c4 (by rw [h_]; rfl)
   obtain rfl := Option.some.inj H
   go_enter Try.func120, Try.ntmps120
   go_wp2_with (first | ((with_reducible refine gate_dst (N := 1) rfl ?_); (try (refine gate_guard (by rfl) ?_; dsimp only)); refine bx_ HB rfl (N := 1) rfl (cs := #[.int .i64 a0_0, .int .i64 a0_1, .slice A0_2 l0_2.length c0_2, .int .i64 a0_3, .slice A0_4 l0_4.length c0_4]) (t := 119) hr_ ?_; clear HB; intro gb248 w10 hg hb BK248 GW248 HB; clear hb hg; obtain ⟨hcz11_0, hcz11_1, hcz11_2, hcz11_3, hcz11_4, hfz11_0, hfz11_1, hfz11_2, hfz11_3, hfz11_4⟩ := cz5_ BK248))
   repeat (go_quiet (first | ((with_reducible refine gate_dst (N := 1) rfl ?_); (try (refine gate_guard (by rfl) ?_; dsimp only)); refine bx_ HB rfl (N := 1) rfl (cs := #[.int .i64 a0_0, .int .i64 a0_1, .slice A0_2 l0_2.length c0_2, .int .i64 a0_3, .slice A0_4 l0_4.length c0_4]) (t := 119) hr_ ?_; clear HB; intro gb248 w10 hg hb BK248 GW248 HB; clear hb hg; obtain ⟨hcz11_0, hcz11_1, hcz11_2, hcz11_3, hcz11_4, hfz11_0, hfz11_1, hfz11_2, hfz11_3, hfz11_4⟩ := cz5_ BK248)); try go_wp2_with (first | ((with_reducible refine gate_dst (N := 1) rfl ?_); (try (refine gate_guard (by rfl) ?_; dsimp only)); refine bx_ HB rfl (N := 1) rfl (cs := #[.int .i64 a0_0, .int .i64 a0_1, .slice A0_2 l0_2.length c0_2, .int .i64 a0_3, .slice A0_4 l0_4.length c0_4]) (t := 119) hr_ ?_; clear HB; intro gb248 w10 hg hb BK248 GW248 HB; clear hb hg; obtain ⟨hcz11_0, hcz11_1, hcz11_2, hcz11_3, hcz11_4, hfz11_0, hfz11_1, hfz11_2, hfz11_3, hfz11_4⟩ := cz5_ BK248)))
   go_ret
   exact ⟨rs_, hb_ HB⟩
  rw [if_neg c3] at H
  have c3b0 : (a0_1 == 0) = false := beq_eq_false_iff_ne.mpr c3
  have c3b1 : (a0_1 != 0) = true := bne_iff_ne.mpr c3
  obtain rfl := Option.some.inj H
  go_enter Try.func120, Try.ntmps120
  go_wp2_with (first | ((with_reducible refine gate_dst (N := 1) rfl ?_); (try (refine gate_guard (by rfl) ?_; dsimp only)); refine bx_ HB rfl (N := 1) rfl (cs := #[.int .i64 a0_0, .int .i64 a0_1, .slice A0_2 l0_2.length c0_2, .int .i64 a0_3, .slice A0_4 l0_4.length c0_4]) (t := 119) hr_ ?_; clear HB; intro gb248 w12 hg hb BK248 GW248 HB; clear hb hg; obtain ⟨hcz13_0, hcz13_1, hcz13_2, hcz13_3, hcz13_4, hfz13_0, hfz13_1, hfz13_2, hfz13_3, hfz13_4⟩ := cz5_ BK248))
  repeat (go_quiet (first | ((with_reducible refine gate_dst (N := 1) rfl ?_); (try (refine gate_guard (by rfl) ?_; dsimp only)); refine bx_ HB rfl (N := 1) rfl (cs := #[.int .i64 a0_0, .int .i64 a0_1, .slice A0_2 l0_2.length c0_2, .int .i64 a0_3, .slice A0_4 l0_4.length c0_4]) (t := 119) hr_ ?_; clear HB; intro gb248 w12 hg hb BK248 GW248 HB; clear hb hg; obtain ⟨hcz13_0, hcz13_1, hcz13_2, hcz13_3, hcz13_4, hfz13_0, hfz13_1, hfz13_2, hfz13_3, hfz13_4⟩ := cz5_ BK248)); try go_wp2_with (first | ((with_reducible refine gate_dst (N := 1) rfl ?_); (try (refine gate_guard (by rfl) ?_; dsimp only)); refine bx_ HB rfl (N := 1) rfl (cs := #[.int .i64 a0_0, .int .i64 a0_1, .slice A0_2 l0_2.length c0_2, .int .i64 a0_3, .slice A0_4 l0_4.length c0_4]) (t := 119) hr_ ?_; clear HB; intro gb248 w12 hg hb BK248 GW248 HB; clear hb hg; obtain ⟨hcz13_0, hcz13_1, hcz13_2, hcz13_3, hcz13_4, hfz13_0, hfz13_1, hfz13_2, hfz13_3, hfz13_4⟩ := cz5_ BK248)))
  go_ret
  exact ⟨rs_, hb_ HB⟩
 rw [if_neg c2] at H
 have c2b0 : (a0_0 == 0) = false := beq_eq_false_iff_ne.mpr c2
 have c2b1 : (a0_0 != 0) = true := bne_iff_ne.mpr c2
 replace H' := A_ H; clear H
 go_enter Try.func120, Try.ntmps120
 go_wp2_with (first | ((with_reducible refine gate_dst (N := 1) rfl ?_); (try (refine gate_guard (by rfl) ?_; dsimp only)); refine bx_ HB rfl (N := 1) rfl (cs := #[.int .i64 a0_0, .int .i64 a0_1, .slice A0_2 l0_2.length c0_2, .int .i64 a0_3, .slice A0_4 l0_4.length c0_4]) (t := 119) hr_ ?_; clear HB; intro gb248 w14 hg hb BK248 GW248 HB; clear hb hg; obtain ⟨hcz15_0, hcz15_1, hcz15_2, hcz15_3, hcz15_4, hfz15_0, hfz15_1, hfz15_2, hfz15_3, hfz15_4⟩ := cz5_ BK248))
 repeat (go_quiet (first | ((with_reducible refine gate_dst (N := 1) rfl ?_); (try (refine gate_guard (by rfl) ?_; dsimp only)); refine bx_ HB rfl (N := 1) rfl (cs := #[.int .i64 a0_0, .int .i64 a0_1, .slice A0_2 l0_2.length c0_2, .int .i64 a0_3, .slice A0_4 l0_4.length c0_4]) (t := 119) hr_ ?_; clear HB; intro gb248 w14 hg hb BK248 GW248 HB; clear hb hg; obtain ⟨hcz15_0, hcz15_1, hcz15_2, hcz15_3, hcz15_4, hfz15_0, hfz15_1, hfz15_2, hfz15_3, hfz15_4⟩ := cz5_ BK248)); try go_wp2_with (first | ((with_reducible refine gate_dst (N := 1) rfl ?_); (try (refine gate_guard (by rfl) ?_; dsimp only)); refine bx_ HB rfl (N := 1) rfl (cs := #[.int .i64 a0_0, .int .i64 a0_1, .slice A0_2 l0_2.length c0_2, .int .i64 a0_3, .slice A0_4 l0_4.length c0_4]) (t := 119) hr_ ?_; clear HB; intro gb248 w14 hg hb BK248 GW248 HB; clear hb hg; obtain ⟨hcz15_0, hcz15_1, hcz15_2, hcz15_3, hcz15_4, hfz15_0, hfz15_1, hfz15_2, hfz15_3, hfz15_4⟩ := cz5_ BK248)))
 go_loopg [33] k (fun kq v33 w' => ∃ (x33_1 : Int), v33 = .int .i64 x33_1 ∧ Aside0 (impl_DescOk.l0 kq l0_2 (l0_2.length : Int) x33_1 a0_0 a0_1 l0_2 a0_3 l0_4 = some r) ∧ Aside0 (kq ≤ k) ∧ Aside0 (w'.heap[gb248]? = some (.cells #[.int .i64 a0_0, .int .i64 a0_1, (.slice A0_2 l0_2.length c0_2), .int .i64 a0_3, (.slice A0_4 l0_4.length c0_4)] 119 (0, 0))) ∧ Aside0 (Below w.heap.size w w'))
 case atStart => exact ⟨(0), rt_, H', ⟨Nat.le_refl _⟩, ⟨bk_ BK248⟩, ⟨hb_ HB⟩⟩
 case round =>
  clear H'
  try clear c2
  try clear c2b0
  try clear c2b1
  try clear c3
  try clear c3b0
  try clear c3b1
  try clear c4
  try clear c4b0
  try clear c4b1
  try clear c4b2
  try clear c5
  try clear c5b0
  try clear c5b1
  obtain ⟨x33_1, rfl, HA, HK1, BK248, HB⟩ := hrel
  cases gk with
  | zero => exact absurd HA.out (by simp [impl_DescOk.l0])
  | succ k1 =>
   have H := HA.out
   clear HA
   simp only [impl_DescOk.l0] at H
   replace H := ic_ H
   rcases H with ⟨c16b0, H⟩ | ⟨c16b0, H⟩
   ·
    replace H := ix_ H
    obtain ⟨c17b0, H⟩ := H
    replace H := ix_ H
    obtain ⟨c18b0, H⟩ := H
    replace H := bs_ H
    obtain ⟨t253, A19, H⟩ := H
    by_cases c20 : t253 = true
    ·
     subst c20
     replace H := it_ H
     replace H := bs_ H
     obtain ⟨t254, A21, H⟩ := H
     by_cases c22 : t254 = true
     ·
      subst c22
      replace H := it_ H
      replace H := bs_ H
      obtain ⟨t255, A23, H⟩ := H
      by_cases c24 : t255 = true
      ·
       subst c24
       replace H := it_ H
       replace H := ic_ H
       rcases H with ⟨c25b0, H⟩ | ⟨c25b0, H⟩
       ·
        obtain ⟨ji26, hji26⟩ : ∃ j_ : Int, (wrap64 (x33_1 - 1)) = j_ := ⟨_, rfl⟩
        replace H : (if 0 ≤ (ji26) then (if (ji26) < (l0_2.length : Int) then (if ((rd_T122 l0_2 (ji26)).f0) ≥ ((rd_T122 l0_2 x33_1).f0) then (some false) else (impl_DescOk.l0 k1 l0_2 (l0_2.length : Int) (wrap64 (x33_1 + 1)) a0_0 a0_1 l0_2 a0_3 l0_4)) else (none)) else (none)) = some r := by first | (rw [hji26] at H; exact H) | (simp only [hji26] at H ⊢; exact H)
        (try rw [hji26] at A19)
        (try rw [hji26] at A21)
        (try rw [hji26] at A23)
        have hji26w : (IntKind.i64.wrap (x33_1 - 1)) = ji26 := (i64_w _).trans hji26
        replace H := ix_ H
        obtain ⟨c27b0, H⟩ := H
        replace H := ix_ H
        obtain ⟨c28b0, H⟩ := H
        replace H := ic_ H
        rcases H with ⟨c29b0, H⟩ | ⟨c29b0, H⟩
        ·
         obtain rfl := Option.some.inj H
         obtain ⟨ad251, p251, q251, rfl, hx251_0, hx251_1, hx251_2⟩ := ab_T122 HB HR0_2 x33_1
         go_wp2_with (first | ((with_reducible refine gate_dst (N := 4) rfl ?_); (try (refine gate_guard (by rfl) ?_; dsimp only)); refine bx_ HB rfl (N := 4) rfl (cs := #[.int .i64 0, .int .i64 0, .int .i64 0]) (t := 122) hr_ ?_; clear HB; intro gb252 w30 hg hb BK252 GW252 HB; have NB248_252 := ng_ BK248 hg; have NB252_248 := ns_ (ng_ BK248 hg); replace BK248 := bb_ BK248 hb; clear hb hg; have hnb31 := NB252_248.out; have hnc31 := NB248_252.out; obtain ⟨hcz32_0, hcz32_1, hcz32_2, hfz32_0, hfz32_1, hfz32_2⟩ := cz3_ BK252) | (go_at_call 151; (with_reducible refine (impl_isPlace.calls ((rd_T122 l0_2 x33_1).f0) true _ A19.out).mono ?_); rintro e w' ⟨rfl, ⟨nd, rfl⟩⟩; (try exact dd_)) | (go_at_call 152; (with_reducible refine (impl_isWordNum.calls ((rd_T122 l0_2 x33_1).f1) true _ A21.out).mono ?_); rintro e w' ⟨rfl, ⟨nd, rfl⟩⟩; (try exact dd_)) | (go_at_call 152; (with_reducible refine (impl_isWordNum.calls ((rd_T122 l0_2 x33_1).f2) true _ A23.out).mono ?_); rintro e w' ⟨rfl, ⟨nd, rfl⟩⟩; (try exact dd_); obtain ⟨hcz33_0, hcz33_1, hcz33_2, hcz33_3, hcz33_4, hfz33_0, hfz33_1, hfz33_2, hfz33_3, hfz33_4⟩ := cz5_ BK248; have p256 : 0 ≤ ((ji26) : Int) := od_; have q256 : (ji26) < (l0_2.length : Int) := od_; obtain ⟨ad256, e256, hx256_0, hx256_1, hx256_2⟩ := at_T122 HR0_2.out (ji26) p256 q256; obtain rfl : ad251 = ad256 := (by injection e256); have hn256_0 : ad251.block ≠ gb252 := Nat.ne_of_lt (Nat.lt_of_lt_of_le (by have := World.block_lt_of_cell? _ _ hx256_0; first | rwa [add_block] at this | exact this) GW252.out); have hn256_1 : ad251.block ≠ gb252 := Nat.ne_of_lt (Nat.lt_of_lt_of_le (by have := World.block_lt_of_cell? _ _ hx256_0; first | rwa [add_block] at this | exact this) GW252.out); have hn256_2 : ad251.block ≠ gb252 := Nat.ne_of_lt (Nat.lt_of_lt_of_le (by have := World.block_lt_of_cell? _ _ hx256_0; first | rwa [add_block] at this | exact this) GW252.out); replace hx256_0 := hx_ HB hx256_0; replace hx256_1 := hx_ HB hx256_1; replace hx256_2 := hx_ HB hx256_2; replace hx256_0 := cf_ 0 hn256_0 (.int .i64 ((rd_T122 l0_2 x33_1).f0)) hx256_0; replace hx256_1 := cf_ 0 hn256_0 (.int .i64 ((rd_T122 l0_2 x33_1).f0)) hx256_1; replace hx256_2 := cf_ 0 hn256_0 (.int .i64 ((rd_T122 l0_2 x33_1).f0)) hx256_2; replace hx256_0 := cf_ 1 hn256_1 (.int .i64 ((rd_T122 l0_2 x33_1).f1)) hx256_0; replace hx256_1 := cf_ 1 hn256_1 (.int .i64 ((rd_T122 l0_2 x33_1).f1)) hx256_1; replace hx256_2 := cf_ 1 hn256_1 (.int .i64 ((rd_T122 l0_2 x33_1).f1)) hx256_2; replace hx256_0 := cf_ 2 hn256_2 (.int .i64 ((rd_T122 l0_2 x33_1).f2)) hx256_0; replace hx256_1 := cf_ 2 hn256_2 (.int .i64 ((rd_T122 l0_2 x33_1).f2)) hx256_1; replace hx256_2 := cf_ 2 hn256_2 (.int .i64 ((rd_T122 l0_2 x33_1).f2)) hx256_2; (try have hy256_0 := fun (n_ : Nat) => (show (((((w30.drewN n_).setCell ⟨gb252, 0, none⟩ (.int .i64 ((rd_T122 l0_2 x33_1).f0))).setCell ⟨gb252, 1, none⟩ (.int .i64 ((rd_T122 l0_2 x33_1).f1))).setCell ⟨gb252, 2, none⟩ (.int .i64 ((rd_T122 l0_2 x33_1).f2)))).cell? _ = some _ from hx256_0)); (try have hy256_1 := fun (n_ : Nat) => (show (((((w30.drewN n_).setCell ⟨gb252, 0, none⟩ (.int .i64 ((rd_T122 l0_2 x33_1).f0))).setCell ⟨gb252, 1, none⟩ (.int .i64 ((rd_T122 l0_2 x33_1).f1))).setCell ⟨gb252, 2, none⟩ (.int .i64 ((rd_T122 l0_2 x33_1).f2)))).cell? _ = some _ from hx256_1)); (try have hy256_2 := fun (n_ : Nat) => (show (((((w30.drewN n_).setCell ⟨gb252, 0, none⟩ (.int .i64 ((rd_T122 l0_2 x33_1).f0))).setCell ⟨gb252, 1, none⟩ (.int .i64 ((rd_T122 l0_2 x33_1).f1))).setCell ⟨gb252, 2, none⟩ (.int .i64 ((rd_T122 l0_2 x33_1).f2)))).cell? _ = some _ from hx256_2)); clear hn256_0; clear hn256_1; clear hn256_2; replace p256 := eq_true p256; replace q256 := eq_true q256))
         repeat (go_quiet (first | ((with_reducible refine gate_dst (N := 4) rfl ?_); (try (refine gate_guard (by rfl) ?_; dsimp only)); refine bx_ HB rfl (N := 4) rfl (cs := #[.int .i64 0, .int .i64 0, .int .i64 0]) (t := 122) hr_ ?_; clear HB; intro gb252 w30 hg hb BK252 GW252 HB; have NB248_252 := ng_ BK248 hg; have NB252_248 := ns_ (ng_ BK248 hg); replace BK248 := bb_ BK248 hb; clear hb hg; have hnb31 := NB252_248.out; have hnc31 := NB248_252.out; obtain ⟨hcz32_0, hcz32_1, hcz32_2, hfz32_0, hfz32_1, hfz32_2⟩ := cz3_ BK252) | (go_at_call 151; (with_reducible refine (impl_isPlace.calls ((rd_T122 l0_2 x33_1).f0) true _ A19.out).mono ?_); rintro e w' ⟨rfl, ⟨nd, rfl⟩⟩; (try exact dd_)) | (go_at_call 152; (with_reducible refine (impl_isWordNum.calls ((rd_T122 l0_2 x33_1).f1) true _ A21.out).mono ?_); rintro e w' ⟨rfl, ⟨nd, rfl⟩⟩; (try exact dd_)) | (go_at_call 152; (with_reducible refine (impl_isWordNum.calls ((rd_T122 l0_2 x33_1).f2) true _ A23.out).mono ?_); rintro e w' ⟨rfl, ⟨nd, rfl⟩⟩; (try exact dd_); obtain ⟨hcz33_0, hcz33_1, hcz33_2, hcz33_3, hcz33_4, hfz33_0, hfz33_1, hfz33_2, hfz33_3, hfz33_4⟩ := cz5_ BK248; have p256 : 0 ≤ ((ji26) : Int) := od_; have q256 : (ji26) < (l0_2.length : Int) := od_; obtain ⟨ad256, e256, hx256_0, hx256_1, hx256_2⟩ := at_T122 HR0_2.out (ji26) p256 q256; obtain rfl : ad251 = ad256 := (by injection e256); have hn256_0 : ad251.block ≠ gb252 := Nat.ne_of_lt (Nat.lt_of_lt_of_le (by have := World.block_lt_of_cell? _ _ hx256_0; first | rwa [add_block] at this | exact this) GW252.out); have hn256_1 : ad251.block ≠ gb252 := Nat.ne_of_lt (Nat.lt_of_lt_of_le (by have := World.block_lt_of_cell? _ _ hx256_0; first | rwa [add_block] at this | exact this) GW252.out); have hn256_2 : ad251.block ≠ gb252 := Nat.ne_of_lt (Nat.lt_of_lt_of_le (by have := World.block_lt_of_cell? _ _ hx256_0; first | rwa [add_block] at this | exact this) GW252.out); replace hx256_0 := hx_ HB hx256_0; replace hx256_1 := hx_ HB hx256_1; replace hx256_2 := hx_ HB hx256_2; replace hx256_0 := cf_ 0 hn256_0 (.int .i64 ((rd_T122 l0_2 x33_1).f0)) hx256_0; replace hx256_1 := cf_ 0 hn256_0 (.int .i64 ((rd_T122 l0_2 x33_1).f0)) hx256_1; replace hx256_2 := cf_ 0 hn256_0 (.int .i64 ((rd_T122 l0_2 x33_1).f0)) hx256_2; replace hx256_0 := cf_ 1 hn256_1 (.int .i64 ((rd_T122 l0_2 x33_1).f1)) hx256_0; replace hx256_1 := cf_ 1 hn256_1 (.int .i64 ((rd_T122 l0_2 x33_1).f1)) hx256_1; replace hx256_2 := cf_ 1 hn256_1 (.int .i64 ((rd_T122 l0_2 x33_1).f1)) hx256_2; replace hx256_0 := cf_ 2 hn256_2 (.int .i64 ((rd_T122 l0_2 x33_1).f2)) hx256_0; replace hx256_1 := cf_ 2 hn256_2 (.int .i64 ((rd_T122 l0_2 x33_1).f2)) hx256_1; replace hx256_2 := cf_ 2 hn256_2 (.int .i64 ((rd_T122 l0_2 x33_1).f2)) hx256_2; (try have hy256_0 := fun (n_ : Nat) => (show (((((w30.drewN n_).setCell ⟨gb252, 0, none⟩ (.int .i64 ((rd_T122 l0_2 x33_1).f0))).setCell ⟨gb252, 1, none⟩ (.int .i64 ((rd_T122 l0_2 x33_1).f1))).setCell ⟨gb252, 2, none⟩ (.int .i64 ((rd_T122 l0_2 x33_1).f2)))).cell? _ = some _ from hx256_0)); (try have hy256_1 := fun (n_ : Nat) => (show (((((w30.drewN n_).setCell ⟨gb252, 0, none⟩ (.int .i64 ((rd_T122 l0_2 x33_1).f0))).setCell ⟨gb252, 1, none⟩ (.int .i64 ((rd_T122 l0_2 x33_1).f1))).setCell ⟨gb252, 2, none⟩ (.int .i64 ((rd_T122 l0_2 x33_1).f2)))).cell? _ = some _ from hx256_1)); (try have hy256_2 := fun (n_ : Nat) => (show (((((w30.drewN n_).setCell ⟨gb252, 0, none⟩ (.int .i64 ((rd_T122 l0_2 x33_1).f0))).setCell ⟨gb252, 1, none⟩ (.int .i64 ((rd_T122 l0_2 x33_1).f1))).setCell ⟨gb252, 2, none⟩ (.int .i64 ((rd_T122 l0_2 x33_1).f2)))).cell? _ = some _ from hx256_2)); clear hn256_0; clear hn256_1; clear hn256_2; replace p256 := eq_true p256; replace q256 := eq_true q256)); try go_wp2_with (first | ((with_reducible refine gate_dst (N := 4) rfl ?_); (try (refine gate_guard (by rfl) ?_; dsimp only)); refine bx_ HB rfl (N := 4) rfl (cs := #[.int .i64 0, .int .i64 0, .int .i64 0]) (t := 122) hr_ ?_; clear HB; intro gb252 w30 hg hb BK252 GW252 HB; have NB248_252 := ng_ BK248 hg; have NB252_248 := ns_ (ng_ BK248 hg); replace BK248 := bb_ BK248 hb; clear hb hg; have hnb31 := NB252_248.out; have hnc31 := NB248_252.out; obtain ⟨hcz32_0, hcz32_1, hcz32_2, hfz32_0, hfz32_1, hfz32_2⟩ := cz3_ BK252) | (go_at_call 151; (with_reducible refine (impl_isPlace.calls ((rd_T122 l0_2 x33_1).f0) true _ A19.out).mono ?_); rintro e w' ⟨rfl, ⟨nd, rfl⟩⟩; (try exact dd_)) | (go_at_call 152; (with_reducible refine (impl_isWordNum.calls ((rd_T122 l0_2 x33_1).f1) true _ A21.out).mono ?_); rintro e w' ⟨rfl, ⟨nd, rfl⟩⟩; (try exact dd_)) | (go_at_call 152; (with_reducible refine (impl_isWordNum.calls ((rd_T122 l0_2 x33_1).f2) true _ A23.out).mono ?_); rintro e w' ⟨rfl, ⟨nd, rfl⟩⟩; (try exact dd_); obtain ⟨hcz33_0, hcz33_1, hcz33_2, hcz33_3, hcz33_4, hfz33_0, hfz33_1, hfz33_2, hfz33_3, hfz33_4⟩ := cz5_ BK248; have p256 : 0 ≤ ((ji26) : Int) := od_; have q256 : (ji26) < (l0_2.length : Int) := od_; obtain ⟨ad256, e256, hx256_0, hx256_1, hx256_2⟩ := at_T122 HR0_2.out (ji26) p256 q256; obtain rfl : ad251 = ad256 := (by injection e256); have hn256_0 : ad251.block ≠ gb252 := Nat.ne_of_lt (Nat.lt_of_lt_of_le (by have := World.block_lt_of_cell? _ _ hx256_0; first | rwa [add_block] at this | exact this) GW252.out); have hn256_1 : ad251.block ≠ gb252 := Nat.ne_of_lt (Nat.lt_of_lt_of_le (by have := World.block_lt_of_cell? _ _ hx256_0; first | rwa [add_block] at this | exact this) GW252.out); have hn256_2 : ad251.block ≠ gb252 := Nat.ne_of_lt (Nat.lt_of_lt_of_le (by have := World.block_lt_of_cell? _ _ hx256_0; first | rwa [add_block] at this | exact this) GW252.out); replace hx256_0 := hx_ HB hx256_0; replace hx256_1 := hx_ HB hx256_1; replace hx256_2 := hx_ HB hx256_2; replace hx256_0 := cf_ 0 hn256_0 (.int .i64 ((rd_T122 l0_2 x33_1).f0)) hx256_0; replace hx256_1 := cf_ 0 hn256_0 (.int .i64 ((rd_T122 l0_2 x33_1).f0)) hx256_1; replace hx256_2 := cf_ 0 hn256_0 (.int .i64 ((rd_T122 l0_2 x33_1).f0)) hx256_2; replace hx256_0 := cf_ 1 hn256_1 (.int .i64 ((rd_T122 l0_2 x33_1).f1)) hx256_0; replace hx256_1 := cf_ 1 hn256_1 (.int .i64 ((rd_T122 l0_2 x33_1).f1)) hx256_1; replace hx256_2 := cf_ 1 hn256_1 (.int .i64 ((rd_T122 l0_2 x33_1).f1)) hx256_2; replace hx256_0 := cf_ 2 hn256_2 (.int .i64 ((rd_T122 l0_2 x33_1).f2)) hx256_0; replace hx256_1 := cf_ 2 hn256_2 (.int .i64 ((rd_T122 l0_2 x33_1).f2)) hx256_1; replace hx256_2 := cf_ 2 hn256_2 (.int .i64 ((rd_T122 l0_2 x33_1).f2)) hx256_2; (try have hy256_0 := fun (n_ : Nat) => (show (((((w30.drewN n_).setCell ⟨gb252, 0, none⟩ (.int .i64 ((rd_T122 l0_2 x33_1).f0))).setCell ⟨gb252, 1, none⟩ (.int .i64 ((rd_T122 l0_2 x33_1).f1))).setCell ⟨gb252, 2, none⟩ (.int .i64 ((rd_T122 l0_2 x33_1).f2)))).cell? _ = some _ from hx256_0)); (try have hy256_1 := fun (n_ : Nat) => (show (((((w30.drewN n_).setCell ⟨gb252, 0, none⟩ (.int .i64 ((rd_T122 l0_2 x33_1).f0))).setCell ⟨gb252, 1, none⟩ (.int .i64 ((rd_T122 l0_2 x33_1).f1))).setCell ⟨gb252, 2, none⟩ (.int .i64 ((rd_T122 l0_2 x33_1).f2)))).cell? _ = some _ from hx256_1)); (try have hy256_2 := fun (n_ : Nat) => (show (((((w30.drewN n_).setCell ⟨gb252, 0, none⟩ (.int .i64 ((rd_T122 l0_2 x33_1).f0))).setCell ⟨gb252, 1, none⟩ (.int .i64 ((rd_T122 l0_2 x33_1).f1))).setCell ⟨gb252, 2, none⟩ (.int .i64 ((rd_T122 l0_2 x33_1).f2)))).cell? _ = some _ from hx256_2)); clear hn256_0; clear hn256_1; clear hn256_2; replace p256 := eq_true p256; replace q256 := eq_true q256)))
         go_ret
         exact ⟨by first | rfl | (simp [errW_none, errW_some] <;> rfl) | (simp only [← hji26]; first | rfl | (simp [errW_none, errW_some] <;> rfl)) | (simp [*, errW_none, errW_some] <;> rfl), hb_ HB⟩
        replace H' := A_ H; clear H
        obtain ⟨ad251, p251, q251, rfl, hx251_0, hx251_1, hx251_2⟩ := ab_T122 HB HR0_2 x33_1
        go_wp2_with (first | ((with_reducible refine gate_dst (N := 4) rfl ?_); (try (refine gate_guard (by rfl) ?_; dsimp only)); refine bx_ HB rfl (N := 4) rfl (cs := #[.int .i64 0, .int .i64 0, .int .i64 0]) (t := 122) hr_ ?_; clear HB; intro gb252 w34 hg hb BK252 GW252 HB; have NB248_252 := ng_ BK248 hg; have NB252_248 := ns_ (ng_ BK248 hg); replace BK248 := bb_ BK248 hb; clear hb hg; have hnb35 := NB252_248.out; have hnc35 := NB248_252.out; obtain ⟨hcz36_0, hcz36_1, hcz36_2, hfz36_0, hfz36_1, hfz36_2⟩ := cz3_ BK252) | (go_at_call 151; (with_reducible refine (impl_isPlace.calls ((rd_T122 l0_2 x33_1).f0) true _ A19.out).mono ?_); rintro e w' ⟨rfl, ⟨nd, rfl⟩⟩; (try exact dd_)) | (go_at_call 152; (with_reducible refine (impl_isWordNum.calls ((rd_T122 l0_2 x33_1).f1) true _ A21.out).mono ?_); rintro e w' ⟨rfl, ⟨nd, rfl⟩⟩; (try exact dd_)) | (go_at_call 152; (with_reducible refine (impl_isWordNum.calls ((rd_T122 l0_2 x33_1).f2) true _ A23.out).mono ?_); rintro e w' ⟨rfl, ⟨nd, rfl⟩⟩; (try exact dd_); obtain ⟨hcz37_0, hcz37_1, hcz37_2, hcz37_3, hcz37_4, hfz37_0, hfz37_1, hfz37_2, hfz37_3, hfz37_4⟩ := cz5_ BK248; have p256 : 0 ≤ ((ji26) : Int) := od_; have q256 : (ji26) < (l0_2.length : Int) := od_; obtain ⟨ad256, e256, hx256_0, hx256_1, hx256_2⟩ := at_T122 HR0_2.out (ji26) p256 q256; obtain rfl : ad251 = ad256 := (by injection e256); have hn256_0 : ad251.block ≠ gb252 := Nat.ne_of_lt (Nat.lt_of_lt_of_le (by have := World.block_lt_of_cell? _ _ hx256_0; first | rwa [add_block] at this | exact this) GW252.out); have hn256_1 : ad251.block ≠ gb252 := Nat.ne_of_lt (Nat.lt_of_lt_of_le (by have := World.block_lt_of_cell? _ _ hx256_0; first | rwa [add_block] at this | exact this) GW252.out); have hn256_2 : ad251.block ≠ gb252 := Nat.ne_of_lt (Nat.lt_of_lt_of_le (by have := World.block_lt_of_cell? _ _ hx256_0; first | rwa [add_block] at this | exact this) GW252.out); replace hx256_0 := hx_ HB hx256_0; replace hx256_1 := hx_ HB hx256_1; replace hx256_2 := hx_ HB hx256_2; replace hx256_0 := cf_ 0 hn256_0 (.int .i64 ((rd_T122 l0_2 x33_1).f0)) hx256_0; replace hx256_1 := cf_ 0 hn256_0 (.int .i64 ((rd_T122 l0_2 x33_1).f0)) hx256_1; replace hx256_2 := cf_ 0 hn256_0 (.int .i64 ((rd_T122 l0_2 x33_1).f0)) hx256_2; replace hx256_0 := cf_ 1 hn256_1 (.int .i64 ((rd_T122 l0_2 x33_1).f1)) hx256_0; replace hx256_1 := cf_ 1 hn256_1 (.int .i64 ((rd_T122 l0_2 x33_1).f1)) hx256_1; replace hx256_2 := cf_ 1 hn256_1 (.int .i64 ((rd_T122 l0_2 x33_1).f1)) hx256_2; replace hx256_0 := cf_ 2 hn256_2 (.int .i64 ((rd_T122 l0_2 x33_1).f2)) hx256_0; replace hx256_1 := cf_ 2 hn256_2 (.int .i64 ((rd_T122 l0_2 x33_1).f2)) hx256_1; replace hx256_2 := cf_ 2 hn256_2 (.int .i64 ((rd_T122 l0_2 x33_1).f2)) hx256_2; (try have hy256_0 := fun (n_ : Nat) => (show (((((w34.drewN n_).setCell ⟨gb252, 0, none⟩ (.int .i64 ((rd_T122 l0_2 x33_1).f0))).setCell ⟨gb252, 1, none⟩ (.int .i64 ((rd_T122 l0_2 x33_1).f1))).setCell ⟨gb252, 2, none⟩ (.int .i64 ((rd_T122 l0_2 x33_1).f2)))).cell? _ = some _ from hx256_0)); (try have hy256_1 := fun (n_ : Nat) => (show (((((w34.drewN n_).setCell ⟨gb252, 0, none⟩ (.int .i64 ((rd_T122 l0_2 x33_1).f0))).setCell ⟨gb252, 1, none⟩ (.int .i64 ((rd_T122 l0_2 x33_1).f1))).setCell ⟨gb252, 2, none⟩ (.int .i64 ((rd_T122 l0_2 x33_1).f2)))).cell? _ = some _ from hx256_1)); (try have hy256_2 := fun (n_ : Nat) => (show (((((w34.drewN n_).setCell ⟨gb252, 0, none⟩ (.int .i64 ((rd_T122 l0_2 x33_1).f0))).setCell ⟨gb252, 1, none⟩ (.int .i64 ((rd_T122 l0_2 x33_1).f1))).setCell ⟨gb252, 2, none⟩ (.int .i64 ((rd_T122 l0_2 x33_1).f2)))).cell? _ = some _ from hx256_2)); clear hn256_0; clear hn256_1; clear hn256_2; replace p256 := eq_true p256; replace q256 := eq_true q256))
        repeat (go_quiet (first | ((with_reducible refine gate_dst (N := 4) rfl ?_); (try (refine gate_guard (by rfl) ?_; dsimp only)); refine bx_ HB rfl (N := 4) rfl (cs := #[.int .i64 0, .int .i64 0, .int .i64 0]) (t := 122) hr_ ?_; clear HB; intro gb252 w34 hg hb BK252 GW252 HB; have NB248_252 := ng_ BK248 hg; have NB252_248 := ns_ (ng_ BK248 hg); replace BK248 := bb_ BK248 hb; clear hb hg; have hnb35 := NB252_248.out; have hnc35 := NB248_252.out; obtain ⟨hcz36_0, hcz36_1, hcz36_2, hfz36_0, hfz36_1, hfz36_2⟩ := cz3_ BK252) | (go_at_call 151; (with_reducible refine (impl_isPlace.calls ((rd_T122 l0_2 x33_1).f0) true _ A19.out).mono ?_); rintro e w' ⟨rfl, ⟨nd, rfl⟩⟩; (try exact dd_)) | (go_at_call 152; (with_reducible refine (impl_isWordNum.calls ((rd_T122 l0_2 x33_1).f1) true _ A21.out).mono ?_); rintro e w' ⟨rfl, ⟨nd, rfl⟩⟩; (try exact dd_)) | (go_at_call 152; (with_reducible refine (impl_isWordNum.calls ((rd_T122 l0_2 x33_1).f2) true _ A23.out).mono ?_); rintro e w' ⟨rfl, ⟨nd, rfl⟩⟩; (try exact dd_); obtain ⟨hcz37_0, hcz37_1, hcz37_2, hcz37_3, hcz37_4, hfz37_0, hfz37_1, hfz37_2, hfz37_3, hfz37_4⟩ := cz5_ BK248; have p256 : 0 ≤ ((ji26) : Int) := od_; have q256 : (ji26) < (l0_2.length : Int) := od_; obtain ⟨ad256, e256, hx256_0, hx256_1, hx256_2⟩ := at_T122 HR0_2.out (ji26) p256 q256; obtain rfl : ad251 = ad256 := (by injection e256); have hn256_0 : ad251.block ≠ gb252 := Nat.ne_of_lt (Nat.lt_of_lt_of_le (by have := World.block_lt_of_cell? _ _ hx256_0; first | rwa [add_block] at this | exact this) GW252.out); have hn256_1 : ad251.block ≠ gb252 := Nat.ne_of_lt (Nat.lt_of_lt_of_le (by have := World.block_lt_of_cell? _ _ hx256_0; first | rwa [add_block] at this | exact this) GW252.out); have hn256_2 : ad251.block ≠ gb252 := Nat.ne_of_lt (Nat.lt_of_lt_of_le (by have := World.block_lt_of_cell? _ _ hx256_0; first | rwa [add_block] at this | exact this) GW252.out); replace hx256_0 := hx_ HB hx256_0; replace hx256_1 := hx_ HB hx256_1; replace hx256_2 := hx_ HB hx256_2; replace hx256_0 := cf_ 0 hn256_0 (.int .i64 ((rd_T122 l0_2 x33_1).f0)) hx256_0; replace hx256_1 := cf_ 0 hn256_0 (.int .i64 ((rd_T122 l0_2 x33_1).f0)) hx256_1; replace hx256_2 := cf_ 0 hn256_0 (.int .i64 ((rd_T122 l0_2 x33_1).f0)) hx256_2; replace hx256_0 := cf_ 1 hn256_1 (.int .i64 ((rd_T122 l0_2 x33_1).f1)) hx256_0; replace hx256_1 := cf_ 1 hn256_1 (.int .i64 ((rd_T122 l0_2 x33_1).f1)) hx256_1; replace hx256_2 := cf_ 1 hn256_1 (.int .i64 ((rd_T122 l0_2 x33_1).f1)) hx256_2; replace hx256_0 := cf_ 2 hn256_2 (.int .i64 ((rd_T122 l0_2 x33_1).f2)) hx256_0; replace hx256_1 := cf_ 2 hn256_2 (.int .i64 ((rd_T122 l0_2 x33_1).f2)) hx256_1; replace hx256_2 := cf_ 2 hn256_2 (.int .i64 ((rd_T122 l0_2 x33_1).f2)) hx256_2; (try have hy256_0 := fun (n_ : Nat) => (show (((((w34.drewN n_).setCell ⟨gb252, 0, none⟩ (.int .i64 ((rd_T122 l0_2 x33_1).f0))).setCell ⟨gb252, 1, none⟩ (.int .i64 ((rd_T122 l0_2 x33_1).f1))).setCell ⟨gb252, 2, none⟩ (.int .i64 ((rd_T122 l0_2 x33_1).f2)))).cell? _ = some _ from hx256_0)); (try have hy256_1 := fun (n_ : Nat) => (show (((((w34.drewN n_).setCell ⟨gb252, 0, none⟩ (.int .i64 ((rd_T122 l0_2 x33_1).f0))).setCell ⟨gb252, 1, none⟩ (.int .i64 ((rd_T122 l0_2 x33_1).f1))).setCell ⟨gb252, 2, none⟩ (.int .i64 ((rd_T122 l0_2 x33_1).f2)))).cell? _ = some _ from hx256_1)); (try have hy256_2 := fun (n_ : Nat) => (show (((((w34.drewN n_).setCell ⟨gb252, 0, none⟩ (.int .i64 ((rd_T122 l0_2 x33_1).f0))).setCell ⟨gb252, 1, none⟩ (.int .i64 ((rd_T122 l0_2 x33_1).f1))).setCell ⟨gb252, 2, none⟩ (.int .i64 ((rd_T122 l0_2 x33_1).f2)))).cell? _ = some _ from hx256_2)); clear hn256_0; clear hn256_1; clear hn256_2; replace p256 := eq_true p256; replace q256 := eq_true q256)); try go_wp2_with (first | ((with_reducible refine gate_dst (N := 4) rfl ?_); (try (refine gate_guard (by rfl) ?_; dsimp only)); refine bx_ HB rfl (N := 4) rfl (cs := #[.int .i64 0, .int .i64 0, .int .i64 0]) (t := 122) hr_ ?_; clear HB; intro gb252 w34 hg hb BK252 GW252 HB; have NB248_252 := ng_ BK248 hg; have NB252_248 := ns_ (ng_ BK248 hg); replace BK248 := bb_ BK248 hb; clear hb hg; have hnb35 := NB252_248.out; have hnc35 := NB248_252.out; obtain ⟨hcz36_0, hcz36_1, hcz36_2, hfz36_0, hfz36_1, hfz36_2⟩ := cz3_ BK252) | (go_at_call 151; (with_reducible refine (impl_isPlace.calls ((rd_T122 l0_2 x33_1).f0) true _ A19.out).mono ?_); rintro e w' ⟨rfl, ⟨nd, rfl⟩⟩; (try exact dd_)) | (go_at_call 152; (with_reducible refine (impl_isWordNum.calls ((rd_T122 l0_2 x33_1).f1) true _ A21.out).mono ?_); rintro e w' ⟨rfl, ⟨nd, rfl⟩⟩; (try exact dd_)) | (go_at_call 152; (with_reducible refine (impl_isWordNum.calls ((rd_T122 l0_2 x33_1).f2) true _ A23.out).mono ?_); rintro e w' ⟨rfl, ⟨nd, rfl⟩⟩; (try exact dd_); obtain ⟨hcz37_0, hcz37_1, hcz37_2, hcz37_3, hcz37_4, hfz37_0, hfz37_1, hfz37_2, hfz37_3, hfz37_4⟩ := cz5_ BK248; have p256 : 0 ≤ ((ji26) : Int) := od_; have q256 : (ji26) < (l0_2.length : Int) := od_; obtain ⟨ad256, e256, hx256_0, hx256_1, hx256_2⟩ := at_T122 HR0_2.out (ji26) p256 q256; obtain rfl : ad251 = ad256 := (by injection e256); have hn256_0 : ad251.block ≠ gb252 := Nat.ne_of_lt (Nat.lt_of_lt_of_le (by have := World.block_lt_of_cell? _ _ hx256_0; first | rwa [add_block] at this | exact this) GW252.out); have hn256_1 : ad251.block ≠ gb252 := Nat.ne_of_lt (Nat.lt_of_lt_of_le (by have := World.block_lt_of_cell? _ _ hx256_0; first | rwa [add_block] at this | exact this) GW252.out); have hn256_2 : ad251.block ≠ gb252 := Nat.ne_of_lt (Nat.lt_of_lt_of_le (by have := World.block_lt_of_cell? _ _ hx256_0; first | rwa [add_block] at this | exact this) GW252.out); replace hx256_0 := hx_ HB hx256_0; replace hx256_1 := hx_ HB hx256_1; replace hx256_2 := hx_ HB hx256_2; replace hx256_0 := cf_ 0 hn256_0 (.int .i64 ((rd_T122 l0_2 x33_1).f0)) hx256_0; replace hx256_1 := cf_ 0 hn256_0 (.int .i64 ((rd_T122 l0_2 x33_1).f0)) hx256_1; replace hx256_2 := cf_ 0 hn256_0 (.int .i64 ((rd_T122 l0_2 x33_1).f0)) hx256_2; replace hx256_0 := cf_ 1 hn256_1 (.int .i64 ((rd_T122 l0_2 x33_1).f1)) hx256_0; replace hx256_1 := cf_ 1 hn256_1 (.int .i64 ((rd_T122 l0_2 x33_1).f1)) hx256_1; replace hx256_2 := cf_ 1 hn256_1 (.int .i64 ((rd_T122 l0_2 x33_1).f1)) hx256_2; replace hx256_0 := cf_ 2 hn256_2 (.int .i64 ((rd_T122 l0_2 x33_1).f2)) hx256_0; replace hx256_1 := cf_ 2 hn256_2 (.int .i64 ((rd_T122 l0_2 x33_1).f2)) hx256_1; replace hx256_2 := cf_ 2 hn256_2 (.int .i64 ((rd_T122 l0_2 x33_1).f2)) hx256_2; (try have hy256_0 := fun (n_ : Nat) => (show (((((w34.drewN n_).setCell ⟨gb252, 0, none⟩ (.int .i64 ((rd_T122 l0_2 x33_1).f0))).setCell ⟨gb252, 1, none⟩ (.int .i64 ((rd_T122 l0_2 x33_1).f1))).setCell ⟨gb252, 2, none⟩ (.int .i64 ((rd_T122 l0_2 x33_1).f2)))).cell? _ = some _ from hx256_0)); (try have hy256_1 := fun (n_ : Nat) => (show (((((w34.drewN n_).setCell ⟨gb252, 0, none⟩ (.int .i64 ((rd_T122 l0_2 x33_1).f0))).setCell ⟨gb252, 1, none⟩ (.int .i64 ((rd_T122 l0_2 x33_1).f1))).setCell ⟨gb252, 2, none⟩ (.int .i64 ((rd_T122 l0_2 x33_1).f2)))).cell? _ = some _ from hx256_1)); (try have hy256_2 := fun (n_ : Nat) => (show (((((w34.drewN n_).setCell ⟨gb252, 0, none⟩ (.int .i64 ((rd_T122 l0_2 x33_1).f0))).setCell ⟨gb252, 1, none⟩ (.int .i64 ((rd_T122 l0_2 x33_1).f1))).setCell ⟨gb252, 2, none⟩ (.int .i64 ((rd_T122 l0_2 x33_1).f2)))).cell? _ = some _ from hx256_2)); clear hn256_0; clear hn256_1; clear hn256_2; replace p256 := eq_true p256; replace q256 := eq_true q256)))
        go_roundg k1
        case measure => have := HK1.out; omega
        case rel => exact ⟨(wrap64 (x33_1 + 1)), rt_, H', ⟨by have := HK1.out; omega⟩, ⟨bk_ BK248⟩, ⟨hb_ HB⟩⟩
       replace H' := A_ H; clear H
       obtain ⟨ad251, p251, q251, rfl, hx251_0, hx251_1, hx251_2⟩ := ab_T122 HB HR0_2 x33_1
       go_wp2_with (first | ((with_reducible refine gate_dst (N := 4) rfl ?_); (try (refine gate_guard (by rfl) ?_; dsimp only)); refine bx_ HB rfl (N := 4) rfl (cs := #[.int .i64 0, .int .i64 0, .int .i64 0]) (t := 122) hr_ ?_; clear HB; intro gb252 w38 hg hb BK252 GW252 HB; have NB248_252 := ng_ BK248 hg; have NB252_248 := ns_ (ng_ BK248 hg); replace BK248 := bb_ BK248 hb; clear hb hg; have hnb39 := NB252_248.out; have hnc39 := NB248_252.out; obtain ⟨hcz40_0, hcz40_1, hcz40_2, hfz40_0, hfz40_1, hfz40_2⟩ := cz3_ BK252) | (go_at_call 151; (with_reducible refine (impl_isPlace.calls ((rd_T122 l0_2 x33_1).f0) true _ A19.out).mono ?_); rintro e w' ⟨rfl, ⟨nd, rfl⟩⟩; (try exact dd_)) | (go_at_call 152; (with_reducible refine (impl_isWordNum.calls ((rd_T122 l0_2 x33_1).f1) true _ A21.out).mono ?_); rintro e w' ⟨rfl, ⟨nd, rfl⟩⟩; (try exact dd_)) | (go_at_call 152; (with_reducible refine (impl_isWordNum.calls ((rd_T122 l0_2 x33_1).f2) true _ A23.out).mono ?_); rintro e w' ⟨rfl, ⟨nd, rfl⟩⟩; (try exact dd_)))
       repeat (go_quiet (first | ((with_reducible refine gate_dst (N := 4) rfl ?_); (try (refine gate_guard (by rfl) ?_; dsimp only)); refine bx_ HB rfl (N := 4) rfl (cs := #[.int .i64 0, .int .i64 0, .int .i64 0]) (t := 122) hr_ ?_; clear HB; intro gb252 w38 hg hb BK252 GW252 HB; have NB248_252 := ng_ BK248 hg; have NB252_248 := ns_ (ng_ BK248 hg); replace BK248 := bb_ BK248 hb; clear hb hg; have hnb39 := NB252_248.out; have hnc39 := NB248_252.out; obtain ⟨hcz40_0, hcz40_1, hcz40_2, hfz40_0, hfz40_1, hfz40_2⟩ := cz3_ BK252) | (go_at_call 151; (with_reducible refine (impl_isPlace.calls ((rd_T122 l0_2 x33_1).f0) true _ A19.out).mono ?_); rintro e w' ⟨rfl, ⟨nd, rfl⟩⟩; (try exact dd_)) | (go_at_call 152; (with_reducible refine (impl_isWordNum.calls ((rd_T122 l0_2 x33_1).f1) true _ A21.out).mono ?_); rintro e w' ⟨rfl, ⟨nd, rfl⟩⟩; (try exact dd_)) | (go_at_call 152; (with_reducible refine (impl_isWordNum.calls ((rd_T122 l0_2 x33_1).f2) true _ A23.out).mono ?_); rintro e w' ⟨rfl, ⟨nd, rfl⟩⟩; (try exact dd_))); try go_wp2_with (first | ((with_reducible refine gate_dst (N := 4) rfl ?_); (try (refine gate_guard (by rfl) ?_; dsimp only)); refine bx_ HB rfl (N := 4) rfl (cs := #[.int .i64 0, .int .i64 0, .int .i64 0]) (t := 122) hr_ ?_; clear HB; intro gb252 w38 hg hb BK252 GW252 HB; have NB248_252 := ng_ BK248 hg; have NB252_248 := ns_ (ng_ BK248 hg); replace BK248 := bb_ BK248 hb; clear hb hg; have hnb39 := NB252_248.out; have hnc39 := NB248_252.out; obtain ⟨hcz40_0, hcz40_1, hcz40_2, hfz40_0, hfz40_1, hfz40_2⟩ := cz3_ BK252) | (go_at_call 151; (with_reducible refine (impl_isPlace.calls ((rd_T122 l0_2 x33_1).f0) true _ A19.out).mono ?_); rintro e w' ⟨rfl, ⟨nd, rfl⟩⟩; (try exact dd_)) | (go_at_call 152; (with_reducible refine (impl_isWordNum.calls ((rd_T122 l0_2 x33_1).f1) true _ A21.out).mono ?_); rintro e w' ⟨rfl, ⟨nd, rfl⟩⟩; (try exact dd_)) | (go_at_call 152; (with_reducible refine (impl_isWordNum.calls ((rd_T122 l0_2 x33_1).f2) true _ A23.out).mono ?_); rintro e w' ⟨rfl, ⟨nd, rfl⟩⟩; (try exact dd_))))
       go_roundg k1
       case measure => have := HK1.out; omega
       case rel => exact ⟨(wrap64 (x33_1 + 1)), rt_, H', ⟨by have := HK1.out; omega⟩, ⟨bk_ BK248⟩, ⟨hb_ HB⟩⟩
      obtain rfl := Bool.eq_false_iff.mpr c24
      replace H := iF_ H
      obtain rfl := Option.some.inj H
      obtain ⟨ad251, p251, q251, rfl, hx251_0, hx251_1, hx251_2⟩ := ab_T122 HB HR0_2 x33_1
      go_wp2_with (first | ((with_reducible refine gate_dst (N := 4) rfl ?_); (try (refine gate_guard (by rfl) ?_; dsimp only)); refine bx_ HB rfl (N := 4) rfl (cs := #[.int .i64 0, .int .i64 0, .int .i64 0]) (t := 122) hr_ ?_; clear HB; intro gb252 w41 hg hb BK252 GW252 HB; have NB248_252 := ng_ BK248 hg; have NB252_248 := ns_ (ng_ BK248 hg); replace BK248 := bb_ BK248 hb; clear hb hg; have hnb42 := NB252_248.out; have hnc42 := NB248_252.out; obtain ⟨hcz43_0, hcz43_1, hcz43_2, hfz43_0, hfz43_1, hfz43_2⟩ := cz3_ BK252) | (go_at_call 151; (with_reducible refine (impl_isPlace.calls ((rd_T122 l0_2 x33_1).f0) true _ A19.out).mono ?_); rintro e w' ⟨rfl, ⟨nd, rfl⟩⟩; (try exact dd_)) | (go_at_call 152; (with_reducible refine (impl_isWordNum.calls ((rd_T122 l0_2 x33_1).f1) true _ A21.out).mono ?_); rintro e w' ⟨rfl, ⟨nd, rfl⟩⟩; (try exact dd_)) | (go_at_call 152; (with_reducible refine (impl_isWordNum.calls ((rd_T122 l0_2 x33_1).f2) false _ A23.out).mono ?_); rintro e w' ⟨rfl, ⟨nd, rfl⟩⟩; (try exact dd_)))
      repeat (go_quiet (first | ((with_reducible refine gate_dst (N := 4) rfl ?_); (try (refine gate_guard (by rfl) ?_; dsimp only)); refine bx_ HB rfl (N := 4) rfl (cs := #[.int .i64 0, .int .i64 0, .int .i64 0]) (t := 122) hr_ ?_; clear HB; intro gb252 w41 hg hb BK252 GW252 HB; have NB248_252 := ng_ BK248 hg; have NB252_248 := ns_ (ng_ BK248 hg); replace BK248 := bb_ BK248 hb; clear hb hg; have hnb42 := NB252_248.out; have hnc42 := NB248_252.out; obtain ⟨hcz43_0, hcz43_1, hcz43_2, hfz43_0, hfz43_1, hfz43_2⟩ := cz3_ BK252) | (go_at_call 151; (with_reducible refine (impl_isPlace.calls ((rd_T122 l0_2 x33_1).f0) true _ A19.out).mono ?_); rintro e w' ⟨rfl, ⟨nd, rfl⟩⟩; (try exact dd_)) | (go_at_call 152; (with_reducible refine (impl_isWordNum.calls ((rd_T122 l0_2 x33_1).f1) true _ A21.out).mono ?_); rintro e w' ⟨rfl, ⟨nd, rfl⟩⟩; (try exact dd_)) | (go_at_call 152; (with_reducible refine (impl_isWordNum.calls ((rd_T122 l0_2 x33_1).f2) false _ A23.out).mono ?_); rintro e w' ⟨rfl, ⟨nd, rfl⟩⟩; (try exact dd_))); try go_wp2_with (first | ((with_reducible refine gate_dst (N := 4) rfl ?_); (try (refine gate_guard (by rfl) ?_; dsimp only)); refine bx_ HB rfl (N := 4) rfl (cs := #[.int .i64 0, .int .i64 0, .int .i64 0]) (t := 122) hr_ ?_; clear HB; intro gb252 w41 hg hb BK252 GW252 HB; have NB248_252 := ng_ BK248 hg; have NB252_248 := ns_ (ng_ BK248 hg); replace BK248 := bb_ BK248 hb; clear hb hg; have hnb42 := NB252_248.out; have hnc42 := NB248_252.out; obtain ⟨hcz43_0, hcz43_1, hcz43_2, hfz43_0, hfz43_1, hfz43_2⟩ := cz3_ BK252) | (go_at_call 151; (with_reducible refine (impl_isPlace.calls ((rd_T122 l0_2 x33_1).f0) true _ A19.out).mono ?_); rintro e w' ⟨rfl, ⟨nd, rfl⟩⟩; (try exact dd_)) | (go_at_call 152; (with_reducible refine (impl_isWordNum.calls ((rd_T122 l0_2 x33_1).f1) true _ A21.out).mono ?_); rintro e w' ⟨rfl, ⟨nd, rfl⟩⟩; (try exact dd_)) | (go_at_call 152; (with_reducible refine (impl_isWordNum.calls ((rd_T122 l0_2 x33_1).f2) false _ A23.out).mono ?_); rintro e w' ⟨rfl, ⟨nd, rfl⟩⟩; (try exact dd_))))
      go_ret
      exact ⟨rs_, hb_ HB⟩
     obtain rfl := Bool.eq_false_iff.mpr c22
     replace H := iF_ H
     obtain rfl := Option.some.inj H
     obtain ⟨ad251, p251, q251, rfl, hx251_0, hx251_1, hx251_2⟩ := ab_T122 HB HR0_2 x33_1
     go_wp2_with (first | ((with_reducible refine gate_dst (N := 4) rfl ?_); (try (refine gate_guard (by rfl) ?_; dsimp only)); refine bx_ HB rfl (N := 4) rfl (cs := #[.int .i64 0, .int .i64 0, .int .i64 0]) (t := 122) hr_ ?_; clear HB; intro gb252 w44 hg hb BK252 GW252 HB; have NB248_252 := ng_ BK248 hg; have NB252_248 := ns_ (ng_ BK248 hg); replace BK248 := bb_ BK248 hb; clear hb hg; have hnb45 := NB252_248.out; have hnc45 := NB248_252.out; obtain ⟨hcz46_0, hcz46_1, hcz46_2, hfz46_0, hfz46_1, hfz46_2⟩ := cz3_ BK252) | (go_at_call 151; (with_reducible refine (impl_isPlace.calls ((rd_T122 l0_2 x33_1).f0) true _ A19.out).mono ?_); rintro e w' ⟨rfl, ⟨nd, rfl⟩⟩; (try exact dd_)) | (go_at_call 152; (with_reducible refine (impl_isWordNum.calls ((rd_T122 l0_2 x33_1).f1) false _ A21.out).mono ?_); rintro e w' ⟨rfl, ⟨nd, rfl⟩⟩; (try exact dd_)))
     repeat (go_quiet (first | ((with_reducible refine gate_dst (N := 4) rfl ?_); (try (refine gate_guard (by rfl) ?_; dsimp only)); refine bx_ HB rfl (N := 4) rfl (cs := #[.int .i64 0, .int .i64 0, .int .i64 0]) (t := 122) hr_ ?_; clear HB; intro gb252 w44 hg hb BK252 GW252 HB; have NB248_252 := ng_ BK248 hg; have NB252_248 := ns_ (ng_ BK248 hg); replace BK248 := bb_ BK248 hb; clear hb hg; have hnb45 := NB252_248.out; have hnc45 := NB248_252.out; obtain ⟨hcz46_0, hcz46_1, hcz46_2, hfz46_0, hfz46_1, hfz46_2⟩ := cz3_ BK252) | (go_at_call 151; (with_reducible refine (impl_isPlace.calls ((rd_T122 l0_2 x33_1).f0) true _ A19.out).mono ?_); rintro e w' ⟨rfl, ⟨nd, rfl⟩⟩; (try exact dd_)) | (go_at_call 152; (with_reducible refine (impl_isWordNum.calls ((rd_T122 l0_2 x33_1).f1) false _ A21.out).mono ?_); rintro e w' ⟨rfl, ⟨nd, rfl⟩⟩; (try exact dd_))); try go_wp2_with (first | ((with_reducible refine gate_dst (N := 4) rfl ?_); (try (refine gate_guard (by rfl) ?_; dsimp only)); refine bx_ HB rfl (N := 4) rfl (cs := #[.int .i64 0, .int .i64 0, .int .i64 0]) (t := 122) hr_ ?_; clear HB; intro gb252 w44 hg hb BK252 GW252 HB; have NB248_252 := ng_ BK248 hg; have NB252_248 := ns_ (ng_ BK248 hg); replace BK248 := bb_ BK248 hb; clear hb hg; have hnb45 := NB252_248.out; have hnc45 := NB248_252.out; obtain ⟨hcz46_0, hcz46_1, hcz46_2, hfz46_0, hfz46_1, hfz46_2⟩ := cz3_ BK252) | (go_at_call 151; (with_reducible refine (impl_isPlace.calls ((rd_T122 l0_2 x33_1).f0) true _ A19.out).mono ?_); rintro e w' ⟨rfl, ⟨nd, rfl⟩⟩; (try exact dd_)) | (go_at_call 152; (with_reducible refine (impl_isWordNum.calls ((rd_T122 l0_2 x33_1).f1) false _ A21.out).mono ?_); rintro e w' ⟨rfl, ⟨nd, rfl⟩⟩; (try exact dd_))))
     go_ret
     exact ⟨rs_, hb_ HB⟩
    obtain rfl := Bool.eq_false_iff.mpr c20
    replace H := iF_ H
    obtain rfl := Option.some.inj H
    obtain ⟨ad251, p251, q251, rfl, hx251_0, hx251_1, hx251_2⟩ := ab_T122 HB HR0_2 x33_1
    go_wp2_with (first | ((with_reducible refine gate_dst (N := 4) rfl ?_); (try (refine gate_guard (by rfl) ?_; dsimp only)); refine bx_ HB rfl (N := 4) rfl (cs := #[.int .i64 0, .int .i64 0, .int .i64 0]) (t := 122) hr_ ?_; clear HB; intro gb252 w47 hg hb BK252 GW252 HB; have NB248_252 := ng_ BK248 hg; have NB252_248 := ns_ (ng_ BK248 hg); replace BK248 := bb_ BK248 hb; clear hb hg; have hnb48 := NB252_248.out; have hnc48 := NB248_252.out; obtain ⟨hcz49_0, hcz49_1, hcz49_2, hfz49_0, hfz49_1, hfz49_2⟩ := cz3_ BK252) | (go_at_call 151; (with_reducible refine (impl_isPlace.calls ((rd_T122 l0_2 x33_1).f0) false _ A19.out).mono ?_); rintro e w' ⟨rfl, ⟨nd, rfl⟩⟩; (try exact dd_)))
    repeat (go_quiet (first | ((with_reducible refine gate_dst (N := 4) rfl ?_); (try (refine gate_guard (by rfl) ?_; dsimp only)); refine bx_ HB rfl (N := 4) rfl (cs := #[.int .i64 0, .int .i64 0, .int .i64 0]) (t := 122) hr_ ?_; clear HB; intro gb252 w47 hg hb BK252 GW252 HB; have NB248_252 := ng_ BK248 hg; have NB252_248 := ns_ (ng_ BK248 hg); replace BK248 := bb_ BK248 hb; clear hb hg; have hnb48 := NB252_248.out; have hnc48 := NB248_252.out; obtain ⟨hcz49_0, hcz49_1, hcz49_2, hfz49_0, hfz49_1, hfz49_2⟩ := cz3_ BK252) | (go_at_call 151; (with_reducible refine (impl_isPlace.calls ((rd_T122 l0_2 x33_1).f0) false _ A19.out).mono ?_); rintro e w' ⟨rfl, ⟨nd, rfl⟩⟩; (try exact dd_))); try go_wp2_with (first | ((with_reducible refine gate_dst (N := 4) rfl ?_); (try (refine gate_guard (by rfl) ?_; dsimp only)); refine bx_ HB rfl (N := 4) rfl (cs := #[.int .i64 0, .int .i64 0, .int .i64 0]) (t := 122) hr_ ?_; clear HB; intro gb252 w47 hg hb BK252 GW252 HB; have NB248_252 := ng_ BK248 hg; have NB252_248 := ns_ (ng_ BK248 hg); replace BK248 := bb_ BK248 hb; clear hb hg; have hnb48 := NB252_248.out; have hnc48 := NB248_252.out; obtain ⟨hcz49_0, hcz49_1, hcz49_2, hfz49_0, hfz49_1, hfz49_2⟩ := cz3_ BK252) | (go_at_call 151; (with_reducible refine (impl_isPlace.calls ((rd_T122 l0_2 x33_1).f0) false _ A19.out).mono ?_); rintro e w' ⟨rfl, ⟨nd, rfl⟩⟩; (try exact dd_))))
    go_ret
    exact ⟨rs_, hb_ HB⟩
   replace H := bs_ H
   obtain ⟨t249, A50, H⟩ := H
   by_cases c51 : t249 = true
   ·
    subst c51
    replace H := it_ H
    replace H := bs_ H
    obtain ⟨t250, A52, H⟩ := H
    by_cases c53 : t250 = true
    ·
     subst c53
     replace H := it_ H
     obtain rfl := Option.some.inj H
     obtain ⟨hcz54_0, hcz54_1, hcz54_2, hcz54_3, hcz54_4, hfz54_0, hfz54_1, hfz54_2, hfz54_3, hfz54_4⟩ := cz5_ BK248
     go_wp2_with (first | (go_at_call 93; (with_reducible refine (impl_from.calls a0_0 1 1000000 true _ A50.out).mono ?_); rintro e w' ⟨rfl, ⟨nd, rfl⟩⟩; (try exact dd_)) | (go_at_call 93; (with_reducible refine (impl_from.calls a0_1 1 3 true _ A52.out).mono ?_); rintro e w' ⟨rfl, ⟨nd, rfl⟩⟩; (try exact dd_)))
     repeat (go_quiet (first | (go_at_call 93; (with_reducible refine (impl_from.calls a0_0 1 1000000 true _ A50.out).mono ?_); rintro e w' ⟨rfl, ⟨nd, rfl⟩⟩; (try exact dd_)) | (go_at_call 93; (with_reducible refine (impl_from.calls a0_1 1 3 true _ A52.out).mono ?_); rintro e w' ⟨rfl, ⟨nd, rfl⟩⟩; (try exact dd_))); try go_wp2_with (first | (go_at_call 93; (with_reducible refine (impl_from.calls a0_0 1 1000000 true _ A50.out).mono ?_); rintro e w' ⟨rfl, ⟨nd, rfl⟩⟩; (try exact dd_)) | (go_at_call 93; (with_reducible refine (impl_from.calls a0_1 1 3 true _ A52.out).mono ?_); rintro e w' ⟨rfl, ⟨nd, rfl⟩⟩; (try exact dd_))))
     go_ret
     exact ⟨rs_, hb_ HB⟩
    obtain rfl := Bool.eq_false_iff.mpr c53
    replace H := iF_ H
    obtain rfl := Option.some.inj H
    obtain ⟨hcz55_0, hcz55_1, hcz55_2, hcz55_3, hcz55_4, hfz55_0, hfz55_1, hfz55_2, hfz55_3, hfz55_4⟩ := cz5_ BK248
    go_wp2_with (first | (go_at_call 93; (with_reducible refine (impl_from.calls a0_0 1 1000000 true _ A50.out).mono ?_); rintro e w' ⟨rfl, ⟨nd, rfl⟩⟩; (try exact dd_)) | (go_at_call 93; (with_reducible refine (impl_from.calls a0_1 1 3 false _ A52.out).mono ?_); rintro e w' ⟨rfl, ⟨nd, rfl⟩⟩; (try exact dd_)))
    repeat (go_quiet (first | (go_at_call 93; (with_reducible refine (impl_from.calls a0_0 1 1000000 true _ A50.out).mono ?_); rintro e w' ⟨rfl, ⟨nd, rfl⟩⟩; (try exact dd_)) | (go_at_call 93; (with_reducible refine (impl_from.calls a0_1 1 3 false _ A52.out).mono ?_); rintro e w' ⟨rfl, ⟨nd, rfl⟩⟩; (try exact dd_))); try go_wp2_with (first | (go_at_call 93; (with_reducible refine (impl_from.calls a0_0 1 1000000 true _ A50.out).mono ?_); rintro e w' ⟨rfl, ⟨nd, rfl⟩⟩; (try exact dd_)) | (go_at_call 93; (with_reducible refine (impl_from.calls a0_1 1 3 false _ A52.out).mono ?_); rintro e w' ⟨rfl, ⟨nd, rfl⟩⟩; (try exact dd_))))
    go_ret
    exact ⟨rs_, hb_ HB⟩
   obtain rfl := Bool.eq_false_iff.mpr c51
   replace H := iF_ H
   obtain rfl := Option.some.inj H
   obtain ⟨hcz56_0, hcz56_1, hcz56_2, hcz56_3, hcz56_4, hfz56_0, hfz56_1, hfz56_2, hfz56_3, hfz56_4⟩ := cz5_ BK248
   go_wp2_with (first | (go_at_call 93; (with_reducible refine (impl_from.calls a0_0 1 1000000 false _ A50.out).mono ?_); rintro e w' ⟨rfl, ⟨nd, rfl⟩⟩; (try exact dd_)))
   repeat (go_quiet (first | (go_at_call 93; (with_reducible refine (impl_from.calls a0_0 1 1000000 false _ A50.out).mono ?_); rintro e w' ⟨rfl, ⟨nd, rfl⟩⟩; (try exact dd_))); try go_wp2_with (first | (go_at_call 93; (with_reducible refine (impl_from.calls a0_0 1 1000000 false _ A50.out).mono ?_); rintro e w' ⟨rfl, ⟨nd, rfl⟩⟩; (try exact dd_))))
   go_ret
   exact ⟨rs_, hb_ HB⟩

/-! ### impl_MemOk_c1: function 119 -/
def impl_MemOk_c1.f (k : Nat) (a0_0 : Int) (a0_1 : Int) (l0_2 : List (S122)) (a0_3 : Int) (l0_4 : List Int) : Option (Bool) := (impl_DescOk.f k a0_0 a0_1 l0_2 a0_3 l0_4).bind fun t258 => (some (!t258))
theorem impl_MemOk_c1.mono : ∀ a0 a1 a2 a3 a4 k, LeO (impl_MemOk_c1.f k a0 a1 a2 a3 a4) (impl_MemOk_c1.f (k + 1) a0 a1 a2 a3 a4) := by
 intro a0 a1 a2 a3 a4 k
 unfold impl_MemOk_c1.f
 repeat' first | (with_reducible first | apply impl_DescOk.mono | apply LeO.refl | apply LeO.none | apply LeO.ite | refine LeO.bind ?_ (fun _ => ?_)) | apply impl_DescOk.mono | apply LeO.none | apply LeO.ite | refine LeO.bind ?_ (fun _ => ?_)
set_option maxHeartbeats 8000000 in
set_option maxRecDepth 100000 in
theorem impl_MemOk_c1.calls (k : Nat) (a0_0 : Int) (a0_1 : Int) (A0_2 : Option Addr) (c0_2 : Nat) (l0_2 : List (S122)) (a0_3 : Int) (A0_4 : Option Addr) (c0_4 : Nat) (l0_4 : List Int) (r : Bool) (w : World) (hr0_2 : Kd.C k122 w A0_2 l0_2.length l0_2) (hc0_2 : l0_2.length ≤ c0_2) (hr0_4 : Kd.C (Kd.int .i64) w A0_4 l0_4.length l0_4) (hc0_4 : l0_4.length ≤ c0_4) (h : impl_MemOk_c1.f k a0_0 a0_1 l0_2 a0_3 l0_4 = some r) :
    Calls Try.prog 119 #[.agg #[.int .i64 a0_0, .int .i64 a0_1, .slice A0_2 l0_2.length c0_2, .int .i64 a0_3, .slice A0_4 l0_4.length c0_4]] w fun e w' => e = .returned (.bool r) ∧ Below w.heap.size w w' := by
 have hu119 := Try.underlying119
 have HR0_2 := A_ hr0_2
 have HC0_2 := A_ hc0_2
 clear hr0_2 hc0_2
 have HR0_4 := A_ hr0_4
 have HC0_4 := A_ hc0_4
 clear hr0_4 hc0_4
 have HB := A_ (Below.refl w.heap.size w)
 have H : ((impl_DescOk.f k a0_0 a0_1 l0_2 a0_3 l0_4).bind fun t258 => (some (!t258))) = some r := h
 clear h
 replace H := bs_ H
 obtain ⟨t258, A2, H⟩ := H
 obtain rfl := Option.some.inj H
 go_enter Try.func119, Try.ntmps119
 go_wp2_with (first | ((with_reducible refine gate_dst (N := 1) rfl ?_); refine bx_ HB rfl (N := 1) rfl (cs := #[.int .i64 a0_0, .int .i64 a0_1, .slice A0_2 l0_2.length c0_2, .int .i64 a0_3, .slice A0_4 l0_4.length c0_4]) (t := 119) hr_ ?_; clear HB; intro gb257 w3 hg hb BK257 GW257 HB; clear hb hg; obtain ⟨hcz4_0, hcz4_1, hcz4_2, hcz4_3, hcz4_4, hfz4_0, hfz4_1, hfz4_2, hfz4_3, hfz4_4⟩ := cz5_ BK257) | ((with_reducible refine gate_callee (f := 120) rfl ?_); refine goesL_ (some 4) rfl rfl Try.func120 (by kernel_rfl) rfl #[.agg #[.int .i64 a0_0, .int .i64 a0_1, .slice A0_2 l0_2.length c0_2, .int .i64 a0_3, .slice A0_4 l0_4.length c0_4]] rfl al_ ?_; (with_reducible refine (impl_DescOk.calls k a0_0 a0_1 _ _ l0_2 a0_3 _ _ l0_4 t258 _ ?side1 ?side2 ?side3 ?side4 A2.out).mono ?_); (case side1 => exact cb_ (Kd.C_below HR0_2.out HB.out)); (case side2 => exact HC0_2.out); (case side3 => exact cb_ (Kd.C_below HR0_4.out HB.out)); (case side4 => exact HC0_4.out); rintro e w5 ⟨rfl, hb⟩; refine ⟨_, rfl, ?_⟩; replace BK257 := bb_ BK257 hb; replace HB := hs_ HB hb; (try clear hb); (try clear hb2); (try clear hk); (try clear hi)))
 go_ret
 exact ⟨rs_, hb_ HB⟩

/-! ### slices_IndexFuncMemOk_c1: function 178 -/
def slices_IndexFuncMemOk_c1.l0 : Nat → List (S119) → Int → Int → Option (Int)
 | 0, _, _, _ => none
 | k + 1, x0, x7, x8 => if x8 < x7 then (if 0 ≤ x8 then (if x8 < (x0.length : Int) then ((impl_MemOk_c1.f k ((rd_T119 x0 x8).f0) ((rd_T119 x0 x8).f1) ((rd_T119 x0 x8).f2) ((rd_T119 x0 x8).f3.f0) ((rd_T119 x0 x8).f3.f1)).bind fun t260 => (if t260 = true then (some x8) else (slices_IndexFuncMemOk_c1.l0 k x0 x7 (wrap64 (x8 + 1))))) else (none)) else (none)) else (some (-1))
def slices_IndexFuncMemOk_c1.f (k : Nat) (l0 : List (S119)) : Option (Int) := slices_IndexFuncMemOk_c1.l0 k l0 (l0.length : Int) 0
theorem slices_IndexFuncMemOk_c1.mono_l : ∀ k, (∀ y0 y1 y2, LeO (slices_IndexFuncMemOk_c1.l0 k y0 y1 y2) (slices_IndexFuncMemOk_c1.l0 (k + 1) y0 y1 y2))
 | 0 => fun _ _ _ r h => by simp [slices_IndexFuncMemOk_c1.l0] at h
 | k + 1 => by
  have ih0 := slices_IndexFuncMemOk_c1.mono_l k
  ·
   intro y0 y1 y2
   unfold slices_IndexFuncMemOk_c1.l0
   repeat' first | (with_reducible first | apply ih0 | apply impl_MemOk_c1.mono | apply LeO.refl | apply LeO.none | apply LeO.ite | refine LeO.bind ?_ (fun _ => ?_)) | apply ih0 | apply impl_MemOk_c1.mono | apply LeO.none | apply LeO.ite | refine LeO.bind ?_ (fun _ => ?_)
theorem slices_IndexFuncMemOk_c1.mono : ∀ a0 k, LeO (slices_IndexFuncMemOk_c1.f k a0) (slices_IndexFuncMemOk_c1.f (k + 1) a0) := by
 intro a0 k
 have ih0 := slices_IndexFuncMemOk_c1.mono_l k
 unfold slices_IndexFuncMemOk_c1.f
 repeat' first | (with_reducible first | apply ih0 | apply impl_MemOk_c1.mono | apply LeO.refl | apply LeO.none | apply LeO.ite | refine LeO.bind ?_ (fun _ => ?_)) | apply ih0 | apply impl_MemOk_c1.mono | apply LeO.none | apply LeO.ite | refine LeO.bind ?_ (fun _ => ?_)
set_option maxHeartbeats 8000000 in
set_option maxRecDepth 100000 in
theorem slices_IndexFuncMemOk_c1.calls (k : Nat) (A0 : Option Addr) (c0 : Nat) (l0 : List (S119)) (r : Int) (w : World) (hr0 : Kd.C k119 w A0 l0.length l0) (hc0 : l0.length ≤ c0) (h : slices_IndexFuncMemOk_c1.f k l0 = some r) :
    Calls Try.prog 150 #[.slice A0 l0.length c0, .func (.func 119) #[] #[]] w fun e w' => e = .returned (.int .i64 r) ∧ Below w.heap.size w w' := by
 have hu119 := Try.underlying119
 have HR0 := A_ hr0
 have HC0 := A_ hc0
 clear hr0 hc0
 have HB := A_ (Below.refl w.heap.size w)
 have H : (slices_IndexFuncMemOk_c1.l0 k l0 (l0.length : Int) 0) = some r := h
 clear h
 replace H' := A_ H; clear H
 go_enter Try.func150, Try.ntmps150
 go_wp2
 go_loopg [8] k (fun kq v8 w' => ∃ (x8_1 : Int), v8 = .int .i64 x8_1 ∧ Aside0 (slices_IndexFuncMemOk_c1.l0 kq l0 (l0.length : Int) x8_1 = some r) ∧ Aside0 (kq ≤ k) ∧ Aside0 (Below w.heap.size w w'))
 case atStart => exact ⟨(0), rt_, H', ⟨Nat.le_refl _⟩, ⟨hb_ HB⟩⟩
 case round =>
  clear H'
  obtain ⟨x8_1, rfl, HA, HK1, HB⟩ := hrel
  cases gk with
  | zero => exact absurd HA.out (by simp [slices_IndexFuncMemOk_c1.l0])
  | succ k1 =>
   have H := HA.out
   clear HA
   simp only [slices_IndexFuncMemOk_c1.l0] at H
   replace H := ic_ H
   rcases H with ⟨c2b0, H⟩ | ⟨c2b0, H⟩
   ·
    replace H := ix_ H
    obtain ⟨c3b0, H⟩ := H
    replace H := ix_ H
    obtain ⟨c4b0, H⟩ := H
    replace H := bs_ H
    obtain ⟨t260, A5, H⟩ := H
    by_cases c6 : t260 = true
    ·
     subst c6
     replace H := it_ H
     obtain rfl := Option.some.inj H
     obtain ⟨ad259, A259_2, c259_2, A259_4, c259_4, p259, q259, rfl, hx259_0, hx259_1, hx259_2, hx259_3, hx259_4, HC259_2, HR259_2, HC259_4, HR259_4⟩ := ab_T119 HB HR0 x8_1
     go_wp2_with (first | ((with_reducible refine gate_dst (N := 16) rfl ?_); refine goesV_ (c := .tmp 11) (some 16) rfl rfl Try.func119 (by kernel_rfl) rfl #[.agg #[.int .i64 ((rd_T119 l0 x8_1).f0), .int .i64 ((rd_T119 l0 x8_1).f1), .slice A259_2 ((rd_T119 l0 x8_1).f2).length c259_2, .int .i64 ((rd_T119 l0 x8_1).f3.f0), .slice A259_4 ((rd_T119 l0 x8_1).f3.f1).length c259_4]] rfl rfl al_ ?_; (with_reducible refine (impl_MemOk_c1.calls k1 ((rd_T119 l0 x8_1).f0) ((rd_T119 l0 x8_1).f1) _ _ ((rd_T119 l0 x8_1).f2) ((rd_T119 l0 x8_1).f3.f0) _ _ ((rd_T119 l0 x8_1).f3.f1) true _ ?side1 ?side2 ?side3 ?side4 A5.out).mono ?_); (case side1 => exact cb_ (Kd.C_below HR259_2.out HB.out)); (case side2 => exact HC259_2.out); (case side3 => exact cb_ (Kd.C_below HR259_4.out HB.out)); (case side4 => exact HC259_4.out); rintro e w7 ⟨rfl, hb⟩; refine ⟨_, rfl, ?_⟩; replace HB := hs_ HB hb; (try clear hb); (try clear hb2); (try clear hk); (try clear hi)))
     go_ret
     exact ⟨rs_, hb_ HB⟩
    obtain rfl := Bool.eq_false_iff.mpr c6
    replace H := iF_ H
    replace H' := A_ H; clear H
    obtain ⟨ad259, A259_2, c259_2, A259_4, c259_4, p259, q259, rfl, hx259_0, hx259_1, hx259_2, hx259_3, hx259_4, HC259_2, HR259_2, HC259_4, HR259_4⟩ := ab_T119 HB HR0 x8_1
    go_wp2_with (first | ((with_reducible refine gate_dst (N := 16) rfl ?_); refine goesV_ (c := .tmp 11) (some 16) rfl rfl Try.func119 (by kernel_rfl) rfl #[.agg #[.int .i64 ((rd_T119 l0 x8_1).f0), .int .i64 ((rd_T119 l0 x8_1).f1), .slice A259_2 ((rd_T119 l0 x8_1).f2).length c259_2, .int .i64 ((rd_T119 l0 x8_1).f3.f0), .slice A259_4 ((rd_T119 l0 x8_1).f3.f1).length c259_4]] rfl rfl al_ ?_; (with_reducible refine (impl_MemOk_c1.calls k1 ((rd_T119 l0 x8_1).f0) ((rd_T119 l0 x8_1).f1) _ _ ((rd_T119 l0 x8_1).f2) ((rd_T119 l0 x8_1).f3.f0) _ _ ((rd_T119 l0 x8_1).f3.f1) false _ ?side1 ?side2 ?side3 ?side4 A5.out).mono ?_); (case side1 => exact cb_ (Kd.C_below HR259_2.out HB.out)); (case side2 => exact HC259_2.out); (case side3 => exact cb_ (Kd.C_below HR259_4.out HB.out)); (case side4 => exact HC259_4.out); rintro e w8 ⟨rfl, hb⟩; refine ⟨_, rfl, ?_⟩; replace HB := hs_ HB hb; (try clear hb); (try clear hb2); (try clear hk); (try clear hi)))
    go_roundg k1
    case measure => have := HK1.out; omega
    case rel => exact ⟨(wrap64 (x8_1 + 1)), rt_, H', ⟨by have := HK1.out; omega⟩, ⟨hb_ HB⟩⟩
   obtain rfl := Option.some.inj H
   go_wp2
   go_ret
   exact ⟨rs_, hb_ HB⟩

/-! ### slices_ContainsFuncMemOk_c1: function 179 -/
def slices_ContainsFuncMemOk_c1.f (k : Nat) (l0 : List (S119)) : Option (Bool) := (slices_IndexFuncMemOk_c1.f k l0).bind fun t261 => (some (decide (t261 ≥ 0)))
theorem slices_ContainsFuncMemOk_c1.mono : ∀ a0 k, LeO (slices_ContainsFuncMemOk_c1.f k a0) (slices_ContainsFuncMemOk_c1.f (k + 1) a0) := by
 intro a0 k
 unfold slices_ContainsFuncMemOk_c1.f
 repeat' first | (with_reducible first | apply slices_IndexFuncMemOk_c1.mono | apply LeO.refl | apply LeO.none | apply LeO.ite | refine LeO.bind ?_ (fun _ => ?_)) | apply slices_IndexFuncMemOk_c1.mono | apply LeO.none | apply LeO.ite | refine LeO.bind ?_ (fun _ => ?_)
set_option maxHeartbeats 8000000 in
set_option maxRecDepth 100000 in
theorem slices_ContainsFuncMemOk_c1.calls (k : Nat) (A0 : Option Addr) (c0 : Nat) (l0 : List (S119)) (r : Bool) (w : World) (hr0 : Kd.C k119 w A0 l0.length l0) (hc0 : l0.length ≤ c0) (h : slices_ContainsFuncMemOk_c1.f k l0 = some r) :
    Calls Try.prog 118 #[.slice A0 l0.length c0, .func (.func 119) #[] #[]] w fun e w' => e = .returned (.bool r) ∧ Below w.heap.size w w' := by
 have HR0 := A_ hr0
 have HC0 := A_ hc0
 clear hr0 hc0
 have HB := A_ (Below.refl w.heap.size w)
 have H : ((slices_IndexFuncMemOk_c1.f k l0).bind fun t261 => (some (decide (t261 ≥ 0)))) = some r := h
 clear h
 replace H := bs_ H
 obtain ⟨t261, A2, H⟩ := H
 obtain rfl := Option.some.inj H
 go_enter Try.func118, Try.ntmps118
 go_wp2_with (first | ((with_reducible refine gate_callee (f := 150) rfl ?_); refine goesL_ (some 7) rfl rfl Try.func150 (by kernel_rfl) rfl #[.slice A0 l0.length c0, .func (.func 119) #[] #[]] rfl al_ ?_; (with_reducible refine (slices_IndexFuncMemOk_c1.calls k _ _ l0 t261 _ ?side1 ?side2 A2.out).mono ?_); (case side1 => exact cb_ HR0.out); (case side2 => exact HC0.out); rintro e w3 ⟨rfl, hb⟩; refine ⟨_, rfl, ?_⟩; replace HB := hs_ HB hb; (try clear hb); (try clear hb2); (try clear hk); (try clear hi)))
 go_ret
 exact ⟨rs_, hb_ HB⟩

end Go.Proofs.Ytmkhghbalnadlaa.PFnExactMemNew
