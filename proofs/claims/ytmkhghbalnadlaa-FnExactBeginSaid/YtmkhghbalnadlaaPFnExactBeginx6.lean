/- Contracts of functions of the program: each says that the call does what a plain Lean function tells. Made by programs of this session and of the kit. No condition beyond the hypotheses that each theorem names. -/
import Derived.Test.YtmkhghbalnadlaaPFnExactBeginx0
import Derived.Test.YtmkhghbalnadlaaPFnExactBeginx5
namespace Go.Proofs.Ytmkhghbalnadlaa.PFnExactBegin
open Go.RowKit Go.Proofs.YtmkhghbalnadlaaW.PrintWords Go.Proofs.YtmkhghbalnadlaaW.PrintLast Go.Proofs.YtmkhghbalnadlaaW.PrintMore
attribute [local go_sem] max2_int min2_int max_two min_two max_three min_three max_four min_four   -- for this text's walks alone
set_option linter.unusedVariables false
set_option linter.unusedSimpArgs false

/-! ### spec_DescOk: function 113 -/
mutual
def spec_DescOk.j0 : Nat → Bool → Int → Int → List (S122) → Int → List Int → Option (Bool)
 | 0, _, _, _, _, _, _ => none
 | k + 1, x45, x235000, x235001, x235002, x235003, x235004 => if x45 = true then (some false) else (spec_DescOk.l0 k 0 x235000 x235001 x235002 x235003 x235004)
def spec_DescOk.l0 : Nat → Int → Int → Int → List (S122) → Int → List Int → Option (Bool)
 | 0, _, _, _, _, _, _ => none
 | k + 1, x3, x235000, x235001, x235002, x235003, x235004 => if x3 < (x235002.length : Int) then (if 0 ≤ x3 then ((spec_l1In.f ((rd_T122 x235002 x3).f0) 0 19).bind fun t239 => (if t239 = true then ((spec_l1In.f ((rd_T122 x235002 x3).f1) 0 1000).bind fun t240 => (if t240 = true then ((spec_l1In.f ((rd_T122 x235002 x3).f2) 0 1000).bind fun t241 => (if t241 = true then (if x3 > 0 then (if 0 ≤ (wrap64 (x3 - 1)) then (if (wrap64 (x3 - 1)) < (x235002.length : Int) then (if ((rd_T122 x235002 (wrap64 (x3 - 1))).f0) ≥ ((rd_T122 x235002 x3).f0) then (some false) else (spec_DescOk.l0 k (wrap64 (x3 + 1)) x235000 x235001 x235002 x235003 x235004)) else (none)) else (none)) else (spec_DescOk.l0 k (wrap64 (x3 + 1)) x235000 x235001 x235002 x235003 x235004)) else (some false))) else (some false))) else (some false))) else (none)) else (some true)
end
def spec_DescOk.f (k : Nat) (a0_0 : Int) (a0_1 : Int) (l0_2 : List (S122)) (a0_3 : Int) (l0_4 : List Int) : Option (Bool) := if a0_0 = 0 then (if a0_1 = 0 then (if (l0_2.length : Int) = 0 then (if a0_3 = 0 then (some ((l0_4.length : Int) == 0)) else (some false)) else (some false)) else (some false)) else ((spec_l1In.f a0_0 1 1000000).bind fun t235 => (if t235 = true then ((spec_l1In.f a0_1 1 3).bind fun t236 => (if t236 = true then (spec_DescOk.j0 k (decide ((l0_2.length : Int) > 20)) a0_0 a0_1 l0_2 a0_3 l0_4) else (spec_DescOk.j0 k true a0_0 a0_1 l0_2 a0_3 l0_4))) else (spec_DescOk.j0 k true a0_0 a0_1 l0_2 a0_3 l0_4)))
set_option maxHeartbeats 8000000 in
set_option maxRecDepth 100000 in
theorem spec_DescOk.calls (k : Nat) (a0_0 : Int) (a0_1 : Int) (A0_2 : Option Addr) (c0_2 : Nat) (l0_2 : List (S122)) (a0_3 : Int) (A0_4 : Option Addr) (c0_4 : Nat) (l0_4 : List Int) (r : Bool) (w : World) (hr0_2 : Kd.C k122 w A0_2 l0_2.length l0_2) (hc0_2 : l0_2.length ≤ c0_2) (hr0_4 : Kd.C (Kd.int .i64) w A0_4 l0_4.length l0_4) (hc0_4 : l0_4.length ≤ c0_4) (h : spec_DescOk.f k a0_0 a0_1 l0_2 a0_3 l0_4 = some r) :
    Calls Try.prog 113 #[.agg #[.int .i64 a0_0, .int .i64 a0_1, .slice A0_2 l0_2.length c0_2, .int .i64 a0_3, .slice A0_4 l0_4.length c0_4]] w fun e w' => e = .returned (.bool r) ∧ Below w.heap.size w w' := by
 have hu119 := Try.underlying119
 have hu122 := Try.underlying122
 have HR0_2 := A_ hr0_2
 have HC0_2 := A_ hc0_2
 clear hr0_2 hc0_2
 have HR0_4 := A_ hr0_4
 have HC0_4 := A_ hc0_4
 clear hr0_4 hc0_4
 have HB := A_ (Below.refl w.heap.size w)
 have H : (if a0_0 = 0 then (if a0_1 = 0 then (if (l0_2.length : Int) = 0 then (if a0_3 = 0 then (some ((l0_4.length : Int) == 0)) else (some false)) else (some false)) else (some false)) else ((spec_l1In.f a0_0 1 1000000).bind fun t235 => (if t235 = true then ((spec_l1In.f a0_1 1 3).bind fun t236 => (if t236 = true then (spec_DescOk.j0 k (decide ((l0_2.length : Int) > 20)) a0_0 a0_1 l0_2 a0_3 l0_4) else (spec_DescOk.j0 k true a0_0 a0_1 l0_2 a0_3 l0_4))) else (spec_DescOk.j0 k true a0_0 a0_1 l0_2 a0_3 l0_4)))) = some r := h
 clear h
 by_cases c2 : a0_0 = 0
 ·
  rw [if_pos c2] at H
  have c2b0 : (a0_0 == 0) = true := beq_iff_eq.mpr c2
  have c2b1 : (a0_0 != 0) = false := bne_eq_false_iff_eq.mpr c2
  clear c2
  by_cases c3 : a0_1 = 0
  ·
   rw [if_pos c3] at H
   have c3b0 : (a0_1 == 0) = true := beq_iff_eq.mpr c3
   have c3b1 : (a0_1 != 0) = false := bne_eq_false_iff_eq.mpr c3
   clear c3
   by_cases c4 : (l0_2.length : Int) = 0
   ·
    rw [if_pos c4] at H
    have c4b0 : ((l0_2.length : Int) == 0) = true := beq_iff_eq.mpr c4
    have c4b1 : ((l0_2.length : Int) != 0) = false := bne_eq_false_iff_eq.mpr c4
    clear c4
    by_cases c5 : a0_3 = 0
    ·
     rw [if_pos c5] at H
     have c5b0 : (a0_3 == 0) = true := beq_iff_eq.mpr c5
     have c5b1 : (a0_3 != 0) = false := bne_eq_false_iff_eq.mpr c5
     clear c5
     obtain rfl := Option.some.inj H
     go_enter Try.func113, Try.ntmps113
     go_wp2_with (first | ((with_reducible refine gate_dst (N := 1) rfl ?_); (try (refine gate_guard (by rfl) ?_; dsimp only)); refine bx_ HB rfl (N := 1) rfl (cs := #[.int .i64 a0_0, .int .i64 a0_1, .slice A0_2 l0_2.length c0_2, .int .i64 a0_3, .slice A0_4 l0_4.length c0_4]) (t := 119) hr_ ?_; clear HB; intro gb234 w6 hg hb BK234 GW234 HB; clear hb hg; obtain ⟨hcz7_0, hcz7_1, hcz7_2, hcz7_3, hcz7_4, hfz7_0, hfz7_1, hfz7_2, hfz7_3, hfz7_4⟩ := cz5_ BK234))
     repeat (go_quiet (first | ((with_reducible refine gate_dst (N := 1) rfl ?_); (try (refine gate_guard (by rfl) ?_; dsimp only)); refine bx_ HB rfl (N := 1) rfl (cs := #[.int .i64 a0_0, .int .i64 a0_1, .slice A0_2 l0_2.length c0_2, .int .i64 a0_3, .slice A0_4 l0_4.length c0_4]) (t := 119) hr_ ?_; clear HB; intro gb234 w6 hg hb BK234 GW234 HB; clear hb hg; obtain ⟨hcz7_0, hcz7_1, hcz7_2, hcz7_3, hcz7_4, hfz7_0, hfz7_1, hfz7_2, hfz7_3, hfz7_4⟩ := cz5_ BK234)); try go_wp2_with (first | ((with_reducible refine gate_dst (N := 1) rfl ?_); (try (refine gate_guard (by rfl) ?_; dsimp only)); refine bx_ HB rfl (N := 1) rfl (cs := #[.int .i64 a0_0, .int .i64 a0_1, .slice A0_2 l0_2.length c0_2, .int .i64 a0_3, .slice A0_4 l0_4.length c0_4]) (t := 119) hr_ ?_; clear HB; intro gb234 w6 hg hb BK234 GW234 HB; clear hb hg; obtain ⟨hcz7_0, hcz7_1, hcz7_2, hcz7_3, hcz7_4, hfz7_0, hfz7_1, hfz7_2, hfz7_3, hfz7_4⟩ := cz5_ BK234)))
     go_ret
     exact ⟨rs_, hb_ HB⟩
    rw [if_neg c5] at H
    have c5b0 : (a0_3 == 0) = false := beq_eq_false_iff_ne.mpr c5
    have c5b1 : (a0_3 != 0) = true := bne_iff_ne.mpr c5
    obtain rfl := Option.some.inj H
    go_enter Try.func113, Try.ntmps113
    go_wp2_with (first | ((with_reducible refine gate_dst (N := 1) rfl ?_); (try (refine gate_guard (by rfl) ?_; dsimp only)); refine bx_ HB rfl (N := 1) rfl (cs := #[.int .i64 a0_0, .int .i64 a0_1, .slice A0_2 l0_2.length c0_2, .int .i64 a0_3, .slice A0_4 l0_4.length c0_4]) (t := 119) hr_ ?_; clear HB; intro gb234 w8 hg hb BK234 GW234 HB; clear hb hg; obtain ⟨hcz9_0, hcz9_1, hcz9_2, hcz9_3, hcz9_4, hfz9_0, hfz9_1, hfz9_2, hfz9_3, hfz9_4⟩ := cz5_ BK234))
    repeat (go_quiet (first | ((with_reducible refine gate_dst (N := 1) rfl ?_); (try (refine gate_guard (by rfl) ?_; dsimp only)); refine bx_ HB rfl (N := 1) rfl (cs := #[.int .i64 a0_0, .int .i64 a0_1, .slice A0_2 l0_2.length c0_2, .int .i64 a0_3, .slice A0_4 l0_4.length c0_4]) (t := 119) hr_ ?_; clear HB; intro gb234 w8 hg hb BK234 GW234 HB; clear hb hg; obtain ⟨hcz9_0, hcz9_1, hcz9_2, hcz9_3, hcz9_4, hfz9_0, hfz9_1, hfz9_2, hfz9_3, hfz9_4⟩ := cz5_ BK234)); try go_wp2_with (first | ((with_reducible refine gate_dst (N := 1) rfl ?_); (try (refine gate_guard (by rfl) ?_; dsimp only)); refine bx_ HB rfl (N := 1) rfl (cs := #[.int .i64 a0_0, .int .i64 a0_1, .slice A0_2 l0_2.length c0_2, .int .i64 a0_3, .slice A0_4 l0_4.length c0_4]) (t := 119) hr_ ?_; clear HB; intro gb234 w8 hg hb BK234 GW234 HB; clear hb hg; obtain ⟨hcz9_0, hcz9_1, hcz9_2, hcz9_3, hcz9_4, hfz9_0, hfz9_1, hfz9_2, hfz9_3, hfz9_4⟩ := cz5_ BK234)))
    go_ret
    exact ⟨rs_, hb_ HB⟩
   rw [if_neg c4] at H
   have c4b0 : ((l0_2.length : Int) == 0) = false := beq_eq_false_iff_ne.mpr c4
   have c4b1 : ((l0_2.length : Int) != 0) = true := bne_iff_ne.mpr c4
   have c4b2 : ¬ (l0_2 = []) := fun h_ => c4 (by rw [h_]; rfl)
   obtain rfl := Option.some.inj H
   go_enter Try.func113, Try.ntmps113
   go_wp2_with (first | ((with_reducible refine gate_dst (N := 1) rfl ?_); (try (refine gate_guard (by rfl) ?_; dsimp only)); refine bx_ HB rfl (N := 1) rfl (cs := #[.int .i64 a0_0, .int .i64 a0_1, .slice A0_2 l0_2.length c0_2, .int .i64 a0_3, .slice A0_4 l0_4.length c0_4]) (t := 119) hr_ ?_; clear HB; intro gb234 w10 hg hb BK234 GW234 HB; clear hb hg; obtain ⟨hcz11_0, hcz11_1, hcz11_2, hcz11_3, hcz11_4, hfz11_0, hfz11_1, hfz11_2, hfz11_3, hfz11_4⟩ := cz5_ BK234))
   repeat (go_quiet (first | ((with_reducible refine gate_dst (N := 1) rfl ?_); (try (refine gate_guard (by rfl) ?_; dsimp only)); refine bx_ HB rfl (N := 1) rfl (cs := #[.int .i64 a0_0, .int .i64 a0_1, .slice A0_2 l0_2.length c0_2, .int .i64 a0_3, .slice A0_4 l0_4.length c0_4]) (t := 119) hr_ ?_; clear HB; intro gb234 w10 hg hb BK234 GW234 HB; clear hb hg; obtain ⟨hcz11_0, hcz11_1, hcz11_2, hcz11_3, hcz11_4, hfz11_0, hfz11_1, hfz11_2, hfz11_3, hfz11_4⟩ := cz5_ BK234)); try go_wp2_with (first | ((with_reducible refine gate_dst (N := 1) rfl ?_); (try (refine gate_guard (by rfl) ?_; dsimp only)); refine bx_ HB rfl (N := 1) rfl (cs := #[.int .i64 a0_0, .int .i64 a0_1, .slice A0_2 l0_2.length c0_2, .int .i64 a0_3, .slice A0_4 l0_4.length c0_4]) (t := 119) hr_ ?_; clear HB; intro gb234 w10 hg hb BK234 GW234 HB; clear hb hg; obtain ⟨hcz11_0, hcz11_1, hcz11_2, hcz11_3, hcz11_4, hfz11_0, hfz11_1, hfz11_2, hfz11_3, hfz11_4⟩ := cz5_ BK234)))
   go_ret
   exact ⟨rs_, hb_ HB⟩
  rw [if_neg c3] at H
  have c3b0 : (a0_1 == 0) = false := beq_eq_false_iff_ne.mpr c3
  have c3b1 : (a0_1 != 0) = true := bne_iff_ne.mpr c3
  obtain rfl := Option.some.inj H
  go_enter Try.func113, Try.ntmps113
  go_wp2_with (first | ((with_reducible refine gate_dst (N := 1) rfl ?_); (try (refine gate_guard (by rfl) ?_; dsimp only)); refine bx_ HB rfl (N := 1) rfl (cs := #[.int .i64 a0_0, .int .i64 a0_1, .slice A0_2 l0_2.length c0_2, .int .i64 a0_3, .slice A0_4 l0_4.length c0_4]) (t := 119) hr_ ?_; clear HB; intro gb234 w12 hg hb BK234 GW234 HB; clear hb hg; obtain ⟨hcz13_0, hcz13_1, hcz13_2, hcz13_3, hcz13_4, hfz13_0, hfz13_1, hfz13_2, hfz13_3, hfz13_4⟩ := cz5_ BK234))
  repeat (go_quiet (first | ((with_reducible refine gate_dst (N := 1) rfl ?_); (try (refine gate_guard (by rfl) ?_; dsimp only)); refine bx_ HB rfl (N := 1) rfl (cs := #[.int .i64 a0_0, .int .i64 a0_1, .slice A0_2 l0_2.length c0_2, .int .i64 a0_3, .slice A0_4 l0_4.length c0_4]) (t := 119) hr_ ?_; clear HB; intro gb234 w12 hg hb BK234 GW234 HB; clear hb hg; obtain ⟨hcz13_0, hcz13_1, hcz13_2, hcz13_3, hcz13_4, hfz13_0, hfz13_1, hfz13_2, hfz13_3, hfz13_4⟩ := cz5_ BK234)); try go_wp2_with (first | ((with_reducible refine gate_dst (N := 1) rfl ?_); (try (refine gate_guard (by rfl) ?_; dsimp only)); refine bx_ HB rfl (N := 1) rfl (cs := #[.int .i64 a0_0, .int .i64 a0_1, .slice A0_2 l0_2.length c0_2, .int .i64 a0_3, .slice A0_4 l0_4.length c0_4]) (t := 119) hr_ ?_; clear HB; intro gb234 w12 hg hb BK234 GW234 HB; clear hb hg; obtain ⟨hcz13_0, hcz13_1, hcz13_2, hcz13_3, hcz13_4, hfz13_0, hfz13_1, hfz13_2, hfz13_3, hfz13_4⟩ := cz5_ BK234)))
  go_ret
  exact ⟨rs_, hb_ HB⟩
 rw [if_neg c2] at H
 have c2b0 : (a0_0 == 0) = false := beq_eq_false_iff_ne.mpr c2
 have c2b1 : (a0_0 != 0) = true := bne_iff_ne.mpr c2
 have HC14 := A_ H
 clear H
 go_enter Try.func113, Try.ntmps113
 go_upto_region 3 with (first | ((with_reducible refine gate_dst (N := 1) rfl ?_); (try (refine gate_guard (by rfl) ?_; dsimp only)); refine bx_ HB rfl (N := 1) rfl (cs := #[.int .i64 a0_0, .int .i64 a0_1, .slice A0_2 l0_2.length c0_2, .int .i64 a0_3, .slice A0_4 l0_4.length c0_4]) (t := 119) hr_ ?_; clear HB; intro gb234 w15 hg hb BK234 GW234 HB; clear hb hg; obtain ⟨hcz16_0, hcz16_1, hcz16_2, hcz16_3, hcz16_4, hfz16_0, hfz16_1, hfz16_2, hfz16_3, hfz16_4⟩ := cz5_ BK234))
 repeat (go_quiet (first | ((with_reducible refine gate_dst (N := 1) rfl ?_); (try (refine gate_guard (by rfl) ?_; dsimp only)); refine bx_ HB rfl (N := 1) rfl (cs := #[.int .i64 a0_0, .int .i64 a0_1, .slice A0_2 l0_2.length c0_2, .int .i64 a0_3, .slice A0_4 l0_4.length c0_4]) (t := 119) hr_ ?_; clear HB; intro gb234 w15 hg hb BK234 GW234 HB; clear hb hg; obtain ⟨hcz16_0, hcz16_1, hcz16_2, hcz16_3, hcz16_4, hfz16_0, hfz16_1, hfz16_2, hfz16_3, hfz16_4⟩ := cz5_ BK234)); go_upto_region 3 with (first | ((with_reducible refine gate_dst (N := 1) rfl ?_); (try (refine gate_guard (by rfl) ?_; dsimp only)); refine bx_ HB rfl (N := 1) rfl (cs := #[.int .i64 a0_0, .int .i64 a0_1, .slice A0_2 l0_2.length c0_2, .int .i64 a0_3, .slice A0_4 l0_4.length c0_4]) (t := 119) hr_ ?_; clear HB; intro gb234 w15 hg hb BK234 GW234 HB; clear hb hg; obtain ⟨hcz16_0, hcz16_1, hcz16_2, hcz16_3, hcz16_4, hfz16_0, hfz16_1, hfz16_2, hfz16_3, hfz16_4⟩ := cz5_ BK234)))
 (try simp only [Act.put, List.setIfInBounds_toArray, List.set_cons_zero, List.set_cons_succ])
 go_cut [45] (fun v45 wc => ∃ (kq : Nat) (x45_13 : Bool), v45 = .bool x45_13 ∧ Aside0 (spec_DescOk.j0 kq x45_13 a0_0 a0_1 l0_2 a0_3 l0_4 = some r) ∧ Aside0 (kq ≤ k) ∧ Aside0 (wc.heap[gb234]? = some (.cells #[.int .i64 a0_0, .int .i64 a0_1, (.slice A0_2 l0_2.length c0_2), .int .i64 a0_3, (.slice A0_4 l0_4.length c0_4)] 119 (0, 0))) ∧ Aside0 (Below w.heap.size w wc))
 case first =>
  have H := HC14.out
  clear HC14
  replace H := bs_ H
  obtain ⟨t235, A17, H⟩ := H
  by_cases c18 : t235 = true
  ·
   subst c18
   replace H := it_ H
   replace H := bs_ H
   obtain ⟨t236, A19, H⟩ := H
   by_cases c20 : t236 = true
   ·
    subst c20
    replace H := it_ H
    replace H' := A_ H; clear H
    obtain ⟨hcz21_0, hcz21_1, hcz21_2, hcz21_3, hcz21_4, hfz21_0, hfz21_1, hfz21_2, hfz21_3, hfz21_4⟩ := cz5_ BK234
    go_wp2_with (first | (go_at_call 87; (with_reducible refine (spec_l1In.calls a0_0 1 1000000 true _ A17.out).mono ?_); rintro e w' ⟨rfl, ⟨nd, rfl⟩⟩; (try exact dd_)) | (go_at_call 87; (with_reducible refine (spec_l1In.calls a0_1 1 3 true _ A19.out).mono ?_); rintro e w' ⟨rfl, ⟨nd, rfl⟩⟩; (try exact dd_)))
    repeat (go_quiet (first | (go_at_call 87; (with_reducible refine (spec_l1In.calls a0_0 1 1000000 true _ A17.out).mono ?_); rintro e w' ⟨rfl, ⟨nd, rfl⟩⟩; (try exact dd_)) | (go_at_call 87; (with_reducible refine (spec_l1In.calls a0_1 1 3 true _ A19.out).mono ?_); rintro e w' ⟨rfl, ⟨nd, rfl⟩⟩; (try exact dd_))); try go_wp2_with (first | (go_at_call 87; (with_reducible refine (spec_l1In.calls a0_0 1 1000000 true _ A17.out).mono ?_); rintro e w' ⟨rfl, ⟨nd, rfl⟩⟩; (try exact dd_)) | (go_at_call 87; (with_reducible refine (spec_l1In.calls a0_1 1 3 true _ A19.out).mono ?_); rintro e w' ⟨rfl, ⟨nd, rfl⟩⟩; (try exact dd_))))
    go_meet
    case rel => exact ⟨_, (decide ((l0_2.length : Int) > 20)), rt_, H', ⟨by first | omega | exact Nat.le_refl _⟩, ⟨bk_ BK234⟩, ⟨hb_ HB⟩⟩
   obtain rfl := Bool.eq_false_iff.mpr c20
   replace H := iF_ H
   replace H' := A_ H; clear H
   obtain ⟨hcz22_0, hcz22_1, hcz22_2, hcz22_3, hcz22_4, hfz22_0, hfz22_1, hfz22_2, hfz22_3, hfz22_4⟩ := cz5_ BK234
   go_wp2_with (first | (go_at_call 87; (with_reducible refine (spec_l1In.calls a0_0 1 1000000 true _ A17.out).mono ?_); rintro e w' ⟨rfl, ⟨nd, rfl⟩⟩; (try exact dd_)) | (go_at_call 87; (with_reducible refine (spec_l1In.calls a0_1 1 3 false _ A19.out).mono ?_); rintro e w' ⟨rfl, ⟨nd, rfl⟩⟩; (try exact dd_)))
   repeat (go_quiet (first | (go_at_call 87; (with_reducible refine (spec_l1In.calls a0_0 1 1000000 true _ A17.out).mono ?_); rintro e w' ⟨rfl, ⟨nd, rfl⟩⟩; (try exact dd_)) | (go_at_call 87; (with_reducible refine (spec_l1In.calls a0_1 1 3 false _ A19.out).mono ?_); rintro e w' ⟨rfl, ⟨nd, rfl⟩⟩; (try exact dd_))); try go_wp2_with (first | (go_at_call 87; (with_reducible refine (spec_l1In.calls a0_0 1 1000000 true _ A17.out).mono ?_); rintro e w' ⟨rfl, ⟨nd, rfl⟩⟩; (try exact dd_)) | (go_at_call 87; (with_reducible refine (spec_l1In.calls a0_1 1 3 false _ A19.out).mono ?_); rintro e w' ⟨rfl, ⟨nd, rfl⟩⟩; (try exact dd_))))
   go_meet
   case rel => exact ⟨_, (true), rt_, H', ⟨by first | omega | exact Nat.le_refl _⟩, ⟨bk_ BK234⟩, ⟨hb_ HB⟩⟩
  obtain rfl := Bool.eq_false_iff.mpr c18
  replace H := iF_ H
  replace H' := A_ H; clear H
  obtain ⟨hcz23_0, hcz23_1, hcz23_2, hcz23_3, hcz23_4, hfz23_0, hfz23_1, hfz23_2, hfz23_3, hfz23_4⟩ := cz5_ BK234
  go_wp2_with (first | (go_at_call 87; (with_reducible refine (spec_l1In.calls a0_0 1 1000000 false _ A17.out).mono ?_); rintro e w' ⟨rfl, ⟨nd, rfl⟩⟩; (try exact dd_)))
  repeat (go_quiet (first | (go_at_call 87; (with_reducible refine (spec_l1In.calls a0_0 1 1000000 false _ A17.out).mono ?_); rintro e w' ⟨rfl, ⟨nd, rfl⟩⟩; (try exact dd_))); try go_wp2_with (first | (go_at_call 87; (with_reducible refine (spec_l1In.calls a0_0 1 1000000 false _ A17.out).mono ?_); rintro e w' ⟨rfl, ⟨nd, rfl⟩⟩; (try exact dd_))))
  go_meet
  case rel => exact ⟨_, (true), rt_, H', ⟨by first | omega | exact Nat.le_refl _⟩, ⟨bk_ BK234⟩, ⟨hb_ HB⟩⟩
 case rest =>
  clear HC14
  try clear c2
  try clear c2b0
  try clear c2b1
  try clear c3
  try clear c3b0
  try clear c3b1
  try clear c4
  try clear c4b0
  try clear c4b1
  try clear c4b2
  try clear c5
  try clear c5b0
  try clear c5b1
  try clear c18
  try clear c20
  obtain ⟨kq, x45_13, rfl, HA, HJ13, BK234, HB⟩ := hcut
  cases kq with
  | zero => exact absurd HA.out (by simp [spec_DescOk.j0])
  | succ kj13 =>
   have H := HA.out
   clear HA
   simp only [spec_DescOk.j0] at H
   by_cases c24 : x45_13 = true
   ·
    subst c24
    replace H := it_ H
    obtain rfl := Option.some.inj H
    go_wp2
    repeat (go_quiet (fail); try go_wp2)
    go_ret
    exact ⟨rs_, hb_ HB⟩
   obtain rfl := Bool.eq_false_iff.mpr c24
   replace H := iF_ H
   replace H' := A_ H; clear H
   go_wp2
   repeat (go_quiet (fail); try go_wp2)
   go_loopg [3] kj13 (fun kq v3 w' => ∃ (x3_2 : Int), v3 = .int .i64 x3_2 ∧ Aside0 (spec_DescOk.l0 kq x3_2 a0_0 a0_1 l0_2 a0_3 l0_4 = some r) ∧ Aside0 (kq ≤ kj13) ∧ Aside0 (w'.heap[gb234]? = some (.cells #[.int .i64 a0_0, .int .i64 a0_1, (.slice A0_2 l0_2.length c0_2), .int .i64 a0_3, (.slice A0_4 l0_4.length c0_4)] 119 (0, 0))) ∧ Aside0 (Below w.heap.size w w'))
   case atStart => exact ⟨(0), rt_, H', ⟨Nat.le_refl _⟩, ⟨bk_ BK234⟩, ⟨hb_ HB⟩⟩
   case round =>
    clear H'
    try clear c2
    try clear c2b0
    try clear c2b1
    try clear c3
    try clear c3b0
    try clear c3b1
    try clear c4
    try clear c4b0
    try clear c4b1
    try clear c4b2
    try clear c5
    try clear c5b0
    try clear c5b1
    try clear c18
    try clear c20
    try clear c24
    obtain ⟨x3_2, rfl, HA, HK2, BK234, HB⟩ := hrel
    cases gk with
    | zero => exact absurd HA.out (by simp [spec_DescOk.l0])
    | succ k2 =>
     have H := HA.out
     clear HA
     simp only [spec_DescOk.l0] at H
     replace H := ic_ H
     rcases H with ⟨c25b0, H⟩ | ⟨c25b0, H⟩
     ·
      replace H := ix_ H
      obtain ⟨c26b0, H⟩ := H
      replace H := bs_ H
      obtain ⟨t239, A27, H⟩ := H
      by_cases c28 : t239 = true
      ·
       subst c28
       replace H := it_ H
       replace H := bs_ H
       obtain ⟨t240, A29, H⟩ := H
       by_cases c30 : t240 = true
       ·
        subst c30
        replace H := it_ H
        replace H := bs_ H
        obtain ⟨t241, A31, H⟩ := H
        by_cases c32 : t241 = true
        ·
         subst c32
         replace H := it_ H
         replace H := ic_ H
         rcases H with ⟨c33b0, H⟩ | ⟨c33b0, H⟩
         ·
          obtain ⟨ji34, hji34⟩ : ∃ j_ : Int, (wrap64 (x3_2 - 1)) = j_ := ⟨_, rfl⟩
          replace H : (if 0 ≤ (ji34) then (if (ji34) < (l0_2.length : Int) then (if ((rd_T122 l0_2 (ji34)).f0) ≥ ((rd_T122 l0_2 x3_2).f0) then (some false) else (spec_DescOk.l0 k2 (wrap64 (x3_2 + 1)) a0_0 a0_1 l0_2 a0_3 l0_4)) else (none)) else (none)) = some r := by first | (rw [hji34] at H; exact H) | (simp only [hji34] at H ⊢; exact H)
          (try rw [hji34] at A27)
          (try rw [hji34] at A29)
          (try rw [hji34] at A31)
          have hji34w : (IntKind.i64.wrap (x3_2 - 1)) = ji34 := (i64_w _).trans hji34
          replace H := ix_ H
          obtain ⟨c35b0, H⟩ := H
          replace H := ix_ H
          obtain ⟨c36b0, H⟩ := H
          replace H := ic_ H
          rcases H with ⟨c37b0, H⟩ | ⟨c37b0, H⟩
          ·
           obtain rfl := Option.some.inj H
           obtain ⟨hcz38_0, hcz38_1, hcz38_2, hcz38_3, hcz38_4, hfz38_0, hfz38_1, hfz38_2, hfz38_3, hfz38_4⟩ := cz5_ BK234
           obtain ⟨ad237, p237, q237, rfl, hx237_0, hx237_1, hx237_2⟩ := ab_T122 HB HR0_2 x3_2
           go_wp2_with (first | ((with_reducible refine gate_dst (N := 4) rfl ?_); (try (refine gate_guard (by rfl) ?_; dsimp only)); refine bx_ HB rfl (N := 4) rfl (cs := #[.int .i64 0, .int .i64 0, .int .i64 0]) (t := 122) hr_ ?_; clear HB; intro gb238 w39 hg hb BK238 GW238 HB; have NB234_238 := ng_ BK234 hg; have NB238_234 := ns_ (ng_ BK234 hg); replace BK234 := bb_ BK234 hb; clear hb hg; have hnb40 := NB238_234.out; have hnc40 := NB234_238.out; obtain ⟨hcz41_0, hcz41_1, hcz41_2, hfz41_0, hfz41_1, hfz41_2⟩ := cz3_ BK238) | (go_at_call 87; (with_reducible refine (spec_l1In.calls ((rd_T122 l0_2 x3_2).f0) 0 19 true _ A27.out).mono ?_); rintro e w' ⟨rfl, ⟨nd, rfl⟩⟩; (try exact dd_)) | (go_at_call 87; (with_reducible refine (spec_l1In.calls ((rd_T122 l0_2 x3_2).f1) 0 1000 true _ A29.out).mono ?_); rintro e w' ⟨rfl, ⟨nd, rfl⟩⟩; (try exact dd_)) | (go_at_call 87; (with_reducible refine (spec_l1In.calls ((rd_T122 l0_2 x3_2).f2) 0 1000 true _ A31.out).mono ?_); rintro e w' ⟨rfl, ⟨nd, rfl⟩⟩; (try exact dd_); obtain ⟨hcz42_0, hcz42_1, hcz42_2, hcz42_3, hcz42_4, hfz42_0, hfz42_1, hfz42_2, hfz42_3, hfz42_4⟩ := cz5_ BK234; have p242 : 0 ≤ ((ji34) : Int) := od_; have q242 : (ji34) < (l0_2.length : Int) := od_; obtain ⟨ad242, e242, hx242_0, hx242_1, hx242_2⟩ := at_T122 HR0_2.out (ji34) p242 q242; obtain rfl : ad237 = ad242 := (by injection e242); have hn242_0 : ad237.block ≠ gb238 := Nat.ne_of_lt (Nat.lt_of_lt_of_le (by have := World.block_lt_of_cell? _ _ hx242_0; first | rwa [add_block] at this | exact this) GW238.out); have hn242_1 : ad237.block ≠ gb238 := Nat.ne_of_lt (Nat.lt_of_lt_of_le (by have := World.block_lt_of_cell? _ _ hx242_0; first | rwa [add_block] at this | exact this) GW238.out); have hn242_2 : ad237.block ≠ gb238 := Nat.ne_of_lt (Nat.lt_of_lt_of_le (by have := World.block_lt_of_cell? _ _ hx242_0; first | rwa [add_block] at this | exact this) GW238.out); replace hx242_0 := hx_ HB hx242_0; replace hx242_1 := hx_ HB hx242_1; replace hx242_2 := hx_ HB hx242_2; replace hx242_0 := cf_ 0 hn242_0 (.int .i64 ((rd_T122 l0_2 x3_2).f0)) hx242_0; replace hx242_1 := cf_ 0 hn242_0 (.int .i64 ((rd_T122 l0_2 x3_2).f0)) hx242_1; replace hx242_2 := cf_ 0 hn242_0 (.int .i64 ((rd_T122 l0_2 x3_2).f0)) hx242_2; replace hx242_0 := cf_ 1 hn242_1 (.int .i64 ((rd_T122 l0_2 x3_2).f1)) hx242_0; replace hx242_1 := cf_ 1 hn242_1 (.int .i64 ((rd_T122 l0_2 x3_2).f1)) hx242_1; replace hx242_2 := cf_ 1 hn242_1 (.int .i64 ((rd_T122 l0_2 x3_2).f1)) hx242_2; replace hx242_0 := cf_ 2 hn242_2 (.int .i64 ((rd_T122 l0_2 x3_2).f2)) hx242_0; replace hx242_1 := cf_ 2 hn242_2 (.int .i64 ((rd_T122 l0_2 x3_2).f2)) hx242_1; replace hx242_2 := cf_ 2 hn242_2 (.int .i64 ((rd_T122 l0_2 x3_2).f2)) hx242_2; (try have hy242_0 := fun (n_ : Nat) => (show (((((w39.drewN n_).setCell ⟨gb238, 0, none⟩ (.int .i64 ((rd_T122 l0_2 x3_2).f0))).setCell ⟨gb238, 1, none⟩ (.int .i64 ((rd_T122 l0_2 x3_2).f1))).setCell ⟨gb238, 2, none⟩ (.int .i64 ((rd_T122 l0_2 x3_2).f2)))).cell? _ = some _ from hx242_0)); (try have hy242_1 := fun (n_ : Nat) => (show (((((w39.drewN n_).setCell ⟨gb238, 0, none⟩ (.int .i64 ((rd_T122 l0_2 x3_2).f0))).setCell ⟨gb238, 1, none⟩ (.int .i64 ((rd_T122 l0_2 x3_2).f1))).setCell ⟨gb238, 2, none⟩ (.int .i64 ((rd_T122 l0_2 x3_2).f2)))).cell? _ = some _ from hx242_1)); (try have hy242_2 := fun (n_ : Nat) => (show (((((w39.drewN n_).setCell ⟨gb238, 0, none⟩ (.int .i64 ((rd_T122 l0_2 x3_2).f0))).setCell ⟨gb238, 1, none⟩ (.int .i64 ((rd_T122 l0_2 x3_2).f1))).setCell ⟨gb238, 2, none⟩ (.int .i64 ((rd_T122 l0_2 x3_2).f2)))).cell? _ = some _ from hx242_2)); clear hn242_0; clear hn242_1; clear hn242_2; replace p242 := eq_true p242; replace q242 := eq_true q242))
           repeat (go_quiet (first | ((with_reducible refine gate_dst (N := 4) rfl ?_); (try (refine gate_guard (by rfl) ?_; dsimp only)); refine bx_ HB rfl (N := 4) rfl (cs := #[.int .i64 0, .int .i64 0, .int .i64 0]) (t := 122) hr_ ?_; clear HB; intro gb238 w39 hg hb BK238 GW238 HB; have NB234_238 := ng_ BK234 hg; have NB238_234 := ns_ (ng_ BK234 hg); replace BK234 := bb_ BK234 hb; clear hb hg; have hnb40 := NB238_234.out; have hnc40 := NB234_238.out; obtain ⟨hcz41_0, hcz41_1, hcz41_2, hfz41_0, hfz41_1, hfz41_2⟩ := cz3_ BK238) | (go_at_call 87; (with_reducible refine (spec_l1In.calls ((rd_T122 l0_2 x3_2).f0) 0 19 true _ A27.out).mono ?_); rintro e w' ⟨rfl, ⟨nd, rfl⟩⟩; (try exact dd_)) | (go_at_call 87; (with_reducible refine (spec_l1In.calls ((rd_T122 l0_2 x3_2).f1) 0 1000 true _ A29.out).mono ?_); rintro e w' ⟨rfl, ⟨nd, rfl⟩⟩; (try exact dd_)) | (go_at_call 87; (with_reducible refine (spec_l1In.calls ((rd_T122 l0_2 x3_2).f2) 0 1000 true _ A31.out).mono ?_); rintro e w' ⟨rfl, ⟨nd, rfl⟩⟩; (try exact dd_); obtain ⟨hcz42_0, hcz42_1, hcz42_2, hcz42_3, hcz42_4, hfz42_0, hfz42_1, hfz42_2, hfz42_3, hfz42_4⟩ := cz5_ BK234; have p242 : 0 ≤ ((ji34) : Int) := od_; have q242 : (ji34) < (l0_2.length : Int) := od_; obtain ⟨ad242, e242, hx242_0, hx242_1, hx242_2⟩ := at_T122 HR0_2.out (ji34) p242 q242; obtain rfl : ad237 = ad242 := (by injection e242); have hn242_0 : ad237.block ≠ gb238 := Nat.ne_of_lt (Nat.lt_of_lt_of_le (by have := World.block_lt_of_cell? _ _ hx242_0; first | rwa [add_block] at this | exact this) GW238.out); have hn242_1 : ad237.block ≠ gb238 := Nat.ne_of_lt (Nat.lt_of_lt_of_le (by have := World.block_lt_of_cell? _ _ hx242_0; first | rwa [add_block] at this | exact this) GW238.out); have hn242_2 : ad237.block ≠ gb238 := Nat.ne_of_lt (Nat.lt_of_lt_of_le (by have := World.block_lt_of_cell? _ _ hx242_0; first | rwa [add_block] at this | exact this) GW238.out); replace hx242_0 := hx_ HB hx242_0; replace hx242_1 := hx_ HB hx242_1; replace hx242_2 := hx_ HB hx242_2; replace hx242_0 := cf_ 0 hn242_0 (.int .i64 ((rd_T122 l0_2 x3_2).f0)) hx242_0; replace hx242_1 := cf_ 0 hn242_0 (.int .i64 ((rd_T122 l0_2 x3_2).f0)) hx242_1; replace hx242_2 := cf_ 0 hn242_0 (.int .i64 ((rd_T122 l0_2 x3_2).f0)) hx242_2; replace hx242_0 := cf_ 1 hn242_1 (.int .i64 ((rd_T122 l0_2 x3_2).f1)) hx242_0; replace hx242_1 := cf_ 1 hn242_1 (.int .i64 ((rd_T122 l0_2 x3_2).f1)) hx242_1; replace hx242_2 := cf_ 1 hn242_1 (.int .i64 ((rd_T122 l0_2 x3_2).f1)) hx242_2; replace hx242_0 := cf_ 2 hn242_2 (.int .i64 ((rd_T122 l0_2 x3_2).f2)) hx242_0; replace hx242_1 := cf_ 2 hn242_2 (.int .i64 ((rd_T122 l0_2 x3_2).f2)) hx242_1; replace hx242_2 := cf_ 2 hn242_2 (.int .i64 ((rd_T122 l0_2 x3_2).f2)) hx242_2; (try have hy242_0 := fun (n_ : Nat) => (show (((((w39.drewN n_).setCell ⟨gb238, 0, none⟩ (.int .i64 ((rd_T122 l0_2 x3_2).f0))).setCell ⟨gb238, 1, none⟩ (.int .i64 ((rd_T122 l0_2 x3_2).f1))).setCell ⟨gb238, 2, none⟩ (.int .i64 ((rd_T122 l0_2 x3_2).f2)))).cell? _ = some _ from hx242_0)); (try have hy242_1 := fun (n_ : Nat) => (show (((((w39.drewN n_).setCell ⟨gb238, 0, none⟩ (.int .i64 ((rd_T122 l0_2 x3_2).f0))).setCell ⟨gb238, 1, none⟩ (.int .i64 ((rd_T122 l0_2 x3_2).f1))).setCell ⟨gb238, 2, none⟩ (.int .i64 ((rd_T122 l0_2 x3_2).f2)))).cell? _ = some _ from hx242_1)); (try have hy242_2 := fun (n_ : Nat) => (show (((((w39.drewN n_).setCell ⟨gb238, 0, none⟩ (.int .i64 ((rd_T122 l0_2 x3_2).f0))).setCell ⟨gb238, 1, none⟩ (.int .i64 ((rd_T122 l0_2 x3_2).f1))).setCell ⟨gb238, 2, none⟩ (.int .i64 ((rd_T122 l0_2 x3_2).f2)))).cell? _ = some _ from hx242_2)); clear hn242_0; clear hn242_1; clear hn242_2; replace p242 := eq_true p242; replace q242 := eq_true q242)); try go_wp2_with (first | ((with_reducible refine gate_dst (N := 4) rfl ?_); (try (refine gate_guard (by rfl) ?_; dsimp only)); refine bx_ HB rfl (N := 4) rfl (cs := #[.int .i64 0, .int .i64 0, .int .i64 0]) (t := 122) hr_ ?_; clear HB; intro gb238 w39 hg hb BK238 GW238 HB; have NB234_238 := ng_ BK234 hg; have NB238_234 := ns_ (ng_ BK234 hg); replace BK234 := bb_ BK234 hb; clear hb hg; have hnb40 := NB238_234.out; have hnc40 := NB234_238.out; obtain ⟨hcz41_0, hcz41_1, hcz41_2, hfz41_0, hfz41_1, hfz41_2⟩ := cz3_ BK238) | (go_at_call 87; (with_reducible refine (spec_l1In.calls ((rd_T122 l0_2 x3_2).f0) 0 19 true _ A27.out).mono ?_); rintro e w' ⟨rfl, ⟨nd, rfl⟩⟩; (try exact dd_)) | (go_at_call 87; (with_reducible refine (spec_l1In.calls ((rd_T122 l0_2 x3_2).f1) 0 1000 true _ A29.out).mono ?_); rintro e w' ⟨rfl, ⟨nd, rfl⟩⟩; (try exact dd_)) | (go_at_call 87; (with_reducible refine (spec_l1In.calls ((rd_T122 l0_2 x3_2).f2) 0 1000 true _ A31.out).mono ?_); rintro e w' ⟨rfl, ⟨nd, rfl⟩⟩; (try exact dd_); obtain ⟨hcz42_0, hcz42_1, hcz42_2, hcz42_3, hcz42_4, hfz42_0, hfz42_1, hfz42_2, hfz42_3, hfz42_4⟩ := cz5_ BK234; have p242 : 0 ≤ ((ji34) : Int) := od_; have q242 : (ji34) < (l0_2.length : Int) := od_; obtain ⟨ad242, e242, hx242_0, hx242_1, hx242_2⟩ := at_T122 HR0_2.out (ji34) p242 q242; obtain rfl : ad237 = ad242 := (by injection e242); have hn242_0 : ad237.block ≠ gb238 := Nat.ne_of_lt (Nat.lt_of_lt_of_le (by have := World.block_lt_of_cell? _ _ hx242_0; first | rwa [add_block] at this | exact this) GW238.out); have hn242_1 : ad237.block ≠ gb238 := Nat.ne_of_lt (Nat.lt_of_lt_of_le (by have := World.block_lt_of_cell? _ _ hx242_0; first | rwa [add_block] at this | exact this) GW238.out); have hn242_2 : ad237.block ≠ gb238 := Nat.ne_of_lt (Nat.lt_of_lt_of_le (by have := World.block_lt_of_cell? _ _ hx242_0; first | rwa [add_block] at this | exact this) GW238.out); replace hx242_0 := hx_ HB hx242_0; replace hx242_1 := hx_ HB hx242_1; replace hx242_2 := hx_ HB hx242_2; replace hx242_0 := cf_ 0 hn242_0 (.int .i64 ((rd_T122 l0_2 x3_2).f0)) hx242_0; replace hx242_1 := cf_ 0 hn242_0 (.int .i64 ((rd_T122 l0_2 x3_2).f0)) hx242_1; replace hx242_2 := cf_ 0 hn242_0 (.int .i64 ((rd_T122 l0_2 x3_2).f0)) hx242_2; replace hx242_0 := cf_ 1 hn242_1 (.int .i64 ((rd_T122 l0_2 x3_2).f1)) hx242_0; replace hx242_1 := cf_ 1 hn242_1 (.int .i64 ((rd_T122 l0_2 x3_2).f1)) hx242_1; replace hx242_2 := cf_ 1 hn242_1 (.int .i64 ((rd_T122 l0_2 x3_2).f1)) hx242_2; replace hx242_0 := cf_ 2 hn242_2 (.int .i64 ((rd_T122 l0_2 x3_2).f2)) hx242_0; replace hx242_1 := cf_ 2 hn242_2 (.int .i64 ((rd_T122 l0_2 x3_2).f2)) hx242_1; replace hx242_2 := cf_ 2 hn242_2 (.int .i64 ((rd_T122 l0_2 x3_2).f2)) hx242_2; (try have hy242_0 := fun (n_ : Nat) => (show (((((w39.drewN n_).setCell ⟨gb238, 0, none⟩ (.int .i64 ((rd_T122 l0_2 x3_2).f0))).setCell ⟨gb238, 1, none⟩ (.int .i64 ((rd_T122 l0_2 x3_2).f1))).setCell ⟨gb238, 2, none⟩ (.int .i64 ((rd_T122 l0_2 x3_2).f2)))).cell? _ = some _ from hx242_0)); (try have hy242_1 := fun (n_ : Nat) => (show (((((w39.drewN n_).setCell ⟨gb238, 0, none⟩ (.int .i64 ((rd_T122 l0_2 x3_2).f0))).setCell ⟨gb238, 1, none⟩ (.int .i64 ((rd_T122 l0_2 x3_2).f1))).setCell ⟨gb238, 2, none⟩ (.int .i64 ((rd_T122 l0_2 x3_2).f2)))).cell? _ = some _ from hx242_1)); (try have hy242_2 := fun (n_ : Nat) => (show (((((w39.drewN n_).setCell ⟨gb238, 0, none⟩ (.int .i64 ((rd_T122 l0_2 x3_2).f0))).setCell ⟨gb238, 1, none⟩ (.int .i64 ((rd_T122 l0_2 x3_2).f1))).setCell ⟨gb238, 2, none⟩ (.int .i64 ((rd_T122 l0_2 x3_2).f2)))).cell? _ = some _ from hx242_2)); clear hn242_0; clear hn242_1; clear hn242_2; replace p242 := eq_true p242; replace q242 := eq_true q242)))
           go_ret
           exact ⟨by first | rfl | (simp [errW_none, errW_some] <;> rfl) | (simp only [← hji34]; first | rfl | (simp [errW_none, errW_some] <;> rfl)) | (simp [*, errW_none, errW_some] <;> rfl), hb_ HB⟩
          replace H' := A_ H; clear H
          obtain ⟨hcz43_0, hcz43_1, hcz43_2, hcz43_3, hcz43_4, hfz43_0, hfz43_1, hfz43_2, hfz43_3, hfz43_4⟩ := cz5_ BK234
          obtain ⟨ad237, p237, q237, rfl, hx237_0, hx237_1, hx237_2⟩ := ab_T122 HB HR0_2 x3_2
          go_wp2_with (first | ((with_reducible refine gate_dst (N := 4) rfl ?_); (try (refine gate_guard (by rfl) ?_; dsimp only)); refine bx_ HB rfl (N := 4) rfl (cs := #[.int .i64 0, .int .i64 0, .int .i64 0]) (t := 122) hr_ ?_; clear HB; intro gb238 w44 hg hb BK238 GW238 HB; have NB234_238 := ng_ BK234 hg; have NB238_234 := ns_ (ng_ BK234 hg); replace BK234 := bb_ BK234 hb; clear hb hg; have hnb45 := NB238_234.out; have hnc45 := NB234_238.out; obtain ⟨hcz46_0, hcz46_1, hcz46_2, hfz46_0, hfz46_1, hfz46_2⟩ := cz3_ BK238) | (go_at_call 87; (with_reducible refine (spec_l1In.calls ((rd_T122 l0_2 x3_2).f0) 0 19 true _ A27.out).mono ?_); rintro e w' ⟨rfl, ⟨nd, rfl⟩⟩; (try exact dd_)) | (go_at_call 87; (with_reducible refine (spec_l1In.calls ((rd_T122 l0_2 x3_2).f1) 0 1000 true _ A29.out).mono ?_); rintro e w' ⟨rfl, ⟨nd, rfl⟩⟩; (try exact dd_)) | (go_at_call 87; (with_reducible refine (spec_l1In.calls ((rd_T122 l0_2 x3_2).f2) 0 1000 true _ A31.out).mono ?_); rintro e w' ⟨rfl, ⟨nd, rfl⟩⟩; (try exact dd_); obtain ⟨hcz47_0, hcz47_1, hcz47_2, hcz47_3, hcz47_4, hfz47_0, hfz47_1, hfz47_2, hfz47_3, hfz47_4⟩ := cz5_ BK234; have p242 : 0 ≤ ((ji34) : Int) := od_; have q242 : (ji34) < (l0_2.length : Int) := od_; obtain ⟨ad242, e242, hx242_0, hx242_1, hx242_2⟩ := at_T122 HR0_2.out (ji34) p242 q242; obtain rfl : ad237 = ad242 := (by injection e242); have hn242_0 : ad237.block ≠ gb238 := Nat.ne_of_lt (Nat.lt_of_lt_of_le (by have := World.block_lt_of_cell? _ _ hx242_0; first | rwa [add_block] at this | exact this) GW238.out); have hn242_1 : ad237.block ≠ gb238 := Nat.ne_of_lt (Nat.lt_of_lt_of_le (by have := World.block_lt_of_cell? _ _ hx242_0; first | rwa [add_block] at this | exact this) GW238.out); have hn242_2 : ad237.block ≠ gb238 := Nat.ne_of_lt (Nat.lt_of_lt_of_le (by have := World.block_lt_of_cell? _ _ hx242_0; first | rwa [add_block] at this | exact this) GW238.out); replace hx242_0 := hx_ HB hx242_0; replace hx242_1 := hx_ HB hx242_1; replace hx242_2 := hx_ HB hx242_2; replace hx242_0 := cf_ 0 hn242_0 (.int .i64 ((rd_T122 l0_2 x3_2).f0)) hx242_0; replace hx242_1 := cf_ 0 hn242_0 (.int .i64 ((rd_T122 l0_2 x3_2).f0)) hx242_1; replace hx242_2 := cf_ 0 hn242_0 (.int .i64 ((rd_T122 l0_2 x3_2).f0)) hx242_2; replace hx242_0 := cf_ 1 hn242_1 (.int .i64 ((rd_T122 l0_2 x3_2).f1)) hx242_0; replace hx242_1 := cf_ 1 hn242_1 (.int .i64 ((rd_T122 l0_2 x3_2).f1)) hx242_1; replace hx242_2 := cf_ 1 hn242_1 (.int .i64 ((rd_T122 l0_2 x3_2).f1)) hx242_2; replace hx242_0 := cf_ 2 hn242_2 (.int .i64 ((rd_T122 l0_2 x3_2).f2)) hx242_0; replace hx242_1 := cf_ 2 hn242_2 (.int .i64 ((rd_T122 l0_2 x3_2).f2)) hx242_1; replace hx242_2 := cf_ 2 hn242_2 (.int .i64 ((rd_T122 l0_2 x3_2).f2)) hx242_2; (try have hy242_0 := fun (n_ : Nat) => (show (((((w44.drewN n_).setCell ⟨gb238, 0, none⟩ (.int .i64 ((rd_T122 l0_2 x3_2).f0))).setCell ⟨gb238, 1, none⟩ (.int .i64 ((rd_T122 l0_2 x3_2).f1))).setCell ⟨gb238, 2, none⟩ (.int .i64 ((rd_T122 l0_2 x3_2).f2)))).cell? _ = some _ from hx242_0)); (try have hy242_1 := fun (n_ : Nat) => (show (((((w44.drewN n_).setCell ⟨gb238, 0, none⟩ (.int .i64 ((rd_T122 l0_2 x3_2).f0))).setCell ⟨gb238, 1, none⟩ (.int .i64 ((rd_T122 l0_2 x3_2).f1))).setCell ⟨gb238, 2, none⟩ (.int .i64 ((rd_T122 l0_2 x3_2).f2)))).cell? _ = some _ from hx242_1)); (try have hy242_2 := fun (n_ : Nat) => (show (((((w44.drewN n_).setCell ⟨gb238, 0, none⟩ (.int .i64 ((rd_T122 l0_2 x3_2).f0))).setCell ⟨gb238, 1, none⟩ (.int .i64 ((rd_T122 l0_2 x3_2).f1))).setCell ⟨gb238, 2, none⟩ (.int .i64 ((rd_T122 l0_2 x3_2).f2)))).cell? _ = some _ from hx242_2)); clear hn242_0; clear hn242_1; clear hn242_2; replace p242 := eq_true p242; replace q242 := eq_true q242))
          repeat (go_quiet (first | ((with_reducible refine gate_dst (N := 4) rfl ?_); (try (refine gate_guard (by rfl) ?_; dsimp only)); refine bx_ HB rfl (N := 4) rfl (cs := #[.int .i64 0, .int .i64 0, .int .i64 0]) (t := 122) hr_ ?_; clear HB; intro gb238 w44 hg hb BK238 GW238 HB; have NB234_238 := ng_ BK234 hg; have NB238_234 := ns_ (ng_ BK234 hg); replace BK234 := bb_ BK234 hb; clear hb hg; have hnb45 := NB238_234.out; have hnc45 := NB234_238.out; obtain ⟨hcz46_0, hcz46_1, hcz46_2, hfz46_0, hfz46_1, hfz46_2⟩ := cz3_ BK238) | (go_at_call 87; (with_reducible refine (spec_l1In.calls ((rd_T122 l0_2 x3_2).f0) 0 19 true _ A27.out).mono ?_); rintro e w' ⟨rfl, ⟨nd, rfl⟩⟩; (try exact dd_)) | (go_at_call 87; (with_reducible refine (spec_l1In.calls ((rd_T122 l0_2 x3_2).f1) 0 1000 true _ A29.out).mono ?_); rintro e w' ⟨rfl, ⟨nd, rfl⟩⟩; (try exact dd_)) | (go_at_call 87; (with_reducible refine (spec_l1In.calls ((rd_T122 l0_2 x3_2).f2) 0 1000 true _ A31.out).mono ?_); rintro e w' ⟨rfl, ⟨nd, rfl⟩⟩; (try exact dd_); obtain ⟨hcz47_0, hcz47_1, hcz47_2, hcz47_3, hcz47_4, hfz47_0, hfz47_1, hfz47_2, hfz47_3, hfz47_4⟩ := cz5_ BK234; have p242 : 0 ≤ ((ji34) : Int) := od_; have q242 : (ji34) < (l0_2.length : Int) := od_; obtain ⟨ad242, e242, hx242_0, hx242_1, hx242_2⟩ := at_T122 HR0_2.out (ji34) p242 q242; obtain rfl : ad237 = ad242 := (by injection e242); have hn242_0 : ad237.block ≠ gb238 := Nat.ne_of_lt (Nat.lt_of_lt_of_le (by have := World.block_lt_of_cell? _ _ hx242_0; first | rwa [add_block] at this | exact this) GW238.out); have hn242_1 : ad237.block ≠ gb238 := Nat.ne_of_lt (Nat.lt_of_lt_of_le (by have := World.block_lt_of_cell? _ _ hx242_0; first | rwa [add_block] at this | exact this) GW238.out); have hn242_2 : ad237.block ≠ gb238 := Nat.ne_of_lt (Nat.lt_of_lt_of_le (by have := World.block_lt_of_cell? _ _ hx242_0; first | rwa [add_block] at this | exact this) GW238.out); replace hx242_0 := hx_ HB hx242_0; replace hx242_1 := hx_ HB hx242_1; replace hx242_2 := hx_ HB hx242_2; replace hx242_0 := cf_ 0 hn242_0 (.int .i64 ((rd_T122 l0_2 x3_2).f0)) hx242_0; replace hx242_1 := cf_ 0 hn242_0 (.int .i64 ((rd_T122 l0_2 x3_2).f0)) hx242_1; replace hx242_2 := cf_ 0 hn242_0 (.int .i64 ((rd_T122 l0_2 x3_2).f0)) hx242_2; replace hx242_0 := cf_ 1 hn242_1 (.int .i64 ((rd_T122 l0_2 x3_2).f1)) hx242_0; replace hx242_1 := cf_ 1 hn242_1 (.int .i64 ((rd_T122 l0_2 x3_2).f1)) hx242_1; replace hx242_2 := cf_ 1 hn242_1 (.int .i64 ((rd_T122 l0_2 x3_2).f1)) hx242_2; replace hx242_0 := cf_ 2 hn242_2 (.int .i64 ((rd_T122 l0_2 x3_2).f2)) hx242_0; replace hx242_1 := cf_ 2 hn242_2 (.int .i64 ((rd_T122 l0_2 x3_2).f2)) hx242_1; replace hx242_2 := cf_ 2 hn242_2 (.int .i64 ((rd_T122 l0_2 x3_2).f2)) hx242_2; (try have hy242_0 := fun (n_ : Nat) => (show (((((w44.drewN n_).setCell ⟨gb238, 0, none⟩ (.int .i64 ((rd_T122 l0_2 x3_2).f0))).setCell ⟨gb238, 1, none⟩ (.int .i64 ((rd_T122 l0_2 x3_2).f1))).setCell ⟨gb238, 2, none⟩ (.int .i64 ((rd_T122 l0_2 x3_2).f2)))).cell? _ = some _ from hx242_0)); (try have hy242_1 := fun (n_ : Nat) => (show (((((w44.drewN n_).setCell ⟨gb238, 0, none⟩ (.int .i64 ((rd_T122 l0_2 x3_2).f0))).setCell ⟨gb238, 1, none⟩ (.int .i64 ((rd_T122 l0_2 x3_2).f1))).setCell ⟨gb238, 2, none⟩ (.int .i64 ((rd_T122 l0_2 x3_2).f2)))).cell? _ = some _ from hx242_1)); (try have hy242_2 := fun (n_ : Nat) => (show (((((w44.drewN n_).setCell ⟨gb238, 0, none⟩ (.int .i64 ((rd_T122 l0_2 x3_2).f0))).setCell ⟨gb238, 1, none⟩ (.int .i64 ((rd_T122 l0_2 x3_2).f1))).setCell ⟨gb238, 2, none⟩ (.int .i64 ((rd_T122 l0_2 x3_2).f2)))).cell? _ = some _ from hx242_2)); clear hn242_0; clear hn242_1; clear hn242_2; replace p242 := eq_true p242; replace q242 := eq_true q242)); try go_wp2_with (first | ((with_reducible refine gate_dst (N := 4) rfl ?_); (try (refine gate_guard (by rfl) ?_; dsimp only)); refine bx_ HB rfl (N := 4) rfl (cs := #[.int .i64 0, .int .i64 0, .int .i64 0]) (t := 122) hr_ ?_; clear HB; intro gb238 w44 hg hb BK238 GW238 HB; have NB234_238 := ng_ BK234 hg; have NB238_234 := ns_ (ng_ BK234 hg); replace BK234 := bb_ BK234 hb; clear hb hg; have hnb45 := NB238_234.out; have hnc45 := NB234_238.out; obtain ⟨hcz46_0, hcz46_1, hcz46_2, hfz46_0, hfz46_1, hfz46_2⟩ := cz3_ BK238) | (go_at_call 87; (with_reducible refine (spec_l1In.calls ((rd_T122 l0_2 x3_2).f0) 0 19 true _ A27.out).mono ?_); rintro e w' ⟨rfl, ⟨nd, rfl⟩⟩; (try exact dd_)) | (go_at_call 87; (with_reducible refine (spec_l1In.calls ((rd_T122 l0_2 x3_2).f1) 0 1000 true _ A29.out).mono ?_); rintro e w' ⟨rfl, ⟨nd, rfl⟩⟩; (try exact dd_)) | (go_at_call 87; (with_reducible refine (spec_l1In.calls ((rd_T122 l0_2 x3_2).f2) 0 1000 true _ A31.out).mono ?_); rintro e w' ⟨rfl, ⟨nd, rfl⟩⟩; (try exact dd_); obtain ⟨hcz47_0, hcz47_1, hcz47_2, hcz47_3, hcz47_4, hfz47_0, hfz47_1, hfz47_2, hfz47_3, hfz47_4⟩ := cz5_ BK234; have p242 : 0 ≤ ((ji34) : Int) := od_; have q242 : (ji34) < (l0_2.length : Int) := od_; obtain ⟨ad242, e242, hx242_0, hx242_1, hx242_2⟩ := at_T122 HR0_2.out (ji34) p242 q242; obtain rfl : ad237 = ad242 := (by injection e242); have hn242_0 : ad237.block ≠ gb238 := Nat.ne_of_lt (Nat.lt_of_lt_of_le (by have := World.block_lt_of_cell? _ _ hx242_0; first | rwa [add_block] at this | exact this) GW238.out); have hn242_1 : ad237.block ≠ gb238 := Nat.ne_of_lt (Nat.lt_of_lt_of_le (by have := World.block_lt_of_cell? _ _ hx242_0; first | rwa [add_block] at this | exact this) GW238.out); have hn242_2 : ad237.block ≠ gb238 := Nat.ne_of_lt (Nat.lt_of_lt_of_le (by have := World.block_lt_of_cell? _ _ hx242_0; first | rwa [add_block] at this | exact this) GW238.out); replace hx242_0 := hx_ HB hx242_0; replace hx242_1 := hx_ HB hx242_1; replace hx242_2 := hx_ HB hx242_2; replace hx242_0 := cf_ 0 hn242_0 (.int .i64 ((rd_T122 l0_2 x3_2).f0)) hx242_0; replace hx242_1 := cf_ 0 hn242_0 (.int .i64 ((rd_T122 l0_2 x3_2).f0)) hx242_1; replace hx242_2 := cf_ 0 hn242_0 (.int .i64 ((rd_T122 l0_2 x3_2).f0)) hx242_2; replace hx242_0 := cf_ 1 hn242_1 (.int .i64 ((rd_T122 l0_2 x3_2).f1)) hx242_0; replace hx242_1 := cf_ 1 hn242_1 (.int .i64 ((rd_T122 l0_2 x3_2).f1)) hx242_1; replace hx242_2 := cf_ 1 hn242_1 (.int .i64 ((rd_T122 l0_2 x3_2).f1)) hx242_2; replace hx242_0 := cf_ 2 hn242_2 (.int .i64 ((rd_T122 l0_2 x3_2).f2)) hx242_0; replace hx242_1 := cf_ 2 hn242_2 (.int .i64 ((rd_T122 l0_2 x3_2).f2)) hx242_1; replace hx242_2 := cf_ 2 hn242_2 (.int .i64 ((rd_T122 l0_2 x3_2).f2)) hx242_2; (try have hy242_0 := fun (n_ : Nat) => (show (((((w44.drewN n_).setCell ⟨gb238, 0, none⟩ (.int .i64 ((rd_T122 l0_2 x3_2).f0))).setCell ⟨gb238, 1, none⟩ (.int .i64 ((rd_T122 l0_2 x3_2).f1))).setCell ⟨gb238, 2, none⟩ (.int .i64 ((rd_T122 l0_2 x3_2).f2)))).cell? _ = some _ from hx242_0)); (try have hy242_1 := fun (n_ : Nat) => (show (((((w44.drewN n_).setCell ⟨gb238, 0, none⟩ (.int .i64 ((rd_T122 l0_2 x3_2).f0))).setCell ⟨gb238, 1, none⟩ (.int .i64 ((rd_T122 l0_2 x3_2).f1))).setCell ⟨gb238, 2, none⟩ (.int .i64 ((rd_T122 l0_2 x3_2).f2)))).cell? _ = some _ from hx242_1)); (try have hy242_2 := fun (n_ : Nat) => (show (((((w44.drewN n_).setCell ⟨gb238, 0, none⟩ (.int .i64 ((rd_T122 l0_2 x3_2).f0))).setCell ⟨gb238, 1, none⟩ (.int .i64 ((rd_T122 l0_2 x3_2).f1))).setCell ⟨gb238, 2, none⟩ (.int .i64 ((rd_T122 l0_2 x3_2).f2)))).cell? _ = some _ from hx242_2)); clear hn242_0; clear hn242_1; clear hn242_2; replace p242 := eq_true p242; replace q242 := eq_true q242)))
          go_roundg k2
          case measure => have := HJ13.out; have := HK2.out; omega
          case rel => exact ⟨(wrap64 (x3_2 + 1)), rt_, H', ⟨by have := HJ13.out; have := HK2.out; omega⟩, ⟨bk_ BK234⟩, ⟨hb_ HB⟩⟩
         replace H' := A_ H; clear H
         obtain ⟨hcz48_0, hcz48_1, hcz48_2, hcz48_3, hcz48_4, hfz48_0, hfz48_1, hfz48_2, hfz48_3, hfz48_4⟩ := cz5_ BK234
         obtain ⟨ad237, p237, q237, rfl, hx237_0, hx237_1, hx237_2⟩ := ab_T122 HB HR0_2 x3_2
         go_wp2_with (first | ((with_reducible refine gate_dst (N := 4) rfl ?_); (try (refine gate_guard (by rfl) ?_; dsimp only)); refine bx_ HB rfl (N := 4) rfl (cs := #[.int .i64 0, .int .i64 0, .int .i64 0]) (t := 122) hr_ ?_; clear HB; intro gb238 w49 hg hb BK238 GW238 HB; have NB234_238 := ng_ BK234 hg; have NB238_234 := ns_ (ng_ BK234 hg); replace BK234 := bb_ BK234 hb; clear hb hg; have hnb50 := NB238_234.out; have hnc50 := NB234_238.out; obtain ⟨hcz51_0, hcz51_1, hcz51_2, hfz51_0, hfz51_1, hfz51_2⟩ := cz3_ BK238) | (go_at_call 87; (with_reducible refine (spec_l1In.calls ((rd_T122 l0_2 x3_2).f0) 0 19 true _ A27.out).mono ?_); rintro e w' ⟨rfl, ⟨nd, rfl⟩⟩; (try exact dd_)) | (go_at_call 87; (with_reducible refine (spec_l1In.calls ((rd_T122 l0_2 x3_2).f1) 0 1000 true _ A29.out).mono ?_); rintro e w' ⟨rfl, ⟨nd, rfl⟩⟩; (try exact dd_)) | (go_at_call 87; (with_reducible refine (spec_l1In.calls ((rd_T122 l0_2 x3_2).f2) 0 1000 true _ A31.out).mono ?_); rintro e w' ⟨rfl, ⟨nd, rfl⟩⟩; (try exact dd_)))
         repeat (go_quiet (first | ((with_reducible refine gate_dst (N := 4) rfl ?_); (try (refine gate_guard (by rfl) ?_; dsimp only)); refine bx_ HB rfl (N := 4) rfl (cs := #[.int .i64 0, .int .i64 0, .int .i64 0]) (t := 122) hr_ ?_; clear HB; intro gb238 w49 hg hb BK238 GW238 HB; have NB234_238 := ng_ BK234 hg; have NB238_234 := ns_ (ng_ BK234 hg); replace BK234 := bb_ BK234 hb; clear hb hg; have hnb50 := NB238_234.out; have hnc50 := NB234_238.out; obtain ⟨hcz51_0, hcz51_1, hcz51_2, hfz51_0, hfz51_1, hfz51_2⟩ := cz3_ BK238) | (go_at_call 87; (with_reducible refine (spec_l1In.calls ((rd_T122 l0_2 x3_2).f0) 0 19 true _ A27.out).mono ?_); rintro e w' ⟨rfl, ⟨nd, rfl⟩⟩; (try exact dd_)) | (go_at_call 87; (with_reducible refine (spec_l1In.calls ((rd_T122 l0_2 x3_2).f1) 0 1000 true _ A29.out).mono ?_); rintro e w' ⟨rfl, ⟨nd, rfl⟩⟩; (try exact dd_)) | (go_at_call 87; (with_reducible refine (spec_l1In.calls ((rd_T122 l0_2 x3_2).f2) 0 1000 true _ A31.out).mono ?_); rintro e w' ⟨rfl, ⟨nd, rfl⟩⟩; (try exact dd_))); try go_wp2_with (first | ((with_reducible refine gate_dst (N := 4) rfl ?_); (try (refine gate_guard (by rfl) ?_; dsimp only)); refine bx_ HB rfl (N := 4) rfl (cs := #[.int .i64 0, .int .i64 0, .int .i64 0]) (t := 122) hr_ ?_; clear HB; intro gb238 w49 hg hb BK238 GW238 HB; have NB234_238 := ng_ BK234 hg; have NB238_234 := ns_ (ng_ BK234 hg); replace BK234 := bb_ BK234 hb; clear hb hg; have hnb50 := NB238_234.out; have hnc50 := NB234_238.out; obtain ⟨hcz51_0, hcz51_1, hcz51_2, hfz51_0, hfz51_1, hfz51_2⟩ := cz3_ BK238) | (go_at_call 87; (with_reducible refine (spec_l1In.calls ((rd_T122 l0_2 x3_2).f0) 0 19 true _ A27.out).mono ?_); rintro e w' ⟨rfl, ⟨nd, rfl⟩⟩; (try exact dd_)) | (go_at_call 87; (with_reducible refine (spec_l1In.calls ((rd_T122 l0_2 x3_2).f1) 0 1000 true _ A29.out).mono ?_); rintro e w' ⟨rfl, ⟨nd, rfl⟩⟩; (try exact dd_)) | (go_at_call 87; (with_reducible refine (spec_l1In.calls ((rd_T122 l0_2 x3_2).f2) 0 1000 true _ A31.out).mono ?_); rintro e w' ⟨rfl, ⟨nd, rfl⟩⟩; (try exact dd_))))
         go_roundg k2
         case measure => have := HJ13.out; have := HK2.out; omega
         case rel => exact ⟨(wrap64 (x3_2 + 1)), rt_, H', ⟨by have := HJ13.out; have := HK2.out; omega⟩, ⟨bk_ BK234⟩, ⟨hb_ HB⟩⟩
        obtain rfl := Bool.eq_false_iff.mpr c32
        replace H := iF_ H
        obtain rfl := Option.some.inj H
        obtain ⟨hcz52_0, hcz52_1, hcz52_2, hcz52_3, hcz52_4, hfz52_0, hfz52_1, hfz52_2, hfz52_3, hfz52_4⟩ := cz5_ BK234
        obtain ⟨ad237, p237, q237, rfl, hx237_0, hx237_1, hx237_2⟩ := ab_T122 HB HR0_2 x3_2
        go_wp2_with (first | ((with_reducible refine gate_dst (N := 4) rfl ?_); (try (refine gate_guard (by rfl) ?_; dsimp only)); refine bx_ HB rfl (N := 4) rfl (cs := #[.int .i64 0, .int .i64 0, .int .i64 0]) (t := 122) hr_ ?_; clear HB; intro gb238 w53 hg hb BK238 GW238 HB; have NB234_238 := ng_ BK234 hg; have NB238_234 := ns_ (ng_ BK234 hg); replace BK234 := bb_ BK234 hb; clear hb hg; have hnb54 := NB238_234.out; have hnc54 := NB234_238.out; obtain ⟨hcz55_0, hcz55_1, hcz55_2, hfz55_0, hfz55_1, hfz55_2⟩ := cz3_ BK238) | (go_at_call 87; (with_reducible refine (spec_l1In.calls ((rd_T122 l0_2 x3_2).f0) 0 19 true _ A27.out).mono ?_); rintro e w' ⟨rfl, ⟨nd, rfl⟩⟩; (try exact dd_)) | (go_at_call 87; (with_reducible refine (spec_l1In.calls ((rd_T122 l0_2 x3_2).f1) 0 1000 true _ A29.out).mono ?_); rintro e w' ⟨rfl, ⟨nd, rfl⟩⟩; (try exact dd_)) | (go_at_call 87; (with_reducible refine (spec_l1In.calls ((rd_T122 l0_2 x3_2).f2) 0 1000 false _ A31.out).mono ?_); rintro e w' ⟨rfl, ⟨nd, rfl⟩⟩; (try exact dd_)))
        repeat (go_quiet (first | ((with_reducible refine gate_dst (N := 4) rfl ?_); (try (refine gate_guard (by rfl) ?_; dsimp only)); refine bx_ HB rfl (N := 4) rfl (cs := #[.int .i64 0, .int .i64 0, .int .i64 0]) (t := 122) hr_ ?_; clear HB; intro gb238 w53 hg hb BK238 GW238 HB; have NB234_238 := ng_ BK234 hg; have NB238_234 := ns_ (ng_ BK234 hg); replace BK234 := bb_ BK234 hb; clear hb hg; have hnb54 := NB238_234.out; have hnc54 := NB234_238.out; obtain ⟨hcz55_0, hcz55_1, hcz55_2, hfz55_0, hfz55_1, hfz55_2⟩ := cz3_ BK238) | (go_at_call 87; (with_reducible refine (spec_l1In.calls ((rd_T122 l0_2 x3_2).f0) 0 19 true _ A27.out).mono ?_); rintro e w' ⟨rfl, ⟨nd, rfl⟩⟩; (try exact dd_)) | (go_at_call 87; (with_reducible refine (spec_l1In.calls ((rd_T122 l0_2 x3_2).f1) 0 1000 true _ A29.out).mono ?_); rintro e w' ⟨rfl, ⟨nd, rfl⟩⟩; (try exact dd_)) | (go_at_call 87; (with_reducible refine (spec_l1In.calls ((rd_T122 l0_2 x3_2).f2) 0 1000 false _ A31.out).mono ?_); rintro e w' ⟨rfl, ⟨nd, rfl⟩⟩; (try exact dd_))); try go_wp2_with (first | ((with_reducible refine gate_dst (N := 4) rfl ?_); (try (refine gate_guard (by rfl) ?_; dsimp only)); refine bx_ HB rfl (N := 4) rfl (cs := #[.int .i64 0, .int .i64 0, .int .i64 0]) (t := 122) hr_ ?_; clear HB; intro gb238 w53 hg hb BK238 GW238 HB; have NB234_238 := ng_ BK234 hg; have NB238_234 := ns_ (ng_ BK234 hg); replace BK234 := bb_ BK234 hb; clear hb hg; have hnb54 := NB238_234.out; have hnc54 := NB234_238.out; obtain ⟨hcz55_0, hcz55_1, hcz55_2, hfz55_0, hfz55_1, hfz55_2⟩ := cz3_ BK238) | (go_at_call 87; (with_reducible refine (spec_l1In.calls ((rd_T122 l0_2 x3_2).f0) 0 19 true _ A27.out).mono ?_); rintro e w' ⟨rfl, ⟨nd, rfl⟩⟩; (try exact dd_)) | (go_at_call 87; (with_reducible refine (spec_l1In.calls ((rd_T122 l0_2 x3_2).f1) 0 1000 true _ A29.out).mono ?_); rintro e w' ⟨rfl, ⟨nd, rfl⟩⟩; (try exact dd_)) | (go_at_call 87; (with_reducible refine (spec_l1In.calls ((rd_T122 l0_2 x3_2).f2) 0 1000 false _ A31.out).mono ?_); rintro e w' ⟨rfl, ⟨nd, rfl⟩⟩; (try exact dd_))))
        go_ret
        exact ⟨rs_, hb_ HB⟩
       obtain rfl := Bool.eq_false_iff.mpr c30
       replace H := iF_ H
       obtain rfl := Option.some.inj H
       obtain ⟨hcz56_0, hcz56_1, hcz56_2, hcz56_3, hcz56_4, hfz56_0, hfz56_1, hfz56_2, hfz56_3, hfz56_4⟩ := cz5_ BK234
       obtain ⟨ad237, p237, q237, rfl, hx237_0, hx237_1, hx237_2⟩ := ab_T122 HB HR0_2 x3_2
       go_wp2_with (first | ((with_reducible refine gate_dst (N := 4) rfl ?_); (try (refine gate_guard (by rfl) ?_; dsimp only)); refine bx_ HB rfl (N := 4) rfl (cs := #[.int .i64 0, .int .i64 0, .int .i64 0]) (t := 122) hr_ ?_; clear HB; intro gb238 w57 hg hb BK238 GW238 HB; have NB234_238 := ng_ BK234 hg; have NB238_234 := ns_ (ng_ BK234 hg); replace BK234 := bb_ BK234 hb; clear hb hg; have hnb58 := NB238_234.out; have hnc58 := NB234_238.out; obtain ⟨hcz59_0, hcz59_1, hcz59_2, hfz59_0, hfz59_1, hfz59_2⟩ := cz3_ BK238) | (go_at_call 87; (with_reducible refine (spec_l1In.calls ((rd_T122 l0_2 x3_2).f0) 0 19 true _ A27.out).mono ?_); rintro e w' ⟨rfl, ⟨nd, rfl⟩⟩; (try exact dd_)) | (go_at_call 87; (with_reducible refine (spec_l1In.calls ((rd_T122 l0_2 x3_2).f1) 0 1000 false _ A29.out).mono ?_); rintro e w' ⟨rfl, ⟨nd, rfl⟩⟩; (try exact dd_)))
       repeat (go_quiet (first | ((with_reducible refine gate_dst (N := 4) rfl ?_); (try (refine gate_guard (by rfl) ?_; dsimp only)); refine bx_ HB rfl (N := 4) rfl (cs := #[.int .i64 0, .int .i64 0, .int .i64 0]) (t := 122) hr_ ?_; clear HB; intro gb238 w57 hg hb BK238 GW238 HB; have NB234_238 := ng_ BK234 hg; have NB238_234 := ns_ (ng_ BK234 hg); replace BK234 := bb_ BK234 hb; clear hb hg; have hnb58 := NB238_234.out; have hnc58 := NB234_238.out; obtain ⟨hcz59_0, hcz59_1, hcz59_2, hfz59_0, hfz59_1, hfz59_2⟩ := cz3_ BK238) | (go_at_call 87; (with_reducible refine (spec_l1In.calls ((rd_T122 l0_2 x3_2).f0) 0 19 true _ A27.out).mono ?_); rintro e w' ⟨rfl, ⟨nd, rfl⟩⟩; (try exact dd_)) | (go_at_call 87; (with_reducible refine (spec_l1In.calls ((rd_T122 l0_2 x3_2).f1) 0 1000 false _ A29.out).mono ?_); rintro e w' ⟨rfl, ⟨nd, rfl⟩⟩; (try exact dd_))); try go_wp2_with (first | ((with_reducible refine gate_dst (N := 4) rfl ?_); (try (refine gate_guard (by rfl) ?_; dsimp only)); refine bx_ HB rfl (N := 4) rfl (cs := #[.int .i64 0, .int .i64 0, .int .i64 0]) (t := 122) hr_ ?_; clear HB; intro gb238 w57 hg hb BK238 GW238 HB; have NB234_238 := ng_ BK234 hg; have NB238_234 := ns_ (ng_ BK234 hg); replace BK234 := bb_ BK234 hb; clear hb hg; have hnb58 := NB238_234.out; have hnc58 := NB234_238.out; obtain ⟨hcz59_0, hcz59_1, hcz59_2, hfz59_0, hfz59_1, hfz59_2⟩ := cz3_ BK238) | (go_at_call 87; (with_reducible refine (spec_l1In.calls ((rd_T122 l0_2 x3_2).f0) 0 19 true _ A27.out).mono ?_); rintro e w' ⟨rfl, ⟨nd, rfl⟩⟩; (try exact dd_)) | (go_at_call 87; (with_reducible refine (spec_l1In.calls ((rd_T122 l0_2 x3_2).f1) 0 1000 false _ A29.out).mono ?_); rintro e w' ⟨rfl, ⟨nd, rfl⟩⟩; (try exact dd_))))
       go_ret
       exact ⟨rs_, hb_ HB⟩
      obtain rfl := Bool.eq_false_iff.mpr c28
      replace H := iF_ H
      obtain rfl := Option.some.inj H
      obtain ⟨hcz60_0, hcz60_1, hcz60_2, hcz60_3, hcz60_4, hfz60_0, hfz60_1, hfz60_2, hfz60_3, hfz60_4⟩ := cz5_ BK234
      obtain ⟨ad237, p237, q237, rfl, hx237_0, hx237_1, hx237_2⟩ := ab_T122 HB HR0_2 x3_2
      go_wp2_with (first | ((with_reducible refine gate_dst (N := 4) rfl ?_); (try (refine gate_guard (by rfl) ?_; dsimp only)); refine bx_ HB rfl (N := 4) rfl (cs := #[.int .i64 0, .int .i64 0, .int .i64 0]) (t := 122) hr_ ?_; clear HB; intro gb238 w61 hg hb BK238 GW238 HB; have NB234_238 := ng_ BK234 hg; have NB238_234 := ns_ (ng_ BK234 hg); replace BK234 := bb_ BK234 hb; clear hb hg; have hnb62 := NB238_234.out; have hnc62 := NB234_238.out; obtain ⟨hcz63_0, hcz63_1, hcz63_2, hfz63_0, hfz63_1, hfz63_2⟩ := cz3_ BK238) | (go_at_call 87; (with_reducible refine (spec_l1In.calls ((rd_T122 l0_2 x3_2).f0) 0 19 false _ A27.out).mono ?_); rintro e w' ⟨rfl, ⟨nd, rfl⟩⟩; (try exact dd_)))
      repeat (go_quiet (first | ((with_reducible refine gate_dst (N := 4) rfl ?_); (try (refine gate_guard (by rfl) ?_; dsimp only)); refine bx_ HB rfl (N := 4) rfl (cs := #[.int .i64 0, .int .i64 0, .int .i64 0]) (t := 122) hr_ ?_; clear HB; intro gb238 w61 hg hb BK238 GW238 HB; have NB234_238 := ng_ BK234 hg; have NB238_234 := ns_ (ng_ BK234 hg); replace BK234 := bb_ BK234 hb; clear hb hg; have hnb62 := NB238_234.out; have hnc62 := NB234_238.out; obtain ⟨hcz63_0, hcz63_1, hcz63_2, hfz63_0, hfz63_1, hfz63_2⟩ := cz3_ BK238) | (go_at_call 87; (with_reducible refine (spec_l1In.calls ((rd_T122 l0_2 x3_2).f0) 0 19 false _ A27.out).mono ?_); rintro e w' ⟨rfl, ⟨nd, rfl⟩⟩; (try exact dd_))); try go_wp2_with (first | ((with_reducible refine gate_dst (N := 4) rfl ?_); (try (refine gate_guard (by rfl) ?_; dsimp only)); refine bx_ HB rfl (N := 4) rfl (cs := #[.int .i64 0, .int .i64 0, .int .i64 0]) (t := 122) hr_ ?_; clear HB; intro gb238 w61 hg hb BK238 GW238 HB; have NB234_238 := ng_ BK234 hg; have NB238_234 := ns_ (ng_ BK234 hg); replace BK234 := bb_ BK234 hb; clear hb hg; have hnb62 := NB238_234.out; have hnc62 := NB234_238.out; obtain ⟨hcz63_0, hcz63_1, hcz63_2, hfz63_0, hfz63_1, hfz63_2⟩ := cz3_ BK238) | (go_at_call 87; (with_reducible refine (spec_l1In.calls ((rd_T122 l0_2 x3_2).f0) 0 19 false _ A27.out).mono ?_); rintro e w' ⟨rfl, ⟨nd, rfl⟩⟩; (try exact dd_))))
      go_ret
      exact ⟨rs_, hb_ HB⟩
     obtain rfl := Option.some.inj H
     obtain ⟨hcz64_0, hcz64_1, hcz64_2, hcz64_3, hcz64_4, hfz64_0, hfz64_1, hfz64_2, hfz64_3, hfz64_4⟩ := cz5_ BK234
     go_wp2
     repeat (go_quiet (fail); try go_wp2)
     go_ret
     exact ⟨rs_, hb_ HB⟩

/-! ### spec_WordOk: function 114 -/
def spec_WordOk.f (a0_0 : Int) (a0_1 : Int) (a0_2 : Int) (a1 : Int) : Option (Bool) := if a0_1 = 0 then (if a0_2 = 0 then ((spec_l1In.f a0_0 0 1000).bind fun t244 => (some t244)) else (some false)) else (if a0_0 = 0 then ((spec_l1In.f a0_1 1 a1).bind fun t245 => (if t245 = true then ((spec_l1In.f a0_2 1 1000000).bind fun t246 => (some t246)) else (some false))) else (some false))
set_option maxHeartbeats 8000000 in
set_option maxRecDepth 100000 in
theorem spec_WordOk.calls (a0_0 : Int) (a0_1 : Int) (a0_2 : Int) (a1 : Int) (r : Bool) (w : World) (h : spec_WordOk.f a0_0 a0_1 a0_2 a1 = some r) :
    Calls Try.prog 114 #[.agg #[.int .i64 a0_0, .int .i64 a0_1, .int .i64 a0_2], .int .i64 a1] w fun e w' => e = .returned (.bool r) ∧ Below w.heap.size w w' := by
 have hu95 := Try.underlying95
 have HB := A_ (Below.refl w.heap.size w)
 have H : (if a0_1 = 0 then (if a0_2 = 0 then ((spec_l1In.f a0_0 0 1000).bind fun t244 => (some t244)) else (some false)) else (if a0_0 = 0 then ((spec_l1In.f a0_1 1 a1).bind fun t245 => (if t245 = true then ((spec_l1In.f a0_2 1 1000000).bind fun t246 => (some t246)) else (some false))) else (some false))) = some r := h
 clear h
 by_cases c3 : a0_1 = 0
 ·
  rw [if_pos c3] at H
  have c3b0 : (a0_1 == 0) = true := beq_iff_eq.mpr c3
  have c3b1 : (a0_1 != 0) = false := bne_eq_false_iff_eq.mpr c3
  clear c3
  by_cases c4 : a0_2 = 0
  ·
   rw [if_pos c4] at H
   have c4b0 : (a0_2 == 0) = true := beq_iff_eq.mpr c4
   have c4b1 : (a0_2 != 0) = false := bne_eq_false_iff_eq.mpr c4
   clear c4
   replace H := bs_ H
   obtain ⟨t244, A5, H⟩ := H
   obtain rfl := Option.some.inj H
   go_enter Try.func114, Try.ntmps114
   go_wp2_with (first | ((with_reducible refine gate_dst (N := 2) rfl ?_); refine bx_ HB rfl (N := 2) rfl (cs := #[.int .i64 a0_0, .int .i64 a0_1, .int .i64 a0_2]) (t := 95) hr_ ?_; clear HB; intro gb243 w6 hg hb BK243 GW243 HB; clear hb hg; obtain ⟨hcz7_0, hcz7_1, hcz7_2, hfz7_0, hfz7_1, hfz7_2⟩ := cz3_ BK243) | (go_at_call 87; (with_reducible refine (spec_l1In.calls a0_0 0 1000 t244 _ A5.out).mono ?_); rintro e w' ⟨rfl, ⟨nd, rfl⟩⟩))
   go_ret
   exact ⟨rs_, hb_ HB⟩
  rw [if_neg c4] at H
  have c4b0 : (a0_2 == 0) = false := beq_eq_false_iff_ne.mpr c4
  have c4b1 : (a0_2 != 0) = true := bne_iff_ne.mpr c4
  obtain rfl := Option.some.inj H
  go_enter Try.func114, Try.ntmps114
  go_wp2_with (first | ((with_reducible refine gate_dst (N := 2) rfl ?_); refine bx_ HB rfl (N := 2) rfl (cs := #[.int .i64 a0_0, .int .i64 a0_1, .int .i64 a0_2]) (t := 95) hr_ ?_; clear HB; intro gb243 w8 hg hb BK243 GW243 HB; clear hb hg; obtain ⟨hcz9_0, hcz9_1, hcz9_2, hfz9_0, hfz9_1, hfz9_2⟩ := cz3_ BK243))
  go_ret
  exact ⟨rs_, hb_ HB⟩
 rw [if_neg c3] at H
 have c3b0 : (a0_1 == 0) = false := beq_eq_false_iff_ne.mpr c3
 have c3b1 : (a0_1 != 0) = true := bne_iff_ne.mpr c3
 by_cases c10 : a0_0 = 0
 ·
  rw [if_pos c10] at H
  have c10b0 : (a0_0 == 0) = true := beq_iff_eq.mpr c10
  have c10b1 : (a0_0 != 0) = false := bne_eq_false_iff_eq.mpr c10
  clear c10
  replace H := bs_ H
  obtain ⟨t245, A11, H⟩ := H
  by_cases c12 : t245 = true
  ·
   subst c12
   replace H := it_ H
   replace H := bs_ H
   obtain ⟨t246, A13, H⟩ := H
   obtain rfl := Option.some.inj H
   go_enter Try.func114, Try.ntmps114
   go_wp2_with (first | ((with_reducible refine gate_dst (N := 2) rfl ?_); refine bx_ HB rfl (N := 2) rfl (cs := #[.int .i64 a0_0, .int .i64 a0_1, .int .i64 a0_2]) (t := 95) hr_ ?_; clear HB; intro gb243 w14 hg hb BK243 GW243 HB; clear hb hg; obtain ⟨hcz15_0, hcz15_1, hcz15_2, hfz15_0, hfz15_1, hfz15_2⟩ := cz3_ BK243) | (go_at_call 87; (with_reducible refine (spec_l1In.calls a0_1 1 a1 true _ A11.out).mono ?_); rintro e w' ⟨rfl, ⟨nd, rfl⟩⟩) | (go_at_call 87; (with_reducible refine (spec_l1In.calls a0_2 1 1000000 t246 _ A13.out).mono ?_); rintro e w' ⟨rfl, ⟨nd, rfl⟩⟩))
   go_ret
   exact ⟨rs_, hb_ HB⟩
  obtain rfl := Bool.eq_false_iff.mpr c12
  replace H := iF_ H
  obtain rfl := Option.some.inj H
  go_enter Try.func114, Try.ntmps114
  go_wp2_with (first | ((with_reducible refine gate_dst (N := 2) rfl ?_); refine bx_ HB rfl (N := 2) rfl (cs := #[.int .i64 a0_0, .int .i64 a0_1, .int .i64 a0_2]) (t := 95) hr_ ?_; clear HB; intro gb243 w16 hg hb BK243 GW243 HB; clear hb hg; obtain ⟨hcz17_0, hcz17_1, hcz17_2, hfz17_0, hfz17_1, hfz17_2⟩ := cz3_ BK243) | (go_at_call 87; (with_reducible refine (spec_l1In.calls a0_1 1 a1 false _ A11.out).mono ?_); rintro e w' ⟨rfl, ⟨nd, rfl⟩⟩))
  go_ret
  exact ⟨rs_, hb_ HB⟩
 rw [if_neg c10] at H
 have c10b0 : (a0_0 == 0) = false := beq_eq_false_iff_ne.mpr c10
 have c10b1 : (a0_0 != 0) = true := bne_iff_ne.mpr c10
 obtain rfl := Option.some.inj H
 go_enter Try.func114, Try.ntmps114
 go_wp2_with (first | ((with_reducible refine gate_dst (N := 2) rfl ?_); refine bx_ HB rfl (N := 2) rfl (cs := #[.int .i64 a0_0, .int .i64 a0_1, .int .i64 a0_2]) (t := 95) hr_ ?_; clear HB; intro gb243 w18 hg hb BK243 GW243 HB; clear hb hg; obtain ⟨hcz19_0, hcz19_1, hcz19_2, hfz19_0, hfz19_1, hfz19_2⟩ := cz3_ BK243))
 go_ret
 exact ⟨rs_, hb_ HB⟩

end Go.Proofs.Ytmkhghbalnadlaa.PFnExactBegin
