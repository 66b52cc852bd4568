/- Contracts of functions of the program: each says that the call does what a plain Lean function tells. Made by programs of this session and of the kit. No condition beyond the hypotheses that each theorem names. -/
import Derived.Test.YtmkhghbalnadlaaPFnAllowedx0
import Derived.Test.YtmkhghbalnadlaaPFnAllowedx1
import Derived.Test.YtmkhghbalnadlaaPFnAllowedx3
namespace Go.Proofs.Ytmkhghbalnadlaa.PFnAllowed
open Go.RowKit Go.Proofs.YtmkhghbalnadlaaW.PrintWords Go.Proofs.YtmkhghbalnadlaaW.PrintLast Go.Proofs.YtmkhghbalnadlaaW.PrintMore
attribute [local go_sem] max2_int min2_int max_two min_two max_three min_three max_four min_four   -- for this text's walks alone
set_option linter.unusedVariables false
set_option linter.unusedSimpArgs false

/-! ### spec_l4Done: function 82 -/
def spec_l4Done.f (k : Nat) (l0_0 : List Int) (a0_1 : Int) (a1_0 : Int) (a1_1 : Int) (a1_2 : Int) : Option (List Int × Bool) := (some (([] : List Int) : List Int)).bind fun y135 => ((spec_KeyOf.f k l0_0 a0_1 a1_2).bind fun t138 => (if a1_0 = 1 then (if 0 ≤ a1_1 then (if a1_1 < (l0_0.length : Int) then (if (rd l0_0 a1_1) = 0 then (some (y135, decide (t138 < 0))) else (some (y135, false))) else (none)) else (none)) else (if a1_0 = 2 then (if 0 ≤ a1_1 then (if a1_1 < (l0_0.length : Int) then (if (rd l0_0 a1_1) = 0 then (some (y135, false)) else (if t138 < 0 then (some (y135, true)) else (some (y135, (t138 == a1_1))))) else (none)) else (none)) else (if a1_0 = 3 then (if 0 ≤ a1_1 then (if a1_1 < (l0_0.length : Int) then (some (y135, ((rd l0_0 a1_1) != 0))) else (none)) else (none)) else (if a1_0 = 4 then (if 0 ≤ a1_1 then (if a1_1 < (l0_0.length : Int) then (some ((([rd l0_0 a1_1] : List Int)), ((rd l0_0 a1_1) != 0))) else (none)) else (none)) else (if a1_0 = 5 then (some ((([t138] : List Int)), decide (t138 ≥ 0))) else (if a1_0 = 6 then ((spec_HowMany.f k l0_0 a0_1 a1_1).bind fun t150 => (some ((([t150] : List Int)), true))) else (if a1_0 = 7 then ((some (([] : List Int) : List Int)).bind fun y154 => (if y154.length + l0_0.length < 17592186044416 then (some ((y154 ++ l0_0), true)) else (none))) else (if a1_0 = 8 then (some (y135, (a0_1 == 0))) else (if a1_0 = 9 then ((spec_l1In.f a0_1 1 4).bind fun t160 => (some (y135, t160))) else ((some (([t138] : List Int) : List Int)).bind fun y161 => (if a0_1 = 5 then (some (y161, decide (t138 ≥ 0))) else (some (y161, false))))))))))))))
theorem spec_l4Done.mono : ∀ a0 a1 a2 a3 a4 k, LeO (spec_l4Done.f k a0 a1 a2 a3 a4) (spec_l4Done.f (k + 1) a0 a1 a2 a3 a4) := by
 intro a0 a1 a2 a3 a4 k
 unfold spec_l4Done.f
 repeat' first | (with_reducible first | apply spec_HowMany.mono | apply spec_KeyOf.mono | apply LeO.refl | apply LeO.none | apply LeO.ite | refine LeO.bind ?_ (fun _ => ?_)) | apply spec_HowMany.mono | apply spec_KeyOf.mono | apply LeO.none | apply LeO.ite | refine LeO.bind ?_ (fun _ => ?_)
def spec_l4Done.T7 : Bool × List (List Nat × List Nat) := (true, [([], []), ([], []), ([1], [1]), ([], []), ([3], [3]), ([2, 4], [2, 4]), ([5], [5]), ([6], [6]), ([7], [7]), ([8], [8]), ([9, 8], [8, 9]), ([10, 8, 8], [8, 10]), ([11], [11]), ([11], [11]), ([13, 11], [11, 13]), ([12, 14, 11], [11, 12, 14]), ([11, 15, 8], [8, 11, 15]), ([8, 16], [8, 16]), ([0, 11, 0], [0]), ([17, 18, 0, 1, 2, 3, 4, 5, 6, 7, 8, 9, 10, 11, 12, 13, 14, 15, 16, 17, 18], [17])])
def spec_l4Done.B7 : List Nat := [0, 0, 2, 0, 8, 30, 62, 126, 254, 510, 1022, 2046, 4094, 4094, 12286, 32766, 65534, 131070, 4095, 524287]
theorem spec_l4Done.tab7 : rtab .any (opsOf Try.f82 7) = spec_l4Done.T7 := by kernel_rfl
theorem spec_l4Done.bits7 : waitsOk spec_l4Done.T7.2 spec_l4Done.B7 = true := by kernel_rfl
def spec_l4Done.T9 : Bool × List (List Nat × List Nat) := (true, [([], []), ([], []), ([1], [1]), ([], []), ([3], [3]), ([2, 4], [2, 4]), ([5], [5]), ([6], [6]), ([0, 0], [0]), ([7, 8, 0, 1, 2, 3, 4, 5, 6, 7, 8], [7])])
def spec_l4Done.B9 : List Nat := [0, 0, 2, 0, 8, 30, 62, 126, 1, 511]
theorem spec_l4Done.tab9 : rtab .any (opsOf Try.f82 9) = spec_l4Done.T9 := by kernel_rfl
theorem spec_l4Done.bits9 : waitsOk spec_l4Done.T9.2 spec_l4Done.B9 = true := by kernel_rfl
def spec_l4Done.T11 : Bool × List (List Nat × List Nat) := (true, [([], []), ([0], [0]), ([], []), ([2], [2]), ([1, 3], [1, 3]), ([4], [4]), ([5], [5]), ([], []), ([7], [7]), ([], []), ([9], [9]), ([8, 10], [8, 10]), ([11], [11]), ([12], [12]), ([6, 0, 1, 2, 3, 4, 5, 6], [6]), ([13, 14, 0, 1, 2, 3, 4, 5, 6, 7, 8, 9, 10, 11, 12, 13, 14], [13])])
def spec_l4Done.B11 : List Nat := [0, 1, 0, 4, 15, 31, 63, 0, 128, 0, 512, 1920, 3968, 8064, 127, 32767]
theorem spec_l4Done.tab11 : rtab .any (opsOf Try.f82 11) = spec_l4Done.T11 := by kernel_rfl
theorem spec_l4Done.bits11 : waitsOk spec_l4Done.T11.2 spec_l4Done.B11 = true := by kernel_rfl
set_option maxHeartbeats 8000000 in
set_option maxRecDepth 100000 in
theorem spec_l4Done.calls (k : Nat) (A0_0 : Option Addr) (c0_0 : Nat) (l0_0 : List Int) (a0_1 : Int) (a1_0 : Int) (a1_1 : Int) (a1_2 : Int) (r1 : List Int) (r2 : Bool) (w : World) (hr0_0 : Kd.C (Kd.int .i64) w A0_0 l0_0.length l0_0) (hc0_0 : l0_0.length ≤ c0_0) (h : spec_l4Done.f k l0_0 a0_1 a1_0 a1_1 a1_2 = some (r1, r2)) :
    Calls Try.prog 82 #[.agg #[.slice A0_0 l0_0.length c0_0, .int .i64 a0_1], .agg #[.int .i64 a1_0, .int .i64 a1_1, .int .i64 a1_2]] w fun e w' => ∃ v0_ : Value, e = .returned (.tuple #[v0_, .bool r2]) ∧ Kd.R (Kd.int .i64) 3 w' w.heap.size (fun _ => True) v0_ r1 ∧ Below w.heap.size w w' := by
 have hu44 := Try.underlying44
 have hu47 := Try.underlying47
 have HR0_0 := A_ hr0_0
 have HC0_0 := A_ hc0_0
 clear hr0_0 hc0_0
 have HB := A_ (Below.refl w.heap.size w)
 have H : ((some (([] : List Int) : List Int)).bind fun y135 => ((spec_KeyOf.f k l0_0 a0_1 a1_2).bind fun t138 => (if a1_0 = 1 then (if 0 ≤ a1_1 then (if a1_1 < (l0_0.length : Int) then (if (rd l0_0 a1_1) = 0 then (some (y135, decide (t138 < 0))) else (some (y135, false))) else (none)) else (none)) else (if a1_0 = 2 then (if 0 ≤ a1_1 then (if a1_1 < (l0_0.length : Int) then (if (rd l0_0 a1_1) = 0 then (some (y135, false)) else (if t138 < 0 then (some (y135, true)) else (some (y135, (t138 == a1_1))))) else (none)) else (none)) else (if a1_0 = 3 then (if 0 ≤ a1_1 then (if a1_1 < (l0_0.length : Int) then (some (y135, ((rd l0_0 a1_1) != 0))) else (none)) else (none)) else (if a1_0 = 4 then (if 0 ≤ a1_1 then (if a1_1 < (l0_0.length : Int) then (some ((([rd l0_0 a1_1] : List Int)), ((rd l0_0 a1_1) != 0))) else (none)) else (none)) else (if a1_0 = 5 then (some ((([t138] : List Int)), decide (t138 ≥ 0))) else (if a1_0 = 6 then ((spec_HowMany.f k l0_0 a0_1 a1_1).bind fun t150 => (some ((([t150] : List Int)), true))) else (if a1_0 = 7 then ((some (([] : List Int) : List Int)).bind fun y154 => (if y154.length + l0_0.length < 17592186044416 then (some ((y154 ++ l0_0), true)) else (none))) else (if a1_0 = 8 then (some (y135, (a0_1 == 0))) else (if a1_0 = 9 then ((spec_l1In.f a0_1 1 4).bind fun t160 => (some (y135, t160))) else ((some (([t138] : List Int) : List Int)).bind fun y161 => (if a0_1 = 5 then (some (y161, decide (t138 ≥ 0))) else (some (y161, false))))))))))))))) = some (r1, r2) := h
 clear h
 obtain ⟨y135, hy135⟩ : ∃ y_ : List Int, y_ = (([] : List Int)) := ⟨_, rfl⟩
 replace H : ((spec_KeyOf.f k l0_0 a0_1 a1_2).bind fun t138 => (if a1_0 = 1 then (if 0 ≤ a1_1 then (if a1_1 < (l0_0.length : Int) then (if (rd l0_0 a1_1) = 0 then (some (y135, decide (t138 < 0))) else (some (y135, false))) else (none)) else (none)) else (if a1_0 = 2 then (if 0 ≤ a1_1 then (if a1_1 < (l0_0.length : Int) then (if (rd l0_0 a1_1) = 0 then (some (y135, false)) else (if t138 < 0 then (some (y135, true)) else (some (y135, (t138 == a1_1))))) else (none)) else (none)) else (if a1_0 = 3 then (if 0 ≤ a1_1 then (if a1_1 < (l0_0.length : Int) then (some (y135, ((rd l0_0 a1_1) != 0))) else (none)) else (none)) else (if a1_0 = 4 then (if 0 ≤ a1_1 then (if a1_1 < (l0_0.length : Int) then (some ((([rd l0_0 a1_1] : List Int)), ((rd l0_0 a1_1) != 0))) else (none)) else (none)) else (if a1_0 = 5 then (some ((([t138] : List Int)), decide (t138 ≥ 0))) else (if a1_0 = 6 then ((spec_HowMany.f k l0_0 a0_1 a1_1).bind fun t150 => (some ((([t150] : List Int)), true))) else (if a1_0 = 7 then ((some (([] : List Int) : List Int)).bind fun y154 => (if y154.length + l0_0.length < 17592186044416 then (some ((y154 ++ l0_0), true)) else (none))) else (if a1_0 = 8 then (some (y135, (a0_1 == 0))) else (if a1_0 = 9 then ((spec_l1In.f a0_1 1 4).bind fun t160 => (some (y135, t160))) else ((some (([t138] : List Int) : List Int)).bind fun y161 => (if a0_1 = 5 then (some (y161, decide (t138 ≥ 0))) else (some (y161, false)))))))))))))) = some (r1, r2) := by first | (rw [hy135]; with_reducible exact H) | (have H2_ := (Option.bind_some _ _).symm.trans H; rw [hy135]; with_reducible exact H2_) | (have H2_ := (Option.bind_some _ _).symm.trans H; with_reducible exact H2_) | with_reducible exact H | (rw [hy135]; exact H) | exact H
 have Ny135 := A_ hy135
 clear hy135
 replace H := bs_ H
 obtain ⟨t138, A3, H⟩ := H
 by_cases c4 : a1_0 = 1
 ·
  rw [if_pos c4] at H
  have c4b0 : (a1_0 == 1) = true := beq_iff_eq.mpr c4
  have c4b1 : (a1_0 != 1) = false := bne_eq_false_iff_eq.mpr c4
  clear c4
  replace H := ix_ H
  obtain ⟨c5b0, H⟩ := H
  replace H := ix_ H
  obtain ⟨c6b0, H⟩ := H
  by_cases c7 : (rd l0_0 a1_1) = 0
  ·
   rw [if_pos c7] at H
   have c7b0 : ((rd l0_0 a1_1) == 0) = true := beq_iff_eq.mpr c7
   have c7b1 : ((rd l0_0 a1_1) != 0) = false := bne_eq_false_iff_eq.mpr c7
   clear c7
   simp only [Option.some.injEq, Prod.mk.injEq] at H
   obtain ⟨rfl, rfl⟩ := H
   go_enter Try.func82, Try.ntmps82
   go_wp2_with (first | ((with_reducible refine gate_dst (N := 2) rfl ?_); refine Y3_ ?_; clear HB; intro gb133 w8 BK133 GW133 HB) | ((with_reducible refine gate_dst (N := 3) rfl ?_); refine Y8_ ?_; clear HB BK133; intro gb134 w9 BK134 GW134 HB NB133_134 NB134_133 BK133) | ((with_reducible refine gate_dst (N := 8) rfl ?_); refine Kd.R_lit (Kd.int .i64) _ 3 ?hg (N := 8) ?hd (xs := ([] : List Int)) (inner := []) (ok := fun _ => True) (okp := fun _ => True) ?hr ?hp (fun _ hk => hk) trivial (Below.refl _ _) (Nat.le_refl _) (by simp) ?_; (case hd => rfl); (case hg => rfl); (case hr => first | (go_simp; done) | (go_simp; rfl)); (case hp => exact (Reps.none _ _)); intro v136 w10 ho11 hb hg_ hnew_; clear hg_ hnew_; (first | rw [← Ny135.out] at ho11 | (simp only [Int.reduceToNat] at ho11; rw [← Ny135.out] at ho11)); have HO137 := A_ (Kd.R_lower ho11 (below_size (hb_ HB))); replace BK133 := bb_ BK133 hb; replace BK134 := bb_ BK134 hb; replace HB := hs_ HB hb; clear hb ho11; have hnb12 := NB133_134.out; have hnc12 := NB134_133.out; obtain ⟨hcz13_0, hcz13_1, hfz13_0, hfz13_1⟩ := cz2_ BK133; obtain ⟨hcz14_0, hcz14_1, hcz14_2, hfz14_0, hfz14_1, hfz14_2⟩ := cz3_ BK134) | ((with_reducible refine gate_callee (f := 133) rfl ?_); refine goesL_ (some 12) rfl rfl Try.func133 (by kernel_rfl) rfl #[.agg #[.slice A0_0 l0_0.length c0_0, .int .i64 a0_1], .int .i64 a1_2] rfl al_ ?_; (with_reducible refine (spec_KeyOf.calls k _ _ l0_0 a0_1 a1_2 t138 _ ?side1 ?side2 A3.out).mono ?_); (case side1 => exact cb_ (Kd.C_below HR0_0.out HB.out)); (case side2 => exact HC0_0.out); rintro e w15 ⟨rfl, hb⟩; refine ⟨_, rfl, ?_⟩; replace HO137 := A_ (Kd.R_below (rb_ HO137.out) hb); replace BK133 := bb_ BK133 hb; replace BK134 := bb_ BK134 hb; replace HB := hs_ HB hb; (try clear hb); (try clear hb2); (try clear hk); (try clear hi); obtain ⟨hcz16_0, hcz16_1, hcz16_2, hfz16_0, hfz16_1, hfz16_2⟩ := cz3_ BK134; obtain ⟨hcz17_0, hcz17_1, hfz17_0, hfz17_1⟩ := cz2_ BK133; have p139 : 0 ≤ (a1_1 : Int) := od_; have q139 : a1_1 < (l0_0.length : Int) := od_; obtain ⟨ad139, e139, hx139_0⟩ := Kd.at_int HR0_0.out a1_1 p139 q139; cases e139; replace hx139_0 := hx_ HB hx139_0; replace p139 := eq_true p139; replace q139 := eq_true q139))
   go_ret2
   exact ⟨_, rs_, rb_ HO137.out, hb_ HB⟩
  rw [if_neg c7] at H
  have c7b0 : ((rd l0_0 a1_1) == 0) = false := beq_eq_false_iff_ne.mpr c7
  have c7b1 : ((rd l0_0 a1_1) != 0) = true := bne_iff_ne.mpr c7
  simp only [Option.some.injEq, Prod.mk.injEq] at H
  obtain ⟨rfl, rfl⟩ := H
  go_enter Try.func82, Try.ntmps82
  go_wp2_with (first | ((with_reducible refine gate_dst (N := 2) rfl ?_); refine Y3_ ?_; clear HB; intro gb133 w18 BK133 GW133 HB) | ((with_reducible refine gate_dst (N := 3) rfl ?_); refine Y8_ ?_; clear HB BK133; intro gb134 w19 BK134 GW134 HB NB133_134 NB134_133 BK133) | ((with_reducible refine gate_dst (N := 8) rfl ?_); refine Kd.R_lit (Kd.int .i64) _ 3 ?hg (N := 8) ?hd (xs := ([] : List Int)) (inner := []) (ok := fun _ => True) (okp := fun _ => True) ?hr ?hp (fun _ hk => hk) trivial (Below.refl _ _) (Nat.le_refl _) (by simp) ?_; (case hd => rfl); (case hg => rfl); (case hr => first | (go_simp; done) | (go_simp; rfl)); (case hp => exact (Reps.none _ _)); intro v136 w20 ho21 hb hg_ hnew_; clear hg_ hnew_; (first | rw [← Ny135.out] at ho21 | (simp only [Int.reduceToNat] at ho21; rw [← Ny135.out] at ho21)); have HO137 := A_ (Kd.R_lower ho21 (below_size (hb_ HB))); replace BK133 := bb_ BK133 hb; replace BK134 := bb_ BK134 hb; replace HB := hs_ HB hb; clear hb ho21; have hnb22 := NB133_134.out; have hnc22 := NB134_133.out; obtain ⟨hcz23_0, hcz23_1, hfz23_0, hfz23_1⟩ := cz2_ BK133; obtain ⟨hcz24_0, hcz24_1, hcz24_2, hfz24_0, hfz24_1, hfz24_2⟩ := cz3_ BK134) | ((with_reducible refine gate_callee (f := 133) rfl ?_); refine goesL_ (some 12) rfl rfl Try.func133 (by kernel_rfl) rfl #[.agg #[.slice A0_0 l0_0.length c0_0, .int .i64 a0_1], .int .i64 a1_2] rfl al_ ?_; (with_reducible refine (spec_KeyOf.calls k _ _ l0_0 a0_1 a1_2 t138 _ ?side1 ?side2 A3.out).mono ?_); (case side1 => exact cb_ (Kd.C_below HR0_0.out HB.out)); (case side2 => exact HC0_0.out); rintro e w25 ⟨rfl, hb⟩; refine ⟨_, rfl, ?_⟩; replace HO137 := A_ (Kd.R_below (rb_ HO137.out) hb); replace BK133 := bb_ BK133 hb; replace BK134 := bb_ BK134 hb; replace HB := hs_ HB hb; (try clear hb); (try clear hb2); (try clear hk); (try clear hi); obtain ⟨hcz26_0, hcz26_1, hcz26_2, hfz26_0, hfz26_1, hfz26_2⟩ := cz3_ BK134; obtain ⟨hcz27_0, hcz27_1, hfz27_0, hfz27_1⟩ := cz2_ BK133; have p139 : 0 ≤ (a1_1 : Int) := od_; have q139 : a1_1 < (l0_0.length : Int) := od_; obtain ⟨ad139, e139, hx139_0⟩ := Kd.at_int HR0_0.out a1_1 p139 q139; cases e139; replace hx139_0 := hx_ HB hx139_0; replace p139 := eq_true p139; replace q139 := eq_true q139))
  go_ret2
  exact ⟨_, rs_, rb_ HO137.out, hb_ HB⟩
 rw [if_neg c4] at H
 have c4b0 : (a1_0 == 1) = false := beq_eq_false_iff_ne.mpr c4
 have c4b1 : (a1_0 != 1) = true := bne_iff_ne.mpr c4
 by_cases c28 : a1_0 = 2
 ·
  rw [if_pos c28] at H
  have c28b0 : (a1_0 == 2) = true := beq_iff_eq.mpr c28
  have c28b1 : (a1_0 != 2) = false := bne_eq_false_iff_eq.mpr c28
  clear c28
  replace H := ix_ H
  obtain ⟨c29b0, H⟩ := H
  replace H := ix_ H
  obtain ⟨c30b0, H⟩ := H
  by_cases c31 : (rd l0_0 a1_1) = 0
  ·
   rw [if_pos c31] at H
   have c31b0 : ((rd l0_0 a1_1) == 0) = true := beq_iff_eq.mpr c31
   have c31b1 : ((rd l0_0 a1_1) != 0) = false := bne_eq_false_iff_eq.mpr c31
   clear c31
   simp only [Option.some.injEq, Prod.mk.injEq] at H
   obtain ⟨rfl, rfl⟩ := H
   go_enter Try.func82, Try.ntmps82
   try go_wp2_with (first | ((with_reducible refine gate_dst (N := 2) rfl ?_); refine Y3_ ?_; clear HB; intro gb133 w32 BK133 GW133 HB) | ((with_reducible refine gate_dst (N := 3) rfl ?_); refine Y8_ ?_; clear HB BK133; intro gb134 w33 BK134 GW134 HB NB133_134 NB134_133 BK133) | ((with_reducible refine gate_dst (N := 8) rfl ?_); refine Kd.R_lit (Kd.int .i64) _ 3 ?hg (N := 8) ?hd (xs := ([] : List Int)) (inner := []) (ok := fun _ => True) (okp := fun _ => True) ?hr ?hp (fun _ hk => hk) trivial (Below.refl _ _) (Nat.le_refl _) (by simp) ?_; (case hd => rfl); (case hg => rfl); (case hr => first | (go_simp; done) | (go_simp; rfl)); (case hp => exact (Reps.none _ _)); intro v136 w34 ho35 hb hg_ hnew_; clear hg_ hnew_; (first | rw [← Ny135.out] at ho35 | (simp only [Int.reduceToNat] at ho35; rw [← Ny135.out] at ho35)); have HO137 := A_ (Kd.R_lower ho35 (below_size (hb_ HB))); replace BK133 := bb_ BK133 hb; replace BK134 := bb_ BK134 hb; replace HB := hs_ HB hb; clear hb ho35; have hnb36 := NB133_134.out; have hnc36 := NB134_133.out; obtain ⟨hcz37_0, hcz37_1, hfz37_0, hfz37_1⟩ := cz2_ BK133; obtain ⟨hcz38_0, hcz38_1, hcz38_2, hfz38_0, hfz38_1, hfz38_2⟩ := cz3_ BK134) | ((with_reducible refine gate_callee (f := 133) rfl ?_); refine Y9_ ?_; clear HO137 BK133 BK134 HB; intro w39 HO137 BK133 BK134 HB hcz40_0 hcz40_1 hcz40_2 hfz40_0 hfz40_1 hfz40_2))
   replace HO137 := A_ (Kd.R_drew HO137.out)
   replace BK133 := A_ (blk_drew BK133.out)
   replace BK134 := A_ (blk_drew BK134.out)
   replace HB := A_ (below_drew1 HB.out)
   have p140 : 0 ≤ (a1_1 : Int) := od_
   have q140 : a1_1 < (l0_0.length : Int) := od_
   obtain ⟨ad140, e140, hx140_0⟩ := Kd.at_int HR0_0.out a1_1 p140 q140
   have hw140_0 := hx140_0
   cases e140
   replace hx140_0 := hx_ HB hx140_0
   replace p140 := eq_true p140
   replace q140 := eq_true q140
   refine start_ (n := 20) (S := fun w' => w'.cell? ⟨gb133, 0, none⟩ = some (.slice (some ad140) l0_0.length c0_0) ∧ w'.cell? ⟨gb133, 1, none⟩ = some (.int .i64 a0_1) ∧ w'.cell? ⟨gb134, 0, none⟩ = some (.int .i64 a1_0) ∧ w'.cell? ⟨gb134, 1, none⟩ = some (.int .i64 a1_1) ∧ w'.cell? ⟨gb134, 2, none⟩ = some (.int .i64 a1_2) ∧ w'.cell? (ad140.add (a1_1).toNat) = some (.int .i64 (rd l0_0 a1_1))) (ds := []) (bt_ 0 20) (by kernel_rfl) rfl rfl ⟨(blk_cell BK133.out 0).trans rfl, (blk_cell BK133.out 1).trans rfl, (blk_cell BK134.out 0).trans rfl, (blk_cell BK134.out 1).trans rfl, (blk_cell BK134.out 2).trans rfl, (hy_ HB hw140_0)⟩ (fun hHeld => ?_); refine with_tabW spec_l4Done.tab7 spec_l4Done.bits7 (fun HT_ HW_ => ?_)
   generalize w39.drew = w41 at HO137 BK133 BK134 HB hx140_0 hHeld ⊢
   refine pu_ 0 31 (bt_ 1 20) ?_
   refine pu_ 1 32 (bt_ 3 20) ?_
   refine pu_ 3 34 (bt_ 11 20) ?_
   refine tk6_ 2 33 (bt_ 15 20) hHeld ?_
   refine tk6_ 4 35 (bt_ 31 20) hHeld ?_
   refine pu_ 5 36 (bt_ 63 20) ?_
   refine tk6_ 6 37 (bt_ 127 20) hHeld ?_
   refine pu_ 7 38 (bt_ 255 20) ?_
   refine pu_ 8 39 (bt_ 511 20) ?_
   refine pn_ 9 40 (bt_ 1023 20) ?_
   refine pn_ 10 41 (bt_ 2047 20) ?_
   refine pn_ 11 42 (bt_ 4095 20) ?_
   refine pn_ 12 43 (bt_ 8191 20) ?_
   refine pn_ 13 44 (bt_ 16383 20) ?_
   refine pn_ 14 45 (bt_ 32767 20) ?_
   refine pn_ 15 46 (bt_ 65535 20) ?_
   refine pn_ 16 47 (bt_ 131071 20) ?_
   refine pu_ 17 48 (bt_ 262143 20) ?_
   refine pu_ 18 4 (bt_ 524287 20) ?_
   refine pu_ 19 5 (bt_ 1048575 20) ?_
   refine done_ (done_of HT_.out (by kernel_rfl)) ?_
   try go_wp2
   go_ret2
   exact ⟨_, rs_, rb_ HO137.out, hb_ HB⟩
  rw [if_neg c31] at H
  have c31b0 : ((rd l0_0 a1_1) == 0) = false := beq_eq_false_iff_ne.mpr c31
  have c31b1 : ((rd l0_0 a1_1) != 0) = true := bne_iff_ne.mpr c31
  replace H := ic_ H
  rcases H with ⟨c42b0, H⟩ | ⟨c42b0, H⟩
  ·
   simp only [Option.some.injEq, Prod.mk.injEq] at H
   obtain ⟨rfl, rfl⟩ := H
   go_enter Try.func82, Try.ntmps82
   try go_wp2_with (first | ((with_reducible refine gate_dst (N := 2) rfl ?_); refine Y3_ ?_; clear HB; intro gb133 w43 BK133 GW133 HB) | ((with_reducible refine gate_dst (N := 3) rfl ?_); refine Y8_ ?_; clear HB BK133; intro gb134 w44 BK134 GW134 HB NB133_134 NB134_133 BK133) | ((with_reducible refine gate_dst (N := 8) rfl ?_); refine Kd.R_lit (Kd.int .i64) _ 3 ?hg (N := 8) ?hd (xs := ([] : List Int)) (inner := []) (ok := fun _ => True) (okp := fun _ => True) ?hr ?hp (fun _ hk => hk) trivial (Below.refl _ _) (Nat.le_refl _) (by simp) ?_; (case hd => rfl); (case hg => rfl); (case hr => first | (go_simp; done) | (go_simp; rfl)); (case hp => exact (Reps.none _ _)); intro v136 w45 ho46 hb hg_ hnew_; clear hg_ hnew_; (first | rw [← Ny135.out] at ho46 | (simp only [Int.reduceToNat] at ho46; rw [← Ny135.out] at ho46)); have HO137 := A_ (Kd.R_lower ho46 (below_size (hb_ HB))); replace BK133 := bb_ BK133 hb; replace BK134 := bb_ BK134 hb; replace HB := hs_ HB hb; clear hb ho46; have hnb47 := NB133_134.out; have hnc47 := NB134_133.out; obtain ⟨hcz48_0, hcz48_1, hfz48_0, hfz48_1⟩ := cz2_ BK133; obtain ⟨hcz49_0, hcz49_1, hcz49_2, hfz49_0, hfz49_1, hfz49_2⟩ := cz3_ BK134) | ((with_reducible refine gate_callee (f := 133) rfl ?_); refine Y9_ ?_; clear HO137 BK133 BK134 HB; intro w50 HO137 BK133 BK134 HB hcz51_0 hcz51_1 hcz51_2 hfz51_0 hfz51_1 hfz51_2))
   replace HO137 := A_ (Kd.R_drew HO137.out)
   replace BK133 := A_ (blk_drew BK133.out)
   replace BK134 := A_ (blk_drew BK134.out)
   replace HB := A_ (below_drew1 HB.out)
   have p140 : 0 ≤ (a1_1 : Int) := od_
   have q140 : a1_1 < (l0_0.length : Int) := od_
   obtain ⟨ad140, e140, hx140_0⟩ := Kd.at_int HR0_0.out a1_1 p140 q140
   have hw140_0 := hx140_0
   cases e140
   replace hx140_0 := hx_ HB hx140_0
   replace p140 := eq_true p140
   replace q140 := eq_true q140
   refine start_ (n := 20) (S := fun w' => w'.cell? ⟨gb133, 0, none⟩ = some (.slice (some ad140) l0_0.length c0_0) ∧ w'.cell? ⟨gb133, 1, none⟩ = some (.int .i64 a0_1) ∧ w'.cell? ⟨gb134, 0, none⟩ = some (.int .i64 a1_0) ∧ w'.cell? ⟨gb134, 1, none⟩ = some (.int .i64 a1_1) ∧ w'.cell? ⟨gb134, 2, none⟩ = some (.int .i64 a1_2) ∧ w'.cell? (ad140.add (a1_1).toNat) = some (.int .i64 (rd l0_0 a1_1))) (ds := []) (bt_ 0 20) (by kernel_rfl) rfl rfl ⟨(blk_cell BK133.out 0).trans rfl, (blk_cell BK133.out 1).trans rfl, (blk_cell BK134.out 0).trans rfl, (blk_cell BK134.out 1).trans rfl, (blk_cell BK134.out 2).trans rfl, (hy_ HB hw140_0)⟩ (fun hHeld => ?_); refine with_tabW spec_l4Done.tab7 spec_l4Done.bits7 (fun HT_ HW_ => ?_)
   generalize w50.drew = w52 at HO137 BK133 BK134 HB hx140_0 hHeld ⊢
   refine pu_ 0 31 (bt_ 1 20) ?_
   refine pu_ 1 32 (bt_ 3 20) ?_
   refine pu_ 3 34 (bt_ 11 20) ?_
   refine tk6_ 2 33 (bt_ 15 20) hHeld ?_
   refine tk6_ 4 35 (bt_ 31 20) hHeld ?_
   refine pu_ 5 36 (bt_ 63 20) ?_
   refine tk6_ 6 37 (bt_ 127 20) hHeld ?_
   refine pu_ 7 38 (bt_ 255 20) ?_
   refine pu_ 8 39 (bt_ 511 20) ?_
   refine pu_ 9 40 (bt_ 1023 20) ?_
   refine pu_ 10 41 (bt_ 2047 20) ?_
   refine pu_ 11 42 (bt_ 4095 20) ?_
   refine pn_ 12 43 (bt_ 8191 20) ?_
   refine pn_ 13 44 (bt_ 16383 20) ?_
   refine pn_ 14 45 (bt_ 32767 20) ?_
   refine pn_ 15 46 (bt_ 65535 20) ?_
   refine pu_ 16 47 (bt_ 131071 20) ?_
   refine pu_ 17 48 (bt_ 262143 20) ?_
   refine pu_ 18 4 (bt_ 524287 20) ?_
   refine pu_ 19 5 (bt_ 1048575 20) ?_
   refine done_ (done_of HT_.out (by kernel_rfl)) ?_
   try go_wp2
   go_ret2
   exact ⟨_, rs_, rb_ HO137.out, hb_ HB⟩
  simp only [Option.some.injEq, Prod.mk.injEq] at H
  obtain ⟨rfl, rfl⟩ := H
  go_enter Try.func82, Try.ntmps82
  try go_wp2_with (first | ((with_reducible refine gate_dst (N := 2) rfl ?_); refine Y3_ ?_; clear HB; intro gb133 w53 BK133 GW133 HB) | ((with_reducible refine gate_dst (N := 3) rfl ?_); refine Y8_ ?_; clear HB BK133; intro gb134 w54 BK134 GW134 HB NB133_134 NB134_133 BK133) | ((with_reducible refine gate_dst (N := 8) rfl ?_); refine Kd.R_lit (Kd.int .i64) _ 3 ?hg (N := 8) ?hd (xs := ([] : List Int)) (inner := []) (ok := fun _ => True) (okp := fun _ => True) ?hr ?hp (fun _ hk => hk) trivial (Below.refl _ _) (Nat.le_refl _) (by simp) ?_; (case hd => rfl); (case hg => rfl); (case hr => first | (go_simp; done) | (go_simp; rfl)); (case hp => exact (Reps.none _ _)); intro v136 w55 ho56 hb hg_ hnew_; clear hg_ hnew_; (first | rw [← Ny135.out] at ho56 | (simp only [Int.reduceToNat] at ho56; rw [← Ny135.out] at ho56)); have HO137 := A_ (Kd.R_lower ho56 (below_size (hb_ HB))); replace BK133 := bb_ BK133 hb; replace BK134 := bb_ BK134 hb; replace HB := hs_ HB hb; clear hb ho56; have hnb57 := NB133_134.out; have hnc57 := NB134_133.out; obtain ⟨hcz58_0, hcz58_1, hfz58_0, hfz58_1⟩ := cz2_ BK133; obtain ⟨hcz59_0, hcz59_1, hcz59_2, hfz59_0, hfz59_1, hfz59_2⟩ := cz3_ BK134) | ((with_reducible refine gate_callee (f := 133) rfl ?_); refine Y9_ ?_; clear HO137 BK133 BK134 HB; intro w60 HO137 BK133 BK134 HB hcz61_0 hcz61_1 hcz61_2 hfz61_0 hfz61_1 hfz61_2))
  replace HO137 := A_ (Kd.R_drew HO137.out)
  replace BK133 := A_ (blk_drew BK133.out)
  replace BK134 := A_ (blk_drew BK134.out)
  replace HB := A_ (below_drew1 HB.out)
  have p140 : 0 ≤ (a1_1 : Int) := od_
  have q140 : a1_1 < (l0_0.length : Int) := od_
  obtain ⟨ad140, e140, hx140_0⟩ := Kd.at_int HR0_0.out a1_1 p140 q140
  have hw140_0 := hx140_0
  cases e140
  replace hx140_0 := hx_ HB hx140_0
  replace p140 := eq_true p140
  replace q140 := eq_true q140
  refine start_ (n := 20) (S := fun w' => w'.cell? ⟨gb133, 0, none⟩ = some (.slice (some ad140) l0_0.length c0_0) ∧ w'.cell? ⟨gb133, 1, none⟩ = some (.int .i64 a0_1) ∧ w'.cell? ⟨gb134, 0, none⟩ = some (.int .i64 a1_0) ∧ w'.cell? ⟨gb134, 1, none⟩ = some (.int .i64 a1_1) ∧ w'.cell? ⟨gb134, 2, none⟩ = some (.int .i64 a1_2) ∧ w'.cell? (ad140.add (a1_1).toNat) = some (.int .i64 (rd l0_0 a1_1))) (ds := []) (bt_ 0 20) (by kernel_rfl) rfl rfl ⟨(blk_cell BK133.out 0).trans rfl, (blk_cell BK133.out 1).trans rfl, (blk_cell BK134.out 0).trans rfl, (blk_cell BK134.out 1).trans rfl, (blk_cell BK134.out 2).trans rfl, (hy_ HB hw140_0)⟩ (fun hHeld => ?_); refine with_tabW spec_l4Done.tab7 spec_l4Done.bits7 (fun HT_ HW_ => ?_)
  generalize w60.drew = w62 at HO137 BK133 BK134 HB hx140_0 hHeld ⊢
  refine pu_ 0 31 (bt_ 1 20) ?_
  refine pu_ 1 32 (bt_ 3 20) ?_
  refine pu_ 3 34 (bt_ 11 20) ?_
  refine tk6_ 2 33 (bt_ 15 20) hHeld ?_
  refine tk6_ 4 35 (bt_ 31 20) hHeld ?_
  refine pu_ 5 36 (bt_ 63 20) ?_
  refine tk6_ 6 37 (bt_ 127 20) hHeld ?_
  refine pu_ 7 38 (bt_ 255 20) ?_
  refine pu_ 8 39 (bt_ 511 20) ?_
  refine pu_ 9 40 (bt_ 1023 20) ?_
  refine pu_ 10 41 (bt_ 2047 20) ?_
  refine pu_ 11 42 (bt_ 4095 20) ?_
  refine pu_ 12 43 (bt_ 8191 20) ?_
  refine pu_ 13 44 (bt_ 16383 20) ?_
  refine pu_ 18 4 (bt_ 278527 20) ?_
  refine tk6_ 14 45 (bt_ 294911 20) hHeld ?_
  refine pu_ 15 46 (bt_ 327679 20) ?_
  refine pu_ 16 47 (bt_ 393215 20) ?_
  refine pu_ 17 48 (bt_ 524287 20) ?_
  refine pu_ 19 5 (bt_ 1048575 20) ?_
  refine done_ (done_of HT_.out (by kernel_rfl)) ?_
  try go_wp2
  go_ret2
  exact ⟨_, rs_, rb_ HO137.out, hb_ HB⟩
 rw [if_neg c28] at H
 have c28b0 : (a1_0 == 2) = false := beq_eq_false_iff_ne.mpr c28
 have c28b1 : (a1_0 != 2) = true := bne_iff_ne.mpr c28
 by_cases c63 : a1_0 = 3
 ·
  rw [if_pos c63] at H
  have c63b0 : (a1_0 == 3) = true := beq_iff_eq.mpr c63
  have c63b1 : (a1_0 != 3) = false := bne_eq_false_iff_eq.mpr c63
  clear c63
  replace H := ix_ H
  obtain ⟨c64b0, H⟩ := H
  replace H := ix_ H
  obtain ⟨c65b0, H⟩ := H
  simp only [Option.some.injEq, Prod.mk.injEq] at H
  obtain ⟨rfl, rfl⟩ := H
  go_enter Try.func82, Try.ntmps82
  try go_wp2_with (first | ((with_reducible refine gate_dst (N := 2) rfl ?_); refine Y3_ ?_; clear HB; intro gb133 w66 BK133 GW133 HB) | ((with_reducible refine gate_dst (N := 3) rfl ?_); refine Y8_ ?_; clear HB BK133; intro gb134 w67 BK134 GW134 HB NB133_134 NB134_133 BK133) | ((with_reducible refine gate_dst (N := 8) rfl ?_); refine Kd.R_lit (Kd.int .i64) _ 3 ?hg (N := 8) ?hd (xs := ([] : List Int)) (inner := []) (ok := fun _ => True) (okp := fun _ => True) ?hr ?hp (fun _ hk => hk) trivial (Below.refl _ _) (Nat.le_refl _) (by simp) ?_; (case hd => rfl); (case hg => rfl); (case hr => first | (go_simp; done) | (go_simp; rfl)); (case hp => exact (Reps.none _ _)); intro v136 w68 ho69 hb hg_ hnew_; clear hg_ hnew_; (first | rw [← Ny135.out] at ho69 | (simp only [Int.reduceToNat] at ho69; rw [← Ny135.out] at ho69)); have HO137 := A_ (Kd.R_lower ho69 (below_size (hb_ HB))); replace BK133 := bb_ BK133 hb; replace BK134 := bb_ BK134 hb; replace HB := hs_ HB hb; clear hb ho69; have hnb70 := NB133_134.out; have hnc70 := NB134_133.out; obtain ⟨hcz71_0, hcz71_1, hfz71_0, hfz71_1⟩ := cz2_ BK133; obtain ⟨hcz72_0, hcz72_1, hcz72_2, hfz72_0, hfz72_1, hfz72_2⟩ := cz3_ BK134) | ((with_reducible refine gate_callee (f := 133) rfl ?_); refine Y9_ ?_; clear HO137 BK133 BK134 HB; intro w73 HO137 BK133 BK134 HB hcz74_0 hcz74_1 hcz74_2 hfz74_0 hfz74_1 hfz74_2))
  replace HO137 := A_ (Kd.R_drew HO137.out)
  replace BK133 := A_ (blk_drew BK133.out)
  replace BK134 := A_ (blk_drew BK134.out)
  replace HB := A_ (below_drew1 HB.out)
  have p141 : 0 ≤ (a1_1 : Int) := od_
  have q141 : a1_1 < (l0_0.length : Int) := od_
  obtain ⟨ad141, e141, hx141_0⟩ := Kd.at_int HR0_0.out a1_1 p141 q141
  have hw141_0 := hx141_0
  cases e141
  replace hx141_0 := hx_ HB hx141_0
  replace p141 := eq_true p141
  replace q141 := eq_true q141
  refine start_ (n := 10) (S := fun w' => w'.cell? ⟨gb133, 0, none⟩ = some (.slice (some ad141) l0_0.length c0_0) ∧ w'.cell? ⟨gb133, 1, none⟩ = some (.int .i64 a0_1) ∧ w'.cell? ⟨gb134, 0, none⟩ = some (.int .i64 a1_0) ∧ w'.cell? ⟨gb134, 1, none⟩ = some (.int .i64 a1_1) ∧ w'.cell? ⟨gb134, 2, none⟩ = some (.int .i64 a1_2) ∧ w'.cell? (ad141.add (a1_1).toNat) = some (.int .i64 (rd l0_0 a1_1))) (ds := []) (bt_ 0 10) (by kernel_rfl) rfl rfl ⟨(blk_cell BK133.out 0).trans rfl, (blk_cell BK133.out 1).trans rfl, (blk_cell BK134.out 0).trans rfl, (blk_cell BK134.out 1).trans rfl, (blk_cell BK134.out 2).trans rfl, (hy_ HB hw141_0)⟩ (fun hHeld => ?_); refine with_tabW spec_l4Done.tab9 spec_l4Done.bits9 (fun HT_ HW_ => ?_)
  generalize w73.drew = w75 at HO137 BK133 BK134 HB hx141_0 hHeld ⊢
  refine pu_ 0 51 (bt_ 1 10) ?_
  refine pu_ 1 52 (bt_ 3 10) ?_
  refine pu_ 3 54 (bt_ 11 10) ?_
  refine pu_ 8 4 (bt_ 267 10) ?_
  refine tk6_ 2 53 (bt_ 271 10) hHeld ?_
  refine tk6_ 4 55 (bt_ 287 10) hHeld ?_
  refine pu_ 5 56 (bt_ 319 10) ?_
  refine tk6_ 6 57 (bt_ 383 10) hHeld ?_
  refine pu_ 7 58 (bt_ 511 10) ?_
  refine pu_ 9 5 (bt_ 1023 10) ?_
  refine done_ (done_of HT_.out (by kernel_rfl)) ?_
  try go_wp2
  go_ret2
  exact ⟨_, rs_, rb_ HO137.out, hb_ HB⟩
 rw [if_neg c63] at H
 have c63b0 : (a1_0 == 3) = false := beq_eq_false_iff_ne.mpr c63
 have c63b1 : (a1_0 != 3) = true := bne_iff_ne.mpr c63
 by_cases c76 : a1_0 = 4
 ·
  rw [if_pos c76] at H
  have c76b0 : (a1_0 == 4) = true := beq_iff_eq.mpr c76
  have c76b1 : (a1_0 != 4) = false := bne_eq_false_iff_eq.mpr c76
  clear c76
  replace H := ix_ H
  obtain ⟨c77b0, H⟩ := H
  replace H := ix_ H
  obtain ⟨c78b0, H⟩ := H
  obtain ⟨y143, hy143⟩ : ∃ y_ : List Int, y_ = (([rd l0_0 a1_1] : List Int)) := ⟨_, rfl⟩
  replace H : (some (y143, ((rd l0_0 a1_1) != 0))) = some (r1, r2) := by first | (rw [hy143]; with_reducible exact H) | (have H2_ := (Option.bind_some _ _).symm.trans H; rw [hy143]; with_reducible exact H2_) | (have H2_ := (Option.bind_some _ _).symm.trans H; with_reducible exact H2_) | with_reducible exact H | (rw [hy143]; exact H) | exact H
  have Ny143 := A_ hy143
  clear hy143
  simp only [Option.some.injEq, Prod.mk.injEq] at H
  obtain ⟨rfl, rfl⟩ := H
  go_enter Try.func82, Try.ntmps82
  try go_wp2_with (first | ((with_reducible refine gate_dst (N := 2) rfl ?_); refine Y3_ ?_; clear HB; intro gb133 w79 BK133 GW133 HB) | ((with_reducible refine gate_dst (N := 3) rfl ?_); refine Y8_ ?_; clear HB BK133; intro gb134 w80 BK134 GW134 HB NB133_134 NB134_133 BK133) | ((with_reducible refine gate_dst (N := 8) rfl ?_); refine Kd.R_lit (Kd.int .i64) _ 3 ?hg (N := 8) ?hd (xs := ([] : List Int)) (inner := []) (ok := fun _ => True) (okp := fun _ => True) ?hr ?hp (fun _ hk => hk) trivial (Below.refl _ _) (Nat.le_refl _) (by simp) ?_; (case hd => rfl); (case hg => rfl); (case hr => first | (go_simp; done) | (go_simp; rfl)); (case hp => exact (Reps.none _ _)); intro v136 w81 ho82 hb hg_ hnew_; clear hg_ hnew_; (first | rw [← Ny135.out] at ho82 | (simp only [Int.reduceToNat] at ho82; rw [← Ny135.out] at ho82)); have HO137 := A_ (Kd.R_lower ho82 (below_size (hb_ HB))); replace BK133 := bb_ BK133 hb; replace BK134 := bb_ BK134 hb; replace HB := hs_ HB hb; clear hb ho82; have hnb83 := NB133_134.out; have hnc83 := NB134_133.out; obtain ⟨hcz84_0, hcz84_1, hfz84_0, hfz84_1⟩ := cz2_ BK133; obtain ⟨hcz85_0, hcz85_1, hcz85_2, hfz85_0, hfz85_1, hfz85_2⟩ := cz3_ BK134) | ((with_reducible refine gate_callee (f := 133) rfl ?_); refine Y9_ ?_; clear HO137 BK133 BK134 HB; intro w86 HO137 BK133 BK134 HB hcz87_0 hcz87_1 hcz87_2 hfz87_0 hfz87_1 hfz87_2))
  replace HO137 := A_ (Kd.R_drew HO137.out)
  replace BK133 := A_ (blk_drew BK133.out)
  replace BK134 := A_ (blk_drew BK134.out)
  replace HB := A_ (below_drew1 HB.out)
  have p142 : 0 ≤ (a1_1 : Int) := od_
  have q142 : a1_1 < (l0_0.length : Int) := od_
  obtain ⟨ad142, e142, hx142_0⟩ := Kd.at_int HR0_0.out a1_1 p142 q142
  have hw142_0 := hx142_0
  cases e142
  replace hx142_0 := hx_ HB hx142_0
  replace p142 := eq_true p142
  replace q142 := eq_true q142
  have p146 : 0 ≤ (a1_1 : Int) := od_
  have q146 : a1_1 < (l0_0.length : Int) := od_
  obtain ⟨ad146, e146, hx146_0⟩ := Kd.at_int HR0_0.out a1_1 p146 q146
  have hw146_0 := hx146_0
  obtain rfl : ad142 = ad146 := (by injection e146)
  replace hx146_0 := hx_ HB hx146_0
  replace p146 := eq_true p146
  replace q146 := eq_true q146
  refine start_ (n := 16) (S := fun w' => w'.cell? ⟨gb133, 0, none⟩ = some (.slice (some ad142) l0_0.length c0_0) ∧ w'.cell? ⟨gb133, 1, none⟩ = some (.int .i64 a0_1) ∧ w'.cell? ⟨gb134, 0, none⟩ = some (.int .i64 a1_0) ∧ w'.cell? ⟨gb134, 1, none⟩ = some (.int .i64 a1_1) ∧ w'.cell? ⟨gb134, 2, none⟩ = some (.int .i64 a1_2) ∧ w'.cell? (ad142.add (a1_1).toNat) = some (.int .i64 (rd l0_0 a1_1)) ∧ w'.cell? (ad142.add (a1_1).toNat) = some (.int .i64 (rd l0_0 a1_1))) (ds := []) (bt_ 0 16) (by kernel_rfl) rfl rfl ⟨(blk_cell BK133.out 0).trans rfl, (blk_cell BK133.out 1).trans rfl, (blk_cell BK134.out 0).trans rfl, (blk_cell BK134.out 1).trans rfl, (blk_cell BK134.out 2).trans rfl, (hy_ HB hw142_0), (hy_ HB hw146_0)⟩ (fun hHeld => ?_); refine with_tabW spec_l4Done.tab11 spec_l4Done.bits11 (fun HT_ HW_ => ?_)
  generalize w86.drew = w88 at HO137 BK133 BK134 HB hx142_0 hx146_0 hHeld ⊢
  refine pu_ 0 61 (bt_ 1 16) ?_
  refine pu_ 2 63 (bt_ 5 16) ?_
  refine pu_ 7 68 (bt_ 133 16) ?_
  refine pu_ 9 70 (bt_ 645 16) ?_
  refine tk7_ 1 62 (bt_ 647 16) hHeld ?_
  refine tk7_ 3 64 (bt_ 655 16) hHeld ?_
  refine pu_ 4 65 (bt_ 671 16) ?_
  refine tk7_ 5 66 (bt_ 703 16) hHeld ?_
  refine tk7_ 8 69 (bt_ 959 16) hHeld ?_
  refine tk7_ 10 71 (bt_ 1983 16) hHeld ?_
  refine pu_ 11 72 (bt_ 4031 16) ?_
  refine tk7_ 12 73 (bt_ 8127 16) hHeld ?_
  refine pu_ 13 74 (bt_ 16319 16) ?_
  refine one_ (i := 6) (N := some 67) (bt_ 16383 16) rfl rfl (one_of HT_.out (by kernel_rfl)) (by decide) (fun K hK => ?_)
  refine Kd.R_lit_step (Kd.int .i64) _ 3 ?hg (N := 67) ?hd (xs := ([rd l0_0 a1_1] : List Int)) (inner := [.int .i64 (rd l0_0 a1_1)]) (ok := fun _ => True) (okp := fun _ => True) ?hr ?hp (fun _ hk => hk) trivial (Below.refl _ _) (Nat.le_refl _) (by simp) ?_; (case hd => rfl); (case hg => rfl); (case hr => first | (go_simp; done) | (go_simp; rfl)); (case hp => exact (Reps.one (show Kd.M (Kd.int .i64) _ _ _ (rd l0_0 a1_1) [.int .i64 (rd l0_0 a1_1)] from rfl) (Reps.none _ _)))
  intro v144 w89 ho90 hb hg_ hnew_
  clear hg_ hnew_
  (first | rw [← Ny143.out] at ho90 | (simp only [Int.reduceToNat] at ho90; rw [← Ny143.out] at ho90))
  have HO145 := A_ (Kd.R_lower (Kd.R_new' ho90 (Kd.R_lt (rb_ HO137.out))) (below_size (hb_ HB)))
  replace HO137 := A_ (Kd.R_elder' (rb_ HO137.out) (Kd.R_base ho90) hb)
  replace BK133 := bb_ BK133 hb
  replace BK134 := bb_ BK134 hb
  replace HB := hs_ HB hb
  clear hb ho90
  refine hK.out _ _ ⟨(blk_cell BK133.out 0).trans rfl, (blk_cell BK133.out 1).trans rfl, (blk_cell BK134.out 0).trans rfl, (blk_cell BK134.out 1).trans rfl, (blk_cell BK134.out 2).trans rfl, (hy_ HB hw142_0), (hy_ HB hw146_0)⟩ (fun hHeld => ?_)
  clear hK K
  refine norm_ (a' := ?_) ?_ ?_
  rotate_left
  ·
   show Act.put _ (some 67) _ = _
   simp only [Act.put, List.setIfInBounds_toArray, List.set_cons_zero, List.set_cons_succ, i64_w, i32_w]
   rfl
  refine pu_ 14 4 (bt_ 32767 16) ?_
  refine pu_ 15 5 (bt_ 65535 16) ?_
  refine done_ (done_of HT_.out (by kernel_rfl)) ?_
  try go_wp2
  go_ret2
  exact ⟨_, rs_, by (with_reducible repeat (first | apply Kd.R_alloc | apply Kd.R_drewN | apply Kd.R_drew)); exact Kd.R_mono HO145.out (fun _ hk => trivial), hb_ HB⟩
 rw [if_neg c76] at H
 have c76b0 : (a1_0 == 4) = false := beq_eq_false_iff_ne.mpr c76
 have c76b1 : (a1_0 != 4) = true := bne_iff_ne.mpr c76
 by_cases c91 : a1_0 = 5
 ·
  rw [if_pos c91] at H
  have c91b0 : (a1_0 == 5) = true := beq_iff_eq.mpr c91
  have c91b1 : (a1_0 != 5) = false := bne_eq_false_iff_eq.mpr c91
  clear c91
  obtain ⟨y147, hy147⟩ : ∃ y_ : List Int, y_ = (([t138] : List Int)) := ⟨_, rfl⟩
  replace H : (some (y147, decide (t138 ≥ 0))) = some (r1, r2) := by first | (rw [hy147]; with_reducible exact H) | (have H2_ := (Option.bind_some _ _).symm.trans H; rw [hy147]; with_reducible exact H2_) | (have H2_ := (Option.bind_some _ _).symm.trans H; with_reducible exact H2_) | with_reducible exact H | (rw [hy147]; exact H) | exact H
  have Ny147 := A_ hy147
  clear hy147
  simp only [Option.some.injEq, Prod.mk.injEq] at H
  obtain ⟨rfl, rfl⟩ := H
  go_enter Try.func82, Try.ntmps82
  go_wp2_with (first | ((with_reducible refine gate_dst (N := 2) rfl ?_); refine Y3_ ?_; clear HB; intro gb133 w92 BK133 GW133 HB) | ((with_reducible refine gate_dst (N := 3) rfl ?_); refine Y8_ ?_; clear HB BK133; intro gb134 w93 BK134 GW134 HB NB133_134 NB134_133 BK133) | ((with_reducible refine gate_dst (N := 8) rfl ?_); refine Kd.R_lit (Kd.int .i64) _ 3 ?hg (N := 8) ?hd (xs := ([] : List Int)) (inner := []) (ok := fun _ => True) (okp := fun _ => True) ?hr ?hp (fun _ hk => hk) trivial (Below.refl _ _) (Nat.le_refl _) (by simp) ?_; (case hd => rfl); (case hg => rfl); (case hr => first | (go_simp; done) | (go_simp; rfl)); (case hp => exact (Reps.none _ _)); intro v136 w94 ho95 hb hg_ hnew_; clear hg_ hnew_; (first | rw [← Ny135.out] at ho95 | (simp only [Int.reduceToNat] at ho95; rw [← Ny135.out] at ho95)); have HO137 := A_ (Kd.R_lower ho95 (below_size (hb_ HB))); replace BK133 := bb_ BK133 hb; replace BK134 := bb_ BK134 hb; replace HB := hs_ HB hb; clear hb ho95; have hnb96 := NB133_134.out; have hnc96 := NB134_133.out; obtain ⟨hcz97_0, hcz97_1, hfz97_0, hfz97_1⟩ := cz2_ BK133; obtain ⟨hcz98_0, hcz98_1, hcz98_2, hfz98_0, hfz98_1, hfz98_2⟩ := cz3_ BK134) | ((with_reducible refine gate_callee (f := 133) rfl ?_); refine Y9_ ?_; clear HO137 BK133 BK134 HB; intro w99 HO137 BK133 BK134 HB hcz100_0 hcz100_1 hcz100_2 hfz100_0 hfz100_1 hfz100_2) | ((with_reducible refine gate_dst (N := 78) rfl ?_); refine Kd.R_lit (Kd.int .i64) _ 3 ?hg (N := 78) ?hd (xs := ([t138] : List Int)) (inner := [.int .i64 t138]) (ok := fun _ => True) (okp := fun _ => True) ?hr ?hp (fun _ hk => hk) trivial (Below.refl _ _) (Nat.le_refl _) (by simp) ?_; (case hd => rfl); (case hg => rfl); (case hr => first | (go_simp; done) | (go_simp; rfl)); (case hp => exact (Reps.one (show Kd.M (Kd.int .i64) _ _ _ t138 [.int .i64 t138] from rfl) (Reps.none _ _))); intro v148 w101 ho102 hb hg_ hnew_; clear hg_ hnew_; (first | rw [← Ny147.out] at ho102 | (simp only [Int.reduceToNat] at ho102; rw [← Ny147.out] at ho102)); have HO149 := A_ (Kd.R_lower (Kd.R_new' ho102 (Kd.R_lt (rb_ HO137.out))) (below_size (hb_ HB))); replace HO137 := A_ (Kd.R_elder' (rb_ HO137.out) (Kd.R_base ho102) hb); replace BK133 := bb_ BK133 hb; replace BK134 := bb_ BK134 hb; replace HB := hs_ HB hb; clear hb ho102))
  go_ret2
  exact ⟨_, rs_, by (with_reducible repeat (first | apply Kd.R_alloc | apply Kd.R_drewN | apply Kd.R_drew)); exact Kd.R_mono HO149.out (fun _ hk => trivial), hb_ HB⟩
 rw [if_neg c91] at H
 have c91b0 : (a1_0 == 5) = false := beq_eq_false_iff_ne.mpr c91
 have c91b1 : (a1_0 != 5) = true := bne_iff_ne.mpr c91
 by_cases c103 : a1_0 = 6
 ·
  rw [if_pos c103] at H
  have c103b0 : (a1_0 == 6) = true := beq_iff_eq.mpr c103
  have c103b1 : (a1_0 != 6) = false := bne_eq_false_iff_eq.mpr c103
  clear c103
  replace H := bs_ H
  obtain ⟨t150, A104, H⟩ := H
  obtain ⟨y151, hy151⟩ : ∃ y_ : List Int, y_ = (([t150] : List Int)) := ⟨_, rfl⟩
  replace H : (some (y151, true)) = some (r1, r2) := by first | (rw [hy151]; with_reducible exact H) | (have H2_ := (Option.bind_some _ _).symm.trans H; rw [hy151]; with_reducible exact H2_) | (have H2_ := (Option.bind_some _ _).symm.trans H; with_reducible exact H2_) | with_reducible exact H | (rw [hy151]; exact H) | exact H
  have Ny151 := A_ hy151
  clear hy151
  simp only [Option.some.injEq, Prod.mk.injEq] at H
  obtain ⟨rfl, rfl⟩ := H
  go_enter Try.func82, Try.ntmps82
  go_wp2_with (first | ((with_reducible refine gate_dst (N := 2) rfl ?_); refine Y3_ ?_; clear HB; intro gb133 w105 BK133 GW133 HB) | ((with_reducible refine gate_dst (N := 3) rfl ?_); refine Y8_ ?_; clear HB BK133; intro gb134 w106 BK134 GW134 HB NB133_134 NB134_133 BK133) | ((with_reducible refine gate_dst (N := 8) rfl ?_); refine Kd.R_lit (Kd.int .i64) _ 3 ?hg (N := 8) ?hd (xs := ([] : List Int)) (inner := []) (ok := fun _ => True) (okp := fun _ => True) ?hr ?hp (fun _ hk => hk) trivial (Below.refl _ _) (Nat.le_refl _) (by simp) ?_; (case hd => rfl); (case hg => rfl); (case hr => first | (go_simp; done) | (go_simp; rfl)); (case hp => exact (Reps.none _ _)); intro v136 w107 ho108 hb hg_ hnew_; clear hg_ hnew_; (first | rw [← Ny135.out] at ho108 | (simp only [Int.reduceToNat] at ho108; rw [← Ny135.out] at ho108)); have HO137 := A_ (Kd.R_lower ho108 (below_size (hb_ HB))); replace BK133 := bb_ BK133 hb; replace BK134 := bb_ BK134 hb; replace HB := hs_ HB hb; clear hb ho108; have hnb109 := NB133_134.out; have hnc109 := NB134_133.out; obtain ⟨hcz110_0, hcz110_1, hfz110_0, hfz110_1⟩ := cz2_ BK133; obtain ⟨hcz111_0, hcz111_1, hcz111_2, hfz111_0, hfz111_1, hfz111_2⟩ := cz3_ BK134) | ((with_reducible refine gate_callee (f := 133) rfl ?_); refine Y10_ ?_; clear HO137 BK133 BK134 HB; intro w112 HO137 BK133 BK134 HB hcz113_0 hcz113_1 hcz113_2 hfz113_0 hfz113_1 hfz113_2 hcz114_0 hcz114_1 hfz114_0 hfz114_1) | ((with_reducible refine gate_callee (f := 134) rfl ?_); refine goesL_ (some 86) rfl rfl Try.func134 (by kernel_rfl) rfl #[.agg #[.slice A0_0 l0_0.length c0_0, .int .i64 a0_1], .int .i64 a1_1] rfl al_ ?_; (with_reducible refine (spec_HowMany.calls k _ _ l0_0 a0_1 a1_1 t150 _ ?side1 ?side2 A104.out).mono ?_); (case side1 => exact cb_ (Kd.C_below HR0_0.out HB.out)); (case side2 => exact HC0_0.out); rintro e w115 ⟨rfl, hb⟩; refine ⟨_, rfl, ?_⟩; replace HO137 := A_ (Kd.R_below (rb_ HO137.out) hb); replace BK133 := bb_ BK133 hb; replace BK134 := bb_ BK134 hb; replace HB := hs_ HB hb; (try clear hb); (try clear hb2); (try clear hk); (try clear hi)) | ((with_reducible refine gate_dst (N := 87) rfl ?_); refine Kd.R_lit (Kd.int .i64) _ 3 ?hg (N := 87) ?hd (xs := ([t150] : List Int)) (inner := [.int .i64 t150]) (ok := fun _ => True) (okp := fun _ => True) ?hr ?hp (fun _ hk => hk) trivial (Below.refl _ _) (Nat.le_refl _) (by simp) ?_; (case hd => rfl); (case hg => rfl); (case hr => first | (go_simp; done) | (go_simp; rfl)); (case hp => exact (Reps.one (show Kd.M (Kd.int .i64) _ _ _ t150 [.int .i64 t150] from rfl) (Reps.none _ _))); intro v152 w116 ho117 hb hg_ hnew_; clear hg_ hnew_; (first | rw [← Ny151.out] at ho117 | (simp only [Int.reduceToNat] at ho117; rw [← Ny151.out] at ho117)); have HO153 := A_ (Kd.R_lower (Kd.R_new' ho117 (Kd.R_lt (rb_ HO137.out))) (below_size (hb_ HB))); replace HO137 := A_ (Kd.R_elder' (rb_ HO137.out) (Kd.R_base ho117) hb); replace BK133 := bb_ BK133 hb; replace BK134 := bb_ BK134 hb; replace HB := hs_ HB hb; clear hb ho117))
  go_ret2
  exact ⟨_, rs_, by (with_reducible repeat (first | apply Kd.R_alloc | apply Kd.R_drewN | apply Kd.R_drew)); exact Kd.R_mono HO153.out (fun _ hk => trivial), hb_ HB⟩
 rw [if_neg c103] at H
 have c103b0 : (a1_0 == 6) = false := beq_eq_false_iff_ne.mpr c103
 have c103b1 : (a1_0 != 6) = true := bne_iff_ne.mpr c103
 by_cases c118 : a1_0 = 7
 ·
  rw [if_pos c118] at H
  have c118b0 : (a1_0 == 7) = true := beq_iff_eq.mpr c118
  have c118b1 : (a1_0 != 7) = false := bne_eq_false_iff_eq.mpr c118
  clear c118
  obtain ⟨y154, hy154⟩ : ∃ y_ : List Int, y_ = (([] : List Int)) := ⟨_, rfl⟩
  replace H : (if y154.length + l0_0.length < 17592186044416 then (some ((y154 ++ l0_0), true)) else (none)) = some (r1, r2) := by first | (rw [hy154]; with_reducible exact H) | (have H2_ := (Option.bind_some _ _).symm.trans H; rw [hy154]; with_reducible exact H2_) | (have H2_ := (Option.bind_some _ _).symm.trans H; with_reducible exact H2_) | with_reducible exact H | (rw [hy154]; exact H) | exact H
  have Ny154 := A_ hy154
  clear hy154
  by_cases c119 : y154.length + l0_0.length < 17592186044416
  ·
   rw [if_pos c119] at H
   have LMc119 := A_ c119
   clear c119
   obtain ⟨y157, hy157⟩ : ∃ y_ : List Int, y_ = (y154 ++ l0_0) := ⟨_, rfl⟩
   replace H : (some (y157, true)) = some (r1, r2) := by first | (rw [hy157]; with_reducible exact H) | (have H2_ := (Option.bind_some _ _).symm.trans H; rw [hy157]; with_reducible exact H2_) | (have H2_ := (Option.bind_some _ _).symm.trans H; with_reducible exact H2_) | with_reducible exact H | (rw [hy157]; exact H) | exact H
   have Ny157 := A_ hy157
   clear hy157
   simp only [Option.some.injEq, Prod.mk.injEq] at H
   obtain ⟨rfl, rfl⟩ := H
   go_enter Try.func82, Try.ntmps82
   go_wp2_with (first | ((with_reducible refine gate_dst (N := 2) rfl ?_); refine Y3_ ?_; clear HB; intro gb133 w120 BK133 GW133 HB) | ((with_reducible refine gate_dst (N := 3) rfl ?_); refine Y8_ ?_; clear HB BK133; intro gb134 w121 BK134 GW134 HB NB133_134 NB134_133 BK133) | ((with_reducible refine gate_dst (N := 8) rfl ?_); refine Kd.R_lit (Kd.int .i64) _ 3 ?hg (N := 8) ?hd (xs := ([] : List Int)) (inner := []) (ok := fun _ => True) (okp := fun _ => True) ?hr ?hp (fun _ hk => hk) trivial (Below.refl _ _) (Nat.le_refl _) (by simp) ?_; (case hd => rfl); (case hg => rfl); (case hr => first | (go_simp; done) | (go_simp; rfl)); (case hp => exact (Reps.none _ _)); intro v136 w122 ho123 hb hg_ hnew_; clear hg_ hnew_; (first | rw [← Ny135.out] at ho123 | (simp only [Int.reduceToNat] at ho123; rw [← Ny135.out] at ho123)); have HO137 := A_ (Kd.R_lower ho123 (below_size (hb_ HB))); replace BK133 := bb_ BK133 hb; replace BK134 := bb_ BK134 hb; replace HB := hs_ HB hb; clear hb ho123; have hnb124 := NB133_134.out; have hnc124 := NB134_133.out; obtain ⟨hcz125_0, hcz125_1, hfz125_0, hfz125_1⟩ := cz2_ BK133; obtain ⟨hcz126_0, hcz126_1, hcz126_2, hfz126_0, hfz126_1, hfz126_2⟩ := cz3_ BK134) | ((with_reducible refine gate_callee (f := 133) rfl ?_); refine Y9_ ?_; clear HO137 BK133 BK134 HB; intro w127 HO137 BK133 BK134 HB hcz128_0 hcz128_1 hcz128_2 hfz128_0 hfz128_1 hfz128_2) | ((with_reducible refine gate_dst (N := 90) rfl ?_); refine Kd.R_lit (Kd.int .i64) _ 3 ?hg (N := 90) ?hd (xs := ([] : List Int)) (inner := []) (ok := fun _ => True) (okp := fun _ => True) ?hr ?hp (fun _ hk => hk) trivial (Below.refl _ _) (Nat.le_refl _) (by simp) ?_; (case hd => rfl); (case hg => rfl); (case hr => first | (go_simp; done) | (go_simp; rfl)); (case hp => exact (Reps.none _ _)); intro v155 w129 ho130 hb hg_ hnew_; clear hg_ hnew_; (first | rw [← Ny154.out] at ho130 | (simp only [Int.reduceToNat] at ho130; rw [← Ny154.out] at ho130)); have HO156 := A_ (Kd.R_lower (Kd.R_new' ho130 (Kd.R_lt (rb_ HO137.out))) (below_size (hb_ HB))); replace HO137 := A_ (Kd.R_elder' (rb_ HO137.out) (Kd.R_base ho130) hb); replace BK133 := bb_ BK133 hb; replace BK134 := bb_ BK134 hb; replace HB := hs_ HB hb; clear hb ho130; obtain ⟨hcz131_0, hcz131_1, hfz131_0, hfz131_1⟩ := cz2_ BK133) | ((with_reducible refine gate_builtin (b := .append) (xs := #[.tmp 90, .tmp 92]) rfl ?_); at_builtin; refine Kd.R_append_rows (Kd.int .i64) (w0 := w) w.heap.size rfl (.tmp 90) (.tmp 92) 35 3 (.int .i64 0) 8 rfl Try.underlying35 info3 rfl (by decide) (by omega) v155 y154 l0_0 _ _ _ (fun k_ => some k_ ≠ (v136 : Value).ownBlock) (fun _ => False) rfl rfl ?aO ?aR (fun _ _ h => h) (fun _ h => h.elim) ?aF ?aB ?aS ?aL ?_; (case aR => exact cb_ (Kd.C_below HR0_0.out HB.out)); (case aB => exact (hb_ HB)); (case aF => exact (fun k_ hk => Kd.fresh' (Kd.R_lt (rb_ HO137.out)) k_ hk)); (case aO => exact (by (with_reducible repeat (first | apply Kd.R_alloc | apply Kd.R_drewN | apply Kd.R_drew)); exact Kd.R_mono HO156.out (fun _ hk => hk.2))); (case aS => exact (below_size (hb_ HB))); (case aL => have := LMc119.out; omega); intro v158 w132 ho hb hg hat; rw [← Ny157.out] at ho; have HO159 := A_ ho; replace BK133 := A_ (blk_grown (g := gb133) (o := .cells #[.slice A0_0 l0_0.length c0_0, .int .i64 a0_1] 44 (0, 0)) (bk_ BK133) hg (Kd.R_ne HO156.out BK133.out (by decide))); replace BK134 := A_ (blk_grown (g := gb134) (o := .cells #[.int .i64 a1_0, .int .i64 a1_1, .int .i64 a1_2] 47 (0, 0)) (bk_ BK134) hg (Kd.R_ne HO156.out BK134.out (by decide))); replace HO137 := A_ (Kd.R_after (ok := (fun _ => True)) (rb_ HO137.out) hg hat); replace HB := A_ hb; clear HO156; clear ho hb hg hat))
   go_ret2
   exact ⟨_, rs_, by (with_reducible repeat (first | apply Kd.R_alloc | apply Kd.R_drewN | apply Kd.R_drew)); exact Kd.R_mono HO159.out (fun _ hk => trivial), hb_ HB⟩
  rw [if_neg c119] at H
  exact absurd H (by simp)
 rw [if_neg c118] at H
 have c118b0 : (a1_0 == 7) = false := beq_eq_false_iff_ne.mpr c118
 have c118b1 : (a1_0 != 7) = true := bne_iff_ne.mpr c118
 by_cases c133 : a1_0 = 8
 ·
  rw [if_pos c133] at H
  have c133b0 : (a1_0 == 8) = true := beq_iff_eq.mpr c133
  have c133b1 : (a1_0 != 8) = false := bne_eq_false_iff_eq.mpr c133
  clear c133
  simp only [Option.some.injEq, Prod.mk.injEq] at H
  obtain ⟨rfl, rfl⟩ := H
  go_enter Try.func82, Try.ntmps82
  try go_wp2_with (first | ((with_reducible refine gate_dst (N := 2) rfl ?_); refine Y3_ ?_; clear HB; intro gb133 w134 BK133 GW133 HB) | ((with_reducible refine gate_dst (N := 3) rfl ?_); refine Y8_ ?_; clear HB BK133; intro gb134 w135 BK134 GW134 HB NB133_134 NB134_133 BK133) | ((with_reducible refine gate_dst (N := 8) rfl ?_); refine Kd.R_lit (Kd.int .i64) _ 3 ?hg (N := 8) ?hd (xs := ([] : List Int)) (inner := []) (ok := fun _ => True) (okp := fun _ => True) ?hr ?hp (fun _ hk => hk) trivial (Below.refl _ _) (Nat.le_refl _) (by simp) ?_; (case hd => rfl); (case hg => rfl); (case hr => first | (go_simp; done) | (go_simp; rfl)); (case hp => exact (Reps.none _ _)); intro v136 w136 ho137 hb hg_ hnew_; clear hg_ hnew_; (first | rw [← Ny135.out] at ho137 | (simp only [Int.reduceToNat] at ho137; rw [← Ny135.out] at ho137)); have HO137 := A_ (Kd.R_lower ho137 (below_size (hb_ HB))); replace BK133 := bb_ BK133 hb; replace BK134 := bb_ BK134 hb; replace HB := hs_ HB hb; clear hb ho137; have hnb138 := NB133_134.out; have hnc138 := NB134_133.out; obtain ⟨hcz139_0, hcz139_1, hfz139_0, hfz139_1⟩ := cz2_ BK133; obtain ⟨hcz140_0, hcz140_1, hcz140_2, hfz140_0, hfz140_1, hfz140_2⟩ := cz3_ BK134) | ((with_reducible refine gate_callee (f := 133) rfl ?_); refine Y9_ ?_; clear HO137 BK133 BK134 HB; intro w141 HO137 BK133 BK134 HB hcz142_0 hcz142_1 hcz142_2 hfz142_0 hfz142_1 hfz142_2))
  replace HO137 := A_ (Kd.R_drew HO137.out)
  replace BK133 := A_ (blk_drew BK133.out)
  replace BK134 := A_ (blk_drew BK134.out)
  replace HB := A_ (below_drew1 HB.out)
  refine start_ (n := 6) (S := fun w' => w'.cell? ⟨gb133, 0, none⟩ = some (.slice A0_0 l0_0.length c0_0) ∧ w'.cell? ⟨gb133, 1, none⟩ = some (.int .i64 a0_1)) (ds := []) (bt_ 0 6) (by kernel_rfl) rfl rfl ⟨(blk_cell BK133.out 0).trans rfl, (blk_cell BK133.out 1).trans rfl⟩ (fun hHeld => ?_)
  generalize w141.drew = w143 at HO137 BK133 BK134 HB hHeld ⊢
  refine pure_ (i := 0) (N := some 96) (v := ?_) (a' := ?_) (bt_ 1 6) rfl rfl (by kernel_rfl) (fun _ _ _ h => h) (Or.inl ⟨by rfl, ?_⟩) ?_ ?_
  rotate_left
  ·
   intro w'
   go_simp
   with_reducible rfl
  rotate_left
  ·
   simp only [Act.put, List.setIfInBounds_toArray, List.set_cons_zero, List.set_cons_succ, i64_w, i32_w]
   rfl
  refine pure_ (i := 1) (N := some 97) (v := ?_) (a' := ?_) (bt_ 3 6) rfl rfl (by kernel_rfl) (fun _ _ _ h => h) (Or.inl ⟨by rfl, ?_⟩) ?_ ?_
  rotate_left
  ·
   intro w'
   go_simp
   with_reducible rfl
  rotate_left
  ·
   simp only [Act.put, List.setIfInBounds_toArray, List.set_cons_zero, List.set_cons_succ, i64_w, i32_w]
   rfl
  refine pure_ (i := 4) (N := some 4) (v := ?_) (a' := ?_) (bt_ 19 6) rfl rfl (by kernel_rfl) (fun _ _ _ h => h) (Or.inl ⟨by rfl, ?_⟩) ?_ ?_
  rotate_left
  ·
   intro w'
   go_simp
   with_reducible rfl
  rotate_left
  ·
   simp only [Act.put, List.setIfInBounds_toArray, List.set_cons_zero, List.set_cons_succ, i64_w, i32_w]
   rfl
  refine take_ (i := 2) (N := some 98) (v := ?_) (a' := ?_) (bt_ 23 6) rfl rfl (by kernel_rfl) (fun _ _ _ h => h) (Or.inl ⟨by rfl, ?_⟩) hHeld ?_ ?_
  rotate_left
  ·
   rintro w' ⟨s0, s1⟩
   go_simp
   with_reducible rfl
  rotate_left
  ·
   simp only [Act.put, List.setIfInBounds_toArray, List.set_cons_zero, List.set_cons_succ, i64_w, i32_w]
   rfl
  refine pure_ (i := 3) (N := some 99) (v := ?_) (a' := ?_) (bt_ 31 6) rfl rfl (by kernel_rfl) (fun _ _ _ h => h) (Or.inl ⟨by rfl, ?_⟩) ?_ ?_
  rotate_left
  ·
   intro w'
   go_simp
   with_reducible rfl
  rotate_left
  ·
   simp only [Act.put, List.setIfInBounds_toArray, List.set_cons_zero, List.set_cons_succ, i64_w, i32_w]
   rfl
  refine pure_ (i := 5) (N := some 5) (v := ?_) (a' := ?_) (bt_ 63 6) rfl rfl (by kernel_rfl) (fun _ _ _ h => h) (Or.inl ⟨by rfl, ?_⟩) ?_ ?_
  rotate_left
  ·
   intro w'
   go_simp
   with_reducible rfl
  rotate_left
  ·
   simp only [Act.put, List.setIfInBounds_toArray, List.set_cons_zero, List.set_cons_succ, i64_w, i32_w]
   rfl
  refine done_ (by kernel_rfl) ?_
  try go_wp2
  go_ret2
  exact ⟨_, rs_, rb_ HO137.out, hb_ HB⟩
 rw [if_neg c133] at H
 have c133b0 : (a1_0 == 8) = false := beq_eq_false_iff_ne.mpr c133
 have c133b1 : (a1_0 != 8) = true := bne_iff_ne.mpr c133
 by_cases c144 : a1_0 = 9
 ·
  rw [if_pos c144] at H
  have c144b0 : (a1_0 == 9) = true := beq_iff_eq.mpr c144
  have c144b1 : (a1_0 != 9) = false := bne_eq_false_iff_eq.mpr c144
  clear c144
  replace H := bs_ H
  obtain ⟨t160, A145, H⟩ := H
  simp only [Option.some.injEq, Prod.mk.injEq] at H
  obtain ⟨rfl, rfl⟩ := H
  go_enter Try.func82, Try.ntmps82
  go_wp2_with (first | ((with_reducible refine gate_dst (N := 2) rfl ?_); refine Y3_ ?_; clear HB; intro gb133 w146 BK133 GW133 HB) | ((with_reducible refine gate_dst (N := 3) rfl ?_); refine Y8_ ?_; clear HB BK133; intro gb134 w147 BK134 GW134 HB NB133_134 NB134_133 BK133) | ((with_reducible refine gate_dst (N := 8) rfl ?_); refine Kd.R_lit (Kd.int .i64) _ 3 ?hg (N := 8) ?hd (xs := ([] : List Int)) (inner := []) (ok := fun _ => True) (okp := fun _ => True) ?hr ?hp (fun _ hk => hk) trivial (Below.refl _ _) (Nat.le_refl _) (by simp) ?_; (case hd => rfl); (case hg => rfl); (case hr => first | (go_simp; done) | (go_simp; rfl)); (case hp => exact (Reps.none _ _)); intro v136 w148 ho149 hb hg_ hnew_; clear hg_ hnew_; (first | rw [← Ny135.out] at ho149 | (simp only [Int.reduceToNat] at ho149; rw [← Ny135.out] at ho149)); have HO137 := A_ (Kd.R_lower ho149 (below_size (hb_ HB))); replace BK133 := bb_ BK133 hb; replace BK134 := bb_ BK134 hb; replace HB := hs_ HB hb; clear hb ho149; have hnb150 := NB133_134.out; have hnc150 := NB134_133.out; obtain ⟨hcz151_0, hcz151_1, hfz151_0, hfz151_1⟩ := cz2_ BK133; obtain ⟨hcz152_0, hcz152_1, hcz152_2, hfz152_0, hfz152_1, hfz152_2⟩ := cz3_ BK134) | ((with_reducible refine gate_callee (f := 133) rfl ?_); refine Y10_ ?_; clear HO137 BK133 BK134 HB; intro w153 HO137 BK133 BK134 HB hcz154_0 hcz154_1 hcz154_2 hfz154_0 hfz154_1 hfz154_2 hcz155_0 hcz155_1 hfz155_0 hfz155_1) | ((with_reducible refine gate_callee (f := 87) rfl ?_); refine goesL_ (some 105) rfl rfl Try.func87 (by kernel_rfl) rfl #[.int .i64 a0_1, .int .i64 1, .int .i64 4] rfl al_ ?_; (with_reducible refine (spec_l1In.calls a0_1 1 4 t160 _ A145.out).mono ?_); rintro e w' ⟨rfl, ⟨nd, rfl⟩⟩; refine ⟨_, rfl, ?_⟩))
  go_ret2
  exact ⟨_, rs_, rb_ HO137.out, hb_ HB⟩
 rw [if_neg c144] at H
 have c144b0 : (a1_0 == 9) = false := beq_eq_false_iff_ne.mpr c144
 have c144b1 : (a1_0 != 9) = true := bne_iff_ne.mpr c144
 obtain ⟨y161, hy161⟩ : ∃ y_ : List Int, y_ = (([t138] : List Int)) := ⟨_, rfl⟩
 replace H : (if a0_1 = 5 then (some (y161, decide (t138 ≥ 0))) else (some (y161, false))) = some (r1, r2) := by first | (rw [hy161]; with_reducible exact H) | (have H2_ := (Option.bind_some _ _).symm.trans H; rw [hy161]; with_reducible exact H2_) | (have H2_ := (Option.bind_some _ _).symm.trans H; with_reducible exact H2_) | with_reducible exact H | (rw [hy161]; exact H) | exact H
 have Ny161 := A_ hy161
 clear hy161
 by_cases c156 : a0_1 = 5
 ·
  rw [if_pos c156] at H
  have c156b0 : (a0_1 == 5) = true := beq_iff_eq.mpr c156
  have c156b1 : (a0_1 != 5) = false := bne_eq_false_iff_eq.mpr c156
  clear c156
  simp only [Option.some.injEq, Prod.mk.injEq] at H
  obtain ⟨rfl, rfl⟩ := H
  go_enter Try.func82, Try.ntmps82
  go_wp2_with (first | ((with_reducible refine gate_dst (N := 2) rfl ?_); refine Y3_ ?_; clear HB; intro gb133 w157 BK133 GW133 HB) | ((with_reducible refine gate_dst (N := 3) rfl ?_); refine Y8_ ?_; clear HB BK133; intro gb134 w158 BK134 GW134 HB NB133_134 NB134_133 BK133) | ((with_reducible refine gate_dst (N := 8) rfl ?_); refine Kd.R_lit (Kd.int .i64) _ 3 ?hg (N := 8) ?hd (xs := ([] : List Int)) (inner := []) (ok := fun _ => True) (okp := fun _ => True) ?hr ?hp (fun _ hk => hk) trivial (Below.refl _ _) (Nat.le_refl _) (by simp) ?_; (case hd => rfl); (case hg => rfl); (case hr => first | (go_simp; done) | (go_simp; rfl)); (case hp => exact (Reps.none _ _)); intro v136 w159 ho160 hb hg_ hnew_; clear hg_ hnew_; (first | rw [← Ny135.out] at ho160 | (simp only [Int.reduceToNat] at ho160; rw [← Ny135.out] at ho160)); have HO137 := A_ (Kd.R_lower ho160 (below_size (hb_ HB))); replace BK133 := bb_ BK133 hb; replace BK134 := bb_ BK134 hb; replace HB := hs_ HB hb; clear hb ho160; have hnb161 := NB133_134.out; have hnc161 := NB134_133.out; obtain ⟨hcz162_0, hcz162_1, hfz162_0, hfz162_1⟩ := cz2_ BK133; obtain ⟨hcz163_0, hcz163_1, hcz163_2, hfz163_0, hfz163_1, hfz163_2⟩ := cz3_ BK134) | ((with_reducible refine gate_callee (f := 133) rfl ?_); refine Y9_ ?_; clear HO137 BK133 BK134 HB; intro w164 HO137 BK133 BK134 HB hcz165_0 hcz165_1 hcz165_2 hfz165_0 hfz165_1 hfz165_2) | ((with_reducible refine gate_dst (N := 107) rfl ?_); refine Kd.R_lit (Kd.int .i64) _ 3 ?hg (N := 107) ?hd (xs := ([t138] : List Int)) (inner := [.int .i64 t138]) (ok := fun _ => True) (okp := fun _ => True) ?hr ?hp (fun _ hk => hk) trivial (Below.refl _ _) (Nat.le_refl _) (by simp) ?_; (case hd => rfl); (case hg => rfl); (case hr => first | (go_simp; done) | (go_simp; rfl)); (case hp => exact (Reps.one (show Kd.M (Kd.int .i64) _ _ _ t138 [.int .i64 t138] from rfl) (Reps.none _ _))); intro v162 w166 ho167 hb hg_ hnew_; clear hg_ hnew_; (first | rw [← Ny161.out] at ho167 | (simp only [Int.reduceToNat] at ho167; rw [← Ny161.out] at ho167)); have HO163 := A_ (Kd.R_lower (Kd.R_new' ho167 (Kd.R_lt (rb_ HO137.out))) (below_size (hb_ HB))); replace HO137 := A_ (Kd.R_elder' (rb_ HO137.out) (Kd.R_base ho167) hb); replace BK133 := bb_ BK133 hb; replace BK134 := bb_ BK134 hb; replace HB := hs_ HB hb; clear hb ho167; obtain ⟨hcz168_0, hcz168_1, hfz168_0, hfz168_1⟩ := cz2_ BK133))
  go_ret2
  exact ⟨_, rs_, by (with_reducible repeat (first | apply Kd.R_alloc | apply Kd.R_drewN | apply Kd.R_drew)); exact Kd.R_mono HO163.out (fun _ hk => trivial), hb_ HB⟩
 rw [if_neg c156] at H
 have c156b0 : (a0_1 == 5) = false := beq_eq_false_iff_ne.mpr c156
 have c156b1 : (a0_1 != 5) = true := bne_iff_ne.mpr c156
 simp only [Option.some.injEq, Prod.mk.injEq] at H
 obtain ⟨rfl, rfl⟩ := H
 go_enter Try.func82, Try.ntmps82
 go_wp2_with (first | ((with_reducible refine gate_dst (N := 2) rfl ?_); refine Y3_ ?_; clear HB; intro gb133 w169 BK133 GW133 HB) | ((with_reducible refine gate_dst (N := 3) rfl ?_); refine Y8_ ?_; clear HB BK133; intro gb134 w170 BK134 GW134 HB NB133_134 NB134_133 BK133) | ((with_reducible refine gate_dst (N := 8) rfl ?_); refine Kd.R_lit (Kd.int .i64) _ 3 ?hg (N := 8) ?hd (xs := ([] : List Int)) (inner := []) (ok := fun _ => True) (okp := fun _ => True) ?hr ?hp (fun _ hk => hk) trivial (Below.refl _ _) (Nat.le_refl _) (by simp) ?_; (case hd => rfl); (case hg => rfl); (case hr => first | (go_simp; done) | (go_simp; rfl)); (case hp => exact (Reps.none _ _)); intro v136 w171 ho172 hb hg_ hnew_; clear hg_ hnew_; (first | rw [← Ny135.out] at ho172 | (simp only [Int.reduceToNat] at ho172; rw [← Ny135.out] at ho172)); have HO137 := A_ (Kd.R_lower ho172 (below_size (hb_ HB))); replace BK133 := bb_ BK133 hb; replace BK134 := bb_ BK134 hb; replace HB := hs_ HB hb; clear hb ho172; have hnb173 := NB133_134.out; have hnc173 := NB134_133.out; obtain ⟨hcz174_0, hcz174_1, hfz174_0, hfz174_1⟩ := cz2_ BK133; obtain ⟨hcz175_0, hcz175_1, hcz175_2, hfz175_0, hfz175_1, hfz175_2⟩ := cz3_ BK134) | ((with_reducible refine gate_callee (f := 133) rfl ?_); refine Y9_ ?_; clear HO137 BK133 BK134 HB; intro w176 HO137 BK133 BK134 HB hcz177_0 hcz177_1 hcz177_2 hfz177_0 hfz177_1 hfz177_2) | ((with_reducible refine gate_dst (N := 107) rfl ?_); refine Kd.R_lit (Kd.int .i64) _ 3 ?hg (N := 107) ?hd (xs := ([t138] : List Int)) (inner := [.int .i64 t138]) (ok := fun _ => True) (okp := fun _ => True) ?hr ?hp (fun _ hk => hk) trivial (Below.refl _ _) (Nat.le_refl _) (by simp) ?_; (case hd => rfl); (case hg => rfl); (case hr => first | (go_simp; done) | (go_simp; rfl)); (case hp => exact (Reps.one (show Kd.M (Kd.int .i64) _ _ _ t138 [.int .i64 t138] from rfl) (Reps.none _ _))); intro v162 w178 ho179 hb hg_ hnew_; clear hg_ hnew_; (first | rw [← Ny161.out] at ho179 | (simp only [Int.reduceToNat] at ho179; rw [← Ny161.out] at ho179)); have HO163 := A_ (Kd.R_lower (Kd.R_new' ho179 (Kd.R_lt (rb_ HO137.out))) (below_size (hb_ HB))); replace HO137 := A_ (Kd.R_elder' (rb_ HO137.out) (Kd.R_base ho179) hb); replace BK133 := bb_ BK133 hb; replace BK134 := bb_ BK134 hb; replace HB := hs_ HB hb; clear hb ho179; obtain ⟨hcz180_0, hcz180_1, hfz180_0, hfz180_1⟩ := cz2_ BK133))
 go_ret2
 exact ⟨_, rs_, by (with_reducible repeat (first | apply Kd.R_alloc | apply Kd.R_drewN | apply Kd.R_drew)); exact Kd.R_mono HO163.out (fun _ hk => trivial), hb_ HB⟩

end Go.Proofs.Ytmkhghbalnadlaa.PFnAllowed
