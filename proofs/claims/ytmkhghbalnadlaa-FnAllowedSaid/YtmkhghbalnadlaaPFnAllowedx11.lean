/- Contracts of functions of the program: each says that the call does what a plain Lean function tells. Made by programs of this session and of the kit. No condition beyond the hypotheses that each theorem names. -/
import Derived.Test.YtmkhghbalnadlaaPFnAllowedx0
import Derived.Test.YtmkhghbalnadlaaPFnAllowedx8
import Derived.Test.YtmkhghbalnadlaaPFnAllowedx10
namespace Go.Proofs.Ytmkhghbalnadlaa.PFnAllowed
open Go.RowKit Go.Proofs.YtmkhghbalnadlaaW.PrintWords Go.Proofs.YtmkhghbalnadlaaW.PrintLast Go.Proofs.YtmkhghbalnadlaaW.PrintMore
attribute [local go_sem] max2_int min2_int max_two min_two max_three min_three max_four min_four   -- for this text's walks alone
set_option linter.unusedVariables false
set_option linter.unusedSimpArgs false

/-! ### impl_success: function 75 -/
def impl_success.f (k : Nat) (l0_0 : List Int) (a0_1 : Int) (a1_0 : Int) (a1_1 : Int) (a1_2 : Int) : Option (List Int × Bool) := (impl_KeyOf.f k l0_0 a0_1 a1_2).bind fun t232 => (if a1_0 = 1 then (if 0 ≤ a1_1 then (if a1_1 < (l0_0.length : Int) then (if (rd l0_0 a1_1) = 0 then (some (([] : List Int), decide (t232 < 0))) else (some (([] : List Int), false))) else (none)) else (none)) else (if a1_0 = 2 then (if 0 ≤ a1_1 then (if a1_1 < (l0_0.length : Int) then (if (rd l0_0 a1_1) = 0 then (some (([] : List Int), false)) else (if t232 < 0 then (some (([] : List Int), true)) else (some (([] : List Int), (t232 == a1_1))))) else (none)) else (none)) else (if a1_0 = 3 then (if 0 ≤ a1_1 then (if a1_1 < (l0_0.length : Int) then (some (([] : List Int), ((rd l0_0 a1_1) != 0))) else (none)) else (none)) else (if a1_0 = 4 then (if 0 ≤ a1_1 then (if a1_1 < (l0_0.length : Int) then (some ((([rd l0_0 a1_1] : List Int)), ((rd l0_0 a1_1) != 0))) else (none)) else (none)) else (if a1_0 = 5 then (some ((([t232] : List Int)), decide (t232 ≥ 0))) else (if a1_0 = 6 then ((impl_HowMany.f k l0_0 a0_1 a1_1).bind fun t244 => (some ((([t244] : List Int)), true))) else (if a1_0 = 7 then (some (l0_0, true)) else (if a1_0 = 8 then (some (([] : List Int), (a0_1 == 0))) else (if a1_0 = 9 then (if a0_1 = 0 then (some (([] : List Int), false)) else ((impl_made.f l0_0 a0_1).bind fun t248 => (some (([] : List Int), !t248)))) else ((some (([t232] : List Int) : List Int)).bind fun y249 => (if t232 ≥ 0 then ((impl_made.f l0_0 a0_1).bind fun t252 => (some (y249, t252))) else (some (y249, false)))))))))))))
theorem impl_success.mono : ∀ a0 a1 a2 a3 a4 k, LeO (impl_success.f k a0 a1 a2 a3 a4) (impl_success.f (k + 1) a0 a1 a2 a3 a4) := by
 intro a0 a1 a2 a3 a4 k
 unfold impl_success.f
 repeat' first | (with_reducible first | apply impl_HowMany.mono | apply impl_KeyOf.mono | apply LeO.refl | apply LeO.none | apply LeO.ite | refine LeO.bind ?_ (fun _ => ?_)) | apply impl_HowMany.mono | apply impl_KeyOf.mono | apply LeO.none | apply LeO.ite | refine LeO.bind ?_ (fun _ => ?_)
def impl_success.T6 : Bool × List (List Nat × List Nat) := (true, [([], []), ([0], [0]), ([], []), ([2], [2]), ([1, 3], [1, 3]), ([4], [4]), ([5], [5]), ([6], [6]), ([7], [7]), ([8, 7], [7, 8]), ([9, 7, 7], [7, 9]), ([10], [10]), ([10], [10]), ([12, 10], [10, 12]), ([11, 13, 10], [10, 11, 13]), ([10, 14, 7], [7, 10, 14]), ([7, 15], [7, 15]), ([10], []), ([16, 17, 0, 1, 2, 3, 4, 5, 6, 7, 8, 9, 10, 11, 12, 13, 14, 15, 16, 17], [16])])
def impl_success.B6 : List Nat := [0, 1, 0, 4, 15, 31, 63, 127, 255, 511, 1023, 2047, 2047, 6143, 16383, 32767, 65535, 2047, 262143]
theorem impl_success.tab6 : rtab .any (opsOf Try.f75 6) = impl_success.T6 := by kernel_rfl
theorem impl_success.bits6 : waitsOk impl_success.T6.2 impl_success.B6 = true := by kernel_rfl
def impl_success.T8 : Bool × List (List Nat × List Nat) := (true, [([], []), ([0], [0]), ([], []), ([2], [2]), ([1, 3], [1, 3]), ([4], [4]), ([5], [5]), ([], []), ([6, 7, 0, 1, 2, 3, 4, 5, 6, 7], [6])])
def impl_success.B8 : List Nat := [0, 1, 0, 4, 15, 31, 63, 0, 255]
theorem impl_success.tab8 : rtab .any (opsOf Try.f75 8) = impl_success.T8 := by kernel_rfl
theorem impl_success.bits8 : waitsOk impl_success.T8.2 impl_success.B8 = true := by kernel_rfl
def impl_success.T10 : Bool × List (List Nat × List Nat) := (true, [([], []), ([0], [0]), ([], []), ([2], [2]), ([1, 3], [1, 3]), ([4], [4]), ([5], [5]), ([], []), ([7], [7]), ([], []), ([9], [9]), ([8, 10], [8, 10]), ([11], [11]), ([12], [12]), ([6, 0, 1, 2, 3, 4, 5, 6], [6]), ([13, 14, 0, 1, 2, 3, 4, 5, 6, 7, 8, 9, 10, 11, 12, 13, 14], [13])])
def impl_success.B10 : List Nat := [0, 1, 0, 4, 15, 31, 63, 0, 128, 0, 512, 1920, 3968, 8064, 127, 32767]
theorem impl_success.tab10 : rtab .any (opsOf Try.f75 10) = impl_success.T10 := by kernel_rfl
theorem impl_success.bits10 : waitsOk impl_success.T10.2 impl_success.B10 = true := by kernel_rfl
set_option maxHeartbeats 8000000 in
set_option maxRecDepth 100000 in
theorem impl_success.calls (k : Nat) (P0_0_ : Nat → Prop) (A0_0 : Option Addr) (c0_0 : Nat) (l0_0 : List Int) (a0_1 : Int) (a1_0 : Int) (a1_1 : Int) (a1_2 : Int) (r1 : List Int) (r2 : Bool) (w : World) (hs0_0 : Kd.V (Kd.int .i64) 3 w w.heap.size (fun k_ => P0_0_ k_) (.slice A0_0 l0_0.length c0_0) l0_0) (h : impl_success.f k l0_0 a0_1 a1_0 a1_1 a1_2 = some (r1, r2)) :
    Calls Try.prog 75 #[.agg #[.slice A0_0 l0_0.length c0_0, .int .i64 a0_1], .agg #[.int .i64 a1_0, .int .i64 a1_1, .int .i64 a1_2]] w fun e w' => ∃ v0_ : Value, e = .returned (.tuple #[v0_, .bool r2]) ∧ Kd.V (Kd.int .i64) 3 w' w.heap.size (fun k_ => (P0_0_ k_ ∨ w.heap.size ≤ k_)) v0_ r1 ∧ Below w.heap.size w w' := by
 have hu44 := Try.underlying44
 have hu47 := Try.underlying47
 have HO0_0 := A_ (show Kd.V (Kd.int .i64) 3 w w.heap.size (fun k_ => (P0_0_ k_ ∨ w.heap.size ≤ k_)) (.slice A0_0 l0_0.length c0_0) l0_0 from Kd.V_mono hs0_0 (fun k_ hk => .inl hk))
 have HB := A_ (Below.refl w.heap.size w)
 have H : ((impl_KeyOf.f k l0_0 a0_1 a1_2).bind fun t232 => (if a1_0 = 1 then (if 0 ≤ a1_1 then (if a1_1 < (l0_0.length : Int) then (if (rd l0_0 a1_1) = 0 then (some (([] : List Int), decide (t232 < 0))) else (some (([] : List Int), false))) else (none)) else (none)) else (if a1_0 = 2 then (if 0 ≤ a1_1 then (if a1_1 < (l0_0.length : Int) then (if (rd l0_0 a1_1) = 0 then (some (([] : List Int), false)) else (if t232 < 0 then (some (([] : List Int), true)) else (some (([] : List Int), (t232 == a1_1))))) else (none)) else (none)) else (if a1_0 = 3 then (if 0 ≤ a1_1 then (if a1_1 < (l0_0.length : Int) then (some (([] : List Int), ((rd l0_0 a1_1) != 0))) else (none)) else (none)) else (if a1_0 = 4 then (if 0 ≤ a1_1 then (if a1_1 < (l0_0.length : Int) then (some ((([rd l0_0 a1_1] : List Int)), ((rd l0_0 a1_1) != 0))) else (none)) else (none)) else (if a1_0 = 5 then (some ((([t232] : List Int)), decide (t232 ≥ 0))) else (if a1_0 = 6 then ((impl_HowMany.f k l0_0 a0_1 a1_1).bind fun t244 => (some ((([t244] : List Int)), true))) else (if a1_0 = 7 then (some (l0_0, true)) else (if a1_0 = 8 then (some (([] : List Int), (a0_1 == 0))) else (if a1_0 = 9 then (if a0_1 = 0 then (some (([] : List Int), false)) else ((impl_made.f l0_0 a0_1).bind fun t248 => (some (([] : List Int), !t248)))) else ((some (([t232] : List Int) : List Int)).bind fun y249 => (if t232 ≥ 0 then ((impl_made.f l0_0 a0_1).bind fun t252 => (some (y249, t252))) else (some (y249, false)))))))))))))) = some (r1, r2) := h
 clear h
 replace H := bs_ H
 obtain ⟨t232, A3, H⟩ := H
 by_cases c4 : a1_0 = 1
 ·
  rw [if_pos c4] at H
  have c4b0 : (a1_0 == 1) = true := beq_iff_eq.mpr c4
  have c4b1 : (a1_0 != 1) = false := bne_eq_false_iff_eq.mpr c4
  clear c4
  replace H := ix_ H
  obtain ⟨c5b0, H⟩ := H
  replace H := ix_ H
  obtain ⟨c6b0, H⟩ := H
  by_cases c7 : (rd l0_0 a1_1) = 0
  ·
   rw [if_pos c7] at H
   have c7b0 : ((rd l0_0 a1_1) == 0) = true := beq_iff_eq.mpr c7
   have c7b1 : ((rd l0_0 a1_1) != 0) = false := bne_eq_false_iff_eq.mpr c7
   clear c7
   simp only [Option.some.injEq, Prod.mk.injEq] at H
   obtain ⟨rfl, rfl⟩ := H
   go_enter Try.func75, Try.ntmps75
   go_wp2_with (first | ((with_reducible refine gate_dst (N := 2) rfl ?_); refine box_event rfl (N := 2) rfl (cs := #[.slice A0_0 l0_0.length c0_0, .int .i64 a0_1]) (t := 44) hr_ ?_; intro gb230 hg w8 hbox hb; have BK230 := A_ hbox; have GW230 := gs_ HB hg; have GE230 := gs_ HB hg; replace HO0_0 := A_ (Kd.V_below (Kd.V_elderB (by (with_reducible repeat (first | apply Kd.V_alloc | apply Kd.V_drewN | apply Kd.V_drew)); exact HO0_0.out) gb230 (Nat.le_of_eq hg.symm)) hb); replace HB := hs_ HB hb; clear hb hbox hg) | ((with_reducible refine gate_dst (N := 3) rfl ?_); refine box_event rfl (N := 3) rfl (cs := #[.int .i64 a1_0, .int .i64 a1_1, .int .i64 a1_2]) (t := 47) hr_ ?_; intro gb231 hg w9 hbox hb; have BK231 := A_ hbox; have GW231 := gs_ HB hg; have GE231 := gs_ HB hg; have NB230_231 := ng_ BK230 hg; have NB231_230 := ns_ (ng_ BK230 hg); replace HO0_0 := A_ (Kd.V_below (Kd.V_elderB (by (with_reducible repeat (first | apply Kd.V_alloc | apply Kd.V_drewN | apply Kd.V_drew)); exact HO0_0.out) gb231 (Nat.le_of_eq hg.symm)) hb); replace BK230 := bb_ BK230 hb; replace HB := hs_ HB hb; clear hb hbox hg; have hnb10 := NB230_231.out; have hnc10 := NB231_230.out; obtain ⟨hcz11_0, hcz11_1, hfz11_0, hfz11_1⟩ := cz2_ BK230; obtain ⟨hcz12_0, hcz12_1, hcz12_2, hfz12_0, hfz12_1, hfz12_2⟩ := cz3_ BK231) | ((with_reducible refine gate_callee (f := 129) rfl ?_); refine goesL_ (some 10) rfl rfl Try.func129 (by kernel_rfl) rfl #[.agg #[.slice A0_0 l0_0.length c0_0, .int .i64 a0_1], .int .i64 a1_2] rfl al_ ?_; (with_reducible refine (impl_KeyOf.calls k _ _ l0_0 a0_1 a1_2 t232 _ ?side1 ?side2 A3.out).mono ?_); (case side1 => repeat (first | exact (Kd.V_reads' HO0_0.out).2.2 | (with_reducible refine Kd.C_alloc ?_ _) | (with_reducible refine Kd.C_drewN ?_ _) | (with_reducible refine Kd.C_drew ?_))); (case side2 => exact (Kd.V_reads' HO0_0.out).2.1); rintro e w13 ⟨rfl, hb⟩; refine ⟨_, rfl, ?_⟩; replace HO0_0 := A_ (Kd.V_below (by (with_reducible repeat (first | apply Kd.V_alloc | apply Kd.V_drewN | apply Kd.V_drew)); exact HO0_0.out) hb); replace BK230 := bb_ BK230 hb; replace BK231 := bb_ BK231 hb; replace HB := hs_ HB hb; (try clear hb); (try clear hb2); (try clear hk); (try clear hi); obtain ⟨hcz14_0, hcz14_1, hcz14_2, hfz14_0, hfz14_1, hfz14_2⟩ := cz3_ BK231; obtain ⟨hcz15_0, hcz15_1, hfz15_0, hfz15_1⟩ := cz2_ BK230; have p233 : 0 ≤ (a1_1 : Int) := od_; have q233 : a1_1 < (l0_0.length : Int) := od_; obtain ⟨ad233, e233, hx233_0⟩ := Kd.at_int (Kd.V_reads' HO0_0.out).2.2 a1_1 p233 q233; cases e233; replace p233 := eq_true p233; replace q233 := eq_true q233))
   go_ret2
   exact ⟨_, rs_, Kd.V_mono (Kd.R_V (show Kd.R (Kd.int .i64) 3 _ w.heap.size (fun k_ => w.heap.size ≤ k_) (.slice none 0 0) [] from Kd.R_nil _ _ _ _ _)) (fun k_ hk => .inr hk), hb_ HB⟩
  rw [if_neg c7] at H
  have c7b0 : ((rd l0_0 a1_1) == 0) = false := beq_eq_false_iff_ne.mpr c7
  have c7b1 : ((rd l0_0 a1_1) != 0) = true := bne_iff_ne.mpr c7
  simp only [Option.some.injEq, Prod.mk.injEq] at H
  obtain ⟨rfl, rfl⟩ := H
  go_enter Try.func75, Try.ntmps75
  go_wp2_with (first | ((with_reducible refine gate_dst (N := 2) rfl ?_); refine box_event rfl (N := 2) rfl (cs := #[.slice A0_0 l0_0.length c0_0, .int .i64 a0_1]) (t := 44) hr_ ?_; intro gb230 hg w16 hbox hb; have BK230 := A_ hbox; have GW230 := gs_ HB hg; have GE230 := gs_ HB hg; replace HO0_0 := A_ (Kd.V_below (Kd.V_elderB (by (with_reducible repeat (first | apply Kd.V_alloc | apply Kd.V_drewN | apply Kd.V_drew)); exact HO0_0.out) gb230 (Nat.le_of_eq hg.symm)) hb); replace HB := hs_ HB hb; clear hb hbox hg) | ((with_reducible refine gate_dst (N := 3) rfl ?_); refine box_event rfl (N := 3) rfl (cs := #[.int .i64 a1_0, .int .i64 a1_1, .int .i64 a1_2]) (t := 47) hr_ ?_; intro gb231 hg w17 hbox hb; have BK231 := A_ hbox; have GW231 := gs_ HB hg; have GE231 := gs_ HB hg; have NB230_231 := ng_ BK230 hg; have NB231_230 := ns_ (ng_ BK230 hg); replace HO0_0 := A_ (Kd.V_below (Kd.V_elderB (by (with_reducible repeat (first | apply Kd.V_alloc | apply Kd.V_drewN | apply Kd.V_drew)); exact HO0_0.out) gb231 (Nat.le_of_eq hg.symm)) hb); replace BK230 := bb_ BK230 hb; replace HB := hs_ HB hb; clear hb hbox hg; have hnb18 := NB230_231.out; have hnc18 := NB231_230.out; obtain ⟨hcz19_0, hcz19_1, hfz19_0, hfz19_1⟩ := cz2_ BK230; obtain ⟨hcz20_0, hcz20_1, hcz20_2, hfz20_0, hfz20_1, hfz20_2⟩ := cz3_ BK231) | ((with_reducible refine gate_callee (f := 129) rfl ?_); refine goesL_ (some 10) rfl rfl Try.func129 (by kernel_rfl) rfl #[.agg #[.slice A0_0 l0_0.length c0_0, .int .i64 a0_1], .int .i64 a1_2] rfl al_ ?_; (with_reducible refine (impl_KeyOf.calls k _ _ l0_0 a0_1 a1_2 t232 _ ?side1 ?side2 A3.out).mono ?_); (case side1 => repeat (first | exact (Kd.V_reads' HO0_0.out).2.2 | (with_reducible refine Kd.C_alloc ?_ _) | (with_reducible refine Kd.C_drewN ?_ _) | (with_reducible refine Kd.C_drew ?_))); (case side2 => exact (Kd.V_reads' HO0_0.out).2.1); rintro e w21 ⟨rfl, hb⟩; refine ⟨_, rfl, ?_⟩; replace HO0_0 := A_ (Kd.V_below (by (with_reducible repeat (first | apply Kd.V_alloc | apply Kd.V_drewN | apply Kd.V_drew)); exact HO0_0.out) hb); replace BK230 := bb_ BK230 hb; replace BK231 := bb_ BK231 hb; replace HB := hs_ HB hb; (try clear hb); (try clear hb2); (try clear hk); (try clear hi); obtain ⟨hcz22_0, hcz22_1, hcz22_2, hfz22_0, hfz22_1, hfz22_2⟩ := cz3_ BK231; obtain ⟨hcz23_0, hcz23_1, hfz23_0, hfz23_1⟩ := cz2_ BK230; have p233 : 0 ≤ (a1_1 : Int) := od_; have q233 : a1_1 < (l0_0.length : Int) := od_; obtain ⟨ad233, e233, hx233_0⟩ := Kd.at_int (Kd.V_reads' HO0_0.out).2.2 a1_1 p233 q233; cases e233; replace p233 := eq_true p233; replace q233 := eq_true q233))
  go_ret2
  exact ⟨_, rs_, Kd.V_mono (Kd.R_V (show Kd.R (Kd.int .i64) 3 _ w.heap.size (fun k_ => w.heap.size ≤ k_) (.slice none 0 0) [] from Kd.R_nil _ _ _ _ _)) (fun k_ hk => .inr hk), hb_ HB⟩
 rw [if_neg c4] at H
 have c4b0 : (a1_0 == 1) = false := beq_eq_false_iff_ne.mpr c4
 have c4b1 : (a1_0 != 1) = true := bne_iff_ne.mpr c4
 by_cases c24 : a1_0 = 2
 ·
  rw [if_pos c24] at H
  have c24b0 : (a1_0 == 2) = true := beq_iff_eq.mpr c24
  have c24b1 : (a1_0 != 2) = false := bne_eq_false_iff_eq.mpr c24
  clear c24
  replace H := ix_ H
  obtain ⟨c25b0, H⟩ := H
  replace H := ix_ H
  obtain ⟨c26b0, H⟩ := H
  by_cases c27 : (rd l0_0 a1_1) = 0
  ·
   rw [if_pos c27] at H
   have c27b0 : ((rd l0_0 a1_1) == 0) = true := beq_iff_eq.mpr c27
   have c27b1 : ((rd l0_0 a1_1) != 0) = false := bne_eq_false_iff_eq.mpr c27
   clear c27
   simp only [Option.some.injEq, Prod.mk.injEq] at H
   obtain ⟨rfl, rfl⟩ := H
   go_enter Try.func75, Try.ntmps75
   try go_wp2_with (first | ((with_reducible refine gate_dst (N := 2) rfl ?_); refine box_event rfl (N := 2) rfl (cs := #[.slice A0_0 l0_0.length c0_0, .int .i64 a0_1]) (t := 44) hr_ ?_; intro gb230 hg w28 hbox hb; have BK230 := A_ hbox; have GW230 := gs_ HB hg; have GE230 := gs_ HB hg; replace HO0_0 := A_ (Kd.V_below (Kd.V_elderB (by (with_reducible repeat (first | apply Kd.V_alloc | apply Kd.V_drewN | apply Kd.V_drew)); exact HO0_0.out) gb230 (Nat.le_of_eq hg.symm)) hb); replace HB := hs_ HB hb; clear hb hbox hg) | ((with_reducible refine gate_dst (N := 3) rfl ?_); refine box_event rfl (N := 3) rfl (cs := #[.int .i64 a1_0, .int .i64 a1_1, .int .i64 a1_2]) (t := 47) hr_ ?_; intro gb231 hg w29 hbox hb; have BK231 := A_ hbox; have GW231 := gs_ HB hg; have GE231 := gs_ HB hg; have NB230_231 := ng_ BK230 hg; have NB231_230 := ns_ (ng_ BK230 hg); replace HO0_0 := A_ (Kd.V_below (Kd.V_elderB (by (with_reducible repeat (first | apply Kd.V_alloc | apply Kd.V_drewN | apply Kd.V_drew)); exact HO0_0.out) gb231 (Nat.le_of_eq hg.symm)) hb); replace BK230 := bb_ BK230 hb; replace HB := hs_ HB hb; clear hb hbox hg; have hnb30 := NB230_231.out; have hnc30 := NB231_230.out; obtain ⟨hcz31_0, hcz31_1, hfz31_0, hfz31_1⟩ := cz2_ BK230; obtain ⟨hcz32_0, hcz32_1, hcz32_2, hfz32_0, hfz32_1, hfz32_2⟩ := cz3_ BK231) | ((with_reducible refine gate_callee (f := 129) rfl ?_); refine Y14_ ?_; clear HO0_0 BK230 BK231 HB; intro w33 HO0_0 BK230 BK231 HB hcz34_0 hcz34_1 hcz34_2 hfz34_0 hfz34_1 hfz34_2))
   replace HO0_0 := A_ (Kd.V_drew HO0_0.out)
   replace BK230 := A_ (blk_drew BK230.out)
   replace BK231 := A_ (blk_drew BK231.out)
   replace HB := A_ (below_drew1 HB.out)
   have p234 : 0 ≤ (a1_1 : Int) := od_
   have q234 : a1_1 < (l0_0.length : Int) := od_
   obtain ⟨ad234, e234, hx234_0⟩ := Kd.at_int (Kd.V_reads' HO0_0.out).2.2 a1_1 p234 q234
   cases e234
   replace p234 := eq_true p234
   replace q234 := eq_true q234
   refine start_ (n := 19) (S := fun w' => w'.cell? ⟨gb230, 0, none⟩ = some (.slice (some ad234) l0_0.length c0_0) ∧ w'.cell? ⟨gb230, 1, none⟩ = some (.int .i64 a0_1) ∧ w'.cell? ⟨gb231, 0, none⟩ = some (.int .i64 a1_0) ∧ w'.cell? ⟨gb231, 1, none⟩ = some (.int .i64 a1_1) ∧ w'.cell? ⟨gb231, 2, none⟩ = some (.int .i64 a1_2) ∧ w'.cell? (ad234.add (a1_1).toNat) = some (.int .i64 (rd l0_0 a1_1))) (ds := []) (bt_ 0 19) (by kernel_rfl) rfl rfl ⟨(blk_cell BK230.out 0).trans rfl, (blk_cell BK230.out 1).trans rfl, (blk_cell BK231.out 0).trans rfl, (blk_cell BK231.out 1).trans rfl, (blk_cell BK231.out 2).trans rfl, hx234_0⟩ (fun hHeld => ?_); refine with_tabW impl_success.tab6 impl_success.bits6 (fun HT_ HW_ => ?_)
   generalize w33.drew = w35 at HO0_0 BK230 BK231 HB hx234_0 hHeld ⊢
   refine pu_ 0 28 (bt_ 1 19) ?_
   refine pu_ 2 30 (bt_ 5 19) ?_
   refine tk6_ 1 29 (bt_ 7 19) hHeld ?_
   refine tk6_ 3 31 (bt_ 15 19) hHeld ?_
   refine pu_ 4 32 (bt_ 31 19) ?_
   refine tk6_ 5 33 (bt_ 63 19) hHeld ?_
   refine pu_ 6 34 (bt_ 127 19) ?_
   refine pu_ 7 35 (bt_ 255 19) ?_
   refine pn_ 8 36 (bt_ 511 19) ?_
   refine pn_ 9 37 (bt_ 1023 19) ?_
   refine pn_ 10 38 (bt_ 2047 19) ?_
   refine pn_ 11 39 (bt_ 4095 19) ?_
   refine pn_ 12 40 (bt_ 8191 19) ?_
   refine pn_ 13 41 (bt_ 16383 19) ?_
   refine pn_ 14 42 (bt_ 32767 19) ?_
   refine pn_ 15 43 (bt_ 65535 19) ?_
   refine pu_ 16 44 (bt_ 131071 19) ?_
   refine pu_ 17 4 (bt_ 262143 19) ?_
   refine pu_ 18 5 (bt_ 524287 19) ?_
   refine done_ (done_of HT_.out (by kernel_rfl)) ?_
   try go_wp2
   go_ret2
   exact ⟨_, rs_, Kd.V_mono (Kd.R_V (show Kd.R (Kd.int .i64) 3 _ w.heap.size (fun k_ => w.heap.size ≤ k_) (.slice none 0 0) [] from Kd.R_nil _ _ _ _ _)) (fun k_ hk => .inr hk), hb_ HB⟩
  rw [if_neg c27] at H
  have c27b0 : ((rd l0_0 a1_1) == 0) = false := beq_eq_false_iff_ne.mpr c27
  have c27b1 : ((rd l0_0 a1_1) != 0) = true := bne_iff_ne.mpr c27
  replace H := ic_ H
  rcases H with ⟨c36b0, H⟩ | ⟨c36b0, H⟩
  ·
   simp only [Option.some.injEq, Prod.mk.injEq] at H
   obtain ⟨rfl, rfl⟩ := H
   go_enter Try.func75, Try.ntmps75
   try go_wp2_with (first | ((with_reducible refine gate_dst (N := 2) rfl ?_); refine box_event rfl (N := 2) rfl (cs := #[.slice A0_0 l0_0.length c0_0, .int .i64 a0_1]) (t := 44) hr_ ?_; intro gb230 hg w37 hbox hb; have BK230 := A_ hbox; have GW230 := gs_ HB hg; have GE230 := gs_ HB hg; replace HO0_0 := A_ (Kd.V_below (Kd.V_elderB (by (with_reducible repeat (first | apply Kd.V_alloc | apply Kd.V_drewN | apply Kd.V_drew)); exact HO0_0.out) gb230 (Nat.le_of_eq hg.symm)) hb); replace HB := hs_ HB hb; clear hb hbox hg) | ((with_reducible refine gate_dst (N := 3) rfl ?_); refine box_event rfl (N := 3) rfl (cs := #[.int .i64 a1_0, .int .i64 a1_1, .int .i64 a1_2]) (t := 47) hr_ ?_; intro gb231 hg w38 hbox hb; have BK231 := A_ hbox; have GW231 := gs_ HB hg; have GE231 := gs_ HB hg; have NB230_231 := ng_ BK230 hg; have NB231_230 := ns_ (ng_ BK230 hg); replace HO0_0 := A_ (Kd.V_below (Kd.V_elderB (by (with_reducible repeat (first | apply Kd.V_alloc | apply Kd.V_drewN | apply Kd.V_drew)); exact HO0_0.out) gb231 (Nat.le_of_eq hg.symm)) hb); replace BK230 := bb_ BK230 hb; replace HB := hs_ HB hb; clear hb hbox hg; have hnb39 := NB230_231.out; have hnc39 := NB231_230.out; obtain ⟨hcz40_0, hcz40_1, hfz40_0, hfz40_1⟩ := cz2_ BK230; obtain ⟨hcz41_0, hcz41_1, hcz41_2, hfz41_0, hfz41_1, hfz41_2⟩ := cz3_ BK231) | ((with_reducible refine gate_callee (f := 129) rfl ?_); refine Y14_ ?_; clear HO0_0 BK230 BK231 HB; intro w42 HO0_0 BK230 BK231 HB hcz43_0 hcz43_1 hcz43_2 hfz43_0 hfz43_1 hfz43_2))
   replace HO0_0 := A_ (Kd.V_drew HO0_0.out)
   replace BK230 := A_ (blk_drew BK230.out)
   replace BK231 := A_ (blk_drew BK231.out)
   replace HB := A_ (below_drew1 HB.out)
   have p234 : 0 ≤ (a1_1 : Int) := od_
   have q234 : a1_1 < (l0_0.length : Int) := od_
   obtain ⟨ad234, e234, hx234_0⟩ := Kd.at_int (Kd.V_reads' HO0_0.out).2.2 a1_1 p234 q234
   cases e234
   replace p234 := eq_true p234
   replace q234 := eq_true q234
   refine start_ (n := 19) (S := fun w' => w'.cell? ⟨gb230, 0, none⟩ = some (.slice (some ad234) l0_0.length c0_0) ∧ w'.cell? ⟨gb230, 1, none⟩ = some (.int .i64 a0_1) ∧ w'.cell? ⟨gb231, 0, none⟩ = some (.int .i64 a1_0) ∧ w'.cell? ⟨gb231, 1, none⟩ = some (.int .i64 a1_1) ∧ w'.cell? ⟨gb231, 2, none⟩ = some (.int .i64 a1_2) ∧ w'.cell? (ad234.add (a1_1).toNat) = some (.int .i64 (rd l0_0 a1_1))) (ds := []) (bt_ 0 19) (by kernel_rfl) rfl rfl ⟨(blk_cell BK230.out 0).trans rfl, (blk_cell BK230.out 1).trans rfl, (blk_cell BK231.out 0).trans rfl, (blk_cell BK231.out 1).trans rfl, (blk_cell BK231.out 2).trans rfl, hx234_0⟩ (fun hHeld => ?_); refine with_tabW impl_success.tab6 impl_success.bits6 (fun HT_ HW_ => ?_)
   generalize w42.drew = w44 at HO0_0 BK230 BK231 HB hx234_0 hHeld ⊢
   refine pu_ 0 28 (bt_ 1 19) ?_
   refine pu_ 2 30 (bt_ 5 19) ?_
   refine tk6_ 1 29 (bt_ 7 19) hHeld ?_
   refine tk6_ 3 31 (bt_ 15 19) hHeld ?_
   refine pu_ 4 32 (bt_ 31 19) ?_
   refine tk6_ 5 33 (bt_ 63 19) hHeld ?_
   refine pu_ 6 34 (bt_ 127 19) ?_
   refine pu_ 7 35 (bt_ 255 19) ?_
   refine pu_ 8 36 (bt_ 511 19) ?_
   refine pu_ 9 37 (bt_ 1023 19) ?_
   refine pu_ 10 38 (bt_ 2047 19) ?_
   refine pn_ 11 39 (bt_ 4095 19) ?_
   refine pn_ 12 40 (bt_ 8191 19) ?_
   refine pn_ 13 41 (bt_ 16383 19) ?_
   refine pn_ 14 42 (bt_ 32767 19) ?_
   refine pu_ 15 43 (bt_ 65535 19) ?_
   refine pu_ 16 44 (bt_ 131071 19) ?_
   refine pu_ 17 4 (bt_ 262143 19) ?_
   refine pu_ 18 5 (bt_ 524287 19) ?_
   refine done_ (done_of HT_.out (by kernel_rfl)) ?_
   try go_wp2
   go_ret2
   exact ⟨_, rs_, Kd.V_mono (Kd.R_V (show Kd.R (Kd.int .i64) 3 _ w.heap.size (fun k_ => w.heap.size ≤ k_) (.slice none 0 0) [] from Kd.R_nil _ _ _ _ _)) (fun k_ hk => .inr hk), hb_ HB⟩
  simp only [Option.some.injEq, Prod.mk.injEq] at H
  obtain ⟨rfl, rfl⟩ := H
  go_enter Try.func75, Try.ntmps75
  try go_wp2_with (first | ((with_reducible refine gate_dst (N := 2) rfl ?_); refine box_event rfl (N := 2) rfl (cs := #[.slice A0_0 l0_0.length c0_0, .int .i64 a0_1]) (t := 44) hr_ ?_; intro gb230 hg w45 hbox hb; have BK230 := A_ hbox; have GW230 := gs_ HB hg; have GE230 := gs_ HB hg; replace HO0_0 := A_ (Kd.V_below (Kd.V_elderB (by (with_reducible repeat (first | apply Kd.V_alloc | apply Kd.V_drewN | apply Kd.V_drew)); exact HO0_0.out) gb230 (Nat.le_of_eq hg.symm)) hb); replace HB := hs_ HB hb; clear hb hbox hg) | ((with_reducible refine gate_dst (N := 3) rfl ?_); refine box_event rfl (N := 3) rfl (cs := #[.int .i64 a1_0, .int .i64 a1_1, .int .i64 a1_2]) (t := 47) hr_ ?_; intro gb231 hg w46 hbox hb; have BK231 := A_ hbox; have GW231 := gs_ HB hg; have GE231 := gs_ HB hg; have NB230_231 := ng_ BK230 hg; have NB231_230 := ns_ (ng_ BK230 hg); replace HO0_0 := A_ (Kd.V_below (Kd.V_elderB (by (with_reducible repeat (first | apply Kd.V_alloc | apply Kd.V_drewN | apply Kd.V_drew)); exact HO0_0.out) gb231 (Nat.le_of_eq hg.symm)) hb); replace BK230 := bb_ BK230 hb; replace HB := hs_ HB hb; clear hb hbox hg; have hnb47 := NB230_231.out; have hnc47 := NB231_230.out; obtain ⟨hcz48_0, hcz48_1, hfz48_0, hfz48_1⟩ := cz2_ BK230; obtain ⟨hcz49_0, hcz49_1, hcz49_2, hfz49_0, hfz49_1, hfz49_2⟩ := cz3_ BK231) | ((with_reducible refine gate_callee (f := 129) rfl ?_); refine Y14_ ?_; clear HO0_0 BK230 BK231 HB; intro w50 HO0_0 BK230 BK231 HB hcz51_0 hcz51_1 hcz51_2 hfz51_0 hfz51_1 hfz51_2))
  replace HO0_0 := A_ (Kd.V_drew HO0_0.out)
  replace BK230 := A_ (blk_drew BK230.out)
  replace BK231 := A_ (blk_drew BK231.out)
  replace HB := A_ (below_drew1 HB.out)
  have p234 : 0 ≤ (a1_1 : Int) := od_
  have q234 : a1_1 < (l0_0.length : Int) := od_
  obtain ⟨ad234, e234, hx234_0⟩ := Kd.at_int (Kd.V_reads' HO0_0.out).2.2 a1_1 p234 q234
  cases e234
  replace p234 := eq_true p234
  replace q234 := eq_true q234
  refine start_ (n := 19) (S := fun w' => w'.cell? ⟨gb230, 0, none⟩ = some (.slice (some ad234) l0_0.length c0_0) ∧ w'.cell? ⟨gb230, 1, none⟩ = some (.int .i64 a0_1) ∧ w'.cell? ⟨gb231, 0, none⟩ = some (.int .i64 a1_0) ∧ w'.cell? ⟨gb231, 1, none⟩ = some (.int .i64 a1_1) ∧ w'.cell? ⟨gb231, 2, none⟩ = some (.int .i64 a1_2) ∧ w'.cell? (ad234.add (a1_1).toNat) = some (.int .i64 (rd l0_0 a1_1))) (ds := []) (bt_ 0 19) (by kernel_rfl) rfl rfl ⟨(blk_cell BK230.out 0).trans rfl, (blk_cell BK230.out 1).trans rfl, (blk_cell BK231.out 0).trans rfl, (blk_cell BK231.out 1).trans rfl, (blk_cell BK231.out 2).trans rfl, hx234_0⟩ (fun hHeld => ?_); refine with_tabW impl_success.tab6 impl_success.bits6 (fun HT_ HW_ => ?_)
  generalize w50.drew = w52 at HO0_0 BK230 BK231 HB hx234_0 hHeld ⊢
  refine pu_ 0 28 (bt_ 1 19) ?_
  refine pu_ 2 30 (bt_ 5 19) ?_
  refine tk6_ 1 29 (bt_ 7 19) hHeld ?_
  refine tk6_ 3 31 (bt_ 15 19) hHeld ?_
  refine pu_ 4 32 (bt_ 31 19) ?_
  refine tk6_ 5 33 (bt_ 63 19) hHeld ?_
  refine pu_ 6 34 (bt_ 127 19) ?_
  refine pu_ 7 35 (bt_ 255 19) ?_
  refine pu_ 8 36 (bt_ 511 19) ?_
  refine pu_ 9 37 (bt_ 1023 19) ?_
  refine pu_ 10 38 (bt_ 2047 19) ?_
  refine pu_ 11 39 (bt_ 4095 19) ?_
  refine pu_ 12 40 (bt_ 8191 19) ?_
  refine pu_ 17 4 (bt_ 139263 19) ?_
  refine tk6_ 13 41 (bt_ 147455 19) hHeld ?_
  refine pu_ 14 42 (bt_ 163839 19) ?_
  refine pu_ 15 43 (bt_ 196607 19) ?_
  refine pu_ 16 44 (bt_ 262143 19) ?_
  refine pu_ 18 5 (bt_ 524287 19) ?_
  refine done_ (done_of HT_.out (by kernel_rfl)) ?_
  try go_wp2
  go_ret2
  exact ⟨_, rs_, Kd.V_mono (Kd.R_V (show Kd.R (Kd.int .i64) 3 _ w.heap.size (fun k_ => w.heap.size ≤ k_) (.slice none 0 0) [] from Kd.R_nil _ _ _ _ _)) (fun k_ hk => .inr hk), hb_ HB⟩
 rw [if_neg c24] at H
 have c24b0 : (a1_0 == 2) = false := beq_eq_false_iff_ne.mpr c24
 have c24b1 : (a1_0 != 2) = true := bne_iff_ne.mpr c24
 by_cases c53 : a1_0 = 3
 ·
  rw [if_pos c53] at H
  have c53b0 : (a1_0 == 3) = true := beq_iff_eq.mpr c53
  have c53b1 : (a1_0 != 3) = false := bne_eq_false_iff_eq.mpr c53
  clear c53
  replace H := ix_ H
  obtain ⟨c54b0, H⟩ := H
  replace H := ix_ H
  obtain ⟨c55b0, H⟩ := H
  simp only [Option.some.injEq, Prod.mk.injEq] at H
  obtain ⟨rfl, rfl⟩ := H
  go_enter Try.func75, Try.ntmps75
  try go_wp2_with (first | ((with_reducible refine gate_dst (N := 2) rfl ?_); refine box_event rfl (N := 2) rfl (cs := #[.slice A0_0 l0_0.length c0_0, .int .i64 a0_1]) (t := 44) hr_ ?_; intro gb230 hg w56 hbox hb; have BK230 := A_ hbox; have GW230 := gs_ HB hg; have GE230 := gs_ HB hg; replace HO0_0 := A_ (Kd.V_below (Kd.V_elderB (by (with_reducible repeat (first | apply Kd.V_alloc | apply Kd.V_drewN | apply Kd.V_drew)); exact HO0_0.out) gb230 (Nat.le_of_eq hg.symm)) hb); replace HB := hs_ HB hb; clear hb hbox hg) | ((with_reducible refine gate_dst (N := 3) rfl ?_); refine box_event rfl (N := 3) rfl (cs := #[.int .i64 a1_0, .int .i64 a1_1, .int .i64 a1_2]) (t := 47) hr_ ?_; intro gb231 hg w57 hbox hb; have BK231 := A_ hbox; have GW231 := gs_ HB hg; have GE231 := gs_ HB hg; have NB230_231 := ng_ BK230 hg; have NB231_230 := ns_ (ng_ BK230 hg); replace HO0_0 := A_ (Kd.V_below (Kd.V_elderB (by (with_reducible repeat (first | apply Kd.V_alloc | apply Kd.V_drewN | apply Kd.V_drew)); exact HO0_0.out) gb231 (Nat.le_of_eq hg.symm)) hb); replace BK230 := bb_ BK230 hb; replace HB := hs_ HB hb; clear hb hbox hg; have hnb58 := NB230_231.out; have hnc58 := NB231_230.out; obtain ⟨hcz59_0, hcz59_1, hfz59_0, hfz59_1⟩ := cz2_ BK230; obtain ⟨hcz60_0, hcz60_1, hcz60_2, hfz60_0, hfz60_1, hfz60_2⟩ := cz3_ BK231) | ((with_reducible refine gate_callee (f := 129) rfl ?_); refine Y14_ ?_; clear HO0_0 BK230 BK231 HB; intro w61 HO0_0 BK230 BK231 HB hcz62_0 hcz62_1 hcz62_2 hfz62_0 hfz62_1 hfz62_2))
  replace HO0_0 := A_ (Kd.V_drew HO0_0.out)
  replace BK230 := A_ (blk_drew BK230.out)
  replace BK231 := A_ (blk_drew BK231.out)
  replace HB := A_ (below_drew1 HB.out)
  have p235 : 0 ≤ (a1_1 : Int) := od_
  have q235 : a1_1 < (l0_0.length : Int) := od_
  obtain ⟨ad235, e235, hx235_0⟩ := Kd.at_int (Kd.V_reads' HO0_0.out).2.2 a1_1 p235 q235
  cases e235
  replace p235 := eq_true p235
  replace q235 := eq_true q235
  refine start_ (n := 9) (S := fun w' => w'.cell? ⟨gb230, 0, none⟩ = some (.slice (some ad235) l0_0.length c0_0) ∧ w'.cell? ⟨gb230, 1, none⟩ = some (.int .i64 a0_1) ∧ w'.cell? ⟨gb231, 0, none⟩ = some (.int .i64 a1_0) ∧ w'.cell? ⟨gb231, 1, none⟩ = some (.int .i64 a1_1) ∧ w'.cell? ⟨gb231, 2, none⟩ = some (.int .i64 a1_2) ∧ w'.cell? (ad235.add (a1_1).toNat) = some (.int .i64 (rd l0_0 a1_1))) (ds := []) (bt_ 0 9) (by kernel_rfl) rfl rfl ⟨(blk_cell BK230.out 0).trans rfl, (blk_cell BK230.out 1).trans rfl, (blk_cell BK231.out 0).trans rfl, (blk_cell BK231.out 1).trans rfl, (blk_cell BK231.out 2).trans rfl, hx235_0⟩ (fun hHeld => ?_); refine with_tabW impl_success.tab8 impl_success.bits8 (fun HT_ HW_ => ?_)
  generalize w61.drew = w63 at HO0_0 BK230 BK231 HB hx235_0 hHeld ⊢
  refine pu_ 0 47 (bt_ 1 9) ?_
  refine pu_ 2 49 (bt_ 5 9) ?_
  refine pu_ 7 4 (bt_ 133 9) ?_
  refine tk6_ 1 48 (bt_ 135 9) hHeld ?_
  refine tk6_ 3 50 (bt_ 143 9) hHeld ?_
  refine pu_ 4 51 (bt_ 159 9) ?_
  refine tk6_ 5 52 (bt_ 191 9) hHeld ?_
  refine pu_ 6 53 (bt_ 255 9) ?_
  refine pu_ 8 5 (bt_ 511 9) ?_
  refine done_ (done_of HT_.out (by kernel_rfl)) ?_
  try go_wp2
  go_ret2
  exact ⟨_, rs_, Kd.V_mono (Kd.R_V (show Kd.R (Kd.int .i64) 3 _ w.heap.size (fun k_ => w.heap.size ≤ k_) (.slice none 0 0) [] from Kd.R_nil _ _ _ _ _)) (fun k_ hk => .inr hk), hb_ HB⟩
 rw [if_neg c53] at H
 have c53b0 : (a1_0 == 3) = false := beq_eq_false_iff_ne.mpr c53
 have c53b1 : (a1_0 != 3) = true := bne_iff_ne.mpr c53
 by_cases c64 : a1_0 = 4
 ·
  rw [if_pos c64] at H
  have c64b0 : (a1_0 == 4) = true := beq_iff_eq.mpr c64
  have c64b1 : (a1_0 != 4) = false := bne_eq_false_iff_eq.mpr c64
  clear c64
  replace H := ix_ H
  obtain ⟨c65b0, H⟩ := H
  replace H := ix_ H
  obtain ⟨c66b0, H⟩ := H
  obtain ⟨y237, hy237⟩ : ∃ y_ : List Int, y_ = (([rd l0_0 a1_1] : List Int)) := ⟨_, rfl⟩
  replace H : (some (y237, ((rd l0_0 a1_1) != 0))) = some (r1, r2) := by first | (rw [hy237]; with_reducible exact H) | (have H2_ := (Option.bind_some _ _).symm.trans H; rw [hy237]; with_reducible exact H2_) | (have H2_ := (Option.bind_some _ _).symm.trans H; with_reducible exact H2_) | with_reducible exact H | (rw [hy237]; exact H) | exact H
  have Ny237 := A_ hy237
  clear hy237
  simp only [Option.some.injEq, Prod.mk.injEq] at H
  obtain ⟨rfl, rfl⟩ := H
  go_enter Try.func75, Try.ntmps75
  try go_wp2_with (first | ((with_reducible refine gate_dst (N := 2) rfl ?_); refine box_event rfl (N := 2) rfl (cs := #[.slice A0_0 l0_0.length c0_0, .int .i64 a0_1]) (t := 44) hr_ ?_; intro gb230 hg w67 hbox hb; have BK230 := A_ hbox; have GW230 := gs_ HB hg; have GE230 := gs_ HB hg; replace HO0_0 := A_ (Kd.V_below (Kd.V_elderB (by (with_reducible repeat (first | apply Kd.V_alloc | apply Kd.V_drewN | apply Kd.V_drew)); exact HO0_0.out) gb230 (Nat.le_of_eq hg.symm)) hb); replace HB := hs_ HB hb; clear hb hbox hg) | ((with_reducible refine gate_dst (N := 3) rfl ?_); refine box_event rfl (N := 3) rfl (cs := #[.int .i64 a1_0, .int .i64 a1_1, .int .i64 a1_2]) (t := 47) hr_ ?_; intro gb231 hg w68 hbox hb; have BK231 := A_ hbox; have GW231 := gs_ HB hg; have GE231 := gs_ HB hg; have NB230_231 := ng_ BK230 hg; have NB231_230 := ns_ (ng_ BK230 hg); replace HO0_0 := A_ (Kd.V_below (Kd.V_elderB (by (with_reducible repeat (first | apply Kd.V_alloc | apply Kd.V_drewN | apply Kd.V_drew)); exact HO0_0.out) gb231 (Nat.le_of_eq hg.symm)) hb); replace BK230 := bb_ BK230 hb; replace HB := hs_ HB hb; clear hb hbox hg; have hnb69 := NB230_231.out; have hnc69 := NB231_230.out; obtain ⟨hcz70_0, hcz70_1, hfz70_0, hfz70_1⟩ := cz2_ BK230; obtain ⟨hcz71_0, hcz71_1, hcz71_2, hfz71_0, hfz71_1, hfz71_2⟩ := cz3_ BK231) | ((with_reducible refine gate_callee (f := 129) rfl ?_); refine Y14_ ?_; clear HO0_0 BK230 BK231 HB; intro w72 HO0_0 BK230 BK231 HB hcz73_0 hcz73_1 hcz73_2 hfz73_0 hfz73_1 hfz73_2))
  replace HO0_0 := A_ (Kd.V_drew HO0_0.out)
  replace BK230 := A_ (blk_drew BK230.out)
  replace BK231 := A_ (blk_drew BK231.out)
  replace HB := A_ (below_drew1 HB.out)
  have p236 : 0 ≤ (a1_1 : Int) := od_
  have q236 : a1_1 < (l0_0.length : Int) := od_
  obtain ⟨ad236, e236, hx236_0⟩ := Kd.at_int (Kd.V_reads' HO0_0.out).2.2 a1_1 p236 q236
  cases e236
  replace p236 := eq_true p236
  replace q236 := eq_true q236
  have p240 : 0 ≤ (a1_1 : Int) := od_
  have q240 : a1_1 < (l0_0.length : Int) := od_
  obtain ⟨ad240, e240, hx240_0⟩ := Kd.at_int (Kd.V_reads' HO0_0.out).2.2 a1_1 p240 q240
  obtain rfl : ad236 = ad240 := (by injection e240)
  replace p240 := eq_true p240
  replace q240 := eq_true q240
  refine start_ (n := 16) (S := fun w' => w'.cell? ⟨gb230, 0, none⟩ = some (.slice (some ad236) l0_0.length c0_0) ∧ w'.cell? ⟨gb230, 1, none⟩ = some (.int .i64 a0_1) ∧ w'.cell? ⟨gb231, 0, none⟩ = some (.int .i64 a1_0) ∧ w'.cell? ⟨gb231, 1, none⟩ = some (.int .i64 a1_1) ∧ w'.cell? ⟨gb231, 2, none⟩ = some (.int .i64 a1_2) ∧ w'.cell? (ad236.add (a1_1).toNat) = some (.int .i64 (rd l0_0 a1_1)) ∧ w'.cell? (ad236.add (a1_1).toNat) = some (.int .i64 (rd l0_0 a1_1))) (ds := []) (bt_ 0 16) (by kernel_rfl) rfl rfl ⟨(blk_cell BK230.out 0).trans rfl, (blk_cell BK230.out 1).trans rfl, (blk_cell BK231.out 0).trans rfl, (blk_cell BK231.out 1).trans rfl, (blk_cell BK231.out 2).trans rfl, hx236_0, hx240_0⟩ (fun hHeld => ?_); refine with_tabW impl_success.tab10 impl_success.bits10 (fun HT_ HW_ => ?_)
  generalize w72.drew = w74 at HO0_0 BK230 BK231 HB hx236_0 hx240_0 hHeld ⊢
  refine pu_ 0 56 (bt_ 1 16) ?_
  refine pu_ 2 58 (bt_ 5 16) ?_
  refine pu_ 7 63 (bt_ 133 16) ?_
  refine pu_ 9 65 (bt_ 645 16) ?_
  refine tk7_ 1 57 (bt_ 647 16) hHeld ?_
  refine tk7_ 3 59 (bt_ 655 16) hHeld ?_
  refine pu_ 4 60 (bt_ 671 16) ?_
  refine tk7_ 5 61 (bt_ 703 16) hHeld ?_
  refine tk7_ 8 64 (bt_ 959 16) hHeld ?_
  refine tk7_ 10 66 (bt_ 1983 16) hHeld ?_
  refine pu_ 11 67 (bt_ 4031 16) ?_
  refine tk7_ 12 68 (bt_ 8127 16) hHeld ?_
  refine pu_ 13 69 (bt_ 16319 16) ?_
  refine one_ (i := 6) (N := some 62) (bt_ 16383 16) rfl rfl (one_of HT_.out (by kernel_rfl)) (by decide) (fun K hK => ?_)
  refine Kd.R_lit_step (Kd.int .i64) _ 3 ?hg (N := 62) ?hd (xs := ([rd l0_0 a1_1] : List Int)) (inner := [.int .i64 (rd l0_0 a1_1)]) (ok := fun _ => True) (okp := fun _ => True) ?hr ?hp (fun _ hk => hk) trivial (Below.refl _ _) (Nat.le_refl _) (by simp) ?_; (case hd => rfl); (case hg => rfl); (case hr => first | (go_simp; done) | (go_simp; rfl)); (case hp => exact (Reps.one (show Kd.M (Kd.int .i64) _ _ _ (rd l0_0 a1_1) [.int .i64 (rd l0_0 a1_1)] from rfl) (Reps.none _ _)))
  intro v238 w75 ho76 hb hg_ hnew_
  have HS5_ := (hb.cell (World.block_lt_of_cell? _ _ (hHeld.2.2.2.2.2.1))).trans (hHeld.2.2.2.2.2.1)
  have HS6_ := (hb.cell (World.block_lt_of_cell? _ _ (hHeld.2.2.2.2.2.2))).trans (hHeld.2.2.2.2.2.2)
  clear hg_ hnew_
  (first | rw [← Ny237.out] at ho76 | (simp only [Int.reduceToNat] at ho76; rw [← Ny237.out] at ho76))
  have HO239 := A_ (Kd.R_lower (Kd.R_newM (M := fun k_ => (w.heap.size ≤ k_)) ho76 (below_size (hb_ HB)) (fun k_ h_ => h_)) (below_size (hb_ HB)))
  replace HO0_0 := A_ (Kd.V_elder' (by (with_reducible repeat (first | apply Kd.V_alloc | apply Kd.V_drewN | apply Kd.V_drew)); exact HO0_0.out) (Kd.R_base ho76) hb)
  replace BK230 := bb_ BK230 hb
  replace BK231 := bb_ BK231 hb
  replace HB := hs_ HB hb
  clear hb ho76
  refine hK.out _ _ ⟨(blk_cell BK230.out 0).trans rfl, (blk_cell BK230.out 1).trans rfl, (blk_cell BK231.out 0).trans rfl, (blk_cell BK231.out 1).trans rfl, (blk_cell BK231.out 2).trans rfl, HS5_, HS6_⟩ (fun hHeld => ?_)
  clear hK K
  refine norm_ (a' := ?_) ?_ ?_
  rotate_left
  ·
   show Act.put _ (some 62) _ = _
   simp only [Act.put, List.setIfInBounds_toArray, List.set_cons_zero, List.set_cons_succ, i64_w, i32_w]
   rfl
  refine pu_ 14 4 (bt_ 32767 16) ?_
  refine pu_ 15 5 (bt_ 65535 16) ?_
  refine done_ (done_of HT_.out (by kernel_rfl)) ?_
  try go_wp2
  go_ret2
  exact ⟨_, rs_, Kd.V_mono (Kd.R_V (by (with_reducible repeat (first | apply Kd.R_alloc | apply Kd.R_drewN | apply Kd.R_drew)); exact Kd.R_mono HO239.out (fun _ hk => hk.1))) (fun k_ hk => by first | exact ⟨(.inr (hk.1)), hk.2⟩ | exact (.inr (hk))), hb_ HB⟩
 rw [if_neg c64] at H
 have c64b0 : (a1_0 == 4) = false := beq_eq_false_iff_ne.mpr c64
 have c64b1 : (a1_0 != 4) = true := bne_iff_ne.mpr c64
 by_cases c77 : a1_0 = 5
 ·
  rw [if_pos c77] at H
  have c77b0 : (a1_0 == 5) = true := beq_iff_eq.mpr c77
  have c77b1 : (a1_0 != 5) = false := bne_eq_false_iff_eq.mpr c77
  clear c77
  obtain ⟨y241, hy241⟩ : ∃ y_ : List Int, y_ = (([t232] : List Int)) := ⟨_, rfl⟩
  replace H : (some (y241, decide (t232 ≥ 0))) = some (r1, r2) := by first | (rw [hy241]; with_reducible exact H) | (have H2_ := (Option.bind_some _ _).symm.trans H; rw [hy241]; with_reducible exact H2_) | (have H2_ := (Option.bind_some _ _).symm.trans H; with_reducible exact H2_) | with_reducible exact H | (rw [hy241]; exact H) | exact H
  have Ny241 := A_ hy241
  clear hy241
  simp only [Option.some.injEq, Prod.mk.injEq] at H
  obtain ⟨rfl, rfl⟩ := H
  go_enter Try.func75, Try.ntmps75
  go_wp2_with (first | ((with_reducible refine gate_dst (N := 2) rfl ?_); refine box_event rfl (N := 2) rfl (cs := #[.slice A0_0 l0_0.length c0_0, .int .i64 a0_1]) (t := 44) hr_ ?_; intro gb230 hg w78 hbox hb; have BK230 := A_ hbox; have GW230 := gs_ HB hg; have GE230 := gs_ HB hg; replace HO0_0 := A_ (Kd.V_below (Kd.V_elderB (by (with_reducible repeat (first | apply Kd.V_alloc | apply Kd.V_drewN | apply Kd.V_drew)); exact HO0_0.out) gb230 (Nat.le_of_eq hg.symm)) hb); replace HB := hs_ HB hb; clear hb hbox hg) | ((with_reducible refine gate_dst (N := 3) rfl ?_); refine box_event rfl (N := 3) rfl (cs := #[.int .i64 a1_0, .int .i64 a1_1, .int .i64 a1_2]) (t := 47) hr_ ?_; intro gb231 hg w79 hbox hb; have BK231 := A_ hbox; have GW231 := gs_ HB hg; have GE231 := gs_ HB hg; have NB230_231 := ng_ BK230 hg; have NB231_230 := ns_ (ng_ BK230 hg); replace HO0_0 := A_ (Kd.V_below (Kd.V_elderB (by (with_reducible repeat (first | apply Kd.V_alloc | apply Kd.V_drewN | apply Kd.V_drew)); exact HO0_0.out) gb231 (Nat.le_of_eq hg.symm)) hb); replace BK230 := bb_ BK230 hb; replace HB := hs_ HB hb; clear hb hbox hg; have hnb80 := NB230_231.out; have hnc80 := NB231_230.out; obtain ⟨hcz81_0, hcz81_1, hfz81_0, hfz81_1⟩ := cz2_ BK230; obtain ⟨hcz82_0, hcz82_1, hcz82_2, hfz82_0, hfz82_1, hfz82_2⟩ := cz3_ BK231) | ((with_reducible refine gate_callee (f := 129) rfl ?_); refine Y14_ ?_; clear HO0_0 BK230 BK231 HB; intro w83 HO0_0 BK230 BK231 HB hcz84_0 hcz84_1 hcz84_2 hfz84_0 hfz84_1 hfz84_2) | ((with_reducible refine gate_dst (N := 73) rfl ?_); refine Kd.R_lit (Kd.int .i64) _ 3 ?hg (N := 73) ?hd (xs := ([t232] : List Int)) (inner := [.int .i64 t232]) (ok := fun _ => True) (okp := fun _ => True) ?hr ?hp (fun _ hk => hk) trivial (Below.refl _ _) (Nat.le_refl _) (by simp) ?_; (case hd => rfl); (case hg => rfl); (case hr => first | (go_simp; done) | (go_simp; rfl)); (case hp => exact (Reps.one (show Kd.M (Kd.int .i64) _ _ _ t232 [.int .i64 t232] from rfl) (Reps.none _ _))); intro v242 w85 ho86 hb hg_ hnew_; clear hg_ hnew_; (first | rw [← Ny241.out] at ho86 | (simp only [Int.reduceToNat] at ho86; rw [← Ny241.out] at ho86)); have HO243 := A_ (Kd.R_lower (Kd.R_newM (M := fun k_ => (w.heap.size ≤ k_)) ho86 (below_size (hb_ HB)) (fun k_ h_ => h_)) (below_size (hb_ HB))); replace HO0_0 := A_ (Kd.V_elder' (by (with_reducible repeat (first | apply Kd.V_alloc | apply Kd.V_drewN | apply Kd.V_drew)); exact HO0_0.out) (Kd.R_base ho86) hb); replace BK230 := bb_ BK230 hb; replace BK231 := bb_ BK231 hb; replace HB := hs_ HB hb; clear hb ho86))
  go_ret2
  exact ⟨_, rs_, Kd.V_mono (Kd.R_V (by (with_reducible repeat (first | apply Kd.R_alloc | apply Kd.R_drewN | apply Kd.R_drew)); exact Kd.R_mono HO243.out (fun _ hk => hk.1))) (fun k_ hk => by first | exact ⟨(.inr (hk.1)), hk.2⟩ | exact (.inr (hk))), hb_ HB⟩
 rw [if_neg c77] at H
 have c77b0 : (a1_0 == 5) = false := beq_eq_false_iff_ne.mpr c77
 have c77b1 : (a1_0 != 5) = true := bne_iff_ne.mpr c77
 by_cases c87 : a1_0 = 6
 ·
  rw [if_pos c87] at H
  have c87b0 : (a1_0 == 6) = true := beq_iff_eq.mpr c87
  have c87b1 : (a1_0 != 6) = false := bne_eq_false_iff_eq.mpr c87
  clear c87
  replace H := bs_ H
  obtain ⟨t244, A88, H⟩ := H
  obtain ⟨y245, hy245⟩ : ∃ y_ : List Int, y_ = (([t244] : List Int)) := ⟨_, rfl⟩
  replace H : (some (y245, true)) = some (r1, r2) := by first | (rw [hy245]; with_reducible exact H) | (have H2_ := (Option.bind_some _ _).symm.trans H; rw [hy245]; with_reducible exact H2_) | (have H2_ := (Option.bind_some _ _).symm.trans H; with_reducible exact H2_) | with_reducible exact H | (rw [hy245]; exact H) | exact H
  have Ny245 := A_ hy245
  clear hy245
  simp only [Option.some.injEq, Prod.mk.injEq] at H
  obtain ⟨rfl, rfl⟩ := H
  go_enter Try.func75, Try.ntmps75
  go_wp2_with (first | ((with_reducible refine gate_dst (N := 2) rfl ?_); refine box_event rfl (N := 2) rfl (cs := #[.slice A0_0 l0_0.length c0_0, .int .i64 a0_1]) (t := 44) hr_ ?_; intro gb230 hg w89 hbox hb; have BK230 := A_ hbox; have GW230 := gs_ HB hg; have GE230 := gs_ HB hg; replace HO0_0 := A_ (Kd.V_below (Kd.V_elderB (by (with_reducible repeat (first | apply Kd.V_alloc | apply Kd.V_drewN | apply Kd.V_drew)); exact HO0_0.out) gb230 (Nat.le_of_eq hg.symm)) hb); replace HB := hs_ HB hb; clear hb hbox hg) | ((with_reducible refine gate_dst (N := 3) rfl ?_); refine box_event rfl (N := 3) rfl (cs := #[.int .i64 a1_0, .int .i64 a1_1, .int .i64 a1_2]) (t := 47) hr_ ?_; intro gb231 hg w90 hbox hb; have BK231 := A_ hbox; have GW231 := gs_ HB hg; have GE231 := gs_ HB hg; have NB230_231 := ng_ BK230 hg; have NB231_230 := ns_ (ng_ BK230 hg); replace HO0_0 := A_ (Kd.V_below (Kd.V_elderB (by (with_reducible repeat (first | apply Kd.V_alloc | apply Kd.V_drewN | apply Kd.V_drew)); exact HO0_0.out) gb231 (Nat.le_of_eq hg.symm)) hb); replace BK230 := bb_ BK230 hb; replace HB := hs_ HB hb; clear hb hbox hg; have hnb91 := NB230_231.out; have hnc91 := NB231_230.out; obtain ⟨hcz92_0, hcz92_1, hfz92_0, hfz92_1⟩ := cz2_ BK230; obtain ⟨hcz93_0, hcz93_1, hcz93_2, hfz93_0, hfz93_1, hfz93_2⟩ := cz3_ BK231) | ((with_reducible refine gate_callee (f := 129) rfl ?_); refine Y15_ ?_; clear HO0_0 BK230 BK231 HB; intro w94 HO0_0 BK230 BK231 HB hcz95_0 hcz95_1 hcz95_2 hfz95_0 hfz95_1 hfz95_2 hcz96_0 hcz96_1 hfz96_0 hfz96_1) | ((with_reducible refine gate_callee (f := 131) rfl ?_); refine goesL_ (some 81) rfl rfl Try.func131 (by kernel_rfl) rfl #[.agg #[.slice A0_0 l0_0.length c0_0, .int .i64 a0_1], .int .i64 a1_1] rfl al_ ?_; (with_reducible refine (impl_HowMany.calls k _ _ l0_0 a0_1 a1_1 t244 _ ?side1 ?side2 A88.out).mono ?_); (case side1 => repeat (first | exact (Kd.V_reads' HO0_0.out).2.2 | (with_reducible refine Kd.C_alloc ?_ _) | (with_reducible refine Kd.C_drewN ?_ _) | (with_reducible refine Kd.C_drew ?_))); (case side2 => exact (Kd.V_reads' HO0_0.out).2.1); rintro e w97 ⟨rfl, hb⟩; refine ⟨_, rfl, ?_⟩; replace HO0_0 := A_ (Kd.V_below (by (with_reducible repeat (first | apply Kd.V_alloc | apply Kd.V_drewN | apply Kd.V_drew)); exact HO0_0.out) hb); replace BK230 := bb_ BK230 hb; replace BK231 := bb_ BK231 hb; replace HB := hs_ HB hb; (try clear hb); (try clear hb2); (try clear hk); (try clear hi)) | ((with_reducible refine gate_dst (N := 82) rfl ?_); refine Kd.R_lit (Kd.int .i64) _ 3 ?hg (N := 82) ?hd (xs := ([t244] : List Int)) (inner := [.int .i64 t244]) (ok := fun _ => True) (okp := fun _ => True) ?hr ?hp (fun _ hk => hk) trivial (Below.refl _ _) (Nat.le_refl _) (by simp) ?_; (case hd => rfl); (case hg => rfl); (case hr => first | (go_simp; done) | (go_simp; rfl)); (case hp => exact (Reps.one (show Kd.M (Kd.int .i64) _ _ _ t244 [.int .i64 t244] from rfl) (Reps.none _ _))); intro v246 w98 ho99 hb hg_ hnew_; clear hg_ hnew_; (first | rw [← Ny245.out] at ho99 | (simp only [Int.reduceToNat] at ho99; rw [← Ny245.out] at ho99)); have HO247 := A_ (Kd.R_lower (Kd.R_newM (M := fun k_ => (w.heap.size ≤ k_)) ho99 (below_size (hb_ HB)) (fun k_ h_ => h_)) (below_size (hb_ HB))); replace HO0_0 := A_ (Kd.V_elder' (by (with_reducible repeat (first | apply Kd.V_alloc | apply Kd.V_drewN | apply Kd.V_drew)); exact HO0_0.out) (Kd.R_base ho99) hb); replace BK230 := bb_ BK230 hb; replace BK231 := bb_ BK231 hb; replace HB := hs_ HB hb; clear hb ho99))
  go_ret2
  exact ⟨_, rs_, Kd.V_mono (Kd.R_V (by (with_reducible repeat (first | apply Kd.R_alloc | apply Kd.R_drewN | apply Kd.R_drew)); exact Kd.R_mono HO247.out (fun _ hk => hk.1))) (fun k_ hk => by first | exact ⟨(.inr (hk.1)), hk.2⟩ | exact (.inr (hk))), hb_ HB⟩
 rw [if_neg c87] at H
 have c87b0 : (a1_0 == 6) = false := beq_eq_false_iff_ne.mpr c87
 have c87b1 : (a1_0 != 6) = true := bne_iff_ne.mpr c87
 by_cases c100 : a1_0 = 7
 ·
  rw [if_pos c100] at H
  have c100b0 : (a1_0 == 7) = true := beq_iff_eq.mpr c100
  have c100b1 : (a1_0 != 7) = false := bne_eq_false_iff_eq.mpr c100
  clear c100
  simp only [Option.some.injEq, Prod.mk.injEq] at H
  obtain ⟨rfl, rfl⟩ := H
  go_enter Try.func75, Try.ntmps75
  go_wp2_with (first | ((with_reducible refine gate_dst (N := 2) rfl ?_); refine box_event rfl (N := 2) rfl (cs := #[.slice A0_0 l0_0.length c0_0, .int .i64 a0_1]) (t := 44) hr_ ?_; intro gb230 hg w101 hbox hb; have BK230 := A_ hbox; have GW230 := gs_ HB hg; have GE230 := gs_ HB hg; replace HO0_0 := A_ (Kd.V_below (Kd.V_elderB (by (with_reducible repeat (first | apply Kd.V_alloc | apply Kd.V_drewN | apply Kd.V_drew)); exact HO0_0.out) gb230 (Nat.le_of_eq hg.symm)) hb); replace HB := hs_ HB hb; clear hb hbox hg) | ((with_reducible refine gate_dst (N := 3) rfl ?_); refine box_event rfl (N := 3) rfl (cs := #[.int .i64 a1_0, .int .i64 a1_1, .int .i64 a1_2]) (t := 47) hr_ ?_; intro gb231 hg w102 hbox hb; have BK231 := A_ hbox; have GW231 := gs_ HB hg; have GE231 := gs_ HB hg; have NB230_231 := ng_ BK230 hg; have NB231_230 := ns_ (ng_ BK230 hg); replace HO0_0 := A_ (Kd.V_below (Kd.V_elderB (by (with_reducible repeat (first | apply Kd.V_alloc | apply Kd.V_drewN | apply Kd.V_drew)); exact HO0_0.out) gb231 (Nat.le_of_eq hg.symm)) hb); replace BK230 := bb_ BK230 hb; replace HB := hs_ HB hb; clear hb hbox hg; have hnb103 := NB230_231.out; have hnc103 := NB231_230.out; obtain ⟨hcz104_0, hcz104_1, hfz104_0, hfz104_1⟩ := cz2_ BK230; obtain ⟨hcz105_0, hcz105_1, hcz105_2, hfz105_0, hfz105_1, hfz105_2⟩ := cz3_ BK231) | ((with_reducible refine gate_callee (f := 129) rfl ?_); refine Y15_ ?_; clear HO0_0 BK230 BK231 HB; intro w106 HO0_0 BK230 BK231 HB hcz107_0 hcz107_1 hcz107_2 hfz107_0 hfz107_1 hfz107_2 hcz108_0 hcz108_1 hfz108_0 hfz108_1))
  go_ret2
  exact ⟨_, rs_, by (with_reducible repeat (first | apply Kd.V_alloc | apply Kd.V_drewN | apply Kd.V_drew)); exact Kd.V_mono HO0_0.out (fun _ hk => hk.1.1), hb_ HB⟩
 rw [if_neg c100] at H
 have c100b0 : (a1_0 == 7) = false := beq_eq_false_iff_ne.mpr c100
 have c100b1 : (a1_0 != 7) = true := bne_iff_ne.mpr c100
 by_cases c109 : a1_0 = 8
 ·
  rw [if_pos c109] at H
  have c109b0 : (a1_0 == 8) = true := beq_iff_eq.mpr c109
  have c109b1 : (a1_0 != 8) = false := bne_eq_false_iff_eq.mpr c109
  clear c109
  simp only [Option.some.injEq, Prod.mk.injEq] at H
  obtain ⟨rfl, rfl⟩ := H
  go_enter Try.func75, Try.ntmps75
  try go_wp2_with (first | ((with_reducible refine gate_dst (N := 2) rfl ?_); refine box_event rfl (N := 2) rfl (cs := #[.slice A0_0 l0_0.length c0_0, .int .i64 a0_1]) (t := 44) hr_ ?_; intro gb230 hg w110 hbox hb; have BK230 := A_ hbox; have GW230 := gs_ HB hg; have GE230 := gs_ HB hg; replace HO0_0 := A_ (Kd.V_below (Kd.V_elderB (by (with_reducible repeat (first | apply Kd.V_alloc | apply Kd.V_drewN | apply Kd.V_drew)); exact HO0_0.out) gb230 (Nat.le_of_eq hg.symm)) hb); replace HB := hs_ HB hb; clear hb hbox hg) | ((with_reducible refine gate_dst (N := 3) rfl ?_); refine box_event rfl (N := 3) rfl (cs := #[.int .i64 a1_0, .int .i64 a1_1, .int .i64 a1_2]) (t := 47) hr_ ?_; intro gb231 hg w111 hbox hb; have BK231 := A_ hbox; have GW231 := gs_ HB hg; have GE231 := gs_ HB hg; have NB230_231 := ng_ BK230 hg; have NB231_230 := ns_ (ng_ BK230 hg); replace HO0_0 := A_ (Kd.V_below (Kd.V_elderB (by (with_reducible repeat (first | apply Kd.V_alloc | apply Kd.V_drewN | apply Kd.V_drew)); exact HO0_0.out) gb231 (Nat.le_of_eq hg.symm)) hb); replace BK230 := bb_ BK230 hb; replace HB := hs_ HB hb; clear hb hbox hg; have hnb112 := NB230_231.out; have hnc112 := NB231_230.out; obtain ⟨hcz113_0, hcz113_1, hfz113_0, hfz113_1⟩ := cz2_ BK230; obtain ⟨hcz114_0, hcz114_1, hcz114_2, hfz114_0, hfz114_1, hfz114_2⟩ := cz3_ BK231) | ((with_reducible refine gate_callee (f := 129) rfl ?_); refine Y14_ ?_; clear HO0_0 BK230 BK231 HB; intro w115 HO0_0 BK230 BK231 HB hcz116_0 hcz116_1 hcz116_2 hfz116_0 hfz116_1 hfz116_2))
  replace HO0_0 := A_ (Kd.V_drew HO0_0.out)
  replace BK230 := A_ (blk_drew BK230.out)
  replace BK231 := A_ (blk_drew BK231.out)
  replace HB := A_ (below_drew1 HB.out)
  refine start_ (n := 5) (S := fun w' => w'.cell? ⟨gb230, 0, none⟩ = some (.slice A0_0 l0_0.length c0_0) ∧ w'.cell? ⟨gb230, 1, none⟩ = some (.int .i64 a0_1)) (ds := []) (bt_ 0 5) (by kernel_rfl) rfl rfl ⟨(blk_cell BK230.out 0).trans rfl, (blk_cell BK230.out 1).trans rfl⟩ (fun hHeld => ?_)
  generalize w115.drew = w117 at HO0_0 BK230 BK231 HB hHeld ⊢
  refine pure_ (i := 0) (N := some 89) (v := ?_) (a' := ?_) (bt_ 1 5) rfl rfl (by kernel_rfl) (fun _ _ _ h => h) (Or.inl ⟨by rfl, ?_⟩) ?_ ?_
  rotate_left
  ·
   intro w'
   go_simp
   with_reducible rfl
  rotate_left
  ·
   simp only [Act.put, List.setIfInBounds_toArray, List.set_cons_zero, List.set_cons_succ, i64_w, i32_w]
   rfl
  refine pure_ (i := 3) (N := some 4) (v := ?_) (a' := ?_) (bt_ 9 5) rfl rfl (by kernel_rfl) (fun _ _ _ h => h) (Or.inl ⟨by rfl, ?_⟩) ?_ ?_
  rotate_left
  ·
   intro w'
   go_simp
   with_reducible rfl
  rotate_left
  ·
   simp only [Act.put, List.setIfInBounds_toArray, List.set_cons_zero, List.set_cons_succ, i64_w, i32_w]
   rfl
  refine take_ (i := 1) (N := some 90) (v := ?_) (a' := ?_) (bt_ 11 5) rfl rfl (by kernel_rfl) (fun _ _ _ h => h) (Or.inl ⟨by rfl, ?_⟩) hHeld ?_ ?_
  rotate_left
  ·
   rintro w' ⟨s0, s1⟩
   go_simp
   with_reducible rfl
  rotate_left
  ·
   simp only [Act.put, List.setIfInBounds_toArray, List.set_cons_zero, List.set_cons_succ, i64_w, i32_w]
   rfl
  refine pure_ (i := 2) (N := some 91) (v := ?_) (a' := ?_) (bt_ 15 5) rfl rfl (by kernel_rfl) (fun _ _ _ h => h) (Or.inl ⟨by rfl, ?_⟩) ?_ ?_
  rotate_left
  ·
   intro w'
   go_simp
   with_reducible rfl
  rotate_left
  ·
   simp only [Act.put, List.setIfInBounds_toArray, List.set_cons_zero, List.set_cons_succ, i64_w, i32_w]
   rfl
  refine pure_ (i := 4) (N := some 5) (v := ?_) (a' := ?_) (bt_ 31 5) rfl rfl (by kernel_rfl) (fun _ _ _ h => h) (Or.inl ⟨by rfl, ?_⟩) ?_ ?_
  rotate_left
  ·
   intro w'
   go_simp
   with_reducible rfl
  rotate_left
  ·
   simp only [Act.put, List.setIfInBounds_toArray, List.set_cons_zero, List.set_cons_succ, i64_w, i32_w]
   rfl
  refine done_ (by kernel_rfl) ?_
  try go_wp2
  go_ret2
  exact ⟨_, rs_, Kd.V_mono (Kd.R_V (show Kd.R (Kd.int .i64) 3 _ w.heap.size (fun k_ => w.heap.size ≤ k_) (.slice none 0 0) [] from Kd.R_nil _ _ _ _ _)) (fun k_ hk => .inr hk), hb_ HB⟩
 rw [if_neg c109] at H
 have c109b0 : (a1_0 == 8) = false := beq_eq_false_iff_ne.mpr c109
 have c109b1 : (a1_0 != 8) = true := bne_iff_ne.mpr c109
 by_cases c118 : a1_0 = 9
 ·
  rw [if_pos c118] at H
  have c118b0 : (a1_0 == 9) = true := beq_iff_eq.mpr c118
  have c118b1 : (a1_0 != 9) = false := bne_eq_false_iff_eq.mpr c118
  clear c118
  by_cases c119 : a0_1 = 0
  ·
   rw [if_pos c119] at H
   have c119b0 : (a0_1 == 0) = true := beq_iff_eq.mpr c119
   have c119b1 : (a0_1 != 0) = false := bne_eq_false_iff_eq.mpr c119
   clear c119
   simp only [Option.some.injEq, Prod.mk.injEq] at H
   obtain ⟨rfl, rfl⟩ := H
   go_enter Try.func75, Try.ntmps75
   go_wp2_with (first | ((with_reducible refine gate_dst (N := 2) rfl ?_); refine box_event rfl (N := 2) rfl (cs := #[.slice A0_0 l0_0.length c0_0, .int .i64 a0_1]) (t := 44) hr_ ?_; intro gb230 hg w120 hbox hb; have BK230 := A_ hbox; have GW230 := gs_ HB hg; have GE230 := gs_ HB hg; replace HO0_0 := A_ (Kd.V_below (Kd.V_elderB (by (with_reducible repeat (first | apply Kd.V_alloc | apply Kd.V_drewN | apply Kd.V_drew)); exact HO0_0.out) gb230 (Nat.le_of_eq hg.symm)) hb); replace HB := hs_ HB hb; clear hb hbox hg) | ((with_reducible refine gate_dst (N := 3) rfl ?_); refine box_event rfl (N := 3) rfl (cs := #[.int .i64 a1_0, .int .i64 a1_1, .int .i64 a1_2]) (t := 47) hr_ ?_; intro gb231 hg w121 hbox hb; have BK231 := A_ hbox; have GW231 := gs_ HB hg; have GE231 := gs_ HB hg; have NB230_231 := ng_ BK230 hg; have NB231_230 := ns_ (ng_ BK230 hg); replace HO0_0 := A_ (Kd.V_below (Kd.V_elderB (by (with_reducible repeat (first | apply Kd.V_alloc | apply Kd.V_drewN | apply Kd.V_drew)); exact HO0_0.out) gb231 (Nat.le_of_eq hg.symm)) hb); replace BK230 := bb_ BK230 hb; replace HB := hs_ HB hb; clear hb hbox hg; have hnb122 := NB230_231.out; have hnc122 := NB231_230.out; obtain ⟨hcz123_0, hcz123_1, hfz123_0, hfz123_1⟩ := cz2_ BK230; obtain ⟨hcz124_0, hcz124_1, hcz124_2, hfz124_0, hfz124_1, hfz124_2⟩ := cz3_ BK231) | ((with_reducible refine gate_callee (f := 129) rfl ?_); refine Y15_ ?_; clear HO0_0 BK230 BK231 HB; intro w125 HO0_0 BK230 BK231 HB hcz126_0 hcz126_1 hcz126_2 hfz126_0 hfz126_1 hfz126_2 hcz127_0 hcz127_1 hfz127_0 hfz127_1))
   go_ret2
   exact ⟨_, rs_, Kd.V_mono (Kd.R_V (show Kd.R (Kd.int .i64) 3 _ w.heap.size (fun k_ => w.heap.size ≤ k_) (.slice none 0 0) [] from Kd.R_nil _ _ _ _ _)) (fun k_ hk => .inr hk), hb_ HB⟩
  rw [if_neg c119] at H
  have c119b0 : (a0_1 == 0) = false := beq_eq_false_iff_ne.mpr c119
  have c119b1 : (a0_1 != 0) = true := bne_iff_ne.mpr c119
  replace H := bs_ H
  obtain ⟨t248, A128, H⟩ := H
  simp only [Option.some.injEq, Prod.mk.injEq] at H
  obtain ⟨rfl, rfl⟩ := H
  go_enter Try.func75, Try.ntmps75
  go_wp2_with (first | ((with_reducible refine gate_dst (N := 2) rfl ?_); refine box_event rfl (N := 2) rfl (cs := #[.slice A0_0 l0_0.length c0_0, .int .i64 a0_1]) (t := 44) hr_ ?_; intro gb230 hg w129 hbox hb; have BK230 := A_ hbox; have GW230 := gs_ HB hg; have GE230 := gs_ HB hg; replace HO0_0 := A_ (Kd.V_below (Kd.V_elderB (by (with_reducible repeat (first | apply Kd.V_alloc | apply Kd.V_drewN | apply Kd.V_drew)); exact HO0_0.out) gb230 (Nat.le_of_eq hg.symm)) hb); replace HB := hs_ HB hb; clear hb hbox hg) | ((with_reducible refine gate_dst (N := 3) rfl ?_); refine box_event rfl (N := 3) rfl (cs := #[.int .i64 a1_0, .int .i64 a1_1, .int .i64 a1_2]) (t := 47) hr_ ?_; intro gb231 hg w130 hbox hb; have BK231 := A_ hbox; have GW231 := gs_ HB hg; have GE231 := gs_ HB hg; have NB230_231 := ng_ BK230 hg; have NB231_230 := ns_ (ng_ BK230 hg); replace HO0_0 := A_ (Kd.V_below (Kd.V_elderB (by (with_reducible repeat (first | apply Kd.V_alloc | apply Kd.V_drewN | apply Kd.V_drew)); exact HO0_0.out) gb231 (Nat.le_of_eq hg.symm)) hb); replace BK230 := bb_ BK230 hb; replace HB := hs_ HB hb; clear hb hbox hg; have hnb131 := NB230_231.out; have hnc131 := NB231_230.out; obtain ⟨hcz132_0, hcz132_1, hfz132_0, hfz132_1⟩ := cz2_ BK230; obtain ⟨hcz133_0, hcz133_1, hcz133_2, hfz133_0, hfz133_1, hfz133_2⟩ := cz3_ BK231) | ((with_reducible refine gate_callee (f := 129) rfl ?_); refine Y15_ ?_; clear HO0_0 BK230 BK231 HB; intro w134 HO0_0 BK230 BK231 HB hcz135_0 hcz135_1 hcz135_2 hfz135_0 hfz135_1 hfz135_2 hcz136_0 hcz136_1 hfz136_0 hfz136_1) | (go_at_call 130; (with_reducible refine (impl_made.calls _ _ l0_0 a0_1 t248 _ ?side1 ?side2 A128.out).mono ?_); (case side1 => repeat (first | exact (Kd.V_reads' HO0_0.out).2.2 | (with_reducible refine Kd.C_alloc ?_ _) | (with_reducible refine Kd.C_drewN ?_ _) | (with_reducible refine Kd.C_drew ?_))); (case side2 => exact (Kd.V_reads' HO0_0.out).2.1); rintro e w137 ⟨rfl, hb⟩; replace HO0_0 := A_ (Kd.V_below (by (with_reducible repeat (first | apply Kd.V_alloc | apply Kd.V_drewN | apply Kd.V_drew)); exact HO0_0.out) hb); replace BK230 := bb_ BK230 hb; replace BK231 := bb_ BK231 hb; replace HB := hs_ HB hb; (try clear hb); (try clear hb2); (try clear hk); (try clear hi)))
  go_ret2
  exact ⟨_, rs_, Kd.V_mono (Kd.R_V (show Kd.R (Kd.int .i64) 3 _ w.heap.size (fun k_ => w.heap.size ≤ k_) (.slice none 0 0) [] from Kd.R_nil _ _ _ _ _)) (fun k_ hk => .inr hk), hb_ HB⟩
 rw [if_neg c118] at H
 have c118b0 : (a1_0 == 9) = false := beq_eq_false_iff_ne.mpr c118
 have c118b1 : (a1_0 != 9) = true := bne_iff_ne.mpr c118
 obtain ⟨y249, hy249⟩ : ∃ y_ : List Int, y_ = (([t232] : List Int)) := ⟨_, rfl⟩
 replace H : (if t232 ≥ 0 then ((impl_made.f l0_0 a0_1).bind fun t252 => (some (y249, t252))) else (some (y249, false))) = some (r1, r2) := by first | (rw [hy249]; with_reducible exact H) | (have H2_ := (Option.bind_some _ _).symm.trans H; rw [hy249]; with_reducible exact H2_) | (have H2_ := (Option.bind_some _ _).symm.trans H; with_reducible exact H2_) | with_reducible exact H | (rw [hy249]; exact H) | exact H
 have Ny249 := A_ hy249
 clear hy249
 replace H := ic_ H
 rcases H with ⟨c138b0, H⟩ | ⟨c138b0, H⟩
 ·
  replace H := bs_ H
  obtain ⟨t252, A139, H⟩ := H
  simp only [Option.some.injEq, Prod.mk.injEq] at H
  obtain ⟨rfl, rfl⟩ := H
  go_enter Try.func75, Try.ntmps75
  go_wp2_with (first | ((with_reducible refine gate_dst (N := 2) rfl ?_); refine box_event rfl (N := 2) rfl (cs := #[.slice A0_0 l0_0.length c0_0, .int .i64 a0_1]) (t := 44) hr_ ?_; intro gb230 hg w140 hbox hb; have BK230 := A_ hbox; have GW230 := gs_ HB hg; have GE230 := gs_ HB hg; replace HO0_0 := A_ (Kd.V_below (Kd.V_elderB (by (with_reducible repeat (first | apply Kd.V_alloc | apply Kd.V_drewN | apply Kd.V_drew)); exact HO0_0.out) gb230 (Nat.le_of_eq hg.symm)) hb); replace HB := hs_ HB hb; clear hb hbox hg) | ((with_reducible refine gate_dst (N := 3) rfl ?_); refine box_event rfl (N := 3) rfl (cs := #[.int .i64 a1_0, .int .i64 a1_1, .int .i64 a1_2]) (t := 47) hr_ ?_; intro gb231 hg w141 hbox hb; have BK231 := A_ hbox; have GW231 := gs_ HB hg; have GE231 := gs_ HB hg; have NB230_231 := ng_ BK230 hg; have NB231_230 := ns_ (ng_ BK230 hg); replace HO0_0 := A_ (Kd.V_below (Kd.V_elderB (by (with_reducible repeat (first | apply Kd.V_alloc | apply Kd.V_drewN | apply Kd.V_drew)); exact HO0_0.out) gb231 (Nat.le_of_eq hg.symm)) hb); replace BK230 := bb_ BK230 hb; replace HB := hs_ HB hb; clear hb hbox hg; have hnb142 := NB230_231.out; have hnc142 := NB231_230.out; obtain ⟨hcz143_0, hcz143_1, hfz143_0, hfz143_1⟩ := cz2_ BK230; obtain ⟨hcz144_0, hcz144_1, hcz144_2, hfz144_0, hfz144_1, hfz144_2⟩ := cz3_ BK231) | ((with_reducible refine gate_callee (f := 129) rfl ?_); refine Y14_ ?_; clear HO0_0 BK230 BK231 HB; intro w145 HO0_0 BK230 BK231 HB hcz146_0 hcz146_1 hcz146_2 hfz146_0 hfz146_1 hfz146_2) | ((with_reducible refine gate_dst (N := 103) rfl ?_); refine Kd.R_lit (Kd.int .i64) _ 3 ?hg (N := 103) ?hd (xs := ([t232] : List Int)) (inner := [.int .i64 t232]) (ok := fun _ => True) (okp := fun _ => True) ?hr ?hp (fun _ hk => hk) trivial (Below.refl _ _) (Nat.le_refl _) (by simp) ?_; (case hd => rfl); (case hg => rfl); (case hr => first | (go_simp; done) | (go_simp; rfl)); (case hp => exact (Reps.one (show Kd.M (Kd.int .i64) _ _ _ t232 [.int .i64 t232] from rfl) (Reps.none _ _))); intro v250 w147 ho148 hb hg_ hnew_; clear hg_ hnew_; (first | rw [← Ny249.out] at ho148 | (simp only [Int.reduceToNat] at ho148; rw [← Ny249.out] at ho148)); have HO251 := A_ (Kd.R_lower (Kd.R_newM (M := fun k_ => (w.heap.size ≤ k_)) ho148 (below_size (hb_ HB)) (fun k_ h_ => h_)) (below_size (hb_ HB))); replace HO0_0 := A_ (Kd.V_elder' (by (with_reducible repeat (first | apply Kd.V_alloc | apply Kd.V_drewN | apply Kd.V_drew)); exact HO0_0.out) (Kd.R_base ho148) hb); replace BK230 := bb_ BK230 hb; replace BK231 := bb_ BK231 hb; replace HB := hs_ HB hb; clear hb ho148; obtain ⟨hcz149_0, hcz149_1, hfz149_0, hfz149_1⟩ := cz2_ BK230) | (go_at_call 130; (with_reducible refine (impl_made.calls _ _ l0_0 a0_1 t252 _ ?side1 ?side2 A139.out).mono ?_); (case side1 => repeat (first | exact (Kd.V_reads' HO0_0.out).2.2 | (with_reducible refine Kd.C_alloc ?_ _) | (with_reducible refine Kd.C_drewN ?_ _) | (with_reducible refine Kd.C_drew ?_))); (case side2 => exact (Kd.V_reads' HO0_0.out).2.1); rintro e w150 ⟨rfl, hb⟩; replace HO0_0 := A_ (Kd.V_below (by (with_reducible repeat (first | apply Kd.V_alloc | apply Kd.V_drewN | apply Kd.V_drew)); exact HO0_0.out) hb); replace HO251 := A_ (Kd.R_below (rb_ HO251.out) hb); replace BK230 := bb_ BK230 hb; replace BK231 := bb_ BK231 hb; replace HB := hs_ HB hb; (try clear hb); (try clear hb2); (try clear hk); (try clear hi)))
  go_ret2
  exact ⟨_, rs_, Kd.V_mono (Kd.R_V (by (with_reducible repeat (first | apply Kd.R_alloc | apply Kd.R_drewN | apply Kd.R_drew)); exact Kd.R_mono HO251.out (fun _ hk => hk.1))) (fun k_ hk => by first | exact ⟨(.inr (hk.1)), hk.2⟩ | exact (.inr (hk))), hb_ HB⟩
 simp only [Option.some.injEq, Prod.mk.injEq] at H
 obtain ⟨rfl, rfl⟩ := H
 go_enter Try.func75, Try.ntmps75
 go_wp2_with (first | ((with_reducible refine gate_dst (N := 2) rfl ?_); refine box_event rfl (N := 2) rfl (cs := #[.slice A0_0 l0_0.length c0_0, .int .i64 a0_1]) (t := 44) hr_ ?_; intro gb230 hg w151 hbox hb; have BK230 := A_ hbox; have GW230 := gs_ HB hg; have GE230 := gs_ HB hg; replace HO0_0 := A_ (Kd.V_below (Kd.V_elderB (by (with_reducible repeat (first | apply Kd.V_alloc | apply Kd.V_drewN | apply Kd.V_drew)); exact HO0_0.out) gb230 (Nat.le_of_eq hg.symm)) hb); replace HB := hs_ HB hb; clear hb hbox hg) | ((with_reducible refine gate_dst (N := 3) rfl ?_); refine box_event rfl (N := 3) rfl (cs := #[.int .i64 a1_0, .int .i64 a1_1, .int .i64 a1_2]) (t := 47) hr_ ?_; intro gb231 hg w152 hbox hb; have BK231 := A_ hbox; have GW231 := gs_ HB hg; have GE231 := gs_ HB hg; have NB230_231 := ng_ BK230 hg; have NB231_230 := ns_ (ng_ BK230 hg); replace HO0_0 := A_ (Kd.V_below (Kd.V_elderB (by (with_reducible repeat (first | apply Kd.V_alloc | apply Kd.V_drewN | apply Kd.V_drew)); exact HO0_0.out) gb231 (Nat.le_of_eq hg.symm)) hb); replace BK230 := bb_ BK230 hb; replace HB := hs_ HB hb; clear hb hbox hg; have hnb153 := NB230_231.out; have hnc153 := NB231_230.out; obtain ⟨hcz154_0, hcz154_1, hfz154_0, hfz154_1⟩ := cz2_ BK230; obtain ⟨hcz155_0, hcz155_1, hcz155_2, hfz155_0, hfz155_1, hfz155_2⟩ := cz3_ BK231) | ((with_reducible refine gate_callee (f := 129) rfl ?_); refine Y14_ ?_; clear HO0_0 BK230 BK231 HB; intro w156 HO0_0 BK230 BK231 HB hcz157_0 hcz157_1 hcz157_2 hfz157_0 hfz157_1 hfz157_2) | ((with_reducible refine gate_dst (N := 103) rfl ?_); refine Kd.R_lit (Kd.int .i64) _ 3 ?hg (N := 103) ?hd (xs := ([t232] : List Int)) (inner := [.int .i64 t232]) (ok := fun _ => True) (okp := fun _ => True) ?hr ?hp (fun _ hk => hk) trivial (Below.refl _ _) (Nat.le_refl _) (by simp) ?_; (case hd => rfl); (case hg => rfl); (case hr => first | (go_simp; done) | (go_simp; rfl)); (case hp => exact (Reps.one (show Kd.M (Kd.int .i64) _ _ _ t232 [.int .i64 t232] from rfl) (Reps.none _ _))); intro v250 w158 ho159 hb hg_ hnew_; clear hg_ hnew_; (first | rw [← Ny249.out] at ho159 | (simp only [Int.reduceToNat] at ho159; rw [← Ny249.out] at ho159)); have HO251 := A_ (Kd.R_lower (Kd.R_newM (M := fun k_ => (w.heap.size ≤ k_)) ho159 (below_size (hb_ HB)) (fun k_ h_ => h_)) (below_size (hb_ HB))); replace HO0_0 := A_ (Kd.V_elder' (by (with_reducible repeat (first | apply Kd.V_alloc | apply Kd.V_drewN | apply Kd.V_drew)); exact HO0_0.out) (Kd.R_base ho159) hb); replace BK230 := bb_ BK230 hb; replace BK231 := bb_ BK231 hb; replace HB := hs_ HB hb; clear hb ho159))
 go_ret2
 exact ⟨_, rs_, Kd.V_mono (Kd.R_V (by (with_reducible repeat (first | apply Kd.R_alloc | apply Kd.R_drewN | apply Kd.R_drew)); exact Kd.R_mono HO251.out (fun _ hk => hk.1))) (fun k_ hk => by first | exact ⟨(.inr (hk.1)), hk.2⟩ | exact (.inr (hk))), hb_ HB⟩

end Go.Proofs.Ytmkhghbalnadlaa.PFnAllowed
