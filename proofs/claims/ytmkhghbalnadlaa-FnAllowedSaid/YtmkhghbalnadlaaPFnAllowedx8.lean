/- Contracts of functions of the program: each says that the call does what a plain Lean function tells. Made by programs of this session and of the kit. No condition beyond the hypotheses that each theorem names. -/
import Derived.Test.YtmkhghbalnadlaaPFnAllowedx0
import Derived.Test.YtmkhghbalnadlaaPFnAllowedx6
import Derived.Test.YtmkhghbalnadlaaPFnAllowedx7
namespace Go.Proofs.Ytmkhghbalnadlaa.PFnAllowed
open Go.RowKit Go.Proofs.YtmkhghbalnadlaaW.PrintWords Go.Proofs.YtmkhghbalnadlaaW.PrintLast Go.Proofs.YtmkhghbalnadlaaW.PrintMore
attribute [local go_sem] max2_int min2_int max_two min_two max_three min_three max_four min_four   -- for this text's walks alone
set_option linter.unusedVariables false
set_option linter.unusedSimpArgs false

/-! ### impl_RowsOk: function 37 -/
def impl_RowsOk.l0 : Nat → List Int → Int → Int → List Int → Int → Option (Bool)
 | 0, _, _, _, _, _ => none
 | k + 1, x6, x7, x8, x209000, x209001 => if x8 < x7 then (if 0 ≤ x8 then (if x8 < (x6.length : Int) then (if (rd x6 x8) = 0 then (impl_RowsOk.l0 k x6 x7 (wrap64 (x8 + 1)) x209000 x209001) else ((impl_ValOk.f (rd x6 x8)).bind fun t211 => (if t211 = true then (if x8 ≤ (x209000.length : Int) then ((slices_Contains_int_int.f k (x209000.take (x8 : Int).toNat) (rd x6 x8)).bind fun t213 => (if t213 = true then (some false) else (impl_RowsOk.l0 k x6 x7 (wrap64 (x8 + 1)) x209000 x209001))) else (none)) else (some false)))) else (none)) else (none)) else (if (x209000.length : Int) = 4 then ((impl_from.f x209001 0 5).bind fun t209 => (some t209)) else (some false))
def impl_RowsOk.f (k : Nat) (l0_0 : List Int) (a0_1 : Int) : Option (Bool) := impl_RowsOk.l0 k l0_0 (l0_0.length : Int) 0 l0_0 a0_1
theorem impl_RowsOk.mono_l : ∀ k, (∀ y0 y1 y2 y3 y4, LeO (impl_RowsOk.l0 k y0 y1 y2 y3 y4) (impl_RowsOk.l0 (k + 1) y0 y1 y2 y3 y4))
 | 0 => fun _ _ _ _ _ r h => by simp [impl_RowsOk.l0] at h
 | k + 1 => by
  have ih0 := impl_RowsOk.mono_l k
  ·
   intro y0 y1 y2 y3 y4
   unfold impl_RowsOk.l0
   repeat' first | (with_reducible first | apply ih0 | apply slices_Contains_int_int.mono | apply LeO.refl | apply LeO.none | apply LeO.ite | refine LeO.bind ?_ (fun _ => ?_)) | apply ih0 | apply slices_Contains_int_int.mono | apply LeO.none | apply LeO.ite | refine LeO.bind ?_ (fun _ => ?_)
theorem impl_RowsOk.mono : ∀ a0 a1 k, LeO (impl_RowsOk.f k a0 a1) (impl_RowsOk.f (k + 1) a0 a1) := by
 intro a0 a1 k
 have ih0 := impl_RowsOk.mono_l k
 unfold impl_RowsOk.f
 repeat' first | (with_reducible first | apply ih0 | apply slices_Contains_int_int.mono | apply LeO.refl | apply LeO.none | apply LeO.ite | refine LeO.bind ?_ (fun _ => ?_)) | apply ih0 | apply slices_Contains_int_int.mono | apply LeO.none | apply LeO.ite | refine LeO.bind ?_ (fun _ => ?_)
set_option maxHeartbeats 8000000 in
set_option maxRecDepth 100000 in
theorem impl_RowsOk.calls (k : Nat) (A0_0 : Option Addr) (c0_0 : Nat) (l0_0 : List Int) (a0_1 : Int) (r : Bool) (w : World) (hr0_0 : Kd.C (Kd.int .i64) w A0_0 l0_0.length l0_0) (hc0_0 : l0_0.length ≤ c0_0) (h : impl_RowsOk.f k l0_0 a0_1 = some r) :
    Calls Try.prog 37 #[.agg #[.slice A0_0 l0_0.length c0_0, .int .i64 a0_1]] w fun e w' => e = .returned (.bool r) ∧ Below w.heap.size w w' := by
 have hu44 := Try.underlying44
 have HR0_0 := A_ hr0_0
 have HC0_0 := A_ hc0_0
 clear hr0_0 hc0_0
 have HB := A_ (Below.refl w.heap.size w)
 have H : (impl_RowsOk.l0 k l0_0 (l0_0.length : Int) 0 l0_0 a0_1) = some r := h
 clear h
 replace H' := A_ H; clear H
 go_enter Try.func37, Try.ntmps37
 go_wp2_with (first | ((with_reducible refine gate_dst (N := 1) rfl ?_); refine bx_ HB rfl (N := 1) rfl (cs := #[.slice A0_0 l0_0.length c0_0, .int .i64 a0_1]) (t := 44) hr_ ?_; clear HB; intro gb208 w2 hg hb BK208 GW208 HB; clear hb hg; obtain ⟨hcz3_0, hcz3_1, hfz3_0, hfz3_1⟩ := cz2_ BK208))
 go_loopg [8] k (fun kq v8 w' => ∃ (x8_1 : Int), v8 = .int .i64 x8_1 ∧ Aside0 (impl_RowsOk.l0 kq l0_0 (l0_0.length : Int) x8_1 l0_0 a0_1 = some r) ∧ Aside0 (kq ≤ k) ∧ Aside0 (w'.heap[gb208]? = some (.cells #[(.slice A0_0 l0_0.length c0_0), .int .i64 a0_1] 44 (0, 0))) ∧ Aside0 (Below w.heap.size w w'))
 case atStart => exact ⟨(0), rt_, H', ⟨Nat.le_refl _⟩, ⟨bk_ BK208⟩, ⟨hb_ HB⟩⟩
 case round =>
  clear H'
  obtain ⟨x8_1, rfl, HA, HK1, BK208, HB⟩ := hrel
  cases gk with
  | zero => exact absurd HA.out (by simp [impl_RowsOk.l0])
  | succ k1 =>
   have H := HA.out
   clear HA
   simp only [impl_RowsOk.l0] at H
   replace H := ic_ H
   rcases H with ⟨c4b0, H⟩ | ⟨c4b0, H⟩
   ·
    replace H := ix_ H
    obtain ⟨c5b0, H⟩ := H
    replace H := ix_ H
    obtain ⟨c6b0, H⟩ := H
    by_cases c7 : (rd l0_0 x8_1) = 0
    ·
     rw [if_pos c7] at H
     have c7b0 : ((rd l0_0 x8_1) == 0) = true := beq_iff_eq.mpr c7
     have c7b1 : ((rd l0_0 x8_1) != 0) = false := bne_eq_false_iff_eq.mpr c7
     clear c7
     replace H' := A_ H; clear H
     obtain ⟨ad210, p210, q210, rfl, hx210_0⟩ := ab_int HB HR0_0 x8_1
     go_wp2
     go_roundg k1
     case measure => have := HK1.out; omega
     case rel => exact ⟨(wrap64 (x8_1 + 1)), rt_, H', ⟨by have := HK1.out; omega⟩, ⟨bk_ BK208⟩, ⟨hb_ HB⟩⟩
    rw [if_neg c7] at H
    have c7b0 : ((rd l0_0 x8_1) == 0) = false := beq_eq_false_iff_ne.mpr c7
    have c7b1 : ((rd l0_0 x8_1) != 0) = true := bne_iff_ne.mpr c7
    replace H := bs_ H
    obtain ⟨t211, A8, H⟩ := H
    by_cases c9 : t211 = true
    ·
     subst c9
     replace H := it_ H
     have c10b0 := eq_true (od_ : 0 ≤ x8_1)
     by_cases c11 : x8_1 ≤ (l0_0.length : Int)
     ·
      rw [if_pos c11] at H
      have c11b0 := eq_true c11
      have c11b1 : decide (x8_1 ≤ (l0_0.length : Int)) = true := decide_eq_true c11
      clear c11
      replace H := bs_ H
      obtain ⟨t213, A12, H⟩ := H
      by_cases c13 : t213 = true
      ·
       subst c13
       replace H := it_ H
       obtain rfl := Option.some.inj H
       obtain ⟨ad210, p210, q210, rfl, hx210_0⟩ := ab_int HB HR0_0 x8_1
       have HLN_ : Aside0 ((l0_0.take (x8_1 : Int).toNat).length = x8_1.toNat) := ⟨by have h_ : x8_1 < (l0_0.length : Int) := od_; rw [List.length_take]; omega⟩
       go_wp2_with (first | (go_at_call 85; (with_reducible refine (impl_ValOk.calls (rd l0_0 x8_1) true _ A8.out).mono ?_); rintro e w' ⟨rfl, ⟨nd, rfl⟩⟩; obtain ⟨hcz14_0, hcz14_1, hfz14_0, hfz14_1⟩ := cz2_ BK208; obtain ⟨i015, hi015, _, hsz15, _⟩ := info_parts info3; obtain ⟨hcut15, hA15, hC15⟩ := print_take_of (P := Try.prog) (Value.int .i64) 0 35 3 .i64 Try.underlying35 hi015 hsz15 (some ad210) c0_0 l0_0 x8_1 (od_) (od_) HC0_0.out; have HR212 := A_ (Kd.C_of_reads (h1 := fun _ => rfl) (hA15 _ (Kd.reads_of_C HR0_0.out))); have HC212 := A_ hC15; clear hA15 hC15 hi015 hsz15) | (go_at_call 92; (with_reducible refine (slices_Contains_int_int.calls_n x8_1.toNat k1 _ _ (l0_0.take (x8_1 : Int).toNat) (rd l0_0 x8_1) true _ ?side1 ?side2 A12.out HLN_.out).mono ?_); (case side1 => exact cb_ (Kd.C_below HR212.out (hb_ HB))); (case side2 => exact HC212.out); rintro e w' ⟨rfl, ⟨nd, rfl⟩⟩))
       go_ret
       exact ⟨rs_, hb_ HB⟩
      obtain rfl := Bool.eq_false_iff.mpr c13
      replace H := iF_ H
      replace H' := A_ H; clear H
      obtain ⟨ad210, p210, q210, rfl, hx210_0⟩ := ab_int HB HR0_0 x8_1
      have HLN_ : Aside0 ((l0_0.take (x8_1 : Int).toNat).length = x8_1.toNat) := ⟨by have h_ : x8_1 < (l0_0.length : Int) := od_; rw [List.length_take]; omega⟩
      go_wp2_with (first | (go_at_call 85; (with_reducible refine (impl_ValOk.calls (rd l0_0 x8_1) true _ A8.out).mono ?_); rintro e w' ⟨rfl, ⟨nd, rfl⟩⟩; obtain ⟨hcz16_0, hcz16_1, hfz16_0, hfz16_1⟩ := cz2_ BK208; obtain ⟨i017, hi017, _, hsz17, _⟩ := info_parts info3; obtain ⟨hcut17, hA17, hC17⟩ := print_take_of (P := Try.prog) (Value.int .i64) 0 35 3 .i64 Try.underlying35 hi017 hsz17 (some ad210) c0_0 l0_0 x8_1 (od_) (od_) HC0_0.out; have HR212 := A_ (Kd.C_of_reads (h1 := fun _ => rfl) (hA17 _ (Kd.reads_of_C HR0_0.out))); have HC212 := A_ hC17; clear hA17 hC17 hi017 hsz17) | (go_at_call 92; (with_reducible refine (slices_Contains_int_int.calls_n x8_1.toNat k1 _ _ (l0_0.take (x8_1 : Int).toNat) (rd l0_0 x8_1) false _ ?side1 ?side2 A12.out HLN_.out).mono ?_); (case side1 => exact cb_ (Kd.C_below HR212.out (hb_ HB))); (case side2 => exact HC212.out); rintro e w' ⟨rfl, ⟨nd, rfl⟩⟩))
      go_roundg k1
      case measure => have := HK1.out; omega
      case rel => exact ⟨(wrap64 (x8_1 + 1)), rt_, H', ⟨by have := HK1.out; omega⟩, ⟨bk_ BK208⟩, ⟨hb_ HB⟩⟩
     rw [if_neg c11] at H
     exact absurd H (by simp)
    obtain rfl := Bool.eq_false_iff.mpr c9
    replace H := iF_ H
    obtain rfl := Option.some.inj H
    obtain ⟨ad210, p210, q210, rfl, hx210_0⟩ := ab_int HB HR0_0 x8_1
    go_wp2_with (first | (go_at_call 85; (with_reducible refine (impl_ValOk.calls (rd l0_0 x8_1) false _ A8.out).mono ?_); rintro e w' ⟨rfl, ⟨nd, rfl⟩⟩))
    go_ret
    exact ⟨rs_, hb_ HB⟩
   by_cases c18 : (l0_0.length : Int) = 4
   ·
    rw [if_pos c18] at H
    have c18b0 : ((l0_0.length : Int) == 4) = true := beq_iff_eq.mpr c18
    have c18b1 : ((l0_0.length : Int) != 4) = false := bne_eq_false_iff_eq.mpr c18
    clear c18
    replace H := bs_ H
    obtain ⟨t209, A19, H⟩ := H
    obtain rfl := Option.some.inj H
    obtain ⟨hcz20_0, hcz20_1, hfz20_0, hfz20_1⟩ := cz2_ BK208
    go_wp2_with (first | (go_at_call 93; (with_reducible refine (impl_from.calls a0_1 0 5 t209 _ A19.out).mono ?_); rintro e w' ⟨rfl, ⟨nd, rfl⟩⟩))
    go_ret
    exact ⟨rs_, hb_ HB⟩
   rw [if_neg c18] at H
   have c18b0 : ((l0_0.length : Int) == 4) = false := beq_eq_false_iff_ne.mpr c18
   have c18b1 : ((l0_0.length : Int) != 4) = true := bne_iff_ne.mpr c18
   obtain rfl := Option.some.inj H
   obtain ⟨hcz21_0, hcz21_1, hfz21_0, hfz21_1⟩ := cz2_ BK208
   go_wp2
   go_ret
   exact ⟨rs_, hb_ HB⟩

/-! ### impl_KeyOf: function 129 -/
def impl_KeyOf.f (k : Nat) (l0_0 : List Int) (a0_1 : Int) (a1 : Int) : Option (Int) := (slices_Index_int_int.f k l0_0 a1).bind fun t215 => (some t215)
theorem impl_KeyOf.mono : ∀ a0 a1 a2 k, LeO (impl_KeyOf.f k a0 a1 a2) (impl_KeyOf.f (k + 1) a0 a1 a2) := by
 intro a0 a1 a2 k
 unfold impl_KeyOf.f
 repeat' first | (with_reducible first | apply slices_Index_int_int.mono | apply LeO.refl | apply LeO.none | apply LeO.ite | refine LeO.bind ?_ (fun _ => ?_)) | apply slices_Index_int_int.mono | apply LeO.none | apply LeO.ite | refine LeO.bind ?_ (fun _ => ?_)
set_option maxHeartbeats 8000000 in
set_option maxRecDepth 100000 in
theorem impl_KeyOf.calls (k : Nat) (A0_0 : Option Addr) (c0_0 : Nat) (l0_0 : List Int) (a0_1 : Int) (a1 : Int) (r : Int) (w : World) (hr0_0 : Kd.C (Kd.int .i64) w A0_0 l0_0.length l0_0) (hc0_0 : l0_0.length ≤ c0_0) (h : impl_KeyOf.f k l0_0 a0_1 a1 = some r) :
    Calls Try.prog 129 #[.agg #[.slice A0_0 l0_0.length c0_0, .int .i64 a0_1], .int .i64 a1] w fun e w' => e = .returned (.int .i64 r) ∧ Below w.heap.size w w' := by
 have hu44 := Try.underlying44
 have HR0_0 := A_ hr0_0
 have HC0_0 := A_ hc0_0
 clear hr0_0 hc0_0
 have HB := A_ (Below.refl w.heap.size w)
 have H : ((slices_Index_int_int.f k l0_0 a1).bind fun t215 => (some t215)) = some r := h
 clear h
 replace H := bs_ H
 obtain ⟨t215, A3, H⟩ := H
 obtain rfl := Option.some.inj H
 go_enter Try.func129, Try.ntmps129
 go_wp2_with (first | ((with_reducible refine gate_dst (N := 2) rfl ?_); refine bx_ HB rfl (N := 2) rfl (cs := #[.slice A0_0 l0_0.length c0_0, .int .i64 a0_1]) (t := 44) hr_ ?_; clear HB; intro gb214 w4 hg hb BK214 GW214 HB; clear hb hg; obtain ⟨hcz5_0, hcz5_1, hfz5_0, hfz5_1⟩ := cz2_ BK214) | ((with_reducible refine gate_callee (f := 135) rfl ?_); refine goesL_ (some 8) rfl rfl Try.func135 (by kernel_rfl) rfl #[.slice A0_0 l0_0.length c0_0, .int .i64 a1] rfl al_ ?_; (with_reducible refine (slices_Index_int_int.calls k _ _ l0_0 a1 t215 _ ?side1 ?side2 A3.out).mono ?_); (case side1 => exact cb_ (Kd.C_below HR0_0.out HB.out)); (case side2 => exact HC0_0.out); rintro e w' ⟨rfl, ⟨nd, rfl⟩⟩; refine ⟨_, rfl, ?_⟩))
 go_ret
 exact ⟨rs_, hb_ HB⟩

/-! ### impl_made: function 130 -/
def impl_made.f (l0_0 : List Int) (a0_1 : Int) : Option (Bool) := some (a0_1 == 5)
set_option maxHeartbeats 8000000 in
set_option maxRecDepth 100000 in
theorem impl_made.calls (A0_0 : Option Addr) (c0_0 : Nat) (l0_0 : List Int) (a0_1 : Int) (r : Bool) (w : World) (hr0_0 : Kd.C (Kd.int .i64) w A0_0 l0_0.length l0_0) (hc0_0 : l0_0.length ≤ c0_0) (h : impl_made.f l0_0 a0_1 = some r) :
    Calls Try.prog 130 #[.agg #[.slice A0_0 l0_0.length c0_0, .int .i64 a0_1]] w fun e w' => e = .returned (.bool r) ∧ Below w.heap.size w w' := by
 have hu44 := Try.underlying44
 have HR0_0 := A_ hr0_0
 have HC0_0 := A_ hc0_0
 clear hr0_0 hc0_0
 have HB := A_ (Below.refl w.heap.size w)
 have H : (some (a0_1 == 5)) = some r := h
 clear h
 obtain rfl := Option.some.inj H
 go_enter Try.func130, Try.ntmps130
 go_wp2_with (first | ((with_reducible refine gate_dst (N := 1) rfl ?_); refine bx_ HB rfl (N := 1) rfl (cs := #[.slice A0_0 l0_0.length c0_0, .int .i64 a0_1]) (t := 44) hr_ ?_; clear HB; intro gb216 w2 hg hb BK216 GW216 HB; clear hb hg; obtain ⟨hcz3_0, hcz3_1, hfz3_0, hfz3_1⟩ := cz2_ BK216))
 go_ret
 exact ⟨rs_, hb_ HB⟩

end Go.Proofs.Ytmkhghbalnadlaa.PFnAllowed
