/- Contracts of functions of the program. No condition beyond the hypotheses that each theorem names. -/
import Derived.Test.YtdcinhpdpoodfaaGreatPFnExactFinishedx0
import Derived.Test.YtdcinhpdpoodfaaGreatPFnExactFinishedx15
import Derived.Test.YtdcinhpdpoodfaaGreatPFnExactFinishedx16
namespace Go.Proofs.YtdcinhpdpoodfaaGreat.PFnExactFinished
open Go.RowKit Go.Proofs.YtdcinhpdpoodfaaGreatW.PrintWords Go.Proofs.YtdcinhpdpoodfaaGreatW.PrintLast Go.Proofs.YtdcinhpdpoodfaaGreatW.PrintMore
attribute [local go_sem] max2_int min2_int max_two min_two max_three min_three max_four min_four
set_option linter.unusedVariables false
set_option linter.unusedSimpArgs false
mutual
def impl_OpOk.j0 : Nat → Int → Bool → Int → Int → Int → Option (Bool)
 | 0, _, _, _, _, _ => none
 | k + 1, x4, x5, x453000, x453001, x453002 => if x5 = true then ((impl_KeyOk.f x453001).bind fun t453 => (if t453 = true then ((impl_ValOk.f x453002).bind fun t454 => (some t454)) else (some false))) else (if x4 = 3 then (impl_OpOk.j1 k x4 (x4 == 3) x453000 x453001 x453002) else (impl_OpOk.j1 k x4 (x4 == 4) x453000 x453001 x453002))
def impl_OpOk.j1 : Nat → Int → Bool → Int → Int → Int → Option (Bool)
 | 0, _, _, _, _, _ => none
 | k + 1, x4, x16, x453000, x453001, x453002 => if x16 = true then ((impl_KeyOk.f x453001).bind fun t455 => (if t455 = true then (some (x453002 == 0)) else (some false))) else (if x4 = 5 then (impl_OpOk.j2 k x4 (x4 == 5) x453000 x453001 x453002) else (impl_OpOk.j2 k x4 (x4 == 10) x453000 x453001 x453002))
def impl_OpOk.j2 : Nat → Int → Bool → Int → Int → Int → Option (Bool)
 | 0, _, _, _, _, _ => none
 | k + 1, x4, x27, x453000, x453001, x453002 => if x27 = true then (if x453001 = 0 then ((impl_ValOk.f x453002).bind fun t456 => (some t456)) else (some false)) else (if x4 = 6 then ((impl_isClass.f x453001).bind fun t457 => (if t457 = true then (some (x453002 == 0)) else (some false))) else (if x4 = 7 then (if x453001 = 0 then (some (x453002 == 0)) else (some false)) else (if x4 = 8 then (if x453001 = 0 then (some (x453002 == 0)) else (some false)) else (if x4 = 9 then (if x453001 = 0 then (some (x453002 == 0)) else (some false)) else (some false)))))
end
def impl_OpOk.f (k : Nat) (a0_0 : Int) (a0_1 : Int) (a0_2 : Int) : Option (Bool) := if a0_0 = 1 then (impl_OpOk.j0 k a0_0 (a0_0 == 1) a0_0 a0_1 a0_2) else (impl_OpOk.j0 k a0_0 (a0_0 == 2) a0_0 a0_1 a0_2)
set_option maxHeartbeats 8000000 in
set_option maxRecDepth 100000 in
theorem impl_OpOk.calls (k : Nat) (a0_0 : Int) (a0_1 : Int) (a0_2 : Int) (r : Bool) (w : World) (h : impl_OpOk.f k a0_0 a0_1 a0_2 = some r) :
    Calls Tryz.prog 88 #[.agg #[.int .i64 a0_0, .int .i64 a0_1, .int .i64 a0_2]] w fun e w' => e = .returned (.bool r) ∧ Below w.heap.size w w' := by
 have hu122 := Tryz.underlying122
 have HB := A_ (Below.refl w.heap.size w)
 have H : (if a0_0 = 1 then (impl_OpOk.j0 k a0_0 (a0_0 == 1) a0_0 a0_1 a0_2) else (impl_OpOk.j0 k a0_0 (a0_0 == 2) a0_0 a0_1 a0_2)) = some r := h
 clear h
 have HC2 := A_ H
 clear H
 go_enter Tryz.func88, Tryz.ntmps88
 go_upto_if 5 with (first | ((with_reducible refine gate_dst (N := 1) rfl ?_); refine Y22_ ?_; clear HB; intro gb452 w3 BK452 GW452 HB z4_0 z4_1 z4_2 y4_0 y4_1 y4_2))
 (try simp only [Act.put, List.setIfInBounds_toArray, List.set_cons_zero, List.set_cons_succ])
 go_cut [5] (fun v5 wc => ∃ (kq : Nat) (x5_1 : Bool), v5 = .bool x5_1 ∧ Aside0 (impl_OpOk.j0 kq a0_0 x5_1 a0_0 a0_1 a0_2 = some r) ∧ Aside0 (kq ≤ k) ∧ Aside0 (wc.heap[gb452]? = some (.cells #[.int .i64 a0_0, .int .i64 a0_1, .int .i64 a0_2] 122 (0, 0))) ∧ Aside0 (Below w.heap.size w wc))
 case first =>
  have H := HC2.out
  clear HC2
  by_cases c5 : a0_0 = 1
  ·
   rw [if_pos c5] at H
   have c5b0 : (a0_0 == 1) = true := beq_iff_eq.mpr c5
   have c5b1 : (a0_0 != 1) = false := bne_eq_false_iff_eq.mpr c5
   clear c5
   (first | rw [c5b0] | (simp only [i64_w, i32_w]; rw [c5b0]) | skip)
   replace H' := A_ H; clear H
   go_wp2
   go_meet
   case rel => exact ⟨_, ((a0_0 == 1)), rt_, H', ⟨by first | omega | exact Nat.le_refl _⟩, ⟨bk_ BK452⟩, ⟨hb_ HB⟩⟩
  rw [if_neg c5] at H
  have c5b0 : (a0_0 == 1) = false := beq_eq_false_iff_ne.mpr c5
  have c5b1 : (a0_0 != 1) = true := bne_iff_ne.mpr c5
  (first | rw [c5b0] | (simp only [i64_w, i32_w]; rw [c5b0]) | skip)
  replace H' := A_ H; clear H
  go_wp2
  go_meet
  case rel => exact ⟨_, ((a0_0 == 2)), rt_, H', ⟨by first | omega | exact Nat.le_refl _⟩, ⟨bk_ BK452⟩, ⟨hb_ HB⟩⟩
 case rest =>
  clear HC2
  try clear c5
  try clear c5b0
  try clear c5b1
  obtain ⟨kq, x5_1, rfl, HA, HJ1, BK452, HB⟩ := hcut
  cases kq with
  | zero => exact absurd HA.out (by simp [impl_OpOk.j0])
  | succ kj1 =>
   have H := HA.out
   clear HA
   simp only [impl_OpOk.j0] at H
   by_cases c6 : x5_1 = true
   ·
    subst c6
    replace H := it_ H
    replace H := bs_ H
    obtain ⟨t453, A7, H⟩ := H
    by_cases c8 : t453 = true
    ·
     subst c8
     replace H := it_ H
     replace H := bs_ H
     obtain ⟨t454, A9, H⟩ := H
     obtain rfl := Option.some.inj H
     obtain ⟨z10_0, z10_1, z10_2, y10_0, y10_1, y10_2⟩ := cz3_ BK452
     go_wp2_with (first | ((with_reducible refine gate_callee (f := 140) rfl ?_); refine goesL_ (some 10) rfl rfl Tryz.func140 (by kernel_rfl) rfl #[.int .i64 a0_1] rfl al_ ?_; (with_reducible refine (impl_KeyOk.calls a0_1 true _ A7.out).mono ?_); rintro e w' ⟨rfl, ⟨nd, rfl⟩⟩; refine ⟨_, rfl, ?_⟩) | (go_at_call 141; (with_reducible refine (impl_ValOk.calls a0_2 t454 _ A9.out).mono ?_); rintro e w' ⟨rfl, ⟨nd, rfl⟩⟩))
     go_ret
     exact ⟨rs_, hb_ HB⟩
    obtain rfl := Bool.eq_false_iff.mpr c8
    replace H := iF_ H
    obtain rfl := Option.some.inj H
    obtain ⟨z11_0, z11_1, z11_2, y11_0, y11_1, y11_2⟩ := cz3_ BK452
    go_wp2_with (first | ((with_reducible refine gate_callee (f := 140) rfl ?_); refine goesL_ (some 10) rfl rfl Tryz.func140 (by kernel_rfl) rfl #[.int .i64 a0_1] rfl al_ ?_; (with_reducible refine (impl_KeyOk.calls a0_1 false _ A7.out).mono ?_); rintro e w' ⟨rfl, ⟨nd, rfl⟩⟩; refine ⟨_, rfl, ?_⟩))
    go_ret
    exact ⟨rs_, hb_ HB⟩
   obtain rfl := Bool.eq_false_iff.mpr c6
   replace H := iF_ H
   have HC12 := A_ H
   clear H
   go_upto_if 16 with (fail)
   go_cut [16] (fun v16 wc => ∃ (kq : Nat) (x16_11 : Bool), v16 = .bool x16_11 ∧ Aside0 (impl_OpOk.j1 kq a0_0 x16_11 a0_0 a0_1 a0_2 = some r) ∧ Aside0 (kq ≤ kj1) ∧ Aside0 (wc.heap[gb452]? = some (.cells #[.int .i64 a0_0, .int .i64 a0_1, .int .i64 a0_2] 122 (0, 0))) ∧ Aside0 (Below w.heap.size w wc))
   case first =>
    have H := HC12.out
    clear HC12
    by_cases c13 : a0_0 = 3
    ·
     rw [if_pos c13] at H
     have c13b0 : (a0_0 == 3) = true := beq_iff_eq.mpr c13
     have c13b1 : (a0_0 != 3) = false := bne_eq_false_iff_eq.mpr c13
     clear c13
     (first | rw [c13b0] | (simp only [i64_w, i32_w]; rw [c13b0]) | skip)
     replace H' := A_ H; clear H
     go_wp2
     go_meet
     case rel => exact ⟨_, ((a0_0 == 3)), rt_, H', ⟨by have := HJ1.out; first | omega | exact Nat.le_refl _⟩, ⟨bk_ BK452⟩, ⟨hb_ HB⟩⟩
    rw [if_neg c13] at H
    have c13b0 : (a0_0 == 3) = false := beq_eq_false_iff_ne.mpr c13
    have c13b1 : (a0_0 != 3) = true := bne_iff_ne.mpr c13
    (first | rw [c13b0] | (simp only [i64_w, i32_w]; rw [c13b0]) | skip)
    replace H' := A_ H; clear H
    go_wp2
    go_meet
    case rel => exact ⟨_, ((a0_0 == 4)), rt_, H', ⟨by have := HJ1.out; first | omega | exact Nat.le_refl _⟩, ⟨bk_ BK452⟩, ⟨hb_ HB⟩⟩
   case rest =>
    clear HC12
    try clear c5
    try clear c5b0
    try clear c5b1
    try clear c6
    try clear c8
    try clear c13
    try clear c13b0
    try clear c13b1
    obtain ⟨kq, x16_11, rfl, HA, HJ11, BK452, HB⟩ := hcut
    cases kq with
    | zero => exact absurd HA.out (by simp [impl_OpOk.j1])
    | succ kj11 =>
     have H := HA.out
     clear HA
     simp only [impl_OpOk.j1] at H
     by_cases c14 : x16_11 = true
     ·
      subst c14
      replace H := it_ H
      replace H := bs_ H
      obtain ⟨t455, A15, H⟩ := H
      by_cases c16 : t455 = true
      ·
       subst c16
       replace H := it_ H
       obtain rfl := Option.some.inj H
       obtain ⟨z17_0, z17_1, z17_2, y17_0, y17_1, y17_2⟩ := cz3_ BK452
       go_wp2_with (first | ((with_reducible refine gate_callee (f := 140) rfl ?_); refine goesL_ (some 21) rfl rfl Tryz.func140 (by kernel_rfl) rfl #[.int .i64 a0_1] rfl al_ ?_; (with_reducible refine (impl_KeyOk.calls a0_1 true _ A15.out).mono ?_); rintro e w' ⟨rfl, ⟨nd, rfl⟩⟩; refine ⟨_, rfl, ?_⟩))
       go_ret
       exact ⟨rs_, hb_ HB⟩
      obtain rfl := Bool.eq_false_iff.mpr c16
      replace H := iF_ H
      obtain rfl := Option.some.inj H
      obtain ⟨z18_0, z18_1, z18_2, y18_0, y18_1, y18_2⟩ := cz3_ BK452
      go_wp2_with (first | ((with_reducible refine gate_callee (f := 140) rfl ?_); refine goesL_ (some 21) rfl rfl Tryz.func140 (by kernel_rfl) rfl #[.int .i64 a0_1] rfl al_ ?_; (with_reducible refine (impl_KeyOk.calls a0_1 false _ A15.out).mono ?_); rintro e w' ⟨rfl, ⟨nd, rfl⟩⟩; refine ⟨_, rfl, ?_⟩))
      go_ret
      exact ⟨rs_, hb_ HB⟩
     obtain rfl := Bool.eq_false_iff.mpr c14
     replace H := iF_ H
     have HC19 := A_ H
     clear H
     go_upto_if 27 with (fail)
     go_cut [27] (fun v27 wc => ∃ (kq : Nat) (x27_18 : Bool), v27 = .bool x27_18 ∧ Aside0 (impl_OpOk.j2 kq a0_0 x27_18 a0_0 a0_1 a0_2 = some r) ∧ Aside0 (kq ≤ kj11) ∧ Aside0 (wc.heap[gb452]? = some (.cells #[.int .i64 a0_0, .int .i64 a0_1, .int .i64 a0_2] 122 (0, 0))) ∧ Aside0 (Below w.heap.size w wc))
     case first =>
      have H := HC19.out
      clear HC19
      by_cases c20 : a0_0 = 5
      ·
       rw [if_pos c20] at H
       have c20b0 : (a0_0 == 5) = true := beq_iff_eq.mpr c20
       have c20b1 : (a0_0 != 5) = false := bne_eq_false_iff_eq.mpr c20
       clear c20
       (first | rw [c20b0] | (simp only [i64_w, i32_w]; rw [c20b0]) | skip)
       replace H' := A_ H; clear H
       go_wp2
       go_meet
       case rel => exact ⟨_, ((a0_0 == 5)), rt_, H', ⟨by have := HJ1.out; have := HJ11.out; first | omega | exact Nat.le_refl _⟩, ⟨bk_ BK452⟩, ⟨hb_ HB⟩⟩
      rw [if_neg c20] at H
      have c20b0 : (a0_0 == 5) = false := beq_eq_false_iff_ne.mpr c20
      have c20b1 : (a0_0 != 5) = true := bne_iff_ne.mpr c20
      (first | rw [c20b0] | (simp only [i64_w, i32_w]; rw [c20b0]) | skip)
      replace H' := A_ H; clear H
      go_wp2
      go_meet
      case rel => exact ⟨_, ((a0_0 == 10)), rt_, H', ⟨by have := HJ1.out; have := HJ11.out; first | omega | exact Nat.le_refl _⟩, ⟨bk_ BK452⟩, ⟨hb_ HB⟩⟩
     case rest =>
      clear HC19
      try clear c5
      try clear c5b0
      try clear c5b1
      try clear c6
      try clear c8
      try clear c13
      try clear c13b0
      try clear c13b1
      try clear c14
      try clear c16
      try clear c20
      try clear c20b0
      try clear c20b1
      obtain ⟨kq, x27_18, rfl, HA, HJ18, BK452, HB⟩ := hcut
      cases kq with
      | zero => exact absurd HA.out (by simp [impl_OpOk.j2])
      | succ kj18 =>
       have H := HA.out
       clear HA
       simp only [impl_OpOk.j2] at H
       by_cases c21 : x27_18 = true
       ·
        subst c21
        replace H := it_ H
        by_cases c22 : a0_1 = 0
        ·
         rw [if_pos c22] at H
         have c22b0 : (a0_1 == 0) = true := beq_iff_eq.mpr c22
         have c22b1 : (a0_1 != 0) = false := bne_eq_false_iff_eq.mpr c22
         clear c22
         replace H := bs_ H
         obtain ⟨t456, A23, H⟩ := H
         obtain rfl := Option.some.inj H
         obtain ⟨z24_0, z24_1, z24_2, y24_0, y24_1, y24_2⟩ := cz3_ BK452
         go_wp2_with (first | (go_at_call 141; (with_reducible refine (impl_ValOk.calls a0_2 t456 _ A23.out).mono ?_); rintro e w' ⟨rfl, ⟨nd, rfl⟩⟩))
         go_ret
         exact ⟨rs_, hb_ HB⟩
        rw [if_neg c22] at H
        have c22b0 : (a0_1 == 0) = false := beq_eq_false_iff_ne.mpr c22
        have c22b1 : (a0_1 != 0) = true := bne_iff_ne.mpr c22
        obtain rfl := Option.some.inj H
        obtain ⟨z25_0, z25_1, z25_2, y25_0, y25_1, y25_2⟩ := cz3_ BK452
        go_wp2
        go_ret
        exact ⟨rs_, hb_ HB⟩
       obtain rfl := Bool.eq_false_iff.mpr c21
       replace H := iF_ H
       by_cases c26 : a0_0 = 6
       ·
        rw [if_pos c26] at H
        have c26b0 : (a0_0 == 6) = true := beq_iff_eq.mpr c26
        have c26b1 : (a0_0 != 6) = false := bne_eq_false_iff_eq.mpr c26
        clear c26
        replace H := bs_ H
        obtain ⟨t457, A27, H⟩ := H
        by_cases c28 : t457 = true
        ·
         subst c28
         replace H := it_ H
         obtain rfl := Option.some.inj H
         obtain ⟨z29_0, z29_1, z29_2, y29_0, y29_1, y29_2⟩ := cz3_ BK452
         go_wp2_with (first | ((with_reducible refine gate_callee (f := 142) rfl ?_); refine goesL_ (some 42) rfl rfl Tryz.func142 (by kernel_rfl) rfl #[.int .i64 a0_1] rfl al_ ?_; (with_reducible refine (impl_isClass.calls a0_1 true _ A27.out).mono ?_); rintro e w' ⟨rfl, ⟨nd, rfl⟩⟩; refine ⟨_, rfl, ?_⟩))
         go_ret
         exact ⟨rs_, hb_ HB⟩
        obtain rfl := Bool.eq_false_iff.mpr c28
        replace H := iF_ H
        obtain rfl := Option.some.inj H
        obtain ⟨z30_0, z30_1, z30_2, y30_0, y30_1, y30_2⟩ := cz3_ BK452
        go_wp2_with (first | ((with_reducible refine gate_callee (f := 142) rfl ?_); refine goesL_ (some 42) rfl rfl Tryz.func142 (by kernel_rfl) rfl #[.int .i64 a0_1] rfl al_ ?_; (with_reducible refine (impl_isClass.calls a0_1 false _ A27.out).mono ?_); rintro e w' ⟨rfl, ⟨nd, rfl⟩⟩; refine ⟨_, rfl, ?_⟩))
        go_ret
        exact ⟨rs_, hb_ HB⟩
       rw [if_neg c26] at H
       have c26b0 : (a0_0 == 6) = false := beq_eq_false_iff_ne.mpr c26
       have c26b1 : (a0_0 != 6) = true := bne_iff_ne.mpr c26
       by_cases c31 : a0_0 = 7
       ·
        rw [if_pos c31] at H
        have c31b0 : (a0_0 == 7) = true := beq_iff_eq.mpr c31
        have c31b1 : (a0_0 != 7) = false := bne_eq_false_iff_eq.mpr c31
        clear c31
        by_cases c32 : a0_1 = 0
        ·
         rw [if_pos c32] at H
         have c32b0 : (a0_1 == 0) = true := beq_iff_eq.mpr c32
         have c32b1 : (a0_1 != 0) = false := bne_eq_false_iff_eq.mpr c32
         clear c32
         obtain rfl := Option.some.inj H
         obtain ⟨z33_0, z33_1, z33_2, y33_0, y33_1, y33_2⟩ := cz3_ BK452
         go_wp2
         go_ret
         exact ⟨rs_, hb_ HB⟩
        rw [if_neg c32] at H
        have c32b0 : (a0_1 == 0) = false := beq_eq_false_iff_ne.mpr c32
        have c32b1 : (a0_1 != 0) = true := bne_iff_ne.mpr c32
        obtain rfl := Option.some.inj H
        obtain ⟨z34_0, z34_1, z34_2, y34_0, y34_1, y34_2⟩ := cz3_ BK452
        go_wp2
        go_ret
        exact ⟨rs_, hb_ HB⟩
       rw [if_neg c31] at H
       have c31b0 : (a0_0 == 7) = false := beq_eq_false_iff_ne.mpr c31
       have c31b1 : (a0_0 != 7) = true := bne_iff_ne.mpr c31
       by_cases c35 : a0_0 = 8
       ·
        rw [if_pos c35] at H
        have c35b0 : (a0_0 == 8) = true := beq_iff_eq.mpr c35
        have c35b1 : (a0_0 != 8) = false := bne_eq_false_iff_eq.mpr c35
        clear c35
        by_cases c36 : a0_1 = 0
        ·
         rw [if_pos c36] at H
         have c36b0 : (a0_1 == 0) = true := beq_iff_eq.mpr c36
         have c36b1 : (a0_1 != 0) = false := bne_eq_false_iff_eq.mpr c36
         clear c36
         obtain rfl := Option.some.inj H
         obtain ⟨z37_0, z37_1, z37_2, y37_0, y37_1, y37_2⟩ := cz3_ BK452
         go_wp2
         go_ret
         exact ⟨rs_, hb_ HB⟩
        rw [if_neg c36] at H
        have c36b0 : (a0_1 == 0) = false := beq_eq_false_iff_ne.mpr c36
        have c36b1 : (a0_1 != 0) = true := bne_iff_ne.mpr c36
        obtain rfl := Option.some.inj H
        obtain ⟨z38_0, z38_1, z38_2, y38_0, y38_1, y38_2⟩ := cz3_ BK452
        go_wp2
        go_ret
        exact ⟨rs_, hb_ HB⟩
       rw [if_neg c35] at H
       have c35b0 : (a0_0 == 8) = false := beq_eq_false_iff_ne.mpr c35
       have c35b1 : (a0_0 != 8) = true := bne_iff_ne.mpr c35
       by_cases c39 : a0_0 = 9
       ·
        rw [if_pos c39] at H
        have c39b0 : (a0_0 == 9) = true := beq_iff_eq.mpr c39
        have c39b1 : (a0_0 != 9) = false := bne_eq_false_iff_eq.mpr c39
        clear c39
        by_cases c40 : a0_1 = 0
        ·
         rw [if_pos c40] at H
         have c40b0 : (a0_1 == 0) = true := beq_iff_eq.mpr c40
         have c40b1 : (a0_1 != 0) = false := bne_eq_false_iff_eq.mpr c40
         clear c40
         obtain rfl := Option.some.inj H
         obtain ⟨z41_0, z41_1, z41_2, y41_0, y41_1, y41_2⟩ := cz3_ BK452
         go_wp2
         go_ret
         exact ⟨rs_, hb_ HB⟩
        rw [if_neg c40] at H
        have c40b0 : (a0_1 == 0) = false := beq_eq_false_iff_ne.mpr c40
        have c40b1 : (a0_1 != 0) = true := bne_iff_ne.mpr c40
        obtain rfl := Option.some.inj H
        obtain ⟨z42_0, z42_1, z42_2, y42_0, y42_1, y42_2⟩ := cz3_ BK452
        go_wp2
        go_ret
        exact ⟨rs_, hb_ HB⟩
       rw [if_neg c39] at H
       have c39b0 : (a0_0 == 9) = false := beq_eq_false_iff_ne.mpr c39
       have c39b1 : (a0_0 != 9) = true := bne_iff_ne.mpr c39
       obtain rfl := Option.some.inj H
       go_wp2
       go_ret
       exact ⟨rs_, hb_ HB⟩
def impl_ThreadOk_c1.f (k : Nat) (a0_0 : Int) (a0_1 : Int) (a0_2 : Int) : Option (Bool) := (impl_OpOk.f k a0_0 a0_1 a0_2).bind fun t459 => (some (!t459))
set_option maxHeartbeats 8000000 in
set_option maxRecDepth 100000 in
theorem impl_ThreadOk_c1.calls (k : Nat) (a0_0 : Int) (a0_1 : Int) (a0_2 : Int) (r : Bool) (w : World) (h : impl_ThreadOk_c1.f k a0_0 a0_1 a0_2 = some r) :
    Calls Tryz.prog 87 #[.agg #[.int .i64 a0_0, .int .i64 a0_1, .int .i64 a0_2]] w fun e w' => e = .returned (.bool r) ∧ Below w.heap.size w w' := by
 have hu122 := Tryz.underlying122
 have HB := A_ (Below.refl w.heap.size w)
 have H : ((impl_OpOk.f k a0_0 a0_1 a0_2).bind fun t459 => (some (!t459))) = some r := h
 clear h
 replace H := bs_ H
 obtain ⟨t459, A2, H⟩ := H
 obtain rfl := Option.some.inj H
 go_enter Tryz.func87, Tryz.ntmps87
 go_wp2_with (first | ((with_reducible refine gate_dst (N := 1) rfl ?_); refine Y22_ ?_; clear HB; intro gb458 w3 BK458 GW458 HB z4_0 z4_1 z4_2 y4_0 y4_1 y4_2) | ((with_reducible refine gate_callee (f := 88) rfl ?_); refine goesL_ (some 4) rfl rfl Tryz.func88 (by kernel_rfl) rfl #[.agg #[.int .i64 a0_0, .int .i64 a0_1, .int .i64 a0_2]] rfl al_ ?_; (with_reducible refine (impl_OpOk.calls k a0_0 a0_1 a0_2 t459 _ A2.out).mono ?_); rintro e w5 ⟨rfl, hb⟩; refine ⟨_, rfl, ?_⟩; replace BK458 := bb_ BK458 hb; replace HB := hs_ HB hb; clear hb))
 go_ret
 exact ⟨rs_, hb_ HB⟩
def slices_IndexFuncThreadOk_c1.l0 : Nat → List (S122) → Int → Int → Option (Int)
 | 0, _, _, _ => none
 | k + 1, x0, x7, x8 => if x8 < x7 then (if 0 ≤ x8 then (if x8 < (x0.length : Int) then ((impl_ThreadOk_c1.f k ((rd_T122 x0 x8).f0) ((rd_T122 x0 x8).f1) ((rd_T122 x0 x8).f2)).bind fun t461 => (if t461 = true then (some x8) else (slices_IndexFuncThreadOk_c1.l0 k x0 x7 (wrap64 (x8 + 1))))) else (none)) else (none)) else (some (-1))
def slices_IndexFuncThreadOk_c1.f (k : Nat) (l0 : List (S122)) : Option (Int) := slices_IndexFuncThreadOk_c1.l0 k l0 (l0.length : Int) 0
set_option maxHeartbeats 8000000 in
set_option maxRecDepth 100000 in
theorem slices_IndexFuncThreadOk_c1.calls (k : Nat) (A0 : Option Addr) (c0 : Nat) (l0 : List (S122)) (r : Int) (w : World) (hr0 : Kd.C k122 w A0 l0.length l0) (hc0 : l0.length ≤ c0) (h : slices_IndexFuncThreadOk_c1.f k l0 = some r) :
    Calls Tryz.prog 139 #[.slice A0 l0.length c0, .func (.func 87) #[] #[]] w fun e w' => e = .returned (.int .i64 r) ∧ Below w.heap.size w w' := by
 have hu122 := Tryz.underlying122
 have HR0 := A_ hr0
 have HC0 := A_ hc0
 clear hr0 hc0
 have HB := A_ (Below.refl w.heap.size w)
 have H : (slices_IndexFuncThreadOk_c1.l0 k l0 (l0.length : Int) 0) = some r := h
 clear h
 replace H' := A_ H; clear H
 go_enter Tryz.func139, Tryz.ntmps139
 go_wp2
 go_loopg [8] k (fun kq v8 w' => ∃ (x8_1 : Int), v8 = .int .i64 x8_1 ∧ Aside0 (slices_IndexFuncThreadOk_c1.l0 kq l0 (l0.length : Int) x8_1 = some r) ∧ Aside0 (kq ≤ k) ∧ Aside0 (Below w.heap.size w w'))
 case atStart => exact ⟨(0), rt_, H', ⟨Nat.le_refl _⟩, ⟨hb_ HB⟩⟩
 case round =>
  clear H'
  obtain ⟨x8_1, rfl, HA, HK1, HB⟩ := hrel
  cases gk with
  | zero => exact absurd HA.out (by simp [slices_IndexFuncThreadOk_c1.l0])
  | succ k1 =>
   have H := HA.out
   clear HA
   simp only [slices_IndexFuncThreadOk_c1.l0] at H
   replace H := ic_ H
   rcases H with ⟨c2b0, H⟩ | ⟨c2b0, H⟩
   ·
    replace H := ix_ H
    obtain ⟨c3b0, H⟩ := H
    replace H := ix_ H
    obtain ⟨c4b0, H⟩ := H
    replace H := bs_ H
    obtain ⟨t461, A5, H⟩ := H
    by_cases c6 : t461 = true
    ·
     subst c6
     replace H := it_ H
     obtain rfl := Option.some.inj H
     obtain ⟨ad460, p460, q460, rfl, u460_0, u460_1, u460_2⟩ := ab_T122 HB HR0 x8_1
     go_wp2_with (first | ((with_reducible refine gate_dst (N := 16) rfl ?_); refine goesV_ (c := .tmp 11) (some 16) rfl rfl Tryz.func87 (by kernel_rfl) rfl #[.agg #[.int .i64 ((rd_T122 l0 x8_1).f0), .int .i64 ((rd_T122 l0 x8_1).f1), .int .i64 ((rd_T122 l0 x8_1).f2)]] rfl rfl al_ ?_; (with_reducible refine (impl_ThreadOk_c1.calls k1 ((rd_T122 l0 x8_1).f0) ((rd_T122 l0 x8_1).f1) ((rd_T122 l0 x8_1).f2) true _ A5.out).mono ?_); rintro e w7 ⟨rfl, hb⟩; refine ⟨_, rfl, ?_⟩; replace HB := hs_ HB hb; clear hb))
     go_ret
     exact ⟨rs_, hb_ HB⟩
    obtain rfl := Bool.eq_false_iff.mpr c6
    replace H := iF_ H
    replace H' := A_ H; clear H
    obtain ⟨ad460, p460, q460, rfl, u460_0, u460_1, u460_2⟩ := ab_T122 HB HR0 x8_1
    go_wp2_with (first | ((with_reducible refine gate_dst (N := 16) rfl ?_); refine goesV_ (c := .tmp 11) (some 16) rfl rfl Tryz.func87 (by kernel_rfl) rfl #[.agg #[.int .i64 ((rd_T122 l0 x8_1).f0), .int .i64 ((rd_T122 l0 x8_1).f1), .int .i64 ((rd_T122 l0 x8_1).f2)]] rfl rfl al_ ?_; (with_reducible refine (impl_ThreadOk_c1.calls k1 ((rd_T122 l0 x8_1).f0) ((rd_T122 l0 x8_1).f1) ((rd_T122 l0 x8_1).f2) false _ A5.out).mono ?_); rintro e w8 ⟨rfl, hb⟩; refine ⟨_, rfl, ?_⟩; replace HB := hs_ HB hb; clear hb))
    go_roundg k1
    case measure => have := HK1.out; omega
    case rel => exact ⟨(wrap64 (x8_1 + 1)), rt_, H', ⟨by have := HK1.out; omega⟩, ⟨hb_ HB⟩⟩
   obtain rfl := Option.some.inj H
   go_wp2
   go_ret
   exact ⟨rs_, hb_ HB⟩
def slices_ContainsFuncThreadOk_c1.f (k : Nat) (l0 : List (S122)) : Option (Bool) := (slices_IndexFuncThreadOk_c1.f k l0).bind fun t462 => (some (decide (t462 ≥ 0)))
set_option maxHeartbeats 8000000 in
set_option maxRecDepth 100000 in
theorem slices_ContainsFuncThreadOk_c1.calls (k : Nat) (A0 : Option Addr) (c0 : Nat) (l0 : List (S122)) (r : Bool) (w : World) (hr0 : Kd.C k122 w A0 l0.length l0) (hc0 : l0.length ≤ c0) (h : slices_ContainsFuncThreadOk_c1.f k l0 = some r) :
    Calls Tryz.prog 86 #[.slice A0 l0.length c0, .func (.func 87) #[] #[]] w fun e w' => e = .returned (.bool r) ∧ Below w.heap.size w w' := by
 have HR0 := A_ hr0
 have HC0 := A_ hc0
 clear hr0 hc0
 have HB := A_ (Below.refl w.heap.size w)
 have H : ((slices_IndexFuncThreadOk_c1.f k l0).bind fun t462 => (some (decide (t462 ≥ 0)))) = some r := h
 clear h
 replace H := bs_ H
 obtain ⟨t462, A2, H⟩ := H
 obtain rfl := Option.some.inj H
 go_enter Tryz.func86, Tryz.ntmps86
 go_wp2_with (first | ((with_reducible refine gate_callee (f := 139) rfl ?_); refine goesL_ (some 7) rfl rfl Tryz.func139 (by kernel_rfl) rfl #[.slice A0 l0.length c0, .func (.func 87) #[] #[]] rfl al_ ?_; (with_reducible refine (slices_IndexFuncThreadOk_c1.calls k _ _ l0 t462 _ ?s1 ?s2 A2.out).mono ?_); (case s1 => exact cb_ HR0.out); (case s2 => exact HC0.out); rintro e w3 ⟨rfl, hb⟩; refine ⟨_, rfl, ?_⟩; replace HB := hs_ HB hb; clear hb))
 go_ret
 exact ⟨rs_, hb_ HB⟩
def impl_ThreadOk_c2.f (a0_0 : Int) (a0_1 : Int) : Option (Bool) := (impl_isPlace.f a0_0).bind fun t464 => (if t464 = true then ((impl_isWordNum.f a0_1).bind fun t465 => (some (!t465))) else (some true))
set_option maxHeartbeats 8000000 in
set_option maxRecDepth 100000 in
theorem impl_ThreadOk_c2.calls (a0_0 : Int) (a0_1 : Int) (r : Bool) (w : World) (h : impl_ThreadOk_c2.f a0_0 a0_1 = some r) :
    Calls Tryz.prog 90 #[.agg #[.int .i64 a0_0, .int .i64 a0_1]] w fun e w' => e = .returned (.bool r) ∧ Below w.heap.size w w' := by
 have hu125 := Tryz.underlying125
 have HB := A_ (Below.refl w.heap.size w)
 have H : ((impl_isPlace.f a0_0).bind fun t464 => (if t464 = true then ((impl_isWordNum.f a0_1).bind fun t465 => (some (!t465))) else (some true))) = some r := h
 clear h
 replace H := bs_ H
 obtain ⟨t464, A2, H⟩ := H
 by_cases c3 : t464 = true
 ·
  subst c3
  replace H := it_ H
  replace H := bs_ H
  obtain ⟨t465, A4, H⟩ := H
  obtain rfl := Option.some.inj H
  go_enter Tryz.func90, Tryz.ntmps90
  go_wp2_with (first | ((with_reducible refine gate_dst (N := 1) rfl ?_); refine bx_ HB rfl (N := 1) rfl (cs := #[.int .i64 a0_0, .int .i64 a0_1]) (t := 125) hr_ ?_; clear HB; intro gb463 w5 hg hb BK463 GW463 HB; clear hb hg; obtain ⟨z6_0, z6_1, y6_0, y6_1⟩ := cz2_ BK463) | ((with_reducible refine gate_callee (f := 91) rfl ?_); refine goesL_ (some 5) rfl rfl Tryz.func91 (by kernel_rfl) rfl #[.int .i64 a0_0] rfl al_ ?_; (with_reducible refine (impl_isPlace.calls a0_0 true _ A2.out).mono ?_); rintro e w' ⟨rfl, ⟨nd, rfl⟩⟩; refine ⟨_, rfl, ?_⟩) | (go_at_call 92; (with_reducible refine (impl_isWordNum.calls a0_1 t465 _ A4.out).mono ?_); rintro e w' ⟨rfl, ⟨nd, rfl⟩⟩))
  go_ret
  exact ⟨rs_, hb_ HB⟩
 obtain rfl := Bool.eq_false_iff.mpr c3
 replace H := iF_ H
 obtain rfl := Option.some.inj H
 go_enter Tryz.func90, Tryz.ntmps90
 go_wp2_with (first | ((with_reducible refine gate_dst (N := 1) rfl ?_); refine bx_ HB rfl (N := 1) rfl (cs := #[.int .i64 a0_0, .int .i64 a0_1]) (t := 125) hr_ ?_; clear HB; intro gb463 w7 hg hb BK463 GW463 HB; clear hb hg; obtain ⟨z8_0, z8_1, y8_0, y8_1⟩ := cz2_ BK463) | ((with_reducible refine gate_callee (f := 91) rfl ?_); refine goesL_ (some 5) rfl rfl Tryz.func91 (by kernel_rfl) rfl #[.int .i64 a0_0] rfl al_ ?_; (with_reducible refine (impl_isPlace.calls a0_0 false _ A2.out).mono ?_); rintro e w' ⟨rfl, ⟨nd, rfl⟩⟩; refine ⟨_, rfl, ?_⟩))
 go_ret
 exact ⟨rs_, hb_ HB⟩
end Go.Proofs.YtdcinhpdpoodfaaGreat.PFnExactFinished
