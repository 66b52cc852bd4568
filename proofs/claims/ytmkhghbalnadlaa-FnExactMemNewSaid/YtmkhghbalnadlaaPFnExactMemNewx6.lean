/- Contracts of functions of the program: each says that the call does what a plain Lean function tells. Made by programs of this session and of the kit. No condition beyond the hypotheses that each theorem names. -/
import Derived.Test.YtmkhghbalnadlaaPFnExactMemNewx0
import Derived.Test.YtmkhghbalnadlaaPFnExactMemNewx2
import Derived.Test.YtmkhghbalnadlaaPFnExactMemNewx4
namespace Go.Proofs.Ytmkhghbalnadlaa.PFnExactMemNew
open Go.RowKit Go.Proofs.YtmkhghbalnadlaaW.PrintWords Go.Proofs.YtmkhghbalnadlaaW.PrintLast Go.Proofs.YtmkhghbalnadlaaW.PrintMore
attribute [local go_sem] max2_int min2_int max_two min_two max_three min_three max_four min_four   -- for this text's walks alone
set_option linter.unusedVariables false
set_option linter.unusedSimpArgs false

/-! ### spec_l1Bit: function 154 -/
def spec_l1Bit.f (a0 : Bool) : Option (Int) := if a0 = true then (some 1) else (some 0)
set_option maxHeartbeats 8000000 in
set_option maxRecDepth 100000 in
theorem spec_l1Bit.calls (a0 : Bool) (r : Int) (w : World) (h : spec_l1Bit.f a0 = some r) :
    Calls Try.prog 154 #[.bool a0] w fun e w' => e = .returned (.int .i64 r) ∧ Drawn0 w w' := by
 have H : (if a0 = true then (some 1) else (some 0)) = some r := h
 clear h
 by_cases c2 : a0 = true
 ·
  subst c2
  replace H := it_ H
  obtain rfl := Option.some.inj H
  go_enter Try.func154, Try.ntmps154
  go_wp2
  go_ret
  exact ⟨rt_, by repeat (first | exact Drawn0.refl _ | apply Drawn0.step)⟩
 obtain rfl := Bool.eq_false_iff.mpr c2
 replace H := iF_ H
 obtain rfl := Option.some.inj H
 go_enter Try.func154, Try.ntmps154
 go_wp2
 go_ret
 exact ⟨rt_, by repeat (first | exact Drawn0.refl _ | apply Drawn0.step)⟩

/-! ### spec_ClassOf: function 155 -/
def spec_ClassOf.f (a0 : Int) : Option (Int) := (spec_ValOk.f a0).bind fun t188 => (if t188 = true then (some (Int.tmod a0 3)) else (some (-1)))
set_option maxHeartbeats 8000000 in
set_option maxRecDepth 100000 in
theorem spec_ClassOf.calls (a0 : Int) (r : Int) (w : World) (h : spec_ClassOf.f a0 = some r) :
    Calls Try.prog 155 #[.int .i64 a0] w fun e w' => e = .returned (.int .i64 r) ∧ Drawn0 w w' := by
 have H : ((spec_ValOk.f a0).bind fun t188 => (if t188 = true then (some (Int.tmod a0 3)) else (some (-1)))) = some r := h
 clear h
 replace H := bs_ H
 obtain ⟨t188, A2, H⟩ := H
 by_cases c3 : t188 = true
 ·
  subst c3
  replace H := it_ H
  obtain rfl := Option.some.inj H
  go_enter Try.func155, Try.ntmps155
  go_wp2_with (first | ((with_reducible refine gate_callee (f := 91) rfl ?_); refine goesL_ (some 4) rfl rfl Try.func91 (by kernel_rfl) rfl #[.int .i64 a0] rfl al_ ?_; (with_reducible refine (spec_ValOk.calls a0 true _ A2.out).mono ?_); rintro e w' ⟨rfl, ⟨nd, rfl⟩⟩; refine ⟨_, rfl, ?_⟩))
  go_ret
  exact ⟨rt_, by repeat (first | exact Drawn0.refl _ | apply Drawn0.step)⟩
 obtain rfl := Bool.eq_false_iff.mpr c3
 replace H := iF_ H
 obtain rfl := Option.some.inj H
 go_enter Try.func155, Try.ntmps155
 go_wp2_with (first | ((with_reducible refine gate_callee (f := 91) rfl ?_); refine goesL_ (some 4) rfl rfl Try.func91 (by kernel_rfl) rfl #[.int .i64 a0] rfl al_ ?_; (with_reducible refine (spec_ValOk.calls a0 false _ A2.out).mono ?_); rintro e w' ⟨rfl, ⟨nd, rfl⟩⟩; refine ⟨_, rfl, ?_⟩))
 go_ret
 exact ⟨rt_, by repeat (first | exact Drawn0.refl _ | apply Drawn0.step)⟩

/-! ### spec_HowMany: function 134 -/
def spec_HowMany.l0 : Nat → Int → Int → Int → List Int → Int → Option (Int)
 | 0, _, _, _, _, _ => none
 | k + 1, x1, x5, x6, x190000, x190001 => if x6 < (x190000.length : Int) then (if 0 ≤ x6 then ((spec_ValOk.f (rd x190000 x6)).bind fun t191 => (if t191 = true then ((spec_ClassOf.f (rd x190000 x6)).bind fun t193 => ((spec_l1Bit.f (t193 == x1)).bind fun t194 => (spec_HowMany.l0 k x1 (wrap64 (x5 + t194)) (wrap64 (x6 + 1)) x190000 x190001))) else ((spec_l1Bit.f false).bind fun t195 => (spec_HowMany.l0 k x1 (wrap64 (x5 + t195)) (wrap64 (x6 + 1)) x190000 x190001)))) else (none)) else (some x5)
def spec_HowMany.f (k : Nat) (l0_0 : List Int) (a0_1 : Int) (a1 : Int) : Option (Int) := spec_HowMany.l0 k a1 0 0 l0_0 a0_1
theorem spec_HowMany.mono_l : ∀ k, (∀ y0 y1 y2 y3 y4, LeO (spec_HowMany.l0 k y0 y1 y2 y3 y4) (spec_HowMany.l0 (k + 1) y0 y1 y2 y3 y4))
 | 0 => fun _ _ _ _ _ r h => by simp [spec_HowMany.l0] at h
 | k + 1 => by
  have ih0 := spec_HowMany.mono_l k
  ·
   intro y0 y1 y2 y3 y4
   unfold spec_HowMany.l0
   repeat' first | (with_reducible first | apply ih0 | apply LeO.refl | apply LeO.none | apply LeO.ite | refine LeO.bind ?_ (fun _ => ?_)) | apply ih0 | apply LeO.none | apply LeO.ite | refine LeO.bind ?_ (fun _ => ?_)
theorem spec_HowMany.mono : ∀ a0 a1 a2 k, LeO (spec_HowMany.f k a0 a1 a2) (spec_HowMany.f (k + 1) a0 a1 a2) := by
 intro a0 a1 a2 k
 have ih0 := spec_HowMany.mono_l k
 unfold spec_HowMany.f
 repeat' first | (with_reducible first | apply ih0 | apply LeO.refl | apply LeO.none | apply LeO.ite | refine LeO.bind ?_ (fun _ => ?_)) | apply ih0 | apply LeO.none | apply LeO.ite | refine LeO.bind ?_ (fun _ => ?_)
set_option maxHeartbeats 8000000 in
set_option maxRecDepth 100000 in
theorem spec_HowMany.calls (k : Nat) (A0_0 : Option Addr) (c0_0 : Nat) (l0_0 : List Int) (a0_1 : Int) (a1 : Int) (r : Int) (w : World) (hr0_0 : Kd.C (Kd.int .i64) w A0_0 l0_0.length l0_0) (hc0_0 : l0_0.length ≤ c0_0) (h : spec_HowMany.f k l0_0 a0_1 a1 = some r) :
    Calls Try.prog 134 #[.agg #[.slice A0_0 l0_0.length c0_0, .int .i64 a0_1], .int .i64 a1] w fun e w' => e = .returned (.int .i64 r) ∧ Below w.heap.size w w' := by
 have hu44 := Try.underlying44
 have HR0_0 := A_ hr0_0
 have HC0_0 := A_ hc0_0
 clear hr0_0 hc0_0
 have HB := A_ (Below.refl w.heap.size w)
 have H : (spec_HowMany.l0 k a1 0 0 l0_0 a0_1) = some r := h
 clear h
 replace H' := A_ H; clear H
 go_enter Try.func134, Try.ntmps134
 go_wp2_with (first | ((with_reducible refine gate_dst (N := 2) rfl ?_); refine bx_ HB rfl (N := 2) rfl (cs := #[.slice A0_0 l0_0.length c0_0, .int .i64 a0_1]) (t := 44) hr_ ?_; clear HB; intro gb189 w3 hg hb BK189 GW189 HB; clear hb hg))
 go_loopg [5, 6] k (fun kq v5 v6 w' => ∃ (x5_1 : Int) (x6_1 : Int), v5 = .int .i64 x5_1 ∧ v6 = .int .i64 x6_1 ∧ Aside0 (spec_HowMany.l0 kq a1 x5_1 x6_1 l0_0 a0_1 = some r) ∧ Aside0 (kq ≤ k) ∧ Aside0 (w'.heap[gb189]? = some (.cells #[(.slice A0_0 l0_0.length c0_0), .int .i64 a0_1] 44 (0, 0))) ∧ Aside0 (Below w.heap.size w w'))
 case atStart => exact ⟨(0), (0), rt_, rt_, H', ⟨Nat.le_refl _⟩, ⟨bk_ BK189⟩, ⟨hb_ HB⟩⟩
 case round =>
  clear H'
  obtain ⟨x5_1, x6_1, rfl, rfl, HA, HK1, BK189, HB⟩ := hrel
  cases gk with
  | zero => exact absurd HA.out (by simp [spec_HowMany.l0])
  | succ k1 =>
   have H := HA.out
   clear HA
   simp only [spec_HowMany.l0] at H
   replace H := ic_ H
   rcases H with ⟨c4b0, H⟩ | ⟨c4b0, H⟩
   ·
    replace H := ix_ H
    obtain ⟨c5b0, H⟩ := H
    replace H := bs_ H
    obtain ⟨t191, A6, H⟩ := H
    by_cases c7 : t191 = true
    ·
     subst c7
     replace H := it_ H
     replace H := bs_ H
     obtain ⟨t193, A8, H⟩ := H
     replace H := bs_ H
     obtain ⟨t194, A9, H⟩ := H
     replace H' := A_ H; clear H
     obtain ⟨hcz10_0, hcz10_1, hfz10_0, hfz10_1⟩ := cz2_ BK189
     obtain ⟨ad190, p190, q190, rfl, hx190_0⟩ := ab_int HB HR0_0 x6_1
     go_wp2_with (first | ((with_reducible refine gate_callee (f := 91) rfl ?_); refine goesL_ (some 20) rfl rfl Try.func91 (by kernel_rfl) rfl #[.int .i64 (rd l0_0 x6_1)] rfl al_ ?_; (with_reducible refine (spec_ValOk.calls (rd l0_0 x6_1) true _ A6.out).mono ?_); rintro e w' ⟨rfl, ⟨nd, rfl⟩⟩; refine ⟨_, rfl, ?_⟩; have p192 : 0 ≤ (x6_1 : Int) := od_; have q192 : x6_1 < (l0_0.length : Int) := od_; obtain ⟨ad192, e192, hx192_0⟩ := Kd.at_int HR0_0.out x6_1 p192 q192; obtain rfl : ad190 = ad192 := (by injection e192); replace hx192_0 := hx_ HB hx192_0; replace p192 := eq_true p192; replace q192 := eq_true q192) | (go_at_call 155; (with_reducible refine (spec_ClassOf.calls (rd l0_0 x6_1) t193 _ A8.out).mono ?_); rintro e w' ⟨rfl, ⟨nd, rfl⟩⟩) | ((with_reducible refine gate_callee (f := 154) rfl ?_); refine goesL_ (some 31) rfl rfl Try.func154 (by kernel_rfl) rfl #[.bool (t193 == a1)] rfl al_ ?_; (with_reducible refine (spec_l1Bit.calls (t193 == a1) t194 _ A9.out).mono ?_); rintro e w' ⟨rfl, ⟨nd, rfl⟩⟩; refine ⟨_, rfl, ?_⟩))
     go_roundg k1
     case measure => have := HK1.out; omega
     case rel => exact ⟨(wrap64 (x5_1 + t194)), (wrap64 (x6_1 + 1)), rt_, rt_, H', ⟨by have := HK1.out; omega⟩, ⟨bk_ BK189⟩, ⟨hb_ HB⟩⟩
    obtain rfl := Bool.eq_false_iff.mpr c7
    replace H := iF_ H
    replace H := bs_ H
    obtain ⟨t195, A11, H⟩ := H
    replace H' := A_ H; clear H
    obtain ⟨hcz12_0, hcz12_1, hfz12_0, hfz12_1⟩ := cz2_ BK189
    obtain ⟨ad190, p190, q190, rfl, hx190_0⟩ := ab_int HB HR0_0 x6_1
    go_wp2_with (first | ((with_reducible refine gate_callee (f := 91) rfl ?_); refine goesL_ (some 20) rfl rfl Try.func91 (by kernel_rfl) rfl #[.int .i64 (rd l0_0 x6_1)] rfl al_ ?_; (with_reducible refine (spec_ValOk.calls (rd l0_0 x6_1) false _ A6.out).mono ?_); rintro e w' ⟨rfl, ⟨nd, rfl⟩⟩; refine ⟨_, rfl, ?_⟩) | ((with_reducible refine gate_callee (f := 154) rfl ?_); refine goesL_ (some 31) rfl rfl Try.func154 (by kernel_rfl) rfl #[.bool false] rfl al_ ?_; (with_reducible refine (spec_l1Bit.calls false t195 _ A11.out).mono ?_); rintro e w' ⟨rfl, ⟨nd, rfl⟩⟩; refine ⟨_, rfl, ?_⟩))
    go_roundg k1
    case measure => have := HK1.out; omega
    case rel => exact ⟨(wrap64 (x5_1 + t195)), (wrap64 (x6_1 + 1)), rt_, rt_, H', ⟨by have := HK1.out; omega⟩, ⟨bk_ BK189⟩, ⟨hb_ HB⟩⟩
   obtain rfl := Option.some.inj H
   obtain ⟨hcz13_0, hcz13_1, hfz13_0, hfz13_1⟩ := cz2_ BK189
   go_wp2
   go_ret
   exact ⟨rs_, hb_ HB⟩

/-! ### spec_KeyOk: function 89 -/
def spec_KeyOk.f (a0 : Int) : Option (Bool) := (spec_l1In.f a0 0 3).bind fun t196 => (some t196)
set_option maxHeartbeats 8000000 in
set_option maxRecDepth 100000 in
theorem spec_KeyOk.calls (a0 : Int) (r : Bool) (w : World) (h : spec_KeyOk.f a0 = some r) :
    Calls Try.prog 89 #[.int .i64 a0] w fun e w' => e = .returned (.bool r) ∧ Drawn0 w w' := by
 have H : ((spec_l1In.f a0 0 3).bind fun t196 => (some t196)) = some r := h
 clear h
 replace H := bs_ H
 obtain ⟨t196, A2, H⟩ := H
 obtain rfl := Option.some.inj H
 go_enter Try.func89, Try.ntmps89
 go_wp2_with (first | ((with_reducible refine gate_callee (f := 87) rfl ?_); refine goesL_ (some 4) rfl rfl Try.func87 (by kernel_rfl) rfl #[.int .i64 a0, .int .i64 0, .int .i64 3] rfl al_ ?_; (with_reducible refine (spec_l1In.calls a0 0 3 t196 _ A2.out).mono ?_); rintro e w' ⟨rfl, ⟨nd, rfl⟩⟩; refine ⟨_, rfl, ?_⟩))
 go_ret
 exact ⟨rt_, by repeat (first | exact Drawn0.refl _ | apply Drawn0.step)⟩

/-! ### spec_RowAt: function 136 -/
def spec_RowAt.f (a0 : Int) : Option (Int) := (spec_KeyOk.f a0).bind fun t197 => (if t197 = true then (some a0) else (some (-1)))
set_option maxHeartbeats 8000000 in
set_option maxRecDepth 100000 in
theorem spec_RowAt.calls (a0 : Int) (r : Int) (w : World) (h : spec_RowAt.f a0 = some r) :
    Calls Try.prog 136 #[.int .i64 a0] w fun e w' => e = .returned (.int .i64 r) ∧ Drawn0 w w' := by
 have H : ((spec_KeyOk.f a0).bind fun t197 => (if t197 = true then (some a0) else (some (-1)))) = some r := h
 clear h
 replace H := bs_ H
 obtain ⟨t197, A2, H⟩ := H
 by_cases c3 : t197 = true
 ·
  subst c3
  replace H := it_ H
  obtain rfl := Option.some.inj H
  go_enter Try.func136, Try.ntmps136
  go_wp2_with (first | ((with_reducible refine gate_callee (f := 89) rfl ?_); refine goesL_ (some 4) rfl rfl Try.func89 (by kernel_rfl) rfl #[.int .i64 a0] rfl al_ ?_; (with_reducible refine (spec_KeyOk.calls a0 true _ A2.out).mono ?_); rintro e w' ⟨rfl, ⟨nd, rfl⟩⟩; refine ⟨_, rfl, ?_⟩))
  go_ret
  exact ⟨rt_, by repeat (first | exact Drawn0.refl _ | apply Drawn0.step)⟩
 obtain rfl := Bool.eq_false_iff.mpr c3
 replace H := iF_ H
 obtain rfl := Option.some.inj H
 go_enter Try.func136, Try.ntmps136
 go_wp2_with (first | ((with_reducible refine gate_callee (f := 89) rfl ?_); refine goesL_ (some 4) rfl rfl Try.func89 (by kernel_rfl) rfl #[.int .i64 a0] rfl al_ ?_; (with_reducible refine (spec_KeyOk.calls a0 false _ A2.out).mono ?_); rintro e w' ⟨rfl, ⟨nd, rfl⟩⟩; refine ⟨_, rfl, ?_⟩))
 go_ret
 exact ⟨rt_, by repeat (first | exact Drawn0.refl _ | apply Drawn0.step)⟩

/-! ### spec_OwnerAt: function 137 -/
def spec_OwnerAt.f (a0 : Int) : Option (Int) := (spec_ValOk.f a0).bind fun t198 => (if t198 = true then (some (wrap64 (3 + a0))) else (some (-1)))
set_option maxHeartbeats 8000000 in
set_option maxRecDepth 100000 in
theorem spec_OwnerAt.calls (a0 : Int) (r : Int) (w : World) (h : spec_OwnerAt.f a0 = some r) :
    Calls Try.prog 137 #[.int .i64 a0] w fun e w' => e = .returned (.int .i64 r) ∧ Drawn0 w w' := by
 have H : ((spec_ValOk.f a0).bind fun t198 => (if t198 = true then (some (wrap64 (3 + a0))) else (some (-1)))) = some r := h
 clear h
 replace H := bs_ H
 obtain ⟨t198, A2, H⟩ := H
 by_cases c3 : t198 = true
 ·
  subst c3
  replace H := it_ H
  obtain rfl := Option.some.inj H
  go_enter Try.func137, Try.ntmps137
  go_wp2_with (first | ((with_reducible refine gate_callee (f := 91) rfl ?_); refine goesL_ (some 4) rfl rfl Try.func91 (by kernel_rfl) rfl #[.int .i64 a0] rfl al_ ?_; (with_reducible refine (spec_ValOk.calls a0 true _ A2.out).mono ?_); rintro e w' ⟨rfl, ⟨nd, rfl⟩⟩; refine ⟨_, rfl, ?_⟩))
  go_ret
  exact ⟨rt_, by repeat (first | exact Drawn0.refl _ | apply Drawn0.step)⟩
 obtain rfl := Bool.eq_false_iff.mpr c3
 replace H := iF_ H
 obtain rfl := Option.some.inj H
 go_enter Try.func137, Try.ntmps137
 go_wp2_with (first | ((with_reducible refine gate_callee (f := 91) rfl ?_); refine goesL_ (some 4) rfl rfl Try.func91 (by kernel_rfl) rfl #[.int .i64 a0] rfl al_ ?_; (with_reducible refine (spec_ValOk.calls a0 false _ A2.out).mono ?_); rintro e w' ⟨rfl, ⟨nd, rfl⟩⟩; refine ⟨_, rfl, ?_⟩))
 go_ret
 exact ⟨rt_, by repeat (first | exact Drawn0.refl _ | apply Drawn0.step)⟩

/-! ### spec_StateAt: function 140 -/
def spec_StateAt.f  : Option (Int) := some 13
set_option maxHeartbeats 8000000 in
set_option maxRecDepth 100000 in
theorem spec_StateAt.calls  (r : Int) (w : World) (h : spec_StateAt.f  = some r) :
    Calls Try.prog 140 #[] w fun e w' => e = .returned (.int .i64 r) ∧ Drawn0 w w' := by
 have H : (some 13) = some r := h
 clear h
 obtain rfl := Option.some.inj H
 go_enter Try.func140, Try.ntmps140
 go_wp2
 go_ret
 exact ⟨rt_, by repeat (first | exact Drawn0.refl _ | apply Drawn0.step)⟩

/-! ### spec_ViaAt: function 138 -/
def spec_ViaAt.f (a0 : Int) : Option (Int) := (spec_ValOk.f a0).bind fun t199 => (if t199 = true then ((spec_StateAt.f).bind fun t200 => (some (wrap64 (t200 + a0)))) else (some (-1)))
set_option maxHeartbeats 8000000 in
set_option maxRecDepth 100000 in
theorem spec_ViaAt.calls (a0 : Int) (r : Int) (w : World) (h : spec_ViaAt.f a0 = some r) :
    Calls Try.prog 138 #[.int .i64 a0] w fun e w' => e = .returned (.int .i64 r) ∧ Drawn0 w w' := by
 have H : ((spec_ValOk.f a0).bind fun t199 => (if t199 = true then ((spec_StateAt.f).bind fun t200 => (some (wrap64 (t200 + a0)))) else (some (-1)))) = some r := h
 clear h
 replace H := bs_ H
 obtain ⟨t199, A2, H⟩ := H
 by_cases c3 : t199 = true
 ·
  subst c3
  replace H := it_ H
  replace H := bs_ H
  obtain ⟨t200, A4, H⟩ := H
  obtain rfl := Option.some.inj H
  go_enter Try.func138, Try.ntmps138
  go_wp2_with (first | ((with_reducible refine gate_callee (f := 91) rfl ?_); refine goesL_ (some 4) rfl rfl Try.func91 (by kernel_rfl) rfl #[.int .i64 a0] rfl al_ ?_; (with_reducible refine (spec_ValOk.calls a0 true _ A2.out).mono ?_); rintro e w' ⟨rfl, ⟨nd, rfl⟩⟩; refine ⟨_, rfl, ?_⟩) | ((with_reducible refine gate_callee (f := 140) rfl ?_); refine goesL_ (some 6) rfl rfl Try.func140 (by kernel_rfl) rfl #[] rfl al_ ?_; (with_reducible refine (spec_StateAt.calls  t200 _ A4.out).mono ?_); rintro e w' ⟨rfl, ⟨nd, rfl⟩⟩; refine ⟨_, rfl, ?_⟩))
  go_ret
  exact ⟨rt_, by repeat (first | exact Drawn0.refl _ | apply Drawn0.step)⟩
 obtain rfl := Bool.eq_false_iff.mpr c3
 replace H := iF_ H
 obtain rfl := Option.some.inj H
 go_enter Try.func138, Try.ntmps138
 go_wp2_with (first | ((with_reducible refine gate_callee (f := 91) rfl ?_); refine goesL_ (some 4) rfl rfl Try.func91 (by kernel_rfl) rfl #[.int .i64 a0] rfl al_ ?_; (with_reducible refine (spec_ValOk.calls a0 false _ A2.out).mono ?_); rintro e w' ⟨rfl, ⟨nd, rfl⟩⟩; refine ⟨_, rfl, ?_⟩))
 go_ret
 exact ⟨rt_, by repeat (first | exact Drawn0.refl _ | apply Drawn0.step)⟩

/-! ### spec_CountAt: function 139 -/
def spec_CountAt.f (a0 : Int) : Option (Int) := (spec_l1In.f a0 0 2).bind fun t201 => (if t201 = true then (some (wrap64 (10 + a0))) else (some (-1)))
set_option maxHeartbeats 8000000 in
set_option maxRecDepth 100000 in
theorem spec_CountAt.calls (a0 : Int) (r : Int) (w : World) (h : spec_CountAt.f a0 = some r) :
    Calls Try.prog 139 #[.int .i64 a0] w fun e w' => e = .returned (.int .i64 r) ∧ Drawn0 w w' := by
 have H : ((spec_l1In.f a0 0 2).bind fun t201 => (if t201 = true then (some (wrap64 (10 + a0))) else (some (-1)))) = some r := h
 clear h
 replace H := bs_ H
 obtain ⟨t201, A2, H⟩ := H
 by_cases c3 : t201 = true
 ·
  subst c3
  replace H := it_ H
  obtain rfl := Option.some.inj H
  go_enter Try.func139, Try.ntmps139
  go_wp2_with (first | ((with_reducible refine gate_callee (f := 87) rfl ?_); refine goesL_ (some 4) rfl rfl Try.func87 (by kernel_rfl) rfl #[.int .i64 a0, .int .i64 0, .int .i64 2] rfl al_ ?_; (with_reducible refine (spec_l1In.calls a0 0 2 true _ A2.out).mono ?_); rintro e w' ⟨rfl, ⟨nd, rfl⟩⟩; refine ⟨_, rfl, ?_⟩))
  go_ret
  exact ⟨rt_, by repeat (first | exact Drawn0.refl _ | apply Drawn0.step)⟩
 obtain rfl := Bool.eq_false_iff.mpr c3
 replace H := iF_ H
 obtain rfl := Option.some.inj H
 go_enter Try.func139, Try.ntmps139
 go_wp2_with (first | ((with_reducible refine gate_callee (f := 87) rfl ?_); refine goesL_ (some 4) rfl rfl Try.func87 (by kernel_rfl) rfl #[.int .i64 a0, .int .i64 0, .int .i64 2] rfl al_ ?_; (with_reducible refine (spec_l1In.calls a0 0 2 false _ A2.out).mono ?_); rintro e w' ⟨rfl, ⟨nd, rfl⟩⟩; refine ⟨_, rfl, ?_⟩))
 go_ret
 exact ⟨rt_, by repeat (first | exact Drawn0.refl _ | apply Drawn0.step)⟩

end Go.Proofs.Ytmkhghbalnadlaa.PFnExactMemNew
