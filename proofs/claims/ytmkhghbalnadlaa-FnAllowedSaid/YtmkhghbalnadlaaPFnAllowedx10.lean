/- Contracts of functions of the program: each says that the call does what a plain Lean function tells. Made by programs of this session and of the kit. No condition beyond the hypotheses that each theorem names. -/
import Derived.Test.YtmkhghbalnadlaaPFnAllowedx0
import Derived.Test.YtmkhghbalnadlaaPFnAllowedx6
namespace Go.Proofs.Ytmkhghbalnadlaa.PFnAllowed
open Go.RowKit Go.Proofs.YtmkhghbalnadlaaW.PrintWords Go.Proofs.YtmkhghbalnadlaaW.PrintLast Go.Proofs.YtmkhghbalnadlaaW.PrintMore
attribute [local go_sem] max2_int min2_int max_two min_two max_three min_three max_four min_four   -- for this text's walks alone
set_option linter.unusedVariables false
set_option linter.unusedSimpArgs false

/-! ### impl_ClassOf: function 143 -/
def impl_ClassOf.f (a0 : Int) : Option (Int) := (impl_ValOk.f a0).bind fun t225 => (if t225 = true then (some (Int.tmod a0 3)) else (some (-1)))
set_option maxHeartbeats 8000000 in
set_option maxRecDepth 100000 in
theorem impl_ClassOf.calls (a0 : Int) (r : Int) (w : World) (h : impl_ClassOf.f a0 = some r) :
    Calls Try.prog 143 #[.int .i64 a0] w fun e w' => e = .returned (.int .i64 r) ∧ Drawn0 w w' := by
 have H : ((impl_ValOk.f a0).bind fun t225 => (if t225 = true then (some (Int.tmod a0 3)) else (some (-1)))) = some r := h
 clear h
 replace H := bs_ H
 obtain ⟨t225, A2, H⟩ := H
 by_cases c3 : t225 = true
 ·
  subst c3
  replace H := it_ H
  obtain rfl := Option.some.inj H
  go_enter Try.func143, Try.ntmps143
  go_wp2_with (first | ((with_reducible refine gate_callee (f := 85) rfl ?_); refine goesL_ (some 4) rfl rfl Try.func85 (by kernel_rfl) rfl #[.int .i64 a0] rfl al_ ?_; (with_reducible refine (impl_ValOk.calls a0 true _ A2.out).mono ?_); rintro e w' ⟨rfl, ⟨nd, rfl⟩⟩; refine ⟨_, rfl, ?_⟩))
  go_ret
  exact ⟨rt_, by repeat (first | exact Drawn0.refl _ | apply Drawn0.step)⟩
 obtain rfl := Bool.eq_false_iff.mpr c3
 replace H := iF_ H
 obtain rfl := Option.some.inj H
 go_enter Try.func143, Try.ntmps143
 go_wp2_with (first | ((with_reducible refine gate_callee (f := 85) rfl ?_); refine goesL_ (some 4) rfl rfl Try.func85 (by kernel_rfl) rfl #[.int .i64 a0] rfl al_ ?_; (with_reducible refine (impl_ValOk.calls a0 false _ A2.out).mono ?_); rintro e w' ⟨rfl, ⟨nd, rfl⟩⟩; refine ⟨_, rfl, ?_⟩))
 go_ret
 exact ⟨rt_, by repeat (first | exact Drawn0.refl _ | apply Drawn0.step)⟩

/-! ### impl_HowMany: function 131 -/
def impl_HowMany.l0 : Nat → Int → Int → List Int → Int → Int → Option (Int)
 | 0, _, _, _, _, _ => none
 | k + 1, x1, x5, x9, x10, x11 => if x11 < x10 then (if 0 ≤ x11 then (if x11 < (x9.length : Int) then ((impl_ValOk.f (rd x9 x11)).bind fun t228 => (if t228 = true then ((impl_ClassOf.f (rd x9 x11)).bind fun t229 => (if t229 = x1 then (impl_HowMany.l0 k x1 (wrap64 (x5 + 1)) x9 x10 (wrap64 (x11 + 1))) else (impl_HowMany.l0 k x1 x5 x9 x10 (wrap64 (x11 + 1))))) else (impl_HowMany.l0 k x1 x5 x9 x10 (wrap64 (x11 + 1))))) else (none)) else (none)) else (some x5)
def impl_HowMany.f (k : Nat) (l0_0 : List Int) (a0_1 : Int) (a1 : Int) : Option (Int) := impl_HowMany.l0 k a1 0 l0_0 (l0_0.length : Int) 0
theorem impl_HowMany.mono_l : ∀ k, (∀ y0 y1 y2 y3 y4, LeO (impl_HowMany.l0 k y0 y1 y2 y3 y4) (impl_HowMany.l0 (k + 1) y0 y1 y2 y3 y4))
 | 0 => fun _ _ _ _ _ r h => by simp [impl_HowMany.l0] at h
 | k + 1 => by
  have ih0 := impl_HowMany.mono_l k
  ·
   intro y0 y1 y2 y3 y4
   unfold impl_HowMany.l0
   repeat' first | (with_reducible first | apply ih0 | apply LeO.refl | apply LeO.none | apply LeO.ite | refine LeO.bind ?_ (fun _ => ?_)) | apply ih0 | apply LeO.none | apply LeO.ite | refine LeO.bind ?_ (fun _ => ?_)
theorem impl_HowMany.mono : ∀ a0 a1 a2 k, LeO (impl_HowMany.f k a0 a1 a2) (impl_HowMany.f (k + 1) a0 a1 a2) := by
 intro a0 a1 a2 k
 have ih0 := impl_HowMany.mono_l k
 unfold impl_HowMany.f
 repeat' first | (with_reducible first | apply ih0 | apply LeO.refl | apply LeO.none | apply LeO.ite | refine LeO.bind ?_ (fun _ => ?_)) | apply ih0 | apply LeO.none | apply LeO.ite | refine LeO.bind ?_ (fun _ => ?_)
set_option maxHeartbeats 8000000 in
set_option maxRecDepth 100000 in
theorem impl_HowMany.calls (k : Nat) (A0_0 : Option Addr) (c0_0 : Nat) (l0_0 : List Int) (a0_1 : Int) (a1 : Int) (r : Int) (w : World) (hr0_0 : Kd.C (Kd.int .i64) w A0_0 l0_0.length l0_0) (hc0_0 : l0_0.length ≤ c0_0) (h : impl_HowMany.f k l0_0 a0_1 a1 = some r) :
    Calls Try.prog 131 #[.agg #[.slice A0_0 l0_0.length c0_0, .int .i64 a0_1], .int .i64 a1] w fun e w' => e = .returned (.int .i64 r) ∧ Below w.heap.size w w' := by
 have hu44 := Try.underlying44
 have HR0_0 := A_ hr0_0
 have HC0_0 := A_ hc0_0
 clear hr0_0 hc0_0
 have HB := A_ (Below.refl w.heap.size w)
 have H : (impl_HowMany.l0 k a1 0 l0_0 (l0_0.length : Int) 0) = some r := h
 clear h
 replace H' := A_ H; clear H
 go_enter Try.func131, Try.ntmps131
 go_wp2_with (first | ((with_reducible refine gate_dst (N := 2) rfl ?_); refine bx_ HB rfl (N := 2) rfl (cs := #[.slice A0_0 l0_0.length c0_0, .int .i64 a0_1]) (t := 44) hr_ ?_; clear HB; intro gb226 w3 hg hb BK226 GW226 HB; clear hb hg; obtain ⟨hcz4_0, hcz4_1, hfz4_0, hfz4_1⟩ := cz2_ BK226))
 go_loopg [5, 11] k (fun kq v5 v11 w' => ∃ (x5_1 : Int) (x11_1 : Int), v5 = .int .i64 x5_1 ∧ v11 = .int .i64 x11_1 ∧ Aside0 (impl_HowMany.l0 kq a1 x5_1 l0_0 (l0_0.length : Int) x11_1 = some r) ∧ Aside0 (kq ≤ k) ∧ Aside0 (w'.heap[gb226]? = some (.cells #[(.slice A0_0 l0_0.length c0_0), .int .i64 a0_1] 44 (0, 0))) ∧ Aside0 (Below w.heap.size w w'))
 case atStart => exact ⟨(0), (0), rt_, rt_, H', ⟨Nat.le_refl _⟩, ⟨bk_ BK226⟩, ⟨hb_ HB⟩⟩
 case round =>
  clear H'
  obtain ⟨x5_1, x11_1, rfl, rfl, HA, HK1, BK226, HB⟩ := hrel
  cases gk with
  | zero => exact absurd HA.out (by simp [impl_HowMany.l0])
  | succ k1 =>
   have H := HA.out
   clear HA
   simp only [impl_HowMany.l0] at H
   replace H := ic_ H
   rcases H with ⟨c5b0, H⟩ | ⟨c5b0, H⟩
   ·
    replace H := ix_ H
    obtain ⟨c6b0, H⟩ := H
    replace H := ix_ H
    obtain ⟨c7b0, H⟩ := H
    replace H := bs_ H
    obtain ⟨t228, A8, H⟩ := H
    by_cases c9 : t228 = true
    ·
     subst c9
     replace H := it_ H
     replace H := bs_ H
     obtain ⟨t229, A10, H⟩ := H
     by_cases c11 : t229 = a1
     ·
      rw [if_pos c11] at H
      have c11b0 : (t229 == a1) = true := beq_iff_eq.mpr c11
      have c11b1 : (t229 != a1) = false := bne_eq_false_iff_eq.mpr c11
      clear c11
      replace H' := A_ H; clear H
      obtain ⟨ad227, p227, q227, rfl, hx227_0⟩ := ab_int HB HR0_0 x11_1
      go_wp2_with (first | ((with_reducible refine gate_callee (f := 85) rfl ?_); refine Y13_ ?_; intro nd) | (go_at_call 143; (with_reducible refine (impl_ClassOf.calls (rd l0_0 x11_1) t229 _ A10.out).mono ?_); rintro e w' ⟨rfl, ⟨nd, rfl⟩⟩))
      go_roundg k1
      case measure => have := HK1.out; omega
      case rel => exact ⟨(wrap64 (x5_1 + 1)), (wrap64 (x11_1 + 1)), rt_, rt_, H', ⟨by have := HK1.out; omega⟩, ⟨bk_ BK226⟩, ⟨hb_ HB⟩⟩
     rw [if_neg c11] at H
     have c11b0 : (t229 == a1) = false := beq_eq_false_iff_ne.mpr c11
     have c11b1 : (t229 != a1) = true := bne_iff_ne.mpr c11
     replace H' := A_ H; clear H
     obtain ⟨ad227, p227, q227, rfl, hx227_0⟩ := ab_int HB HR0_0 x11_1
     go_wp2_with (first | ((with_reducible refine gate_callee (f := 85) rfl ?_); refine Y13_ ?_; intro nd) | (go_at_call 143; (with_reducible refine (impl_ClassOf.calls (rd l0_0 x11_1) t229 _ A10.out).mono ?_); rintro e w' ⟨rfl, ⟨nd, rfl⟩⟩))
     go_roundg k1
     case measure => have := HK1.out; omega
     case rel => exact ⟨(x5_1), (wrap64 (x11_1 + 1)), rt_, rt_, H', ⟨by have := HK1.out; omega⟩, ⟨bk_ BK226⟩, ⟨hb_ HB⟩⟩
    obtain rfl := Bool.eq_false_iff.mpr c9
    replace H := iF_ H
    replace H' := A_ H; clear H
    obtain ⟨ad227, p227, q227, rfl, hx227_0⟩ := ab_int HB HR0_0 x11_1
    go_wp2_with (first | ((with_reducible refine gate_callee (f := 85) rfl ?_); refine goesL_ (some 16) rfl rfl Try.func85 (by kernel_rfl) rfl #[.int .i64 (rd l0_0 x11_1)] rfl al_ ?_; (with_reducible refine (impl_ValOk.calls (rd l0_0 x11_1) false _ A8.out).mono ?_); rintro e w' ⟨rfl, ⟨nd, rfl⟩⟩; refine ⟨_, rfl, ?_⟩))
    go_roundg k1
    case measure => have := HK1.out; omega
    case rel => exact ⟨(x5_1), (wrap64 (x11_1 + 1)), rt_, rt_, H', ⟨by have := HK1.out; omega⟩, ⟨bk_ BK226⟩, ⟨hb_ HB⟩⟩
   obtain rfl := Option.some.inj H
   go_wp2
   go_ret
   exact ⟨rs_, hb_ HB⟩

end Go.Proofs.Ytmkhghbalnadlaa.PFnAllowed
