/- Contracts of functions of the program: each says that the call does what a plain Lean function tells. Made by programs of this session and of the kit. No condition beyond the hypotheses that each theorem names. -/
import Derived.Lib.SliceRun
import Derived.Test.YtmkhghbalnadlaaPFnAllowedx0
import Derived.Test.YtmkhghbalnadlaaPFnAllowedx7
import Derived.Test.YtmkhghbalnadlaaPFnAllowedx8
import Derived.Test.YtmkhghbalnadlaaPFnAllowedx9
import Derived.Test.YtmkhghbalnadlaaPFnAllowedx11
namespace Go.Proofs.Ytmkhghbalnadlaa.PFnAllowed
open Go.RowKit Go.Proofs.YtmkhghbalnadlaaW.PrintWords Go.Proofs.YtmkhghbalnadlaaW.PrintLast Go.Proofs.YtmkhghbalnadlaaW.PrintMore
attribute [local go_sem] max2_int min2_int max_two min_two max_three min_three max_four min_four   -- for this text's walks alone
set_option linter.unusedVariables false
set_option linter.unusedSimpArgs false

/-! ### slices_Equal_int_int: function 76 -/
def slices_Equal_int_int.l0 : Nat → List Int → List Int → Int → Int → Option (Bool)
 | 0, _, _, _, _ => none
 | k + 1, x0, x1, x12, x13 => if x13 < x12 then (if 0 ≤ x13 then (if x13 < (x0.length : Int) then (if x13 < (x1.length : Int) then (if (rd x0 x13) = (rd x1 x13) then (slices_Equal_int_int.l0 k x0 x1 x12 (wrap64 (x13 + 1))) else (some false)) else (none)) else (none)) else (none)) else (some true)
def slices_Equal_int_int.f (k : Nat) (l0 : List Int) (l1 : List Int) : Option (Bool) := if (l0.length : Int) = (l1.length : Int) then (slices_Equal_int_int.l0 k l0 l1 (l0.length : Int) 0) else (some false)
theorem slices_Equal_int_int.mono_l : ∀ k, (∀ y0 y1 y2 y3, LeO (slices_Equal_int_int.l0 k y0 y1 y2 y3) (slices_Equal_int_int.l0 (k + 1) y0 y1 y2 y3))
 | 0 => fun _ _ _ _ r h => by simp [slices_Equal_int_int.l0] at h
 | k + 1 => by
  have ih0 := slices_Equal_int_int.mono_l k
  ·
   intro y0 y1 y2 y3
   unfold slices_Equal_int_int.l0
   repeat' first | (with_reducible first | apply ih0 | apply LeO.refl | apply LeO.none | apply LeO.ite | refine LeO.bind ?_ (fun _ => ?_)) | apply ih0 | apply LeO.none | apply LeO.ite | refine LeO.bind ?_ (fun _ => ?_)
theorem slices_Equal_int_int.mono : ∀ a0 a1 k, LeO (slices_Equal_int_int.f k a0 a1) (slices_Equal_int_int.f (k + 1) a0 a1) := by
 intro a0 a1 k
 have ih0 := slices_Equal_int_int.mono_l k
 unfold slices_Equal_int_int.f
 repeat' first | (with_reducible first | apply ih0 | apply LeO.refl | apply LeO.none | apply LeO.ite | refine LeO.bind ?_ (fun _ => ?_)) | apply ih0 | apply LeO.none | apply LeO.ite | refine LeO.bind ?_ (fun _ => ?_)
set_option maxHeartbeats 8000000 in
set_option maxRecDepth 100000 in
theorem slices_Equal_int_int.calls (k : Nat) (A0 : Option Addr) (c0 : Nat) (l0 : List Int) (A1 : Option Addr) (c1 : Nat) (l1 : List Int) (r : Bool) (w : World) (hr0 : Kd.C (Kd.int .i64) w A0 l0.length l0) (hc0 : l0.length ≤ c0) (hr1 : Kd.C (Kd.int .i64) w A1 l1.length l1) (hc1 : l1.length ≤ c1) (h : slices_Equal_int_int.f k l0 l1 = some r) :
    Calls Try.prog 76 #[.slice A0 l0.length c0, .slice A1 l1.length c1] w fun e w' => e = .returned (.bool r) ∧ Drawn0 w w' := by
 have HR0 := A_ hr0
 have HC0 := A_ hc0
 clear hr0 hc0
 have HR1 := A_ hr1
 have HC1 := A_ hc1
 clear hr1 hc1
 have H : (if (l0.length : Int) = (l1.length : Int) then (slices_Equal_int_int.l0 k l0 l1 (l0.length : Int) 0) else (some false)) = some r := h
 clear h
 by_cases c3 : (l0.length : Int) = (l1.length : Int)
 ·
  rw [if_pos c3] at H
  have c3b0 : ((l0.length : Int) == (l1.length : Int)) = true := beq_iff_eq.mpr c3
  have c3b1 : ((l0.length : Int) != (l1.length : Int)) = false := bne_eq_false_iff_eq.mpr c3
  have c3b2 : (l0.length == l1.length) = true := by first | simpa using c3 | (simp at c3 ⊢; omega)
  clear c3
  replace H' := A_ H; clear H
  go_enter Try.func76, Try.ntmps76
  go_wp2
  repeat (go_quiet (fail); try go_wp2)
  go_loopg [13] k (fun kq v13 w' => ∃ (x13_1 : Int), v13 = .int .i64 x13_1 ∧ Aside0 (slices_Equal_int_int.l0 kq l0 l1 (l0.length : Int) x13_1 = some r) ∧ Aside0 (kq ≤ k) ∧ Drawn0 w w')
  case atStart => exact ⟨(0), rt_, H', ⟨Nat.le_refl _⟩, by repeat (first | exact Drawn0.refl _ | apply Drawn0.step)⟩
  case round =>
   clear H'
   try clear c1
   try clear c3
   try clear c3b0
   try clear c3b1
   try clear c3b2
   obtain ⟨x13_1, rfl, HA, HK1, ⟨m1, rfl⟩⟩ := hrel
   cases gk with
   | zero => exact absurd HA.out (by simp [slices_Equal_int_int.l0])
   | succ k1 =>
    have H := HA.out
    clear HA
    simp only [slices_Equal_int_int.l0] at H
    replace H := ic_ H
    rcases H with ⟨c4b0, H⟩ | ⟨c4b0, H⟩
    ·
     replace H := ix_ H
     obtain ⟨c5b0, H⟩ := H
     replace H := ix_ H
     obtain ⟨c6b0, H⟩ := H
     replace H := ix_ H
     obtain ⟨c7b0, H⟩ := H
     by_cases c8 : (rd l0 x13_1) = (rd l1 x13_1)
     ·
      rw [if_pos c8] at H
      have c8b0 : ((rd l0 x13_1) == (rd l1 x13_1)) = true := beq_iff_eq.mpr c8
      have c8b1 : ((rd l0 x13_1) != (rd l1 x13_1)) = false := bne_eq_false_iff_eq.mpr c8
      clear c8
      replace H' := A_ H; clear H
      obtain ⟨ad253, p253, q253, rfl, hx253_0⟩ := ab_int (A_ (Below.refl _ _)) HR0 x13_1
      obtain ⟨ad254, p254, q254, rfl, hx254_0⟩ := ab_int (A_ (Below.refl _ _)) HR1 x13_1
      go_wp2
      repeat (go_quiet (fail); try go_wp2)
      go_roundg k1
      case measure => have := HK1.out; omega
      case rel => exact ⟨(wrap64 (x13_1 + 1)), rt_, H', ⟨by have := HK1.out; omega⟩, by repeat (first | exact Drawn0.refl _ | apply Drawn0.step)⟩
     rw [if_neg c8] at H
     have c8b0 : ((rd l0 x13_1) == (rd l1 x13_1)) = false := beq_eq_false_iff_ne.mpr c8
     have c8b1 : ((rd l0 x13_1) != (rd l1 x13_1)) = true := bne_iff_ne.mpr c8
     obtain rfl := Option.some.inj H
     obtain ⟨ad253, p253, q253, rfl, hx253_0⟩ := ab_int (A_ (Below.refl _ _)) HR0 x13_1
     obtain ⟨ad254, p254, q254, rfl, hx254_0⟩ := ab_int (A_ (Below.refl _ _)) HR1 x13_1
     go_wp2
     repeat (go_quiet (fail); try go_wp2)
     go_ret
     exact ⟨rt_, by repeat (first | exact Drawn0.refl _ | apply Drawn0.step)⟩
    obtain rfl := Option.some.inj H
    go_wp2
    repeat (go_quiet (fail); try go_wp2)
    go_ret
    exact ⟨rt_, by repeat (first | exact Drawn0.refl _ | apply Drawn0.step)⟩
 rw [if_neg c3] at H
 have c3b0 : ((l0.length : Int) == (l1.length : Int)) = false := beq_eq_false_iff_ne.mpr c3
 have c3b1 : ((l0.length : Int) != (l1.length : Int)) = true := bne_iff_ne.mpr c3
 have c3b2 : (l0.length == l1.length) = false := by first | simpa using c3 | (simp at c3 ⊢; omega)
 obtain rfl := Option.some.inj H
 go_enter Try.func76, Try.ntmps76
 go_wp2
 repeat (go_quiet (fail); try go_wp2)
 go_ret
 exact ⟨rt_, by repeat (first | exact Drawn0.refl _ | apply Drawn0.step)⟩

/-! ### impl_Allowed: function 28 -/
def impl_Allowed.j0 : Nat → Bool → List Int → Int → Int → Int → Int → Int → List Int → Option (Bool)
 | 0, _, _, _, _, _, _, _, _ => none
 | k + 1, x16, x256000, x256001, x257000, x257001, x257002, x258000, x258001 => if x16 = true then (some false) else (if x258000 = 0 then ((impl_success.f k x256000 x256001 x257000 x257001 x257002).bind fun bt260 => (if bt260.2 = true then ((slices_Equal_int_int.f k bt260.1 x258001).bind fun t264 => (some t264)) else (some false))) else (if (x258001.length : Int) = 0 then ((impl_refusal.f k x256000 x256001 x257000 x257001 x257002 x258000).bind fun t265 => (some t265)) else (some false)))
def impl_Allowed.f (k : Nat) (l0_0 : List Int) (a0_1 : Int) (a1_0 : Int) (a1_1 : Int) (a1_2 : Int) (a2_0 : Int) (l2_1 : List Int) : Option (Bool) := (impl_RowsOk.f k l0_0 a0_1).bind fun t258 => (if t258 = true then ((impl_OpOk.f k a1_0 a1_1 a1_2).bind fun t259 => (impl_Allowed.j0 k (!t259) l0_0 a0_1 a1_0 a1_1 a1_2 a2_0 l2_1)) else (impl_Allowed.j0 k true l0_0 a0_1 a1_0 a1_1 a1_2 a2_0 l2_1))
theorem impl_Allowed.mono_l : ∀ k, (∀ y0 y1 y2 y3 y4 y5 y6 y7, LeO (impl_Allowed.j0 k y0 y1 y2 y3 y4 y5 y6 y7) (impl_Allowed.j0 (k + 1) y0 y1 y2 y3 y4 y5 y6 y7))
 | 0 => fun _ _ _ _ _ _ _ _ r h => by simp [impl_Allowed.j0] at h
 | k + 1 => by
  have ih0 := impl_Allowed.mono_l k
  ·
   intro y0 y1 y2 y3 y4 y5 y6 y7
   unfold impl_Allowed.j0
   repeat' first | (with_reducible first | apply ih0 | apply impl_OpOk.mono | apply impl_RowsOk.mono | apply impl_refusal.mono | apply impl_success.mono | apply slices_Equal_int_int.mono | apply LeO.refl | apply LeO.none | apply LeO.ite | refine LeO.bind ?_ (fun _ => ?_)) | apply ih0 | apply impl_OpOk.mono | apply impl_RowsOk.mono | apply impl_refusal.mono | apply impl_success.mono | apply slices_Equal_int_int.mono | apply LeO.none | apply LeO.ite | refine LeO.bind ?_ (fun _ => ?_)
theorem impl_Allowed.mono : ∀ a0 a1 a2 a3 a4 a5 a6 k, LeO (impl_Allowed.f k a0 a1 a2 a3 a4 a5 a6) (impl_Allowed.f (k + 1) a0 a1 a2 a3 a4 a5 a6) := by
 intro a0 a1 a2 a3 a4 a5 a6 k
 have ih0 := impl_Allowed.mono_l k
 unfold impl_Allowed.f
 repeat' first | (with_reducible first | apply ih0 | apply impl_OpOk.mono | apply impl_RowsOk.mono | apply impl_refusal.mono | apply impl_success.mono | apply slices_Equal_int_int.mono | apply LeO.refl | apply LeO.none | apply LeO.ite | refine LeO.bind ?_ (fun _ => ?_)) | apply ih0 | apply impl_OpOk.mono | apply impl_RowsOk.mono | apply impl_refusal.mono | apply impl_success.mono | apply slices_Equal_int_int.mono | apply LeO.none | apply LeO.ite | refine LeO.bind ?_ (fun _ => ?_)
set_option maxHeartbeats 8000000 in
set_option maxRecDepth 100000 in
theorem impl_Allowed.calls (k : Nat) (A0_0 : Option Addr) (c0_0 : Nat) (l0_0 : List Int) (a0_1 : Int) (a1_0 : Int) (a1_1 : Int) (a1_2 : Int) (a2_0 : Int) (A2_1 : Option Addr) (c2_1 : Nat) (l2_1 : List Int) (r : Bool) (w : World) (hr0_0 : Kd.C (Kd.int .i64) w A0_0 l0_0.length l0_0) (hc0_0 : l0_0.length ≤ c0_0) (hr2_1 : Kd.C (Kd.int .i64) w A2_1 l2_1.length l2_1) (hc2_1 : l2_1.length ≤ c2_1) (h : impl_Allowed.f k l0_0 a0_1 a1_0 a1_1 a1_2 a2_0 l2_1 = some r) :
    Calls Try.prog 28 #[.agg #[.slice A0_0 l0_0.length c0_0, .int .i64 a0_1], .agg #[.int .i64 a1_0, .int .i64 a1_1, .int .i64 a1_2], .agg #[.int .i64 a2_0, .slice A2_1 l2_1.length c2_1]] w fun e w' => e = .returned (.bool r) ∧ Below w.heap.size w w' := by
 have hu44 := Try.underlying44
 have hu47 := Try.underlying47
 have hu49 := Try.underlying49
 have HR0_0 := A_ hr0_0
 have HC0_0 := A_ hc0_0
 clear hr0_0 hc0_0
 have HR2_1 := A_ hr2_1
 have HC2_1 := A_ hc2_1
 clear hr2_1 hc2_1
 have HB := A_ (Below.refl w.heap.size w)
 have H : ((impl_RowsOk.f k l0_0 a0_1).bind fun t258 => (if t258 = true then ((impl_OpOk.f k a1_0 a1_1 a1_2).bind fun t259 => (impl_Allowed.j0 k (!t259) l0_0 a0_1 a1_0 a1_1 a1_2 a2_0 l2_1)) else (impl_Allowed.j0 k true l0_0 a0_1 a1_0 a1_1 a1_2 a2_0 l2_1))) = some r := h
 clear h
 have HC4 := A_ H
 clear H
 go_enter Try.func28, Try.ntmps28
 go_upto_region 1 with (first | ((with_reducible refine gate_dst (N := 3) rfl ?_); refine Y5_ ?_; clear HB; intro gb255 w5 BK255 GW255 HB) | ((with_reducible refine gate_dst (N := 4) rfl ?_); refine bx_ HB rfl (N := 4) rfl (cs := #[.int .i64 a1_0, .int .i64 a1_1, .int .i64 a1_2]) (t := 47) hr_ ?_; clear HB; intro gb256 w6 hg hb BK256 GW256 HB; have NB255_256 := ng_ BK255 hg; have NB256_255 := ns_ (ng_ BK255 hg); replace BK255 := bb_ BK255 hb; clear hb hg) | ((with_reducible refine gate_dst (N := 5) rfl ?_); refine bx_ HB rfl (N := 5) rfl (cs := #[.int .i64 a2_0, .slice A2_1 l2_1.length c2_1]) (t := 49) hr_ ?_; clear HB; intro gb257 w7 hg hb BK257 GW257 HB; have NB255_257 := ng_ BK255 hg; have NB257_255 := ns_ (ng_ BK255 hg); have NB256_257 := ng_ BK256 hg; have NB257_256 := ns_ (ng_ BK256 hg); replace BK255 := bb_ BK255 hb; replace BK256 := bb_ BK256 hb; clear hb hg))
 (try simp only [Act.put, List.setIfInBounds_toArray, List.set_cons_zero, List.set_cons_succ])
 go_cut [16] (fun v16 wc => ∃ (kq : Nat) (x16_3 : Bool), v16 = .bool x16_3 ∧ Aside0 (impl_Allowed.j0 kq x16_3 l0_0 a0_1 a1_0 a1_1 a1_2 a2_0 l2_1 = some r) ∧ Aside0 (kq ≤ k) ∧ Aside0 (wc.heap[gb255]? = some (.cells #[(.slice A0_0 l0_0.length c0_0), .int .i64 a0_1] 44 (0, 0))) ∧ Aside0 (wc.heap[gb256]? = some (.cells #[.int .i64 a1_0, .int .i64 a1_1, .int .i64 a1_2] 47 (0, 0))) ∧ Aside0 (wc.heap[gb257]? = some (.cells #[.int .i64 a2_0, (.slice A2_1 l2_1.length c2_1)] 49 (0, 0))) ∧ Aside0 (Below w.heap.size w wc))
 case first =>
  have H := HC4.out
  clear HC4
  replace H := bs_ H
  obtain ⟨t258, A8, H⟩ := H
  by_cases c9 : t258 = true
  ·
   subst c9
   replace H := it_ H
   replace H := bs_ H
   obtain ⟨t259, A10, H⟩ := H
   replace H' := A_ H; clear H
   have hnb11 := NB255_256.out
   have hnc11 := NB256_255.out
   have hnb12 := NB255_257.out
   have hnc12 := NB257_255.out
   obtain ⟨hcz13_0, hcz13_1, hfz13_0, hfz13_1⟩ := cz2_ BK255
   go_wp2_with (first | ((with_reducible refine gate_callee (f := 37) rfl ?_); refine goesL_ (some 10) rfl rfl Try.func37 (by kernel_rfl) rfl #[.agg #[.slice A0_0 l0_0.length c0_0, .int .i64 a0_1]] rfl al_ ?_; (with_reducible refine (impl_RowsOk.calls k _ _ l0_0 a0_1 true _ ?side1 ?side2 A8.out).mono ?_); (case side1 => exact cb_ (Kd.C_below HR0_0.out HB.out)); (case side2 => exact HC0_0.out); rintro e w14 ⟨rfl, hb⟩; refine ⟨_, rfl, ?_⟩; replace BK255 := bb_ BK255 hb; replace BK256 := bb_ BK256 hb; replace BK257 := bb_ BK257 hb; replace HB := hs_ HB hb; (try clear hb); (try clear hb2); (try clear hk); (try clear hi); have hnb15 := NB256_257.out; have hnc15 := NB257_256.out; obtain ⟨hcz16_0, hcz16_1, hcz16_2, hfz16_0, hfz16_1, hfz16_2⟩ := cz3_ BK256) | (go_at_call 35; (with_reducible refine (impl_OpOk.calls k a1_0 a1_1 a1_2 t259 _ A10.out).mono ?_); rintro e w17 ⟨rfl, hb⟩; replace BK255 := bb_ BK255 hb; replace BK256 := bb_ BK256 hb; replace BK257 := bb_ BK257 hb; replace HB := hs_ HB hb; (try clear hb); (try clear hb2); (try clear hk); (try clear hi)))
   go_meet
   case rel => exact ⟨_, (!t259), rt_, H', ⟨by first | omega | exact Nat.le_refl _⟩, ⟨bk_ BK255⟩, ⟨bk_ BK256⟩, ⟨bk_ BK257⟩, ⟨hb_ HB⟩⟩
  obtain rfl := Bool.eq_false_iff.mpr c9
  replace H := iF_ H
  replace H' := A_ H; clear H
  have hnb18 := NB255_256.out
  have hnc18 := NB256_255.out
  have hnb19 := NB255_257.out
  have hnc19 := NB257_255.out
  obtain ⟨hcz20_0, hcz20_1, hfz20_0, hfz20_1⟩ := cz2_ BK255
  go_wp2_with (first | ((with_reducible refine gate_callee (f := 37) rfl ?_); refine goesL_ (some 10) rfl rfl Try.func37 (by kernel_rfl) rfl #[.agg #[.slice A0_0 l0_0.length c0_0, .int .i64 a0_1]] rfl al_ ?_; (with_reducible refine (impl_RowsOk.calls k _ _ l0_0 a0_1 false _ ?side1 ?side2 A8.out).mono ?_); (case side1 => exact cb_ (Kd.C_below HR0_0.out HB.out)); (case side2 => exact HC0_0.out); rintro e w21 ⟨rfl, hb⟩; refine ⟨_, rfl, ?_⟩; replace BK255 := bb_ BK255 hb; replace BK256 := bb_ BK256 hb; replace BK257 := bb_ BK257 hb; replace HB := hs_ HB hb; (try clear hb); (try clear hb2); (try clear hk); (try clear hi)))
  go_meet
  case rel => exact ⟨_, (true), rt_, H', ⟨by first | omega | exact Nat.le_refl _⟩, ⟨bk_ BK255⟩, ⟨bk_ BK256⟩, ⟨bk_ BK257⟩, ⟨hb_ HB⟩⟩
 case rest =>
  clear HC4
  try clear c1
  try clear c2
  try clear c3
  try clear c9
  obtain ⟨kq, x16_3, rfl, HA, HJ3, BK255, BK256, BK257, HB⟩ := hcut
  cases kq with
  | zero => exact absurd HA.out (by simp [impl_Allowed.j0])
  | succ kj3 =>
   have H := HA.out
   clear HA
   simp only [impl_Allowed.j0] at H
   by_cases c22 : x16_3 = true
   ·
    subst c22
    replace H := it_ H
    obtain rfl := Option.some.inj H
    go_wp2
    go_ret
    exact ⟨rs_, hb_ HB⟩
   obtain rfl := Bool.eq_false_iff.mpr c22
   replace H := iF_ H
   by_cases c23 : a2_0 = 0
   ·
    rw [if_pos c23] at H
    have c23b0 : (a2_0 == 0) = true := beq_iff_eq.mpr c23
    have c23b1 : (a2_0 != 0) = false := bne_eq_false_iff_eq.mpr c23
    clear c23
    replace H := bs_ H
    obtain ⟨⟨t260, t263⟩, A24, H⟩ := H
    dsimp only at H
    by_cases c25 : t263 = true
    ·
     subst c25
     replace H := it_ H
     replace H := bs_ H
     obtain ⟨t264, A26, H⟩ := H
     obtain rfl := Option.some.inj H
     have hnb27 := NB257_255.out
     have hnc27 := NB255_257.out
     have hnb28 := NB257_256.out
     have hnc28 := NB256_257.out
     obtain ⟨hcz29_0, hcz29_1, hfz29_0, hfz29_1⟩ := cz2_ BK257
     have hnb30 := NB255_256.out
     have hnc30 := NB256_255.out
     obtain ⟨hcz31_0, hcz31_1, hfz31_0, hfz31_1⟩ := cz2_ BK255
     obtain ⟨hcz32_0, hcz32_1, hcz32_2, hfz32_0, hfz32_1, hfz32_2⟩ := cz3_ BK256
     go_wp2_with (first | ((with_reducible refine gate_callee (f := 75) rfl ?_); refine goesL_ (some 34) rfl rfl Try.func75 (by kernel_rfl) rfl #[.agg #[.slice A0_0 l0_0.length c0_0, .int .i64 a0_1], .agg #[.int .i64 a1_0, .int .i64 a1_1, .int .i64 a1_2]] rfl al_ ?_; (with_reducible refine (impl_success.calls kj3 (fun k_ => k_ < w.heap.size) _ _ l0_0 a0_1 a1_0 a1_1 a1_2 t260 true _ ?side1 A24.out).mono ?_); (case side1 => exact Kd.V_mk HC0_0.out (Kd.F_below (Kd.C_F (Kd.heap_int .i64) HR0_0.out) (hb_ HB))); rintro e w33 ⟨v261, rfl, ho0, hb⟩; refine ⟨_, rfl, ?_⟩; have HO262 := A_ (Kd.V_lower (Kd.V_mono (ok' := fun k_ => k_ ≠ gb255 ∧ k_ ≠ gb256 ∧ k_ ≠ gb257) ho0 (fun k_ hk_ => ⟨Or.elim hk_ (fun hs_ => fun e_ => Nat.not_le.2 hs_ (by rw [e_]; exact GW255.out)) (fun hn_ => (Kd.freshB (g := gb255) (o := .cells #[.slice A0_0 l0_0.length c0_0, .int .i64 a0_1] 44 (0, 0)) (bk_ BK255) k_ hn_)), Or.elim hk_ (fun hs_ => fun e_ => Nat.not_le.2 hs_ (by rw [e_]; exact GW256.out)) (fun hn_ => (Kd.freshB (g := gb256) (o := .cells #[.int .i64 a1_0, .int .i64 a1_1, .int .i64 a1_2] 47 (0, 0)) (bk_ BK256) k_ hn_)), Or.elim hk_ (fun hs_ => fun e_ => Nat.not_le.2 hs_ (by rw [e_]; exact GW257.out)) (fun hn_ => (Kd.freshB (g := gb257) (o := .cells #[.int .i64 a2_0, .slice A2_1 l2_1.length c2_1] 49 (0, 0)) (bk_ BK257) k_ hn_))⟩)) (below_size (hb_ HB))); replace BK255 := bb_ BK255 hb; replace BK256 := bb_ BK256 hb; replace BK257 := bb_ BK257 hb; replace HB := hs_ HB hb; (try clear hb); (try clear hb2); (try clear hk); (try clear hi); (try clear ho0); obtain ⟨hcz34_0, hcz34_1, hfz34_0, hfz34_1⟩ := cz2_ BK257; obtain ⟨Ao35, co35, eo35⟩ := Kd.V_slice HO262.out; subst eo35) | (go_at_call 76; (with_reducible refine (slices_Equal_int_int.calls kj3 _ _ t260 _ _ l2_1 t264 _ ?side1 ?side2 ?side3 ?side4 A26.out).mono ?_); (case side1 => repeat (first | exact (Kd.V_reads' HO262.out).2.2 | (with_reducible refine Kd.C_alloc ?_ _) | (with_reducible refine Kd.C_drewN ?_ _) | (with_reducible refine Kd.C_drew ?_))); (case side2 => exact (Kd.V_reads' HO262.out).2.1); (case side3 => exact cb_ (Kd.C_below HR2_1.out HB.out)); (case side4 => exact HC2_1.out); rintro e w' ⟨rfl, ⟨nd, rfl⟩⟩))
     go_ret
     exact ⟨rs_, hb_ HB⟩
    obtain rfl := Bool.eq_false_iff.mpr c25
    replace H := iF_ H
    obtain rfl := Option.some.inj H
    have hnb36 := NB257_255.out
    have hnc36 := NB255_257.out
    have hnb37 := NB257_256.out
    have hnc37 := NB256_257.out
    obtain ⟨hcz38_0, hcz38_1, hfz38_0, hfz38_1⟩ := cz2_ BK257
    have hnb39 := NB255_256.out
    have hnc39 := NB256_255.out
    obtain ⟨hcz40_0, hcz40_1, hfz40_0, hfz40_1⟩ := cz2_ BK255
    obtain ⟨hcz41_0, hcz41_1, hcz41_2, hfz41_0, hfz41_1, hfz41_2⟩ := cz3_ BK256
    go_wp2_with (first | ((with_reducible refine gate_callee (f := 75) rfl ?_); refine goesL_ (some 34) rfl rfl Try.func75 (by kernel_rfl) rfl #[.agg #[.slice A0_0 l0_0.length c0_0, .int .i64 a0_1], .agg #[.int .i64 a1_0, .int .i64 a1_1, .int .i64 a1_2]] rfl al_ ?_; (with_reducible refine (impl_success.calls kj3 (fun k_ => k_ < w.heap.size) _ _ l0_0 a0_1 a1_0 a1_1 a1_2 t260 false _ ?side1 A24.out).mono ?_); (case side1 => exact Kd.V_mk HC0_0.out (Kd.F_below (Kd.C_F (Kd.heap_int .i64) HR0_0.out) (hb_ HB))); rintro e w42 ⟨v261, rfl, ho0, hb⟩; refine ⟨_, rfl, ?_⟩; have HO262 := A_ (Kd.V_lower (Kd.V_mono (ok' := fun k_ => k_ ≠ gb255 ∧ k_ ≠ gb256 ∧ k_ ≠ gb257) ho0 (fun k_ hk_ => ⟨Or.elim hk_ (fun hs_ => fun e_ => Nat.not_le.2 hs_ (by rw [e_]; exact GW255.out)) (fun hn_ => (Kd.freshB (g := gb255) (o := .cells #[.slice A0_0 l0_0.length c0_0, .int .i64 a0_1] 44 (0, 0)) (bk_ BK255) k_ hn_)), Or.elim hk_ (fun hs_ => fun e_ => Nat.not_le.2 hs_ (by rw [e_]; exact GW256.out)) (fun hn_ => (Kd.freshB (g := gb256) (o := .cells #[.int .i64 a1_0, .int .i64 a1_1, .int .i64 a1_2] 47 (0, 0)) (bk_ BK256) k_ hn_)), Or.elim hk_ (fun hs_ => fun e_ => Nat.not_le.2 hs_ (by rw [e_]; exact GW257.out)) (fun hn_ => (Kd.freshB (g := gb257) (o := .cells #[.int .i64 a2_0, .slice A2_1 l2_1.length c2_1] 49 (0, 0)) (bk_ BK257) k_ hn_))⟩)) (below_size (hb_ HB))); replace BK255 := bb_ BK255 hb; replace BK256 := bb_ BK256 hb; replace BK257 := bb_ BK257 hb; replace HB := hs_ HB hb; (try clear hb); (try clear hb2); (try clear hk); (try clear hi); (try clear ho0)))
    go_ret
    exact ⟨rs_, hb_ HB⟩
   rw [if_neg c23] at H
   have c23b0 : (a2_0 == 0) = false := beq_eq_false_iff_ne.mpr c23
   have c23b1 : (a2_0 != 0) = true := bne_iff_ne.mpr c23
   by_cases c43 : (l2_1.length : Int) = 0
   ·
    rw [if_pos c43] at H
    have c43b0 : ((l2_1.length : Int) == 0) = true := beq_iff_eq.mpr c43
    have c43b1 : ((l2_1.length : Int) != 0) = false := bne_eq_false_iff_eq.mpr c43
    clear c43
    replace H := bs_ H
    obtain ⟨t265, A44, H⟩ := H
    obtain rfl := Option.some.inj H
    have hnb45 := NB257_255.out
    have hnc45 := NB255_257.out
    have hnb46 := NB257_256.out
    have hnc46 := NB256_257.out
    obtain ⟨hcz47_0, hcz47_1, hfz47_0, hfz47_1⟩ := cz2_ BK257
    have hnb48 := NB255_256.out
    have hnc48 := NB256_255.out
    obtain ⟨hcz49_0, hcz49_1, hfz49_0, hfz49_1⟩ := cz2_ BK255
    obtain ⟨hcz50_0, hcz50_1, hcz50_2, hfz50_0, hfz50_1, hfz50_2⟩ := cz3_ BK256
    go_wp2_with (first | (go_at_call 74; (with_reducible refine (impl_refusal.calls kj3 _ _ l0_0 a0_1 a1_0 a1_1 a1_2 a2_0 t265 _ ?side1 ?side2 A44.out).mono ?_); (case side1 => exact cb_ (Kd.C_below HR0_0.out HB.out)); (case side2 => exact HC0_0.out); rintro e w51 ⟨rfl, hb⟩; replace BK255 := bb_ BK255 hb; replace BK256 := bb_ BK256 hb; replace BK257 := bb_ BK257 hb; replace HB := hs_ HB hb; (try clear hb); (try clear hb2); (try clear hk); (try clear hi)))
    go_ret
    exact ⟨rs_, hb_ HB⟩
   rw [if_neg c43] at H
   have c43b0 : ((l2_1.length : Int) == 0) = false := beq_eq_false_iff_ne.mpr c43
   have c43b1 : ((l2_1.length : Int) != 0) = true := bne_iff_ne.mpr c43
   have c43b2 : ¬ (l2_1 = []) := fun h_ => c43 (by rw [h_]; rfl)
   obtain rfl := Option.some.inj H
   have hnb52 := NB257_255.out
   have hnc52 := NB255_257.out
   have hnb53 := NB257_256.out
   have hnc53 := NB256_257.out
   obtain ⟨hcz54_0, hcz54_1, hfz54_0, hfz54_1⟩ := cz2_ BK257
   go_wp2
   go_ret
   exact ⟨rs_, hb_ HB⟩

/-! ### slices_Clone_int_int: function 126 -/
def slices_Clone_int_int.f (l0 : List Int) : Option (List Int) := (some (([] : List Int) : List Int)).bind fun y266 => (if y266.length + l0.length < 17592186044416 then (some (y266 ++ l0)) else (none))
set_option maxHeartbeats 8000000 in
set_option maxRecDepth 100000 in
theorem slices_Clone_int_int.calls (A0 : Option Addr) (c0 : Nat) (l0 : List Int) (r : List Int) (w : World) (hr0 : Kd.C (Kd.int .i64) w A0 l0.length l0) (hc0 : l0.length ≤ c0) (h : slices_Clone_int_int.f l0 = some r) :
    Calls Try.prog 126 #[.slice A0 l0.length c0] w fun e w' => ∃ v0_ : Value, e = .returned (v0_) ∧ Kd.R (Kd.int .i64) 3 w' w.heap.size (fun _ => True) v0_ r ∧ Below w.heap.size w w' := by
 rcases A0 with _ | ad0_
 ·
  have hz_ : l0 = [] := by
   by_cases h0_ : 0 < l0.length
   ·
    obtain ⟨ad_, he_, _⟩ := hr0.2.2 h0_
    cases he_
   exact List.eq_nil_of_length_eq_zero (by omega)
  subst hz_
  have hq_ : r = [] := by
   have h2_ := h
   simp [slices_Clone_int_int.f] at h2_
   exact h2_
  subst hq_
  clear h hr0 hc0
  have heq_ := fun (w : World) => Lib.run_eql_slice_nil (P := Try.prog) w 35 3 none 0 c0 0 0 Try.underlying35
  show Calls Try.prog 126 #[.slice none 0 c0] w _
  go_enter Try.func126, Try.ntmps126
  go_wp2
  go_ret
  exact ⟨_, rfl, Kd.R_nil _ _ _ _ _, by repeat (first | exact Below.refl _ _ | apply below_alloc | apply pw_below_drewN | apply below_drew1)⟩
 have heq_ := fun (w : World) => Lib.run_eql_slice_nil (P := Try.prog) w 35 3 (some ad0_) l0.length c0 0 0 Try.underlying35
 have HR0 := A_ hr0
 have HC0 := A_ hc0
 clear hr0 hc0
 have HB := A_ (Below.refl w.heap.size w)
 have H : ((some (([] : List Int) : List Int)).bind fun y266 => (if y266.length + l0.length < 17592186044416 then (some (y266 ++ l0)) else (none))) = some r := h
 clear h
 obtain ⟨y266, hy266⟩ : ∃ y_ : List Int, y_ = (([] : List Int)) := ⟨_, rfl⟩
 replace H : (if y266.length + l0.length < 17592186044416 then (some (y266 ++ l0)) else (none)) = some r := by first | (rw [hy266]; with_reducible exact H) | (have H2_ := (Option.bind_some _ _).symm.trans H; rw [hy266]; with_reducible exact H2_) | (have H2_ := (Option.bind_some _ _).symm.trans H; with_reducible exact H2_) | with_reducible exact H | (rw [hy266]; exact H) | exact H
 have Ny266 := A_ hy266
 clear hy266
 by_cases c2 : y266.length + l0.length < 17592186044416
 ·
  rw [if_pos c2] at H
  have LMc2 := A_ c2
  clear c2
  obtain ⟨y269, hy269⟩ : ∃ y_ : List Int, y_ = (y266 ++ l0) := ⟨_, rfl⟩
  replace H : (some y269) = some r := by first | (rw [hy269]; with_reducible exact H) | (have H2_ := (Option.bind_some _ _).symm.trans H; rw [hy269]; with_reducible exact H2_) | (have H2_ := (Option.bind_some _ _).symm.trans H; with_reducible exact H2_) | with_reducible exact H | (rw [hy269]; exact H) | exact H
  have Ny269 := A_ hy269
  clear hy269
  obtain rfl := Option.some.inj H
  go_enter Try.func126, Try.ntmps126
  go_wp2_with (first | ((with_reducible refine gate_dst (N := 5) rfl ?_); refine Kd.R_lit (Kd.int .i64) _ 3 ?hg (N := 5) ?hd (xs := ([] : List Int)) (inner := []) (ok := fun _ => True) (okp := fun _ => True) ?hr ?hp (fun _ hk => hk) trivial (Below.refl _ _) (Nat.le_refl _) (by simp) ?_; (case hd => rfl); (case hg => rfl); (case hr => first | (go_simp; done) | (go_simp; rfl)); (case hp => exact (Reps.none _ _)); intro v267 w3 ho4 hb hg_ hnew_; clear hg_ hnew_; (first | rw [← Ny266.out] at ho4 | (simp only [Int.reduceToNat] at ho4; rw [← Ny266.out] at ho4)); have HO268 := A_ (Kd.R_lower ho4 (below_size (hb_ HB))); replace HB := hs_ HB hb; clear hb ho4) | ((with_reducible refine gate_builtin (b := .append) (xs := #[.tmp 5, .tmp 6]) rfl ?_); at_builtin; refine Kd.R_append_rows (Kd.int .i64) (w0 := w) w.heap.size rfl (.tmp 5) (.tmp 6) 35 3 (.int .i64 0) 8 rfl Try.underlying35 info3 rfl (by decide) (by omega) v267 y266 l0 _ _ _ (fun _ => True) (fun _ => False) rfl rfl ?aO ?aR (fun _ _ h => h) (fun _ h => h.elim) ?aF ?aB ?aS ?aL ?_; (case aR => exact cb_ (Kd.C_below HR0.out HB.out)); (case aB => exact (hb_ HB)); (case aF => exact (fun _ _ => trivial)); (case aO => exact (rb_ HO268.out)); (case aS => exact (below_size (hb_ HB))); (case aL => have := LMc2.out; omega); intro v270 w5 ho hb hg hat; rw [← Ny269.out] at ho; have HO271 := A_ ho; replace HB := A_ hb; clear HO268; clear ho hb hg hat))
  go_ret
  exact ⟨_, rs_, rb_ HO271.out, hb_ HB⟩
 rw [if_neg c2] at H
 exact absurd H (by simp)

/-! ### impl_copyRows: function 66 -/
def impl_copyRows.f (l0_0 : List Int) (a0_1 : Int) : Option (List Int × Int) := (slices_Clone_int_int.f l0_0).bind fun t274 => (some (t274, a0_1))
set_option maxHeartbeats 8000000 in
set_option maxRecDepth 100000 in
theorem impl_copyRows.calls (A0_0 : Option Addr) (c0_0 : Nat) (l0_0 : List Int) (a0_1 : Int) (r1 : List Int) (r2 : Int) (w : World) (hr0_0 : Kd.C (Kd.int .i64) w A0_0 l0_0.length l0_0) (hc0_0 : l0_0.length ≤ c0_0) (h : impl_copyRows.f l0_0 a0_1 = some (r1, r2)) :
    Calls Try.prog 66 #[.agg #[.slice A0_0 l0_0.length c0_0, .int .i64 a0_1]] w fun e w' => ∃ v0_ : Value, e = .returned (.agg #[v0_, .int .i64 r2]) ∧ Kd.R (Kd.int .i64) 3 w' w.heap.size (fun _ => True) v0_ r1 ∧ Below w.heap.size w w' := by
 have hu44 := Try.underlying44
 have HR0_0 := A_ hr0_0
 have HC0_0 := A_ hc0_0
 clear hr0_0 hc0_0
 have HB := A_ (Below.refl w.heap.size w)
 have H : ((slices_Clone_int_int.f l0_0).bind fun t274 => (some (t274, a0_1))) = some (r1, r2) := h
 clear h
 replace H := bs_ H
 obtain ⟨t274, A2, H⟩ := H
 simp only [Option.some.injEq, Prod.mk.injEq] at H
 obtain ⟨rfl, rfl⟩ := H
 go_enter Try.func66, Try.ntmps66
 try go_wp2_with (first | ((with_reducible refine gate_dst (N := 1) rfl ?_); refine Y4_ ?_; clear HB; intro gb272 w3 BK272 GW272 HB) | ((with_reducible refine gate_dst (N := 2) rfl ?_); refine bx_ HB rfl (N := 2) rfl (cs := #[.slice none 0 0, .int .i64 0]) (t := 44) hr_ ?_; clear HB; intro gb273 w4 hg hb BK273 GW273 HB; have NB272_273 := ng_ BK272 hg; have NB273_272 := ns_ (ng_ BK272 hg); replace BK272 := bb_ BK272 hb; clear hb hg))
 replace BK272 := A_ (blk_drew BK272.out)
 replace BK273 := A_ (blk_drew BK273.out)
 replace HB := A_ (below_drew1 HB.out)
 refine start_ (n := 7) (S := fun w' => w'.cell? ⟨gb272, 0, none⟩ = some (.slice A0_0 l0_0.length c0_0) ∧ w'.cell? ⟨gb272, 1, none⟩ = some (.int .i64 a0_1)) (ds := []) (bt_ 0 7) (by kernel_rfl) rfl rfl ⟨(blk_cell BK272.out 0).trans rfl, (blk_cell BK272.out 1).trans rfl⟩ (fun hHeld => ?_)
 generalize w4.drew = w5 at BK272 BK273 HB hHeld ⊢
 refine pure_ (i := 0) (N := some 3) (v := ?_) (a' := ?_) (bt_ 1 7) rfl rfl (by kernel_rfl) (fun _ _ _ h => h) (Or.inl ⟨by rfl, ?_⟩) ?_ ?_
 rotate_left
 ·
  intro w'
  go_simp
  with_reducible rfl
 rotate_left
 ·
  simp only [Act.put, List.setIfInBounds_toArray, List.set_cons_zero, List.set_cons_succ, i64_w, i32_w]
  rfl
 refine pure_ (i := 3) (N := some 6) (v := ?_) (a' := ?_) (bt_ 9 7) rfl rfl (by kernel_rfl) (fun _ _ _ h => h) (Or.inl ⟨by rfl, ?_⟩) ?_ ?_
 rotate_left
 ·
  intro w'
  go_simp
  with_reducible rfl
 rotate_left
 ·
  simp only [Act.put, List.setIfInBounds_toArray, List.set_cons_zero, List.set_cons_succ, i64_w, i32_w]
  rfl
 refine take_ (i := 1) (N := some 4) (v := ?_) (a' := ?_) (bt_ 11 7) rfl rfl (by kernel_rfl) (fun _ _ _ h => h) (Or.inl ⟨by rfl, ?_⟩) hHeld ?_ ?_
 rotate_left
 ·
  rintro w' ⟨s0, s1⟩
  go_simp
  with_reducible rfl
 rotate_left
 ·
  simp only [Act.put, List.setIfInBounds_toArray, List.set_cons_zero, List.set_cons_succ, i64_w, i32_w]
  rfl
 refine take_ (i := 4) (N := some 7) (v := ?_) (a' := ?_) (bt_ 27 7) rfl rfl (by kernel_rfl) (fun _ _ _ h => h) (Or.inl ⟨by rfl, ?_⟩) hHeld ?_ ?_
 rotate_left
 ·
  rintro w' ⟨s0, s1⟩
  go_simp
  with_reducible rfl
 rotate_left
 ·
  simp only [Act.put, List.setIfInBounds_toArray, List.set_cons_zero, List.set_cons_succ, i64_w, i32_w]
  rfl
 refine one_ (i := 2) (N := some 5) (bt_ 31 7) rfl rfl (by kernel_rfl) (by decide) (fun K hK => ?_)
 refine goes_ Try.func126 (by kernel_rfl) rfl #[.slice A0_0 l0_0.length c0_0] (by rfl) rfl rfl al_ ?_
 with_reducible refine (slices_Clone_int_int.calls _ _ l0_0 t274 _ ?side1 ?side2 A2.out).mono ?_
 (case side1 => exact cb_ (Kd.C_below HR0_0.out HB.out))
 (case side2 => exact HC0_0.out)
 rintro e w6 ⟨v275, rfl, ho0, hb⟩
 refine ⟨_, rfl, ?_⟩
 have HO276 := A_ (Kd.R_lower ho0 (below_size (hb_ HB)))
 replace BK272 := bb_ BK272 hb
 replace BK273 := bb_ BK273 hb
 replace HB := hs_ HB hb
 (try clear hb)
 (try clear hb2)
 (try clear hk)
 (try clear hi)
 (try clear ho0)
 obtain ⟨Ao7, co7, eo7⟩ := Kd.R_slice HO276.out
 (first | subst eo7 | (injection eo7 with f1_ f2_ f3_; have f4_ := f1_.symm; have f5_ := f3_.symm; clear f1_ f2_ f3_; subst f4_; subst f5_))
 refine hK.out _ _ ⟨(blk_cell BK272.out 0).trans rfl, (blk_cell BK272.out 1).trans rfl⟩ (fun hHeld => ?_)
 clear hK K
 refine norm_ (a' := ?_) ?_ ?_
 rotate_left
 ·
  show Act.put _ (some 5) _ = _
  simp only [Act.put, List.setIfInBounds_toArray, List.set_cons_zero, List.set_cons_succ, i64_w, i32_w]
  rfl
 refine pure_ (i := 5) (N := some 8) (v := ?_) (a' := ?_) (bt_ 63 7) rfl rfl (by kernel_rfl) (fun _ _ _ h => h) (Or.inl ⟨by rfl, ?_⟩) ?_ ?_
 rotate_left
 ·
  intro w'
  go_simp
  with_reducible rfl
 rotate_left
 ·
  simp only [Act.put, List.setIfInBounds_toArray, List.set_cons_zero, List.set_cons_succ, i64_w, i32_w]
  rfl
 refine one_ (i := 6) (N := none) (bt_ 127 7) rfl rfl (by kernel_rfl) (by decide) (fun K hK => ?_)
 have hs8 : w6.cell? ⟨gb273, 0, none⟩ = some (.slice none 0 0) := (blk_cell BK273.out 0).trans rfl
 have hfs8 := blk_frozen BK273.out 0
 have hns8_0 := NB272_273.out
 have hms8_0 := NB273_272.out
 have hs9 : w6.cell? ⟨gb273, 1, none⟩ = some (.int .i64 0) := (blk_cell BK273.out 1).trans rfl
 have hfs9 := blk_frozen BK273.out 1
 have hns9_0 := NB272_273.out
 have hms9_0 := NB273_272.out
 refine skip_ (w1 := ?_) (by rfl) rfl ?_ ?_
 rotate_left
 ·
  go_simp
  rfl
 refine hK.out _ _ ⟨((cell_far (p := ⟨gb273, _, none⟩) NB272_273.out _).trans (((cell_far (p := ⟨gb273, _, none⟩) NB272_273.out _).trans (hHeld.1)))), ((cell_far (p := ⟨gb273, _, none⟩) NB272_273.out _).trans (((cell_far (p := ⟨gb273, _, none⟩) NB272_273.out _).trans (hHeld.2))))⟩ (fun hHeld => ?_)
 clear hK K
 refine done_ (by kernel_rfl) ?_
 try go_wp2
 refine bodyPost_ret (results_cell_row rfl _ _ gb273 44 #[.slice Ao7 t274.length co7, .int .i64 a0_1] (0, 0) _ rfl (bp_ BK273) Try.underlying44 rfl (by kernel_rfl)) rfl ?_
 exact ⟨_, rs_, by (with_reducible repeat (first | apply Kd.R_alloc | apply Kd.R_drewN | apply Kd.R_drew)); exact Kd.R_mono (Kd.R_far (p := ⟨gb273, 1, none⟩) (Kd.R_far (p := ⟨gb273, 0, none⟩) (Kd.R_types HO276.out BK273.out (by decide)) (fun _ hk => hk.2) (.slice Ao7 t274.length co7)) (fun _ hk => hk.2) (.int .i64 a0_1)) (fun _ hk => trivial), hb_ HB⟩

end Go.Proofs.Ytmkhghbalnadlaa.PFnAllowed
