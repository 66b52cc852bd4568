/- Contracts of functions of the program: each says that the call does what a plain Lean function tells. Made by programs of this session and of the kit. No condition beyond the hypotheses that each theorem names. -/
import Derived.Test.YtmkhghbalnadlaaPFnAllowedx0
import Derived.Test.YtmkhghbalnadlaaPFnAllowedx1
import Derived.Test.YtmkhghbalnadlaaPFnAllowedx2
import Derived.Test.YtmkhghbalnadlaaPFnAllowedx3
import Derived.Test.YtmkhghbalnadlaaPFnAllowedx4
namespace Go.Proofs.Ytmkhghbalnadlaa.PFnAllowed
open Go.RowKit Go.Proofs.YtmkhghbalnadlaaW.PrintWords Go.Proofs.YtmkhghbalnadlaaW.PrintLast Go.Proofs.YtmkhghbalnadlaaW.PrintMore
attribute [local go_sem] max2_int min2_int max_two min_two max_three min_three max_four min_four   -- for this text's walks alone
set_option linter.unusedVariables false
set_option linter.unusedSimpArgs false

/-! ### spec_l4Ints: function 83 -/
mutual
def spec_l4Ints.l0 : Nat → List Int → List Int → Int → Option (Bool)
 | 0, _, _, _ => none
 | k + 1, x0, x1, x5 => if x5 < (x0.length : Int) then (spec_l4Ints.j1 k x0 x1 x5 (decide (x5 < (x1.length : Int)))) else (spec_l4Ints.j1 k x0 x1 x5 false)
def spec_l4Ints.j1 : Nat → List Int → List Int → Int → Bool → Option (Bool)
 | 0, _, _, _, _ => none
 | k + 1, x0, x1, x5, x15 => if x15 = true then (if 0 ≤ x5 then (if x5 < (x0.length : Int) then (if x5 < (x1.length : Int) then (if (rd x0 x5) = (rd x1 x5) then (spec_l4Ints.l0 k x0 x1 (wrap64 (x5 + 1))) else (some false)) else (none)) else (none)) else (none)) else (some ((x0.length : Int) == (x1.length : Int)))
end
def spec_l4Ints.f (k : Nat) (l0 : List Int) (l1 : List Int) : Option (Bool) := spec_l4Ints.l0 k l0 l1 0
theorem spec_l4Ints.mono_l : ∀ k, (∀ y0 y1 y2, LeO (spec_l4Ints.l0 k y0 y1 y2) (spec_l4Ints.l0 (k + 1) y0 y1 y2)) ∧ (∀ y0 y1 y2 y3, LeO (spec_l4Ints.j1 k y0 y1 y2 y3) (spec_l4Ints.j1 (k + 1) y0 y1 y2 y3))
 | 0 => ⟨fun _ _ _ r h => by simp [spec_l4Ints.l0] at h, fun _ _ _ _ r h => by simp [spec_l4Ints.j1] at h⟩
 | k + 1 => by
  obtain ⟨ih0, ih1⟩ := spec_l4Ints.mono_l k
  refine ⟨?_, ?_⟩
  ·
   intro y0 y1 y2
   unfold spec_l4Ints.l0
   repeat' first | (with_reducible first | apply ih0 | apply ih1 | apply LeO.refl | apply LeO.none | apply LeO.ite | refine LeO.bind ?_ (fun _ => ?_)) | apply ih0 | apply ih1 | apply LeO.none | apply LeO.ite | refine LeO.bind ?_ (fun _ => ?_)
  intro y0 y1 y2 y3
  unfold spec_l4Ints.j1
  repeat' first | (with_reducible first | apply ih0 | apply ih1 | apply LeO.refl | apply LeO.none | apply LeO.ite | refine LeO.bind ?_ (fun _ => ?_)) | apply ih0 | apply ih1 | apply LeO.none | apply LeO.ite | refine LeO.bind ?_ (fun _ => ?_)
theorem spec_l4Ints.mono : ∀ a0 a1 k, LeO (spec_l4Ints.f k a0 a1) (spec_l4Ints.f (k + 1) a0 a1) := by
 intro a0 a1 k
 obtain ⟨ih0, ih1⟩ := spec_l4Ints.mono_l k
 unfold spec_l4Ints.f
 repeat' first | (with_reducible first | apply ih0 | apply ih1 | apply LeO.refl | apply LeO.none | apply LeO.ite | refine LeO.bind ?_ (fun _ => ?_)) | apply ih0 | apply ih1 | apply LeO.none | apply LeO.ite | refine LeO.bind ?_ (fun _ => ?_)
set_option maxHeartbeats 8000000 in
set_option maxRecDepth 100000 in
theorem spec_l4Ints.calls (k : Nat) (A0 : Option Addr) (c0 : Nat) (l0 : List Int) (A1 : Option Addr) (c1 : Nat) (l1 : List Int) (r : Bool) (w : World) (hr0 : Kd.C (Kd.int .i64) w A0 l0.length l0) (hc0 : l0.length ≤ c0) (hr1 : Kd.C (Kd.int .i64) w A1 l1.length l1) (hc1 : l1.length ≤ c1) (h : spec_l4Ints.f k l0 l1 = some r) :
    Calls Try.prog 83 #[.slice A0 l0.length c0, .slice A1 l1.length c1] w fun e w' => e = .returned (.bool r) ∧ Drawn0 w w' := by
 have HR0 := A_ hr0
 have HC0 := A_ hc0
 clear hr0 hc0
 have HR1 := A_ hr1
 have HC1 := A_ hc1
 clear hr1 hc1
 have H : (spec_l4Ints.l0 k l0 l1 0) = some r := h
 clear h
 replace H' := A_ H; clear H
 go_enter Try.func83, Try.ntmps83
 go_wp2
 repeat (go_quiet (fail); try go_wp2)
 go_loopg [5] k (fun kq v5 w' => ∃ (x5_1 : Int), v5 = .int .i64 x5_1 ∧ Aside0 (spec_l4Ints.l0 kq l0 l1 x5_1 = some r) ∧ Aside0 (kq ≤ k) ∧ Drawn0 w w')
 case atStart => exact ⟨(0), rt_, H', ⟨Nat.le_refl _⟩, by repeat (first | exact Drawn0.refl _ | apply Drawn0.step)⟩
 case round =>
  clear H'
  try clear c1
  obtain ⟨x5_1, rfl, HA, HK1, ⟨m1, rfl⟩⟩ := hrel
  cases gk with
  | zero => exact absurd HA.out (by simp [spec_l4Ints.l0])
  | succ k1 =>
   have H := HA.out
   clear HA
   simp only [spec_l4Ints.l0] at H
   have HC3 := A_ H
   clear H
   go_upto_region 2 with (fail)
   repeat (go_quiet (fail); go_upto_region 2 with (fail))
   go_cut [15] (fun v15 wc => ∃ (kq : Nat) (x15_2 : Bool), v15 = .bool x15_2 ∧ Aside0 (spec_l4Ints.j1 kq l0 l1 x5_1 x15_2 = some r) ∧ Aside0 (kq ≤ k1) ∧ Drawn0 w wc)
   case first =>
    have H := HC3.out
    clear HC3
    replace H := ic_ H
    rcases H with ⟨c4b0, H⟩ | ⟨c4b0, H⟩
    ·
     (first | rw [c4b0] | (simp only [i64_w, i32_w]; rw [c4b0]) | skip)
     replace H' := A_ H; clear H
     go_wp2
     repeat (go_quiet (fail); try go_wp2)
     go_meet
     case rel => exact ⟨_, (decide (x5_1 < (l1.length : Int))), rt_, H', ⟨by have := HK1.out; first | omega | exact Nat.le_refl _⟩, by repeat (first | exact Drawn0.refl _ | apply Drawn0.step)⟩
    (first | rw [c4b0] | (simp only [i64_w, i32_w]; rw [c4b0]) | skip)
    replace H' := A_ H; clear H
    go_wp2
    repeat (go_quiet (fail); try go_wp2)
    go_meet
    case rel => exact ⟨_, (false), rt_, H', ⟨by have := HK1.out; first | omega | exact Nat.le_refl _⟩, by repeat (first | exact Drawn0.refl _ | apply Drawn0.step)⟩
   case rest =>
    clear HC3
    try clear c1
    try clear c4b0
    obtain ⟨kq, x15_2, rfl, HA, HJ2, ⟨mc2, rfl⟩⟩ := hcut
    cases kq with
    | zero => exact absurd HA.out (by simp [spec_l4Ints.j1])
    | succ kj2 =>
     have H := HA.out
     clear HA
     simp only [spec_l4Ints.j1] at H
     by_cases c5 : x15_2 = true
     ·
      subst c5
      replace H := it_ H
      replace H := ix_ H
      obtain ⟨c6b0, H⟩ := H
      replace H := ix_ H
      obtain ⟨c7b0, H⟩ := H
      replace H := ix_ H
      obtain ⟨c8b0, H⟩ := H
      by_cases c9 : (rd l0 x5_1) = (rd l1 x5_1)
      ·
       rw [if_pos c9] at H
       have c9b0 : ((rd l0 x5_1) == (rd l1 x5_1)) = true := beq_iff_eq.mpr c9
       have c9b1 : ((rd l0 x5_1) != (rd l1 x5_1)) = false := bne_eq_false_iff_eq.mpr c9
       clear c9
       replace H' := A_ H; clear H
       obtain ⟨ad164, p164, q164, rfl, hx164_0⟩ := ab_int (A_ (Below.refl _ _)) HR0 x5_1
       obtain ⟨ad165, p165, q165, rfl, hx165_0⟩ := ab_int (A_ (Below.refl _ _)) HR1 x5_1
       go_wp2
       repeat (go_quiet (fail); try go_wp2)
       go_roundg kj2
       case measure => have := HK1.out; have := HJ2.out; omega
       case rel => exact ⟨(wrap64 (x5_1 + 1)), rt_, H', ⟨by have := HK1.out; have := HJ2.out; omega⟩, by repeat (first | exact Drawn0.refl _ | apply Drawn0.step)⟩
      rw [if_neg c9] at H
      have c9b0 : ((rd l0 x5_1) == (rd l1 x5_1)) = false := beq_eq_false_iff_ne.mpr c9
      have c9b1 : ((rd l0 x5_1) != (rd l1 x5_1)) = true := bne_iff_ne.mpr c9
      obtain rfl := Option.some.inj H
      obtain ⟨ad164, p164, q164, rfl, hx164_0⟩ := ab_int (A_ (Below.refl _ _)) HR0 x5_1
      obtain ⟨ad165, p165, q165, rfl, hx165_0⟩ := ab_int (A_ (Below.refl _ _)) HR1 x5_1
      go_wp2
      repeat (go_quiet (fail); try go_wp2)
      go_ret
      exact ⟨rt_, by repeat (first | exact Drawn0.refl _ | apply Drawn0.step)⟩
     obtain rfl := Bool.eq_false_iff.mpr c5
     replace H := iF_ H
     obtain rfl := Option.some.inj H
     go_wp2
     repeat (go_quiet (fail); try go_wp2)
     go_ret
     exact ⟨rt_, by repeat (first | exact Drawn0.refl _ | apply Drawn0.step)⟩

/-! ### spec_Allowed: function 31 -/
def spec_Allowed.j0 : Nat → Bool → List Int → Int → Int → Int → Int → Int → List Int → Option (Bool)
 | 0, _, _, _, _, _, _, _, _ => none
 | k + 1, x16, x167000, x167001, x168000, x168001, x168002, x169000, x169001 => if x16 = true then (some false) else (if x169000 = 0 then ((spec_l4Done.f k x167000 x167001 x168000 x168001 x168002).bind fun bt171 => (if bt171.2 = true then ((spec_l4Ints.f k bt171.1 x169001).bind fun t175 => (some t175)) else (some false))) else (if (x169001.length : Int) = 0 then ((spec_l4Fails.f k x167000 x167001 x168000 x168001 x168002 x169000).bind fun t176 => (some t176)) else (some false)))
def spec_Allowed.f (k : Nat) (l0_0 : List Int) (a0_1 : Int) (a1_0 : Int) (a1_1 : Int) (a1_2 : Int) (a2_0 : Int) (l2_1 : List Int) : Option (Bool) := (spec_RowsOk.f k l0_0 a0_1).bind fun t169 => (if t169 = true then ((spec_OpOk.f k a1_0 a1_1 a1_2).bind fun t170 => (spec_Allowed.j0 k (!t170) l0_0 a0_1 a1_0 a1_1 a1_2 a2_0 l2_1)) else (spec_Allowed.j0 k true l0_0 a0_1 a1_0 a1_1 a1_2 a2_0 l2_1))
theorem spec_Allowed.mono_l : ∀ k, (∀ y0 y1 y2 y3 y4 y5 y6 y7, LeO (spec_Allowed.j0 k y0 y1 y2 y3 y4 y5 y6 y7) (spec_Allowed.j0 (k + 1) y0 y1 y2 y3 y4 y5 y6 y7))
 | 0 => fun _ _ _ _ _ _ _ _ r h => by simp [spec_Allowed.j0] at h
 | k + 1 => by
  have ih0 := spec_Allowed.mono_l k
  ·
   intro y0 y1 y2 y3 y4 y5 y6 y7
   unfold spec_Allowed.j0
   repeat' first | (with_reducible first | apply ih0 | apply spec_OpOk.mono | apply spec_RowsOk.mono | apply spec_l4Done.mono | apply spec_l4Fails.mono | apply spec_l4Ints.mono | apply LeO.refl | apply LeO.none | apply LeO.ite | refine LeO.bind ?_ (fun _ => ?_)) | apply ih0 | apply spec_OpOk.mono | apply spec_RowsOk.mono | apply spec_l4Done.mono | apply spec_l4Fails.mono | apply spec_l4Ints.mono | apply LeO.none | apply LeO.ite | refine LeO.bind ?_ (fun _ => ?_)
theorem spec_Allowed.mono : ∀ a0 a1 a2 a3 a4 a5 a6 k, LeO (spec_Allowed.f k a0 a1 a2 a3 a4 a5 a6) (spec_Allowed.f (k + 1) a0 a1 a2 a3 a4 a5 a6) := by
 intro a0 a1 a2 a3 a4 a5 a6 k
 have ih0 := spec_Allowed.mono_l k
 unfold spec_Allowed.f
 repeat' first | (with_reducible first | apply ih0 | apply spec_OpOk.mono | apply spec_RowsOk.mono | apply spec_l4Done.mono | apply spec_l4Fails.mono | apply spec_l4Ints.mono | apply LeO.refl | apply LeO.none | apply LeO.ite | refine LeO.bind ?_ (fun _ => ?_)) | apply ih0 | apply spec_OpOk.mono | apply spec_RowsOk.mono | apply spec_l4Done.mono | apply spec_l4Fails.mono | apply spec_l4Ints.mono | apply LeO.none | apply LeO.ite | refine LeO.bind ?_ (fun _ => ?_)
set_option maxHeartbeats 8000000 in
set_option maxRecDepth 100000 in
theorem spec_Allowed.calls (k : Nat) (A0_0 : Option Addr) (c0_0 : Nat) (l0_0 : List Int) (a0_1 : Int) (a1_0 : Int) (a1_1 : Int) (a1_2 : Int) (a2_0 : Int) (A2_1 : Option Addr) (c2_1 : Nat) (l2_1 : List Int) (r : Bool) (w : World) (hr0_0 : Kd.C (Kd.int .i64) w A0_0 l0_0.length l0_0) (hc0_0 : l0_0.length ≤ c0_0) (hr2_1 : Kd.C (Kd.int .i64) w A2_1 l2_1.length l2_1) (hc2_1 : l2_1.length ≤ c2_1) (h : spec_Allowed.f k l0_0 a0_1 a1_0 a1_1 a1_2 a2_0 l2_1 = some r) :
    Calls Try.prog 31 #[.agg #[.slice A0_0 l0_0.length c0_0, .int .i64 a0_1], .agg #[.int .i64 a1_0, .int .i64 a1_1, .int .i64 a1_2], .agg #[.int .i64 a2_0, .slice A2_1 l2_1.length c2_1]] w fun e w' => e = .returned (.bool r) ∧ Below w.heap.size w w' := by
 have hu44 := Try.underlying44
 have hu47 := Try.underlying47
 have hu49 := Try.underlying49
 have HR0_0 := A_ hr0_0
 have HC0_0 := A_ hc0_0
 clear hr0_0 hc0_0
 have HR2_1 := A_ hr2_1
 have HC2_1 := A_ hc2_1
 clear hr2_1 hc2_1
 have HB := A_ (Below.refl w.heap.size w)
 have H : ((spec_RowsOk.f k l0_0 a0_1).bind fun t169 => (if t169 = true then ((spec_OpOk.f k a1_0 a1_1 a1_2).bind fun t170 => (spec_Allowed.j0 k (!t170) l0_0 a0_1 a1_0 a1_1 a1_2 a2_0 l2_1)) else (spec_Allowed.j0 k true l0_0 a0_1 a1_0 a1_1 a1_2 a2_0 l2_1))) = some r := h
 clear h
 have HC4 := A_ H
 clear H
 go_enter Try.func31, Try.ntmps31
 go_upto_region 1 with (first | ((with_reducible refine gate_dst (N := 3) rfl ?_); refine Y5_ ?_; clear HB; intro gb166 w5 BK166 GW166 HB) | ((with_reducible refine gate_dst (N := 4) rfl ?_); refine bx_ HB rfl (N := 4) rfl (cs := #[.int .i64 a1_0, .int .i64 a1_1, .int .i64 a1_2]) (t := 47) hr_ ?_; clear HB; intro gb167 w6 hg hb BK167 GW167 HB; have NB166_167 := ng_ BK166 hg; have NB167_166 := ns_ (ng_ BK166 hg); replace BK166 := bb_ BK166 hb; clear hb hg) | ((with_reducible refine gate_dst (N := 5) rfl ?_); refine bx_ HB rfl (N := 5) rfl (cs := #[.int .i64 a2_0, .slice A2_1 l2_1.length c2_1]) (t := 49) hr_ ?_; clear HB; intro gb168 w7 hg hb BK168 GW168 HB; have NB166_168 := ng_ BK166 hg; have NB168_166 := ns_ (ng_ BK166 hg); have NB167_168 := ng_ BK167 hg; have NB168_167 := ns_ (ng_ BK167 hg); replace BK166 := bb_ BK166 hb; replace BK167 := bb_ BK167 hb; clear hb hg))
 (try simp only [Act.put, List.setIfInBounds_toArray, List.set_cons_zero, List.set_cons_succ])
 go_cut [16] (fun v16 wc => ∃ (kq : Nat) (x16_3 : Bool), v16 = .bool x16_3 ∧ Aside0 (spec_Allowed.j0 kq x16_3 l0_0 a0_1 a1_0 a1_1 a1_2 a2_0 l2_1 = some r) ∧ Aside0 (kq ≤ k) ∧ Aside0 (wc.heap[gb166]? = some (.cells #[(.slice A0_0 l0_0.length c0_0), .int .i64 a0_1] 44 (0, 0))) ∧ Aside0 (wc.heap[gb167]? = some (.cells #[.int .i64 a1_0, .int .i64 a1_1, .int .i64 a1_2] 47 (0, 0))) ∧ Aside0 (wc.heap[gb168]? = some (.cells #[.int .i64 a2_0, (.slice A2_1 l2_1.length c2_1)] 49 (0, 0))) ∧ Aside0 (Below w.heap.size w wc))
 case first =>
  have H := HC4.out
  clear HC4
  replace H := bs_ H
  obtain ⟨t169, A8, H⟩ := H
  by_cases c9 : t169 = true
  ·
   subst c9
   replace H := it_ H
   replace H := bs_ H
   obtain ⟨t170, A10, H⟩ := H
   replace H' := A_ H; clear H
   have hnb11 := NB166_167.out
   have hnc11 := NB167_166.out
   have hnb12 := NB166_168.out
   have hnc12 := NB168_166.out
   obtain ⟨hcz13_0, hcz13_1, hfz13_0, hfz13_1⟩ := cz2_ BK166
   go_wp2_with (first | ((with_reducible refine gate_callee (f := 80) rfl ?_); refine goesL_ (some 10) rfl rfl Try.func80 (by kernel_rfl) rfl #[.agg #[.slice A0_0 l0_0.length c0_0, .int .i64 a0_1]] rfl al_ ?_; (with_reducible refine (spec_RowsOk.calls k _ _ l0_0 a0_1 true _ ?side1 ?side2 A8.out).mono ?_); (case side1 => exact cb_ (Kd.C_below HR0_0.out HB.out)); (case side2 => exact HC0_0.out); rintro e w14 ⟨rfl, hb⟩; refine ⟨_, rfl, ?_⟩; replace BK166 := bb_ BK166 hb; replace BK167 := bb_ BK167 hb; replace BK168 := bb_ BK168 hb; replace HB := hs_ HB hb; (try clear hb); (try clear hb2); (try clear hk); (try clear hi); have hnb15 := NB167_168.out; have hnc15 := NB168_167.out; obtain ⟨hcz16_0, hcz16_1, hcz16_2, hfz16_0, hfz16_1, hfz16_2⟩ := cz3_ BK167) | (go_at_call 36; (with_reducible refine (spec_OpOk.calls k a1_0 a1_1 a1_2 t170 _ A10.out).mono ?_); rintro e w17 ⟨rfl, hb⟩; replace BK166 := bb_ BK166 hb; replace BK167 := bb_ BK167 hb; replace BK168 := bb_ BK168 hb; replace HB := hs_ HB hb; (try clear hb); (try clear hb2); (try clear hk); (try clear hi)))
   go_meet
   case rel => exact ⟨_, (!t170), rt_, H', ⟨by first | omega | exact Nat.le_refl _⟩, ⟨bk_ BK166⟩, ⟨bk_ BK167⟩, ⟨bk_ BK168⟩, ⟨hb_ HB⟩⟩
  obtain rfl := Bool.eq_false_iff.mpr c9
  replace H := iF_ H
  replace H' := A_ H; clear H
  have hnb18 := NB166_167.out
  have hnc18 := NB167_166.out
  have hnb19 := NB166_168.out
  have hnc19 := NB168_166.out
  obtain ⟨hcz20_0, hcz20_1, hfz20_0, hfz20_1⟩ := cz2_ BK166
  go_wp2_with (first | ((with_reducible refine gate_callee (f := 80) rfl ?_); refine goesL_ (some 10) rfl rfl Try.func80 (by kernel_rfl) rfl #[.agg #[.slice A0_0 l0_0.length c0_0, .int .i64 a0_1]] rfl al_ ?_; (with_reducible refine (spec_RowsOk.calls k _ _ l0_0 a0_1 false _ ?side1 ?side2 A8.out).mono ?_); (case side1 => exact cb_ (Kd.C_below HR0_0.out HB.out)); (case side2 => exact HC0_0.out); rintro e w21 ⟨rfl, hb⟩; refine ⟨_, rfl, ?_⟩; replace BK166 := bb_ BK166 hb; replace BK167 := bb_ BK167 hb; replace BK168 := bb_ BK168 hb; replace HB := hs_ HB hb; (try clear hb); (try clear hb2); (try clear hk); (try clear hi)))
  go_meet
  case rel => exact ⟨_, (true), rt_, H', ⟨by first | omega | exact Nat.le_refl _⟩, ⟨bk_ BK166⟩, ⟨bk_ BK167⟩, ⟨bk_ BK168⟩, ⟨hb_ HB⟩⟩
 case rest =>
  clear HC4
  try clear c1
  try clear c2
  try clear c9
  obtain ⟨kq, x16_3, rfl, HA, HJ3, BK166, BK167, BK168, HB⟩ := hcut
  cases kq with
  | zero => exact absurd HA.out (by simp [spec_Allowed.j0])
  | succ kj3 =>
   have H := HA.out
   clear HA
   simp only [spec_Allowed.j0] at H
   by_cases c22 : x16_3 = true
   ·
    subst c22
    replace H := it_ H
    obtain rfl := Option.some.inj H
    go_wp2
    go_ret
    exact ⟨rs_, hb_ HB⟩
   obtain rfl := Bool.eq_false_iff.mpr c22
   replace H := iF_ H
   by_cases c23 : a2_0 = 0
   ·
    rw [if_pos c23] at H
    have c23b0 : (a2_0 == 0) = true := beq_iff_eq.mpr c23
    have c23b1 : (a2_0 != 0) = false := bne_eq_false_iff_eq.mpr c23
    clear c23
    replace H := bs_ H
    obtain ⟨⟨t171, t174⟩, A24, H⟩ := H
    dsimp only at H
    by_cases c25 : t174 = true
    ·
     subst c25
     replace H := it_ H
     replace H := bs_ H
     obtain ⟨t175, A26, H⟩ := H
     obtain rfl := Option.some.inj H
     have hnb27 := NB168_166.out
     have hnc27 := NB166_168.out
     have hnb28 := NB168_167.out
     have hnc28 := NB167_168.out
     obtain ⟨hcz29_0, hcz29_1, hfz29_0, hfz29_1⟩ := cz2_ BK168
     have hnb30 := NB166_167.out
     have hnc30 := NB167_166.out
     obtain ⟨hcz31_0, hcz31_1, hfz31_0, hfz31_1⟩ := cz2_ BK166
     obtain ⟨hcz32_0, hcz32_1, hcz32_2, hfz32_0, hfz32_1, hfz32_2⟩ := cz3_ BK167
     go_wp2_with (first | ((with_reducible refine gate_callee (f := 82) rfl ?_); refine goesL_ (some 34) rfl rfl Try.func82 (by kernel_rfl) rfl #[.agg #[.slice A0_0 l0_0.length c0_0, .int .i64 a0_1], .agg #[.int .i64 a1_0, .int .i64 a1_1, .int .i64 a1_2]] rfl al_ ?_; (with_reducible refine (spec_l4Done.calls kj3 _ _ l0_0 a0_1 a1_0 a1_1 a1_2 t171 true _ ?side1 ?side2 A24.out).mono ?_); (case side1 => exact cb_ (Kd.C_below HR0_0.out HB.out)); (case side2 => exact HC0_0.out); rintro e w33 ⟨v172, rfl, ho0, hb⟩; refine ⟨_, rfl, ?_⟩; have HO173 := A_ (Kd.R_lower ho0 (below_size (hb_ HB))); replace BK166 := bb_ BK166 hb; replace BK167 := bb_ BK167 hb; replace BK168 := bb_ BK168 hb; replace HB := hs_ HB hb; (try clear hb); (try clear hb2); (try clear hk); (try clear hi); (try clear ho0); obtain ⟨hcz34_0, hcz34_1, hfz34_0, hfz34_1⟩ := cz2_ BK168; obtain ⟨Ao35, co35, eo35⟩ := Kd.R_slice HO173.out; subst eo35) | (go_at_call 83; (with_reducible refine (spec_l4Ints.calls kj3 _ _ t171 _ _ l2_1 t175 _ ?side1 ?side2 ?side3 ?side4 A26.out).mono ?_); (case side1 => repeat (first | exact (Kd.R_reads' HO173.out).2.2 | (with_reducible refine Kd.C_alloc ?_ _) | (with_reducible refine Kd.C_drewN ?_ _) | (with_reducible refine Kd.C_drew ?_))); (case side2 => exact (Kd.R_reads' HO173.out).2.1); (case side3 => exact cb_ (Kd.C_below HR2_1.out HB.out)); (case side4 => exact HC2_1.out); rintro e w' ⟨rfl, ⟨nd, rfl⟩⟩))
     go_ret
     exact ⟨rs_, hb_ HB⟩
    obtain rfl := Bool.eq_false_iff.mpr c25
    replace H := iF_ H
    obtain rfl := Option.some.inj H
    have hnb36 := NB168_166.out
    have hnc36 := NB166_168.out
    have hnb37 := NB168_167.out
    have hnc37 := NB167_168.out
    obtain ⟨hcz38_0, hcz38_1, hfz38_0, hfz38_1⟩ := cz2_ BK168
    have hnb39 := NB166_167.out
    have hnc39 := NB167_166.out
    obtain ⟨hcz40_0, hcz40_1, hfz40_0, hfz40_1⟩ := cz2_ BK166
    obtain ⟨hcz41_0, hcz41_1, hcz41_2, hfz41_0, hfz41_1, hfz41_2⟩ := cz3_ BK167
    go_wp2_with (first | ((with_reducible refine gate_callee (f := 82) rfl ?_); refine goesL_ (some 34) rfl rfl Try.func82 (by kernel_rfl) rfl #[.agg #[.slice A0_0 l0_0.length c0_0, .int .i64 a0_1], .agg #[.int .i64 a1_0, .int .i64 a1_1, .int .i64 a1_2]] rfl al_ ?_; (with_reducible refine (spec_l4Done.calls kj3 _ _ l0_0 a0_1 a1_0 a1_1 a1_2 t171 false _ ?side1 ?side2 A24.out).mono ?_); (case side1 => exact cb_ (Kd.C_below HR0_0.out HB.out)); (case side2 => exact HC0_0.out); rintro e w42 ⟨v172, rfl, ho0, hb⟩; refine ⟨_, rfl, ?_⟩; have HO173 := A_ (Kd.R_lower ho0 (below_size (hb_ HB))); replace BK166 := bb_ BK166 hb; replace BK167 := bb_ BK167 hb; replace BK168 := bb_ BK168 hb; replace HB := hs_ HB hb; (try clear hb); (try clear hb2); (try clear hk); (try clear hi); (try clear ho0)))
    go_ret
    exact ⟨rs_, hb_ HB⟩
   rw [if_neg c23] at H
   have c23b0 : (a2_0 == 0) = false := beq_eq_false_iff_ne.mpr c23
   have c23b1 : (a2_0 != 0) = true := bne_iff_ne.mpr c23
   by_cases c43 : (l2_1.length : Int) = 0
   ·
    rw [if_pos c43] at H
    have c43b0 : ((l2_1.length : Int) == 0) = true := beq_iff_eq.mpr c43
    have c43b1 : ((l2_1.length : Int) != 0) = false := bne_eq_false_iff_eq.mpr c43
    clear c43
    replace H := bs_ H
    obtain ⟨t176, A44, H⟩ := H
    obtain rfl := Option.some.inj H
    have hnb45 := NB168_166.out
    have hnc45 := NB166_168.out
    have hnb46 := NB168_167.out
    have hnc46 := NB167_168.out
    obtain ⟨hcz47_0, hcz47_1, hfz47_0, hfz47_1⟩ := cz2_ BK168
    have hnb48 := NB166_167.out
    have hnc48 := NB167_166.out
    obtain ⟨hcz49_0, hcz49_1, hfz49_0, hfz49_1⟩ := cz2_ BK166
    obtain ⟨hcz50_0, hcz50_1, hcz50_2, hfz50_0, hfz50_1, hfz50_2⟩ := cz3_ BK167
    go_wp2_with (first | (go_at_call 81; (with_reducible refine (spec_l4Fails.calls kj3 _ _ l0_0 a0_1 a1_0 a1_1 a1_2 a2_0 t176 _ ?side1 ?side2 A44.out).mono ?_); (case side1 => exact cb_ (Kd.C_below HR0_0.out HB.out)); (case side2 => exact HC0_0.out); rintro e w51 ⟨rfl, hb⟩; replace BK166 := bb_ BK166 hb; replace BK167 := bb_ BK167 hb; replace BK168 := bb_ BK168 hb; replace HB := hs_ HB hb; (try clear hb); (try clear hb2); (try clear hk); (try clear hi)))
    go_ret
    exact ⟨rs_, hb_ HB⟩
   rw [if_neg c43] at H
   have c43b0 : ((l2_1.length : Int) == 0) = false := beq_eq_false_iff_ne.mpr c43
   have c43b1 : ((l2_1.length : Int) != 0) = true := bne_iff_ne.mpr c43
   have c43b2 : ¬ (l2_1 = []) := fun h_ => c43 (by rw [h_]; rfl)
   obtain rfl := Option.some.inj H
   have hnb52 := NB168_166.out
   have hnc52 := NB166_168.out
   have hnb53 := NB168_167.out
   have hnc53 := NB167_168.out
   obtain ⟨hcz54_0, hcz54_1, hfz54_0, hfz54_1⟩ := cz2_ BK168
   go_wp2
   go_ret
   exact ⟨rs_, hb_ HB⟩

/-! ### spec_l3Copy: function 64 -/
def spec_l3Copy.f (l0_0 : List Int) (a0_1 : Int) : Option (List Int × Int) := (some (([] : List Int) : List Int)).bind fun y179 => (if y179.length + l0_0.length < 17592186044416 then (some ((y179 ++ l0_0), a0_1)) else (none))
def spec_l3Copy.T1 : Bool × List (List Nat × List Nat) := (true, [([], []), ([], []), ([1], [1]), ([0, 2], [0, 2]), ([], []), ([4], [4]), ([3, 5], [3, 5]), ([6, 3, 0, 1, 2, 3, 4, 5, 6], [6])])
def spec_l3Copy.B1 : List Nat := [0, 0, 2, 7, 0, 16, 63, 127]
theorem spec_l3Copy.tab1 : rtab .any (opsOf Try.f64 1) = spec_l3Copy.T1 := by kernel_rfl
theorem spec_l3Copy.bits1 : waitsOk spec_l3Copy.T1.2 spec_l3Copy.B1 = true := by kernel_rfl
set_option maxHeartbeats 8000000 in
set_option maxRecDepth 100000 in
theorem spec_l3Copy.calls (A0_0 : Option Addr) (c0_0 : Nat) (l0_0 : List Int) (a0_1 : Int) (r1 : List Int) (r2 : Int) (w : World) (hr0_0 : Kd.C (Kd.int .i64) w A0_0 l0_0.length l0_0) (hc0_0 : l0_0.length ≤ c0_0) (h : spec_l3Copy.f l0_0 a0_1 = some (r1, r2)) :
    Calls Try.prog 64 #[.agg #[.slice A0_0 l0_0.length c0_0, .int .i64 a0_1]] w fun e w' => ∃ v0_ : Value, e = .returned (.agg #[v0_, .int .i64 r2]) ∧ Kd.R (Kd.int .i64) 3 w' w.heap.size (fun _ => True) v0_ r1 ∧ Below w.heap.size w w' := by
 have hu44 := Try.underlying44
 have HR0_0 := A_ hr0_0
 have HC0_0 := A_ hc0_0
 clear hr0_0 hc0_0
 have HB := A_ (Below.refl w.heap.size w)
 have H : ((some (([] : List Int) : List Int)).bind fun y179 => (if y179.length + l0_0.length < 17592186044416 then (some ((y179 ++ l0_0), a0_1)) else (none))) = some (r1, r2) := h
 clear h
 obtain ⟨y179, hy179⟩ : ∃ y_ : List Int, y_ = (([] : List Int)) := ⟨_, rfl⟩
 replace H : (if y179.length + l0_0.length < 17592186044416 then (some ((y179 ++ l0_0), a0_1)) else (none)) = some (r1, r2) := by first | (rw [hy179]; with_reducible exact H) | (have H2_ := (Option.bind_some _ _).symm.trans H; rw [hy179]; with_reducible exact H2_) | (have H2_ := (Option.bind_some _ _).symm.trans H; with_reducible exact H2_) | with_reducible exact H | (rw [hy179]; exact H) | exact H
 have Ny179 := A_ hy179
 clear hy179
 by_cases c2 : y179.length + l0_0.length < 17592186044416
 ·
  rw [if_pos c2] at H
  have LMc2 := A_ c2
  clear c2
  obtain ⟨y182, hy182⟩ : ∃ y_ : List Int, y_ = (y179 ++ l0_0) := ⟨_, rfl⟩
  replace H : (some (y182, a0_1)) = some (r1, r2) := by first | (rw [hy182]; with_reducible exact H) | (have H2_ := (Option.bind_some _ _).symm.trans H; rw [hy182]; with_reducible exact H2_) | (have H2_ := (Option.bind_some _ _).symm.trans H; with_reducible exact H2_) | with_reducible exact H | (rw [hy182]; exact H) | exact H
  have Ny182 := A_ hy182
  clear hy182
  simp only [Option.some.injEq, Prod.mk.injEq] at H
  obtain ⟨rfl, rfl⟩ := H
  go_enter Try.func64, Try.ntmps64
  try go_wp2_with (first | ((with_reducible refine gate_dst (N := 1) rfl ?_); refine Y4_ ?_; clear HB; intro gb177 w3 BK177 GW177 HB) | ((with_reducible refine gate_dst (N := 2) rfl ?_); refine bx_ HB rfl (N := 2) rfl (cs := #[.slice none 0 0, .int .i64 0]) (t := 44) hr_ ?_; clear HB; intro gb178 w4 hg hb BK178 GW178 HB; have NB177_178 := ng_ BK177 hg; have NB178_177 := ns_ (ng_ BK177 hg); replace BK177 := bb_ BK177 hb; clear hb hg))
  replace BK177 := A_ (blk_drew BK177.out)
  replace BK178 := A_ (blk_drew BK178.out)
  replace HB := A_ (below_drew1 HB.out)
  refine start_ (n := 8) (S := fun w' => w'.cell? ⟨gb177, 0, none⟩ = some (.slice A0_0 l0_0.length c0_0) ∧ w'.cell? ⟨gb177, 1, none⟩ = some (.int .i64 a0_1)) (ds := []) (bt_ 0 8) (by kernel_rfl) rfl rfl ⟨(blk_cell BK177.out 0).trans rfl, (blk_cell BK177.out 1).trans rfl⟩ (fun hHeld => ?_); refine with_tabW spec_l3Copy.tab1 spec_l3Copy.bits1 (fun HT_ HW_ => ?_)
  generalize w4.drew = w5 at BK177 BK178 HB hHeld ⊢
  refine pu_ 1 4 (bt_ 2 8) ?_
  refine pu_ 4 7 (bt_ 18 8) ?_
  refine tk2_ 2 5 (bt_ 22 8) hHeld ?_
  refine tk2_ 5 8 (bt_ 54 8) hHeld ?_
  refine one_ (i := 0) (N := some 3) (bt_ 55 8) rfl rfl (one_of HT_.out (by kernel_rfl)) (by decide) (fun K hK => ?_)
  refine Kd.R_lit_step (Kd.int .i64) _ 3 ?hg (N := 3) ?hd (xs := ([] : List Int)) (inner := []) (ok := fun _ => True) (okp := fun _ => True) ?hr ?hp (fun _ hk => hk) trivial (Below.refl _ _) (Nat.le_refl _) (by simp) ?_; (case hd => rfl); (case hg => rfl); (case hr => first | (go_simp; done) | (go_simp; rfl)); (case hp => exact (Reps.none _ _))
  intro v180 w6 ho7 hb hg_ hnew_
  clear hg_ hnew_
  (first | rw [← Ny179.out] at ho7 | (simp only [Int.reduceToNat] at ho7; rw [← Ny179.out] at ho7))
  have HO181 := A_ (Kd.R_lower ho7 (below_size (hb_ HB)))
  replace BK177 := bb_ BK177 hb
  replace BK178 := bb_ BK178 hb
  replace HB := hs_ HB hb
  clear hb ho7
  refine hK.out _ _ ⟨(blk_cell BK177.out 0).trans rfl, (blk_cell BK177.out 1).trans rfl⟩ (fun hHeld => ?_)
  clear hK K
  refine norm_ (a' := ?_) ?_ ?_
  rotate_left
  ·
   show Act.put _ (some 3) _ = _
   simp only [Act.put, List.setIfInBounds_toArray, List.set_cons_zero, List.set_cons_succ, i64_w, i32_w]
   rfl
  refine one_ (i := 3) (N := some 6) (bt_ 63 8) rfl rfl (one_of HT_.out (by kernel_rfl)) (by decide) (fun K hK => ?_)
  refine Kd.R_append_rows_step (Kd.int .i64) (w0 := w) w.heap.size (by rfl) (.tmp 3) (.tmp 5) 35 3 (.int .i64 0) 8 rfl Try.underlying35 info3 rfl (by decide) (by omega) v180 y179 l0_0 _ _ _ (fun _ => True) (fun _ => False) rfl rfl ?aO ?aR (fun _ _ h => h) (fun _ h => h.elim) ?aF ?aB ?aS ?aL ?_
  (case aR => exact cb_ (Kd.C_below HR0_0.out HB.out))
  (case aB => exact (hb_ HB))
  (case aF => exact (fun _ _ => trivial))
  (case aO => exact (rb_ HO181.out))
  (case aS => exact (below_size (hb_ HB)))
  (case aL => have := LMc2.out; omega)
  intro v183 w8 ho hb hg hat
  rw [← Ny182.out] at ho
  have HO184 := A_ ho
  replace BK177 := A_ (blk_grown (g := gb177) (o := .cells #[.slice A0_0 l0_0.length c0_0, .int .i64 a0_1] 44 (0, 0)) (bk_ BK177) hg (Kd.R_ne HO181.out BK177.out (by decide)))
  replace BK178 := A_ (blk_grown (g := gb178) (o := .cells #[.slice none 0 0, .int .i64 0] 44 (0, 0)) (bk_ BK178) hg (Kd.R_ne HO181.out BK178.out (by decide)))
  replace HB := A_ hb
  clear HO181 ho hb hg hat
  obtain ⟨Ao9, co9, eo9⟩ := Kd.R_slice HO184.out
  (first | subst eo9 | (injection eo9 with f1_ f2_ f3_; have f4_ := f1_.symm; have f5_ := f3_.symm; clear f1_ f2_ f3_; subst f4_; subst f5_))
  refine hK.out _ _ ⟨(blk_cell BK177.out 0).trans rfl, (blk_cell BK177.out 1).trans rfl⟩ (fun hHeld => ?_)
  clear hK K
  refine norm_ (a' := ?_) ?_ ?_
  rotate_left
  ·
   show Act.put _ (some 6) _ = _
   simp only [Act.put, List.setIfInBounds_toArray, List.set_cons_zero, List.set_cons_succ, i64_w, i32_w]
   rfl
  refine pu_ 6 9 (bt_ 127 8) ?_
  refine one_ (i := 7) (N := none) (bt_ 255 8) rfl rfl (one_of HT_.out (by kernel_rfl)) (by decide) (fun K hK => ?_)
  have hs10 : w8.cell? ⟨gb178, 0, none⟩ = some (.slice none 0 0) := (blk_cell BK178.out 0).trans rfl
  have hfs10 := blk_frozen BK178.out 0
  have hns10_0 := NB177_178.out
  have hms10_0 := NB178_177.out
  have hs11 : w8.cell? ⟨gb178, 1, none⟩ = some (.int .i64 0) := (blk_cell BK178.out 1).trans rfl
  have hfs11 := blk_frozen BK178.out 1
  have hns11_0 := NB177_178.out
  have hms11_0 := NB178_177.out
  refine skip_ (w1 := ?_) (by rfl) rfl ?_ ?_
  rotate_left
  ·
   go_simp
   rfl
  refine hK.out _ _ ⟨((cell_far (p := ⟨gb178, _, none⟩) NB177_178.out _).trans (((cell_far (p := ⟨gb178, _, none⟩) NB177_178.out _).trans (hHeld.1)))), ((cell_far (p := ⟨gb178, _, none⟩) NB177_178.out _).trans (((cell_far (p := ⟨gb178, _, none⟩) NB177_178.out _).trans (hHeld.2))))⟩ (fun hHeld => ?_)
  clear hK K
  refine done_ (done_of HT_.out (by kernel_rfl)) ?_
  try go_wp2
  refine bodyPost_ret (results_cell_row rfl _ _ gb178 44 #[.slice Ao9 y182.length co9, .int .i64 a0_1] (0, 0) _ rfl (bp_ BK178) Try.underlying44 rfl (by kernel_rfl)) rfl ?_
  exact ⟨_, rs_, by (with_reducible repeat (first | apply Kd.R_alloc | apply Kd.R_drewN | apply Kd.R_drew)); exact Kd.R_mono (Kd.R_far (p := ⟨gb178, 1, none⟩) (Kd.R_far (p := ⟨gb178, 0, none⟩) (Kd.R_types HO184.out BK178.out (by decide)) (fun _ hk => hk.2) (.slice Ao9 y182.length co9)) (fun _ hk => hk.2) (.int .i64 a0_1)) (fun _ hk => trivial), hb_ HB⟩
 rw [if_neg c2] at H
 exact absurd H (by simp)

end Go.Proofs.Ytmkhghbalnadlaa.PFnAllowed
