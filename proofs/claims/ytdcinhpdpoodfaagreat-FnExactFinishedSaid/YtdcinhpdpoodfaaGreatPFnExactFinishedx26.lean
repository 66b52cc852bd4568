/- Contracts of functions of the program. No condition beyond the hypotheses that each theorem names. -/
import Derived.Test.YtdcinhpdpoodfaaGreatPFnExactFinishedx0
import Derived.Test.YtdcinhpdpoodfaaGreatPFnExactFinishedx23
import Derived.Test.YtdcinhpdpoodfaaGreatPFnExactFinishedx24
import Derived.Test.YtdcinhpdpoodfaaGreatPFnExactFinishedx25
namespace Go.Proofs.YtdcinhpdpoodfaaGreat.PFnExactFinished
open Go.RowKit Go.Proofs.YtdcinhpdpoodfaaGreatW.PrintWords Go.Proofs.YtdcinhpdpoodfaaGreatW.PrintLast Go.Proofs.YtdcinhpdpoodfaaGreatW.PrintMore
attribute [local go_sem] max2_int min2_int max_two min_two max_three min_three max_four min_four
set_option linter.unusedVariables false
set_option linter.unusedSimpArgs false
def laws_eqThreadS.l0 : Nat → List (S62) → List (S62) → Int → Option (Bool)
 | 0, _, _, _ => none
 | k + 1, x0, x1, x5 => if x5 < (x0.length : Int) then (if 0 ≤ x5 then (if x5 < (x1.length : Int) then ((laws_eqThread.f k ((rd_T62 x0 x5).f0) ((rd_T62 x0 x5).f1) ((rd_T62 x0 x5).f2) ((rd_T62 x0 x5).f3) ((rd_T62 x0 x5).f4) ((rd_T62 x1 x5).f0) ((rd_T62 x1 x5).f1) ((rd_T62 x1 x5).f2) ((rd_T62 x1 x5).f3) ((rd_T62 x1 x5).f4)).bind fun t575 => (if t575 = true then (laws_eqThreadS.l0 k x0 x1 (wrap64 (x5 + 1))) else (none))) else (none)) else (none)) else (some true)
def laws_eqThreadS.f (k : Nat) (l0 : List (S62)) (l1 : List (S62)) : Option (Bool) := if (l0.length : Int) = (l1.length : Int) then (laws_eqThreadS.l0 k l0 l1 0) else (none)
def laws_eqThreadS.T6 : Bool × List (List Nat × List Nat) := (true, [([], []), ([], []), ([0, 1], [0, 1]), ([2], [2]), ([], []), ([], []), ([4, 5], [4, 5]), ([6], [6]), ([3, 7], [3, 7]), ([8], [8])])
def laws_eqThreadS.B6 : List Nat := [0, 0, 3, 7, 0, 0, 48, 112, 255, 511]
theorem laws_eqThreadS.tab6 : rtab .any (opsOf Tryz.f115 6) = laws_eqThreadS.T6 := by kernel_rfl
theorem laws_eqThreadS.bits6 : waitsOk laws_eqThreadS.T6.2 laws_eqThreadS.B6 = true := by kernel_rfl
set_option maxHeartbeats 8000000 in
set_option maxRecDepth 100000 in
theorem laws_eqThreadS.calls (k : Nat) (A0 : Option Addr) (c0 : Nat) (l0 : List (S62)) (A1 : Option Addr) (c1 : Nat) (l1 : List (S62)) (r : Bool) (w : World) (hr0 : Kd.C k62 w A0 l0.length l0) (hc0 : l0.length ≤ c0) (hr1 : Kd.C k62 w A1 l1.length l1) (hc1 : l1.length ≤ c1) (h : laws_eqThreadS.f k l0 l1 = some r) :
    Calls Tryz.prog 115 #[.slice A0 l0.length c0, .slice A1 l1.length c1] w fun e w' => e = .returned (.bool r) ∧ Below w.heap.size w w' := by
 have hu62 := Tryz.underlying62
 have HR0 := A_ hr0
 have HC0 := A_ hc0
 clear hr0 hc0
 have HR1 := A_ hr1
 have HC1 := A_ hc1
 clear hr1 hc1
 have HB := A_ (Below.refl w.heap.size w)
 have H : (if (l0.length : Int) = (l1.length : Int) then (laws_eqThreadS.l0 k l0 l1 0) else (none)) = some r := h
 clear h
 by_cases c3 : (l0.length : Int) = (l1.length : Int)
 ·
  rw [if_pos c3] at H
  have c3b0 : ((l0.length : Int) == (l1.length : Int)) = true := beq_iff_eq.mpr c3
  have c3b1 : ((l0.length : Int) != (l1.length : Int)) = false := bne_eq_false_iff_eq.mpr c3
  have c3b2 : (l0.length == l1.length) = true := by first | simpa using c3 | (simp at c3 ⊢; omega)
  clear c3
  replace H' := A_ H; clear H
  go_enter Tryz.func115, Tryz.ntmps115
  go_wp2
  go_loopg [5] k (fun kq v5 w' => ∃ (x5_1 : Int), v5 = .int .i64 x5_1 ∧ Aside0 (laws_eqThreadS.l0 kq l0 l1 x5_1 = some r) ∧ Aside0 (kq ≤ k) ∧ Aside0 (Below w.heap.size w w'))
  case atStart => exact ⟨(0), rt_, H', ⟨Nat.le_refl _⟩, ⟨hb_ HB⟩⟩
  case round =>
   clear H'
   try clear c1
   try clear c3
   try clear c3b0
   try clear c3b1
   try clear c3b2
   obtain ⟨x5_1, rfl, HA, HK1, HB⟩ := hrel
   cases gk with
   | zero => exact absurd HA.out (by simp [laws_eqThreadS.l0])
   | succ k1 =>
    have H := HA.out
    clear HA
    simp only [laws_eqThreadS.l0] at H
    replace H := ic_ H
    rcases H with ⟨c4b0, H⟩ | ⟨c4b0, H⟩
    ·
     replace H := ix_ H
     obtain ⟨c5b0, H⟩ := H
     replace H := ix_ H
     obtain ⟨c6b0, H⟩ := H
     replace H := bs_ H
     obtain ⟨t575, A7, H⟩ := H
     by_cases c8 : t575 = true
     ·
      subst c8
      replace H := it_ H
      replace H' := A_ H; clear H
      try go_wp2
      replace HB := A_ (below_drew1 HB.out)
      have p573 : 0 ≤ (x5_1 : Int) := od_
      have q573 : x5_1 < (l0.length : Int) := od_
      obtain ⟨ad573, A573_0, c573_0, A573_3, c573_3, A573_4, c573_4, e573, u573_0, u573_1, u573_2, u573_3, u573_4, hl573_0, hi573_0, hl573_3, hi573_3, hl573_4, hi573_4⟩ := at_T62 HR0.out x5_1 p573 q573
      have hw573_4 := u573_4
      have hw573_3 := u573_3
      have hw573_2 := u573_2
      have hw573_1 := u573_1
      have hw573_0 := u573_0
      cases e573
      replace u573_0 := hx_ HB u573_0
      replace u573_1 := hx_ HB u573_1
      replace u573_2 := hx_ HB u573_2
      replace u573_3 := hx_ HB u573_3
      replace u573_4 := hx_ HB u573_4
      have HR573_0 := A_ hi573_0
      have HC573_0 := A_ hl573_0
      clear hi573_0 hl573_0
      have HR573_3 := A_ hi573_3
      have HC573_3 := A_ hl573_3
      clear hi573_3 hl573_3
      have HR573_4 := A_ hi573_4
      have HC573_4 := A_ hl573_4
      clear hi573_4 hl573_4
      replace p573 := eq_true p573
      replace q573 := eq_true q573
      have p574 : 0 ≤ (x5_1 : Int) := od_
      have q574 : x5_1 < (l1.length : Int) := od_
      obtain ⟨ad574, A574_0, c574_0, A574_3, c574_3, A574_4, c574_4, e574, u574_0, u574_1, u574_2, u574_3, u574_4, hl574_0, hi574_0, hl574_3, hi574_3, hl574_4, hi574_4⟩ := at_T62 HR1.out x5_1 p574 q574
      have hw574_4 := u574_4
      have hw574_3 := u574_3
      have hw574_2 := u574_2
      have hw574_1 := u574_1
      have hw574_0 := u574_0
      cases e574
      replace u574_0 := hx_ HB u574_0
      replace u574_1 := hx_ HB u574_1
      replace u574_2 := hx_ HB u574_2
      replace u574_3 := hx_ HB u574_3
      replace u574_4 := hx_ HB u574_4
      have HR574_0 := A_ hi574_0
      have HC574_0 := A_ hl574_0
      clear hi574_0 hl574_0
      have HR574_3 := A_ hi574_3
      have HC574_3 := A_ hl574_3
      clear hi574_3 hl574_3
      have HR574_4 := A_ hi574_4
      have HC574_4 := A_ hl574_4
      clear hi574_4 hl574_4
      replace p574 := eq_true p574
      replace q574 := eq_true q574
      refine start_ (n := 10) (S := fun w' => w'.cell? (ad573.add ((x5_1).toNat * 5)) = some (.slice A573_0 ((rd_T62 l0 x5_1).f0).length c573_0) ∧ w'.cell? ⟨(ad573.add ((x5_1).toNat * 5)).block, (ad573.add ((x5_1).toNat * 5)).off + 1, none⟩ = some (.int .i64 ((rd_T62 l0 x5_1).f1)) ∧ w'.cell? ⟨(ad573.add ((x5_1).toNat * 5)).block, (ad573.add ((x5_1).toNat * 5)).off + 2, none⟩ = some (.bool ((rd_T62 l0 x5_1).f2)) ∧ w'.cell? ⟨(ad573.add ((x5_1).toNat * 5)).block, (ad573.add ((x5_1).toNat * 5)).off + 3, none⟩ = some (.slice A573_3 ((rd_T62 l0 x5_1).f3).length c573_3) ∧ w'.cell? ⟨(ad573.add ((x5_1).toNat * 5)).block, (ad573.add ((x5_1).toNat * 5)).off + 4, none⟩ = some (.slice A573_4 ((rd_T62 l0 x5_1).f4).length c573_4) ∧ w'.cell? (ad574.add ((x5_1).toNat * 5)) = some (.slice A574_0 ((rd_T62 l1 x5_1).f0).length c574_0) ∧ w'.cell? ⟨(ad574.add ((x5_1).toNat * 5)).block, (ad574.add ((x5_1).toNat * 5)).off + 1, none⟩ = some (.int .i64 ((rd_T62 l1 x5_1).f1)) ∧ w'.cell? ⟨(ad574.add ((x5_1).toNat * 5)).block, (ad574.add ((x5_1).toNat * 5)).off + 2, none⟩ = some (.bool ((rd_T62 l1 x5_1).f2)) ∧ w'.cell? ⟨(ad574.add ((x5_1).toNat * 5)).block, (ad574.add ((x5_1).toNat * 5)).off + 3, none⟩ = some (.slice A574_3 ((rd_T62 l1 x5_1).f3).length c574_3) ∧ w'.cell? ⟨(ad574.add ((x5_1).toNat * 5)).block, (ad574.add ((x5_1).toNat * 5)).off + 4, none⟩ = some (.slice A574_4 ((rd_T62 l1 x5_1).f4).length c574_4)) (ds := []) (bt_ 0 10) (by kernel_rfl) rfl rfl ⟨(hy_ HB hw573_0), (hy_ HB hw573_1), (hy_ HB hw573_2), (hy_ HB hw573_3), (hy_ HB hw573_4), (hy_ HB hw574_0), (hy_ HB hw574_1), (hy_ HB hw574_2), (hy_ HB hw574_3), (hy_ HB hw574_4)⟩ (fun hHeld => ?_); refine with_tabW laws_eqThreadS.tab6 laws_eqThreadS.bits6 (fun HT_ HW_ => ?_)
      generalize wr.drew = w9 at HB HR573_0 HR573_3 HR573_4 HR574_0 HR574_3 HR574_4 u573_0 u573_1 u573_2 u573_3 u573_4 u574_0 u574_1 u574_2 u574_3 u574_4 hHeld ⊢
      refine pu_ 0 17 (bt_ 1 10) ?_
      refine pu_ 1 18 (bt_ 3 10) ?_
      refine pu_ 2 19 (bt_ 7 10) ?_
      refine pu_ 4 21 (bt_ 23 10) ?_
      refine pu_ 5 22 (bt_ 55 10) ?_
      refine pu_ 6 23 (bt_ 119 10) ?_
      refine tk10_ 3 20 (bt_ 127 10) hHeld ?_
      refine tk10_ 7 24 (bt_ 255 10) hHeld ?_
      refine one_ (i := 8) (N := some 25) (bt_ 511 10) rfl rfl (one_of HT_.out (by kernel_rfl)) (by decide) (fun K hK => ?_)
      refine goes_ Tryz.func164 (by kernel_rfl) rfl #[.agg #[.slice A573_0 ((rd_T62 l0 x5_1).f0).length c573_0, .int .i64 ((rd_T62 l0 x5_1).f1), .bool ((rd_T62 l0 x5_1).f2), .slice A573_3 ((rd_T62 l0 x5_1).f3).length c573_3, .slice A573_4 ((rd_T62 l0 x5_1).f4).length c573_4], .agg #[.slice A574_0 ((rd_T62 l1 x5_1).f0).length c574_0, .int .i64 ((rd_T62 l1 x5_1).f1), .bool ((rd_T62 l1 x5_1).f2), .slice A574_3 ((rd_T62 l1 x5_1).f3).length c574_3, .slice A574_4 ((rd_T62 l1 x5_1).f4).length c574_4]] (by rfl) rfl rfl al_ ?_
      with_reducible refine (laws_eqThread.calls k1 _ _ ((rd_T62 l0 x5_1).f0) ((rd_T62 l0 x5_1).f1) ((rd_T62 l0 x5_1).f2) _ _ ((rd_T62 l0 x5_1).f3) _ _ ((rd_T62 l0 x5_1).f4) _ _ ((rd_T62 l1 x5_1).f0) ((rd_T62 l1 x5_1).f1) ((rd_T62 l1 x5_1).f2) _ _ ((rd_T62 l1 x5_1).f3) _ _ ((rd_T62 l1 x5_1).f4) true _ ?s1 ?s2 ?s3 ?s4 ?s5 ?s6 ?s7 ?s8 ?s9 ?s10 ?s11 ?s12 A7.out).mono ?_
      (case s1 => exact cb_ (Kd.C_below HR573_0.out HB.out))
      (case s2 => exact HC573_0.out)
      (case s3 => exact cb_ (Kd.C_below HR573_3.out HB.out))
      (case s4 => exact HC573_3.out)
      (case s5 => exact cb_ (Kd.C_below HR573_4.out HB.out))
      (case s6 => exact HC573_4.out)
      (case s7 => exact cb_ (Kd.C_below HR574_0.out HB.out))
      (case s8 => exact HC574_0.out)
      (case s9 => exact cb_ (Kd.C_below HR574_3.out HB.out))
      (case s10 => exact HC574_3.out)
      (case s11 => exact cb_ (Kd.C_below HR574_4.out HB.out))
      (case s12 => exact HC574_4.out)
      rintro e w10 ⟨rfl, hb⟩
      refine ⟨_, rfl, ?_⟩
      replace HB := hs_ HB hb
      (try clear hb)
      (try clear hb2)
      (try clear hk)
      (try clear hi)
      refine hK.out _ _ ⟨(hy_ HB hw573_0), (hy_ HB hw573_1), (hy_ HB hw573_2), (hy_ HB hw573_3), (hy_ HB hw573_4), (hy_ HB hw574_0), (hy_ HB hw574_1), (hy_ HB hw574_2), (hy_ HB hw574_3), (hy_ HB hw574_4)⟩ (fun hHeld => ?_)
      clear hK K
      refine norm_ (a' := ?_) ?_ ?_
      rotate_left
      ·
       show Act.put _ (some 25) _ = _
       simp only [Act.put, List.setIfInBounds_toArray, List.set_cons_zero, List.set_cons_succ, i64_w, i32_w]
       rfl
      refine pu_ 9 26 (bt_ 1023 10) ?_
      refine done_ (done_of HT_.out (by kernel_rfl)) ?_
      try go_wp2
      go_roundg k1
      case measure => have := HK1.out; omega
      case rel => exact ⟨(wrap64 (x5_1 + 1)), rt_, H', ⟨by have := HK1.out; omega⟩, ⟨hb_ HB⟩⟩
     obtain rfl := Bool.eq_false_iff.mpr c8
     replace H := iF_ H
     exact absurd H (by simp)
    obtain rfl := Option.some.inj H
    go_wp2
    go_ret
    exact ⟨rs_, hb_ HB⟩
 rw [if_neg c3] at H
 exact absurd H (by simp)
def laws_eqCall.f (k : Nat) (a0_0 : Int) (a0_1 : Int) (a0_2 : Int) (a0_3 : Int) (a0_4 : Int) (a0_5 : Int) (a0_6 : Int) (a0_7 : Int) (l0_8 : List Int) (a1_0 : Int) (a1_1 : Int) (a1_2 : Int) (a1_3 : Int) (a1_4 : Int) (a1_5 : Int) (a1_6 : Int) (a1_7 : Int) (l1_8 : List Int) : Option (Bool) := if a0_0 = a1_0 then ((laws_eqOp.f a0_1 a0_2 a0_3 a1_1 a1_2 a1_3).bind fun t578 => (if t578 = true then (if a0_4 = a1_4 then (if a0_5 = a1_5 then (if a0_6 = a1_6 then ((laws_eqRes.f k a0_7 l0_8 a1_7 l1_8).bind fun t579 => (if t579 = true then (some true) else (none))) else (none)) else (none)) else (none)) else (none))) else (none)
set_option maxHeartbeats 8000000 in
set_option maxRecDepth 100000 in
theorem laws_eqCall.calls (k : Nat) (a0_0 : Int) (a0_1 : Int) (a0_2 : Int) (a0_3 : Int) (a0_4 : Int) (a0_5 : Int) (a0_6 : Int) (a0_7 : Int) (A0_8 : Option Addr) (c0_8 : Nat) (l0_8 : List Int) (a1_0 : Int) (a1_1 : Int) (a1_2 : Int) (a1_3 : Int) (a1_4 : Int) (a1_5 : Int) (a1_6 : Int) (a1_7 : Int) (A1_8 : Option Addr) (c1_8 : Nat) (l1_8 : List Int) (r : Bool) (w : World) (hr0_8 : Kd.C (Kd.int .i64) w A0_8 l0_8.length l0_8) (hc0_8 : l0_8.length ≤ c0_8) (hr1_8 : Kd.C (Kd.int .i64) w A1_8 l1_8.length l1_8) (hc1_8 : l1_8.length ≤ c1_8) (h : laws_eqCall.f k a0_0 a0_1 a0_2 a0_3 a0_4 a0_5 a0_6 a0_7 l0_8 a1_0 a1_1 a1_2 a1_3 a1_4 a1_5 a1_6 a1_7 l1_8 = some r) :
    Calls Tryz.prog 165 #[.agg #[.int .i64 a0_0, .int .i64 a0_1, .int .i64 a0_2, .int .i64 a0_3, .int .i64 a0_4, .int .i64 a0_5, .int .i64 a0_6, .int .i64 a0_7, .slice A0_8 l0_8.length c0_8], .agg #[.int .i64 a1_0, .int .i64 a1_1, .int .i64 a1_2, .int .i64 a1_3, .int .i64 a1_4, .int .i64 a1_5, .int .i64 a1_6, .int .i64 a1_7, .slice A1_8 l1_8.length c1_8]] w fun e w' => e = .returned (.bool r) ∧ Below w.heap.size w w' := by
 have hu147 := Tryz.underlying147
 have hu122 := Tryz.underlying122
 have hu31 := Tryz.underlying31
 have HR0_8 := A_ hr0_8
 have HC0_8 := A_ hc0_8
 clear hr0_8 hc0_8
 have HR1_8 := A_ hr1_8
 have HC1_8 := A_ hc1_8
 clear hr1_8 hc1_8
 have HB := A_ (Below.refl w.heap.size w)
 have H : (if a0_0 = a1_0 then ((laws_eqOp.f a0_1 a0_2 a0_3 a1_1 a1_2 a1_3).bind fun t578 => (if t578 = true then (if a0_4 = a1_4 then (if a0_5 = a1_5 then (if a0_6 = a1_6 then ((laws_eqRes.f k a0_7 l0_8 a1_7 l1_8).bind fun t579 => (if t579 = true then (some true) else (none))) else (none)) else (none)) else (none)) else (none))) else (none)) = some r := h
 clear h
 replace H := iy_ H
 obtain ⟨c3b0, c3b1, H⟩ := H
 replace H := bs_ H
 obtain ⟨t578, A4, H⟩ := H
 by_cases c5 : t578 = true
 ·
  subst c5
  replace H := it_ H
  replace H := iy_ H
  obtain ⟨c6b0, c6b1, H⟩ := H
  replace H := iy_ H
  obtain ⟨c7b0, c7b1, H⟩ := H
  replace H := iy_ H
  obtain ⟨c8b0, c8b1, H⟩ := H
  replace H := bs_ H
  obtain ⟨t579, A9, H⟩ := H
  by_cases c10 : t579 = true
  ·
   subst c10
   replace H := it_ H
   obtain rfl := Option.some.inj H
   go_enter Tryz.func165, Tryz.ntmps165
   go_wp2_with (first | ((with_reducible refine gate_dst (N := 2) rfl ?_); refine bx_ HB rfl (N := 2) rfl (cs := #[.int .i64 a0_0, .int .i64 a0_1, .int .i64 a0_2, .int .i64 a0_3, .int .i64 a0_4, .int .i64 a0_5, .int .i64 a0_6, .int .i64 a0_7, .slice A0_8 l0_8.length c0_8]) (t := 147) hr_ ?_; clear HB; intro gb576 w11 hg hb BK576 GW576 HB; clear hb hg) | ((with_reducible refine gate_dst (N := 3) rfl ?_); refine bx_ HB rfl (N := 3) rfl (cs := #[.int .i64 a1_0, .int .i64 a1_1, .int .i64 a1_2, .int .i64 a1_3, .int .i64 a1_4, .int .i64 a1_5, .int .i64 a1_6, .int .i64 a1_7, .slice A1_8 l1_8.length c1_8]) (t := 147) hr_ ?_; clear HB; intro gb577 w12 hg hb BK577 GW577 HB; have NB576_577 := ng_ BK576 hg; have NB577_576 := ns_ (ng_ BK576 hg); replace BK576 := bb_ BK576 hb; clear hb hg; have hnb13 := NB576_577.out; have hnc13 := NB577_576.out; obtain ⟨z14_0, z14_1, z14_2, z14_3, z14_4, z14_5, z14_6, z14_7, z14_8, y14_0, y14_1, y14_2, y14_3, y14_4, y14_5, y14_6, y14_7, y14_8⟩ := cz9_ BK576; obtain ⟨z15_0, z15_1, z15_2, z15_3, z15_4, z15_5, z15_6, z15_7, z15_8, y15_0, y15_1, y15_2, y15_3, y15_4, y15_5, y15_6, y15_7, y15_8⟩ := cz9_ BK577) | ((with_reducible refine gate_callee (f := 187) rfl ?_); refine goesL_ (some 14) rfl rfl Tryz.func187 (by kernel_rfl) rfl #[.agg #[.int .i64 a0_1, .int .i64 a0_2, .int .i64 a0_3], .agg #[.int .i64 a1_1, .int .i64 a1_2, .int .i64 a1_3]] rfl al_ ?_; (with_reducible refine (laws_eqOp.calls a0_1 a0_2 a0_3 a1_1 a1_2 a1_3 true _ A4.out).mono ?_); rintro e w16 ⟨rfl, hb⟩; refine ⟨_, rfl, ?_⟩; replace BK576 := bb_ BK576 hb; replace BK577 := bb_ BK577 hb; replace HB := hs_ HB hb; clear hb; obtain ⟨z17_0, z17_1, z17_2, z17_3, z17_4, z17_5, z17_6, z17_7, z17_8, y17_0, y17_1, y17_2, y17_3, y17_4, y17_5, y17_6, y17_7, y17_8⟩ := cz9_ BK576; obtain ⟨z18_0, z18_1, z18_2, z18_3, z18_4, z18_5, z18_6, z18_7, z18_8, y18_0, y18_1, y18_2, y18_3, y18_4, y18_5, y18_6, y18_7, y18_8⟩ := cz9_ BK577) | ((with_reducible refine gate_callee (f := 188) rfl ?_); refine goesL_ (some 35) rfl rfl Tryz.func188 (by kernel_rfl) rfl #[.agg #[.int .i64 a0_7, .slice A0_8 l0_8.length c0_8], .agg #[.int .i64 a1_7, .slice A1_8 l1_8.length c1_8]] rfl al_ ?_; (with_reducible refine (laws_eqRes.calls k a0_7 _ _ l0_8 a1_7 _ _ l1_8 true _ ?s1 ?s2 ?s3 ?s4 A9.out).mono ?_); (case s1 => exact cb_ (Kd.C_below HR0_8.out HB.out)); (case s2 => exact HC0_8.out); (case s3 => exact cb_ (Kd.C_below HR1_8.out HB.out)); (case s4 => exact HC1_8.out); rintro e w19 ⟨rfl, hb⟩; refine ⟨_, rfl, ?_⟩; replace BK576 := bb_ BK576 hb; replace BK577 := bb_ BK577 hb; replace HB := hs_ HB hb; clear hb))
   go_ret
   exact ⟨rs_, hb_ HB⟩
  obtain rfl := Bool.eq_false_iff.mpr c10
  replace H := iF_ H
  exact absurd H (by simp)
 obtain rfl := Bool.eq_false_iff.mpr c5
 replace H := iF_ H
 exact absurd H (by simp)
def laws_eqCallS.l0 : Nat → List (S147) → List (S147) → Int → Option (Bool)
 | 0, _, _, _ => none
 | k + 1, x0, x1, x5 => if x5 < (x0.length : Int) then (if 0 ≤ x5 then (if x5 < (x1.length : Int) then ((laws_eqCall.f k ((rd_T147 x0 x5).f0) ((rd_T147 x0 x5).f1.f0) ((rd_T147 x0 x5).f1.f1) ((rd_T147 x0 x5).f1.f2) ((rd_T147 x0 x5).f2) ((rd_T147 x0 x5).f3) ((rd_T147 x0 x5).f4) ((rd_T147 x0 x5).f5.f0) ((rd_T147 x0 x5).f5.f1) ((rd_T147 x1 x5).f0) ((rd_T147 x1 x5).f1.f0) ((rd_T147 x1 x5).f1.f1) ((rd_T147 x1 x5).f1.f2) ((rd_T147 x1 x5).f2) ((rd_T147 x1 x5).f3) ((rd_T147 x1 x5).f4) ((rd_T147 x1 x5).f5.f0) ((rd_T147 x1 x5).f5.f1)).bind fun t582 => (if t582 = true then (laws_eqCallS.l0 k x0 x1 (wrap64 (x5 + 1))) else (none))) else (none)) else (none)) else (some true)
def laws_eqCallS.f (k : Nat) (l0 : List (S147)) (l1 : List (S147)) : Option (Bool) := if (l0.length : Int) = (l1.length : Int) then (laws_eqCallS.l0 k l0 l1 0) else (none)
def laws_eqCallS.T6 : Bool × List (List Nat × List Nat) := (true, [([], []), ([], []), ([0, 1], [0, 1]), ([2], [2]), ([], []), ([], []), ([4, 5], [4, 5]), ([6], [6]), ([3, 7], [3, 7]), ([8], [8])])
def laws_eqCallS.B6 : List Nat := [0, 0, 3, 7, 0, 0, 48, 112, 255, 511]
theorem laws_eqCallS.tab6 : rtab .any (opsOf Tryz.f116 6) = laws_eqCallS.T6 := by kernel_rfl
theorem laws_eqCallS.bits6 : waitsOk laws_eqCallS.T6.2 laws_eqCallS.B6 = true := by kernel_rfl
set_option maxHeartbeats 8000000 in
set_option maxRecDepth 100000 in
theorem laws_eqCallS.calls (k : Nat) (A0 : Option Addr) (c0 : Nat) (l0 : List (S147)) (A1 : Option Addr) (c1 : Nat) (l1 : List (S147)) (r : Bool) (w : World) (hr0 : Kd.C k147 w A0 l0.length l0) (hc0 : l0.length ≤ c0) (hr1 : Kd.C k147 w A1 l1.length l1) (hc1 : l1.length ≤ c1) (h : laws_eqCallS.f k l0 l1 = some r) :
    Calls Tryz.prog 116 #[.slice A0 l0.length c0, .slice A1 l1.length c1] w fun e w' => e = .returned (.bool r) ∧ Below w.heap.size w w' := by
 have hu147 := Tryz.underlying147
 have HR0 := A_ hr0
 have HC0 := A_ hc0
 clear hr0 hc0
 have HR1 := A_ hr1
 have HC1 := A_ hc1
 clear hr1 hc1
 have HB := A_ (Below.refl w.heap.size w)
 have H : (if (l0.length : Int) = (l1.length : Int) then (laws_eqCallS.l0 k l0 l1 0) else (none)) = some r := h
 clear h
 by_cases c3 : (l0.length : Int) = (l1.length : Int)
 ·
  rw [if_pos c3] at H
  have c3b0 : ((l0.length : Int) == (l1.length : Int)) = true := beq_iff_eq.mpr c3
  have c3b1 : ((l0.length : Int) != (l1.length : Int)) = false := bne_eq_false_iff_eq.mpr c3
  have c3b2 : (l0.length == l1.length) = true := by first | simpa using c3 | (simp at c3 ⊢; omega)
  clear c3
  replace H' := A_ H; clear H
  go_enter Tryz.func116, Tryz.ntmps116
  go_wp2
  go_loopg [5] k (fun kq v5 w' => ∃ (x5_1 : Int), v5 = .int .i64 x5_1 ∧ Aside0 (laws_eqCallS.l0 kq l0 l1 x5_1 = some r) ∧ Aside0 (kq ≤ k) ∧ Aside0 (Below w.heap.size w w'))
  case atStart => exact ⟨(0), rt_, H', ⟨Nat.le_refl _⟩, ⟨hb_ HB⟩⟩
  case round =>
   clear H'
   try clear c1
   try clear c3
   try clear c3b0
   try clear c3b1
   try clear c3b2
   obtain ⟨x5_1, rfl, HA, HK1, HB⟩ := hrel
   cases gk with
   | zero => exact absurd HA.out (by simp [laws_eqCallS.l0])
   | succ k1 =>
    have H := HA.out
    clear HA
    simp only [laws_eqCallS.l0] at H
    replace H := ic_ H
    rcases H with ⟨c4b0, H⟩ | ⟨c4b0, H⟩
    ·
     replace H := ix_ H
     obtain ⟨c5b0, H⟩ := H
     replace H := ix_ H
     obtain ⟨c6b0, H⟩ := H
     replace H := bs_ H
     obtain ⟨t582, A7, H⟩ := H
     by_cases c8 : t582 = true
     ·
      subst c8
      replace H := it_ H
      replace H' := A_ H; clear H
      try go_wp2
      replace HB := A_ (below_drew1 HB.out)
      have p580 : 0 ≤ (x5_1 : Int) := od_
      have q580 : x5_1 < (l0.length : Int) := od_
      obtain ⟨ad580, A580_8, c580_8, e580, u580_0, u580_1, u580_2, u580_3, u580_4, u580_5, u580_6, u580_7, u580_8, hl580_8, hi580_8⟩ := at_T147 HR0.out x5_1 p580 q580
      have hw580_8 := u580_8
      have hw580_7 := u580_7
      have hw580_6 := u580_6
      have hw580_5 := u580_5
      have hw580_4 := u580_4
      have hw580_3 := u580_3
      have hw580_2 := u580_2
      have hw580_1 := u580_1
      have hw580_0 := u580_0
      cases e580
      replace u580_0 := hx_ HB u580_0
      replace u580_1 := hx_ HB u580_1
      replace u580_2 := hx_ HB u580_2
      replace u580_3 := hx_ HB u580_3
      replace u580_4 := hx_ HB u580_4
      replace u580_5 := hx_ HB u580_5
      replace u580_6 := hx_ HB u580_6
      replace u580_7 := hx_ HB u580_7
      replace u580_8 := hx_ HB u580_8
      have HR580_8 := A_ hi580_8
      have HC580_8 := A_ hl580_8
      clear hi580_8 hl580_8
      replace p580 := eq_true p580
      replace q580 := eq_true q580
      have p581 : 0 ≤ (x5_1 : Int) := od_
      have q581 : x5_1 < (l1.length : Int) := od_
      obtain ⟨ad581, A581_8, c581_8, e581, u581_0, u581_1, u581_2, u581_3, u581_4, u581_5, u581_6, u581_7, u581_8, hl581_8, hi581_8⟩ := at_T147 HR1.out x5_1 p581 q581
      have hw581_8 := u581_8
      have hw581_7 := u581_7
      have hw581_6 := u581_6
      have hw581_5 := u581_5
      have hw581_4 := u581_4
      have hw581_3 := u581_3
      have hw581_2 := u581_2
      have hw581_1 := u581_1
      have hw581_0 := u581_0
      cases e581
      replace u581_0 := hx_ HB u581_0
      replace u581_1 := hx_ HB u581_1
      replace u581_2 := hx_ HB u581_2
      replace u581_3 := hx_ HB u581_3
      replace u581_4 := hx_ HB u581_4
      replace u581_5 := hx_ HB u581_5
      replace u581_6 := hx_ HB u581_6
      replace u581_7 := hx_ HB u581_7
      replace u581_8 := hx_ HB u581_8
      have HR581_8 := A_ hi581_8
      have HC581_8 := A_ hl581_8
      clear hi581_8 hl581_8
      replace p581 := eq_true p581
      replace q581 := eq_true q581
      refine start_ (n := 10) (S := fun w' => w'.cell? (ad580.add ((x5_1).toNat * 9)) = some (.int .i64 ((rd_T147 l0 x5_1).f0)) ∧ w'.cell? ⟨(ad580.add ((x5_1).toNat * 9)).block, (ad580.add ((x5_1).toNat * 9)).off + 1, none⟩ = some (.int .i64 ((rd_T147 l0 x5_1).f1.f0)) ∧ w'.cell? ⟨(ad580.add ((x5_1).toNat * 9)).block, (ad580.add ((x5_1).toNat * 9)).off + 2, none⟩ = some (.int .i64 ((rd_T147 l0 x5_1).f1.f1)) ∧ w'.cell? ⟨(ad580.add ((x5_1).toNat * 9)).block, (ad580.add ((x5_1).toNat * 9)).off + 3, none⟩ = some (.int .i64 ((rd_T147 l0 x5_1).f1.f2)) ∧ w'.cell? ⟨(ad580.add ((x5_1).toNat * 9)).block, (ad580.add ((x5_1).toNat * 9)).off + 4, none⟩ = some (.int .i64 ((rd_T147 l0 x5_1).f2)) ∧ w'.cell? ⟨(ad580.add ((x5_1).toNat * 9)).block, (ad580.add ((x5_1).toNat * 9)).off + 5, none⟩ = some (.int .i64 ((rd_T147 l0 x5_1).f3)) ∧ w'.cell? ⟨(ad580.add ((x5_1).toNat * 9)).block, (ad580.add ((x5_1).toNat * 9)).off + 6, none⟩ = some (.int .i64 ((rd_T147 l0 x5_1).f4)) ∧ w'.cell? ⟨(ad580.add ((x5_1).toNat * 9)).block, (ad580.add ((x5_1).toNat * 9)).off + 7, none⟩ = some (.int .i64 ((rd_T147 l0 x5_1).f5.f0)) ∧ w'.cell? ⟨(ad580.add ((x5_1).toNat * 9)).block, (ad580.add ((x5_1).toNat * 9)).off + 8, none⟩ = some (.slice A580_8 ((rd_T147 l0 x5_1).f5.f1).length c580_8) ∧ w'.cell? (ad581.add ((x5_1).toNat * 9)) = some (.int .i64 ((rd_T147 l1 x5_1).f0)) ∧ w'.cell? ⟨(ad581.add ((x5_1).toNat * 9)).block, (ad581.add ((x5_1).toNat * 9)).off + 1, none⟩ = some (.int .i64 ((rd_T147 l1 x5_1).f1.f0)) ∧ w'.cell? ⟨(ad581.add ((x5_1).toNat * 9)).block, (ad581.add ((x5_1).toNat * 9)).off + 2, none⟩ = some (.int .i64 ((rd_T147 l1 x5_1).f1.f1)) ∧ w'.cell? ⟨(ad581.add ((x5_1).toNat * 9)).block, (ad581.add ((x5_1).toNat * 9)).off + 3, none⟩ = some (.int .i64 ((rd_T147 l1 x5_1).f1.f2)) ∧ w'.cell? ⟨(ad581.add ((x5_1).toNat * 9)).block, (ad581.add ((x5_1).toNat * 9)).off + 4, none⟩ = some (.int .i64 ((rd_T147 l1 x5_1).f2)) ∧ w'.cell? ⟨(ad581.add ((x5_1).toNat * 9)).block, (ad581.add ((x5_1).toNat * 9)).off + 5, none⟩ = some (.int .i64 ((rd_T147 l1 x5_1).f3)) ∧ w'.cell? ⟨(ad581.add ((x5_1).toNat * 9)).block, (ad581.add ((x5_1).toNat * 9)).off + 6, none⟩ = some (.int .i64 ((rd_T147 l1 x5_1).f4)) ∧ w'.cell? ⟨(ad581.add ((x5_1).toNat * 9)).block, (ad581.add ((x5_1).toNat * 9)).off + 7, none⟩ = some (.int .i64 ((rd_T147 l1 x5_1).f5.f0)) ∧ w'.cell? ⟨(ad581.add ((x5_1).toNat * 9)).block, (ad581.add ((x5_1).toNat * 9)).off + 8, none⟩ = some (.slice A581_8 ((rd_T147 l1 x5_1).f5.f1).length c581_8)) (ds := []) (bt_ 0 10) (by kernel_rfl) rfl rfl ⟨(hy_ HB hw580_0), (hy_ HB hw580_1), (hy_ HB hw580_2), (hy_ HB hw580_3), (hy_ HB hw580_4), (hy_ HB hw580_5), (hy_ HB hw580_6), (hy_ HB hw580_7), (hy_ HB hw580_8), (hy_ HB hw581_0), (hy_ HB hw581_1), (hy_ HB hw581_2), (hy_ HB hw581_3), (hy_ HB hw581_4), (hy_ HB hw581_5), (hy_ HB hw581_6), (hy_ HB hw581_7), (hy_ HB hw581_8)⟩ (fun hHeld => ?_); refine with_tabW laws_eqCallS.tab6 laws_eqCallS.bits6 (fun HT_ HW_ => ?_)
      generalize wr.drew = w9 at HB HR580_8 HR581_8 u580_0 u580_1 u580_2 u580_3 u580_4 u580_5 u580_6 u580_7 u580_8 u581_0 u581_1 u581_2 u581_3 u581_4 u581_5 u581_6 u581_7 u581_8 hHeld ⊢
      refine pu_ 0 17 (bt_ 1 10) ?_
      refine pu_ 1 18 (bt_ 3 10) ?_
      refine pu_ 2 19 (bt_ 7 10) ?_
      refine pu_ 4 21 (bt_ 23 10) ?_
      refine pu_ 5 22 (bt_ 55 10) ?_
      refine pu_ 6 23 (bt_ 119 10) ?_
      refine tk18_ 3 20 (bt_ 127 10) hHeld ?_
      refine tk18_ 7 24 (bt_ 255 10) hHeld ?_
      refine one_ (i := 8) (N := some 25) (bt_ 511 10) rfl rfl (one_of HT_.out (by kernel_rfl)) (by decide) (fun K hK => ?_)
      refine goes_ Tryz.func165 (by kernel_rfl) rfl #[.agg #[.int .i64 ((rd_T147 l0 x5_1).f0), .int .i64 ((rd_T147 l0 x5_1).f1.f0), .int .i64 ((rd_T147 l0 x5_1).f1.f1), .int .i64 ((rd_T147 l0 x5_1).f1.f2), .int .i64 ((rd_T147 l0 x5_1).f2), .int .i64 ((rd_T147 l0 x5_1).f3), .int .i64 ((rd_T147 l0 x5_1).f4), .int .i64 ((rd_T147 l0 x5_1).f5.f0), .slice A580_8 ((rd_T147 l0 x5_1).f5.f1).length c580_8], .agg #[.int .i64 ((rd_T147 l1 x5_1).f0), .int .i64 ((rd_T147 l1 x5_1).f1.f0), .int .i64 ((rd_T147 l1 x5_1).f1.f1), .int .i64 ((rd_T147 l1 x5_1).f1.f2), .int .i64 ((rd_T147 l1 x5_1).f2), .int .i64 ((rd_T147 l1 x5_1).f3), .int .i64 ((rd_T147 l1 x5_1).f4), .int .i64 ((rd_T147 l1 x5_1).f5.f0), .slice A581_8 ((rd_T147 l1 x5_1).f5.f1).length c581_8]] (by rfl) rfl rfl al_ ?_
      with_reducible refine (laws_eqCall.calls k1 ((rd_T147 l0 x5_1).f0) ((rd_T147 l0 x5_1).f1.f0) ((rd_T147 l0 x5_1).f1.f1) ((rd_T147 l0 x5_1).f1.f2) ((rd_T147 l0 x5_1).f2) ((rd_T147 l0 x5_1).f3) ((rd_T147 l0 x5_1).f4) ((rd_T147 l0 x5_1).f5.f0) _ _ ((rd_T147 l0 x5_1).f5.f1) ((rd_T147 l1 x5_1).f0) ((rd_T147 l1 x5_1).f1.f0) ((rd_T147 l1 x5_1).f1.f1) ((rd_T147 l1 x5_1).f1.f2) ((rd_T147 l1 x5_1).f2) ((rd_T147 l1 x5_1).f3) ((rd_T147 l1 x5_1).f4) ((rd_T147 l1 x5_1).f5.f0) _ _ ((rd_T147 l1 x5_1).f5.f1) true _ ?s1 ?s2 ?s3 ?s4 A7.out).mono ?_
      (case s1 => exact cb_ (Kd.C_below HR580_8.out HB.out))
      (case s2 => exact HC580_8.out)
      (case s3 => exact cb_ (Kd.C_below HR581_8.out HB.out))
      (case s4 => exact HC581_8.out)
      rintro e w10 ⟨rfl, hb⟩
      refine ⟨_, rfl, ?_⟩
      replace HB := hs_ HB hb
      (try clear hb)
      (try clear hb2)
      (try clear hk)
      (try clear hi)
      refine hK.out _ _ ⟨(hy_ HB hw580_0), (hy_ HB hw580_1), (hy_ HB hw580_2), (hy_ HB hw580_3), (hy_ HB hw580_4), (hy_ HB hw580_5), (hy_ HB hw580_6), (hy_ HB hw580_7), (hy_ HB hw580_8), (hy_ HB hw581_0), (hy_ HB hw581_1), (hy_ HB hw581_2), (hy_ HB hw581_3), (hy_ HB hw581_4), (hy_ HB hw581_5), (hy_ HB hw581_6), (hy_ HB hw581_7), (hy_ HB hw581_8)⟩ (fun hHeld => ?_)
      clear hK K
      refine norm_ (a' := ?_) ?_ ?_
      rotate_left
      ·
       show Act.put _ (some 25) _ = _
       simp only [Act.put, List.setIfInBounds_toArray, List.set_cons_zero, List.set_cons_succ, i64_w, i32_w]
       rfl
      refine pu_ 9 26 (bt_ 1023 10) ?_
      refine done_ (done_of HT_.out (by kernel_rfl)) ?_
      try go_wp2
      go_roundg k1
      case measure => have := HK1.out; omega
      case rel => exact ⟨(wrap64 (x5_1 + 1)), rt_, H', ⟨by have := HK1.out; omega⟩, ⟨hb_ HB⟩⟩
     obtain rfl := Bool.eq_false_iff.mpr c8
     replace H := iF_ H
     exact absurd H (by simp)
    obtain rfl := Option.some.inj H
    go_wp2
    go_ret
    exact ⟨rs_, hb_ HB⟩
 rw [if_neg c3] at H
 exact absurd H (by simp)
def laws_eqRows.f (k : Nat) (l0_0 : List Int) (a0_1 : Int) (l1_0 : List Int) (a1_1 : Int) : Option (Bool) := (laws_eqIntS.f k l0_0 l1_0).bind fun t585 => (if t585 = true then (if a0_1 = a1_1 then (some true) else (none)) else (none))
set_option maxHeartbeats 8000000 in
set_option maxRecDepth 100000 in
theorem laws_eqRows.calls (k : Nat) (A0_0 : Option Addr) (c0_0 : Nat) (l0_0 : List Int) (a0_1 : Int) (A1_0 : Option Addr) (c1_0 : Nat) (l1_0 : List Int) (a1_1 : Int) (r : Bool) (w : World) (hr0_0 : Kd.C (Kd.int .i64) w A0_0 l0_0.length l0_0) (hc0_0 : l0_0.length ≤ c0_0) (hr1_0 : Kd.C (Kd.int .i64) w A1_0 l1_0.length l1_0) (hc1_0 : l1_0.length ≤ c1_0) (h : laws_eqRows.f k l0_0 a0_1 l1_0 a1_1 = some r) :
    Calls Tryz.prog 118 #[.agg #[.slice A0_0 l0_0.length c0_0, .int .i64 a0_1], .agg #[.slice A1_0 l1_0.length c1_0, .int .i64 a1_1]] w fun e w' => e = .returned (.bool r) ∧ Below w.heap.size w w' := by
 have hu91 := Tryz.underlying91
 have HR0_0 := A_ hr0_0
 have HC0_0 := A_ hc0_0
 clear hr0_0 hc0_0
 have HR1_0 := A_ hr1_0
 have HC1_0 := A_ hc1_0
 clear hr1_0 hc1_0
 have HB := A_ (Below.refl w.heap.size w)
 have H : ((laws_eqIntS.f k l0_0 l1_0).bind fun t585 => (if t585 = true then (if a0_1 = a1_1 then (some true) else (none)) else (none))) = some r := h
 clear h
 replace H := bs_ H
 obtain ⟨t585, A3, H⟩ := H
 by_cases c4 : t585 = true
 ·
  subst c4
  replace H := it_ H
  replace H := iy_ H
  obtain ⟨c5b0, c5b1, H⟩ := H
  obtain rfl := Option.some.inj H
  go_enter Tryz.func118, Tryz.ntmps118
  go_wp2_with (first | ((with_reducible refine gate_dst (N := 2) rfl ?_); refine bx_ HB rfl (N := 2) rfl (cs := #[.slice A0_0 l0_0.length c0_0, .int .i64 a0_1]) (t := 91) hr_ ?_; clear HB; intro gb583 w6 hg hb BK583 GW583 HB; clear hb hg) | ((with_reducible refine gate_dst (N := 3) rfl ?_); refine bx_ HB rfl (N := 3) rfl (cs := #[.slice A1_0 l1_0.length c1_0, .int .i64 a1_1]) (t := 91) hr_ ?_; clear HB; intro gb584 w7 hg hb BK584 GW584 HB; have NB583_584 := ng_ BK583 hg; have NB584_583 := ns_ (ng_ BK583 hg); replace BK583 := bb_ BK583 hb; clear hb hg; have hnb8 := NB583_584.out; have hnc8 := NB584_583.out; obtain ⟨z9_0, z9_1, y9_0, y9_1⟩ := cz2_ BK583; obtain ⟨z10_0, z10_1, y10_0, y10_1⟩ := cz2_ BK584) | ((with_reducible refine gate_callee (f := 117) rfl ?_); refine goesL_ (some 9) rfl rfl Tryz.func117 (by kernel_rfl) rfl #[.slice A0_0 l0_0.length c0_0, .slice A1_0 l1_0.length c1_0] rfl al_ ?_; (with_reducible refine (laws_eqIntS.calls k _ _ l0_0 _ _ l1_0 true _ ?s1 ?s2 ?s3 ?s4 A3.out).mono ?_); (case s1 => exact cb_ (Kd.C_below HR0_0.out HB.out)); (case s2 => exact HC0_0.out); (case s3 => exact cb_ (Kd.C_below HR1_0.out HB.out)); (case s4 => exact HC1_0.out); rintro e w' ⟨rfl, ⟨nd, rfl⟩⟩; refine ⟨_, rfl, ?_⟩))
  go_ret
  exact ⟨rs_, hb_ HB⟩
 obtain rfl := Bool.eq_false_iff.mpr c4
 replace H := iF_ H
 exact absurd H (by simp)
end Go.Proofs.YtdcinhpdpoodfaaGreat.PFnExactFinished
