/- Contracts of functions of the program. No condition beyond the hypotheses that each theorem names. -/
import Derived.Test.YtdcinhpdpoodfaaGreatPFnExactFinishedx0
import Derived.Test.YtdcinhpdpoodfaaGreatPFnExactFinishedx23
namespace Go.Proofs.YtdcinhpdpoodfaaGreat.PFnExactFinished
open Go.RowKit Go.Proofs.YtdcinhpdpoodfaaGreatW.PrintWords Go.Proofs.YtdcinhpdpoodfaaGreatW.PrintLast Go.Proofs.YtdcinhpdpoodfaaGreatW.PrintMore
attribute [local go_sem] max2_int min2_int max_two min_two max_three min_three max_four min_four
set_option linter.unusedVariables false
set_option linter.unusedSimpArgs false
def laws_eqDescS.l0 : Nat → List (S52) → List (S52) → Int → Option (Bool)
 | 0, _, _, _ => none
 | k + 1, x0, x1, x5 => if x5 < (x0.length : Int) then (if 0 ≤ x5 then (if x5 < (x1.length : Int) then ((laws_eqDesc.f k ((rd_T52 x0 x5).f0) ((rd_T52 x0 x5).f1) ((rd_T52 x0 x5).f2) ((rd_T52 x0 x5).f3.f0) ((rd_T52 x0 x5).f3.f1) ((rd_T52 x1 x5).f0) ((rd_T52 x1 x5).f1) ((rd_T52 x1 x5).f2) ((rd_T52 x1 x5).f3.f0) ((rd_T52 x1 x5).f3.f1)).bind fun t548 => (if t548 = true then (laws_eqDescS.l0 k x0 x1 (wrap64 (x5 + 1))) else (none))) else (none)) else (none)) else (some true)
def laws_eqDescS.f (k : Nat) (l0 : List (S52)) (l1 : List (S52)) : Option (Bool) := if (l0.length : Int) = (l1.length : Int) then (laws_eqDescS.l0 k l0 l1 0) else (none)
def laws_eqDescS.T6 : Bool × List (List Nat × List Nat) := (true, [([], []), ([], []), ([0, 1], [0, 1]), ([2], [2]), ([], []), ([], []), ([4, 5], [4, 5]), ([6], [6]), ([3, 7], [3, 7]), ([8], [8])])
def laws_eqDescS.B6 : List Nat := [0, 0, 3, 7, 0, 0, 48, 112, 255, 511]
theorem laws_eqDescS.tab6 : rtab .any (opsOf Tryz.f163 6) = laws_eqDescS.T6 := by kernel_rfl
theorem laws_eqDescS.bits6 : waitsOk laws_eqDescS.T6.2 laws_eqDescS.B6 = true := by kernel_rfl
set_option maxHeartbeats 8000000 in
set_option maxRecDepth 100000 in
theorem laws_eqDescS.calls (k : Nat) (A0 : Option Addr) (c0 : Nat) (l0 : List (S52)) (A1 : Option Addr) (c1 : Nat) (l1 : List (S52)) (r : Bool) (w : World) (hr0 : Kd.C k52 w A0 l0.length l0) (hc0 : l0.length ≤ c0) (hr1 : Kd.C k52 w A1 l1.length l1) (hc1 : l1.length ≤ c1) (h : laws_eqDescS.f k l0 l1 = some r) :
    Calls Tryz.prog 163 #[.slice A0 l0.length c0, .slice A1 l1.length c1] w fun e w' => e = .returned (.bool r) ∧ Below w.heap.size w w' := by
 have hu52 := Tryz.underlying52
 have HR0 := A_ hr0
 have HC0 := A_ hc0
 clear hr0 hc0
 have HR1 := A_ hr1
 have HC1 := A_ hc1
 clear hr1 hc1
 have HB := A_ (Below.refl w.heap.size w)
 have H : (if (l0.length : Int) = (l1.length : Int) then (laws_eqDescS.l0 k l0 l1 0) else (none)) = some r := h
 clear h
 by_cases c3 : (l0.length : Int) = (l1.length : Int)
 ·
  rw [if_pos c3] at H
  have c3b0 : ((l0.length : Int) == (l1.length : Int)) = true := beq_iff_eq.mpr c3
  have c3b1 : ((l0.length : Int) != (l1.length : Int)) = false := bne_eq_false_iff_eq.mpr c3
  have c3b2 : (l0.length == l1.length) = true := by first | simpa using c3 | (simp at c3 ⊢; omega)
  clear c3
  replace H' := A_ H; clear H
  go_enter Tryz.func163, Tryz.ntmps163
  go_wp2
  go_loopg [5] k (fun kq v5 w' => ∃ (x5_1 : Int), v5 = .int .i64 x5_1 ∧ Aside0 (laws_eqDescS.l0 kq l0 l1 x5_1 = some r) ∧ Aside0 (kq ≤ k) ∧ Aside0 (Below w.heap.size w w'))
  case atStart => exact ⟨(0), rt_, H', ⟨Nat.le_refl _⟩, ⟨hb_ HB⟩⟩
  case round =>
   clear H'
   try clear c1
   try clear c3
   try clear c3b0
   try clear c3b1
   try clear c3b2
   obtain ⟨x5_1, rfl, HA, HK1, HB⟩ := hrel
   cases gk with
   | zero => exact absurd HA.out (by simp [laws_eqDescS.l0])
   | succ k1 =>
    have H := HA.out
    clear HA
    simp only [laws_eqDescS.l0] at H
    replace H := ic_ H
    rcases H with ⟨c4b0, H⟩ | ⟨c4b0, H⟩
    ·
     replace H := ix_ H
     obtain ⟨c5b0, H⟩ := H
     replace H := ix_ H
     obtain ⟨c6b0, H⟩ := H
     replace H := bs_ H
     obtain ⟨t548, A7, H⟩ := H
     by_cases c8 : t548 = true
     ·
      subst c8
      replace H := it_ H
      replace H' := A_ H; clear H
      try go_wp2
      replace HB := A_ (below_drew1 HB.out)
      have p546 : 0 ≤ (x5_1 : Int) := od_
      have q546 : x5_1 < (l0.length : Int) := od_
      obtain ⟨ad546, A546_2, c546_2, A546_4, c546_4, e546, u546_0, u546_1, u546_2, u546_3, u546_4, hl546_2, hi546_2, hl546_4, hi546_4⟩ := at_T52 HR0.out x5_1 p546 q546
      have hw546_4 := u546_4
      have hw546_3 := u546_3
      have hw546_2 := u546_2
      have hw546_1 := u546_1
      have hw546_0 := u546_0
      cases e546
      replace u546_0 := hx_ HB u546_0
      replace u546_1 := hx_ HB u546_1
      replace u546_2 := hx_ HB u546_2
      replace u546_3 := hx_ HB u546_3
      replace u546_4 := hx_ HB u546_4
      have HR546_2 := A_ hi546_2
      have HC546_2 := A_ hl546_2
      clear hi546_2 hl546_2
      have HR546_4 := A_ hi546_4
      have HC546_4 := A_ hl546_4
      clear hi546_4 hl546_4
      replace p546 := eq_true p546
      replace q546 := eq_true q546
      have p547 : 0 ≤ (x5_1 : Int) := od_
      have q547 : x5_1 < (l1.length : Int) := od_
      obtain ⟨ad547, A547_2, c547_2, A547_4, c547_4, e547, u547_0, u547_1, u547_2, u547_3, u547_4, hl547_2, hi547_2, hl547_4, hi547_4⟩ := at_T52 HR1.out x5_1 p547 q547
      have hw547_4 := u547_4
      have hw547_3 := u547_3
      have hw547_2 := u547_2
      have hw547_1 := u547_1
      have hw547_0 := u547_0
      cases e547
      replace u547_0 := hx_ HB u547_0
      replace u547_1 := hx_ HB u547_1
      replace u547_2 := hx_ HB u547_2
      replace u547_3 := hx_ HB u547_3
      replace u547_4 := hx_ HB u547_4
      have HR547_2 := A_ hi547_2
      have HC547_2 := A_ hl547_2
      clear hi547_2 hl547_2
      have HR547_4 := A_ hi547_4
      have HC547_4 := A_ hl547_4
      clear hi547_4 hl547_4
      replace p547 := eq_true p547
      replace q547 := eq_true q547
      refine start_ (n := 10) (S := fun w' => w'.cell? (ad546.add ((x5_1).toNat * 5)) = some (.int .i64 ((rd_T52 l0 x5_1).f0)) ∧ w'.cell? ⟨(ad546.add ((x5_1).toNat * 5)).block, (ad546.add ((x5_1).toNat * 5)).off + 1, none⟩ = some (.int .i64 ((rd_T52 l0 x5_1).f1)) ∧ w'.cell? ⟨(ad546.add ((x5_1).toNat * 5)).block, (ad546.add ((x5_1).toNat * 5)).off + 2, none⟩ = some (.slice A546_2 ((rd_T52 l0 x5_1).f2).length c546_2) ∧ w'.cell? ⟨(ad546.add ((x5_1).toNat * 5)).block, (ad546.add ((x5_1).toNat * 5)).off + 3, none⟩ = some (.int .i64 ((rd_T52 l0 x5_1).f3.f0)) ∧ w'.cell? ⟨(ad546.add ((x5_1).toNat * 5)).block, (ad546.add ((x5_1).toNat * 5)).off + 4, none⟩ = some (.slice A546_4 ((rd_T52 l0 x5_1).f3.f1).length c546_4) ∧ w'.cell? (ad547.add ((x5_1).toNat * 5)) = some (.int .i64 ((rd_T52 l1 x5_1).f0)) ∧ w'.cell? ⟨(ad547.add ((x5_1).toNat * 5)).block, (ad547.add ((x5_1).toNat * 5)).off + 1, none⟩ = some (.int .i64 ((rd_T52 l1 x5_1).f1)) ∧ w'.cell? ⟨(ad547.add ((x5_1).toNat * 5)).block, (ad547.add ((x5_1).toNat * 5)).off + 2, none⟩ = some (.slice A547_2 ((rd_T52 l1 x5_1).f2).length c547_2) ∧ w'.cell? ⟨(ad547.add ((x5_1).toNat * 5)).block, (ad547.add ((x5_1).toNat * 5)).off + 3, none⟩ = some (.int .i64 ((rd_T52 l1 x5_1).f3.f0)) ∧ w'.cell? ⟨(ad547.add ((x5_1).toNat * 5)).block, (ad547.add ((x5_1).toNat * 5)).off + 4, none⟩ = some (.slice A547_4 ((rd_T52 l1 x5_1).f3.f1).length c547_4)) (ds := []) (bt_ 0 10) (by kernel_rfl) rfl rfl ⟨(hy_ HB hw546_0), (hy_ HB hw546_1), (hy_ HB hw546_2), (hy_ HB hw546_3), (hy_ HB hw546_4), (hy_ HB hw547_0), (hy_ HB hw547_1), (hy_ HB hw547_2), (hy_ HB hw547_3), (hy_ HB hw547_4)⟩ (fun hHeld => ?_); refine with_tabW laws_eqDescS.tab6 laws_eqDescS.bits6 (fun HT_ HW_ => ?_)
      generalize wr.drew = w9 at HB HR546_2 HR546_4 HR547_2 HR547_4 u546_0 u546_1 u546_2 u546_3 u546_4 u547_0 u547_1 u547_2 u547_3 u547_4 hHeld ⊢
      refine pu_ 0 17 (bt_ 1 10) ?_
      refine pu_ 1 18 (bt_ 3 10) ?_
      refine pu_ 2 19 (bt_ 7 10) ?_
      refine pu_ 4 21 (bt_ 23 10) ?_
      refine pu_ 5 22 (bt_ 55 10) ?_
      refine pu_ 6 23 (bt_ 119 10) ?_
      refine tk10_ 3 20 (bt_ 127 10) hHeld ?_
      refine tk10_ 7 24 (bt_ 255 10) hHeld ?_
      refine one_ (i := 8) (N := some 25) (bt_ 511 10) rfl rfl (one_of HT_.out (by kernel_rfl)) (by decide) (fun K hK => ?_)
      refine goes_ Tryz.func183 (by kernel_rfl) rfl #[.agg #[.int .i64 ((rd_T52 l0 x5_1).f0), .int .i64 ((rd_T52 l0 x5_1).f1), .slice A546_2 ((rd_T52 l0 x5_1).f2).length c546_2, .int .i64 ((rd_T52 l0 x5_1).f3.f0), .slice A546_4 ((rd_T52 l0 x5_1).f3.f1).length c546_4], .agg #[.int .i64 ((rd_T52 l1 x5_1).f0), .int .i64 ((rd_T52 l1 x5_1).f1), .slice A547_2 ((rd_T52 l1 x5_1).f2).length c547_2, .int .i64 ((rd_T52 l1 x5_1).f3.f0), .slice A547_4 ((rd_T52 l1 x5_1).f3.f1).length c547_4]] (by rfl) rfl rfl al_ ?_
      with_reducible refine (laws_eqDesc.calls k1 ((rd_T52 l0 x5_1).f0) ((rd_T52 l0 x5_1).f1) _ _ ((rd_T52 l0 x5_1).f2) ((rd_T52 l0 x5_1).f3.f0) _ _ ((rd_T52 l0 x5_1).f3.f1) ((rd_T52 l1 x5_1).f0) ((rd_T52 l1 x5_1).f1) _ _ ((rd_T52 l1 x5_1).f2) ((rd_T52 l1 x5_1).f3.f0) _ _ ((rd_T52 l1 x5_1).f3.f1) true _ ?s1 ?s2 ?s3 ?s4 ?s5 ?s6 ?s7 ?s8 A7.out).mono ?_
      (case s1 => exact cb_ (Kd.C_below HR546_2.out HB.out))
      (case s2 => exact HC546_2.out)
      (case s3 => exact cb_ (Kd.C_below HR546_4.out HB.out))
      (case s4 => exact HC546_4.out)
      (case s5 => exact cb_ (Kd.C_below HR547_2.out HB.out))
      (case s6 => exact HC547_2.out)
      (case s7 => exact cb_ (Kd.C_below HR547_4.out HB.out))
      (case s8 => exact HC547_4.out)
      rintro e w10 ⟨rfl, hb⟩
      refine ⟨_, rfl, ?_⟩
      replace HB := hs_ HB hb
      (try clear hb)
      (try clear hb2)
      (try clear hk)
      (try clear hi)
      refine hK.out _ _ ⟨(hy_ HB hw546_0), (hy_ HB hw546_1), (hy_ HB hw546_2), (hy_ HB hw546_3), (hy_ HB hw546_4), (hy_ HB hw547_0), (hy_ HB hw547_1), (hy_ HB hw547_2), (hy_ HB hw547_3), (hy_ HB hw547_4)⟩ (fun hHeld => ?_)
      clear hK K
      refine norm_ (a' := ?_) ?_ ?_
      rotate_left
      ·
       show Act.put _ (some 25) _ = _
       simp only [Act.put, List.setIfInBounds_toArray, List.set_cons_zero, List.set_cons_succ, i64_w, i32_w]
       rfl
      refine pu_ 9 26 (bt_ 1023 10) ?_
      refine done_ (done_of HT_.out (by kernel_rfl)) ?_
      try go_wp2
      go_roundg k1
      case measure => have := HK1.out; omega
      case rel => exact ⟨(wrap64 (x5_1 + 1)), rt_, H', ⟨by have := HK1.out; omega⟩, ⟨hb_ HB⟩⟩
     obtain rfl := Bool.eq_false_iff.mpr c8
     replace H := iF_ H
     exact absurd H (by simp)
    obtain rfl := Option.some.inj H
    go_wp2
    go_ret
    exact ⟨rs_, hb_ HB⟩
 rw [if_neg c3] at H
 exact absurd H (by simp)
def laws_eqMem.f (k : Nat) (l0_0 : List (S39)) (l0_1 : List (S52)) (l1_0 : List (S39)) (l1_1 : List (S52)) : Option (Bool) := (laws_eqWordS.f k l0_0 l1_0).bind fun t551 => (if t551 = true then ((laws_eqDescS.f k l0_1 l1_1).bind fun t552 => (if t552 = true then (some true) else (none))) else (none))
set_option maxHeartbeats 8000000 in
set_option maxRecDepth 100000 in
theorem laws_eqMem.calls (k : Nat) (A0_0 : Option Addr) (c0_0 : Nat) (l0_0 : List (S39)) (A0_1 : Option Addr) (c0_1 : Nat) (l0_1 : List (S52)) (A1_0 : Option Addr) (c1_0 : Nat) (l1_0 : List (S39)) (A1_1 : Option Addr) (c1_1 : Nat) (l1_1 : List (S52)) (r : Bool) (w : World) (hr0_0 : Kd.C k39 w A0_0 l0_0.length l0_0) (hc0_0 : l0_0.length ≤ c0_0) (hr0_1 : Kd.C k52 w A0_1 l0_1.length l0_1) (hc0_1 : l0_1.length ≤ c0_1) (hr1_0 : Kd.C k39 w A1_0 l1_0.length l1_0) (hc1_0 : l1_0.length ≤ c1_0) (hr1_1 : Kd.C k52 w A1_1 l1_1.length l1_1) (hc1_1 : l1_1.length ≤ c1_1) (h : laws_eqMem.f k l0_0 l0_1 l1_0 l1_1 = some r) :
    Calls Tryz.prog 114 #[.agg #[.slice A0_0 l0_0.length c0_0, .slice A0_1 l0_1.length c0_1], .agg #[.slice A1_0 l1_0.length c1_0, .slice A1_1 l1_1.length c1_1]] w fun e w' => e = .returned (.bool r) ∧ Below w.heap.size w w' := by
 have hu27 := Tryz.underlying27
 have HR0_0 := A_ hr0_0
 have HC0_0 := A_ hc0_0
 clear hr0_0 hc0_0
 have HR0_1 := A_ hr0_1
 have HC0_1 := A_ hc0_1
 clear hr0_1 hc0_1
 have HR1_0 := A_ hr1_0
 have HC1_0 := A_ hc1_0
 clear hr1_0 hc1_0
 have HR1_1 := A_ hr1_1
 have HC1_1 := A_ hc1_1
 clear hr1_1 hc1_1
 have HB := A_ (Below.refl w.heap.size w)
 have H : ((laws_eqWordS.f k l0_0 l1_0).bind fun t551 => (if t551 = true then ((laws_eqDescS.f k l0_1 l1_1).bind fun t552 => (if t552 = true then (some true) else (none))) else (none))) = some r := h
 clear h
 replace H := bs_ H
 obtain ⟨t551, A3, H⟩ := H
 by_cases c4 : t551 = true
 ·
  subst c4
  replace H := it_ H
  replace H := bs_ H
  obtain ⟨t552, A5, H⟩ := H
  by_cases c6 : t552 = true
  ·
   subst c6
   replace H := it_ H
   obtain rfl := Option.some.inj H
   go_enter Tryz.func114, Tryz.ntmps114
   go_wp2_with (first | ((with_reducible refine gate_dst (N := 2) rfl ?_); refine bx_ HB rfl (N := 2) rfl (cs := #[.slice A0_0 l0_0.length c0_0, .slice A0_1 l0_1.length c0_1]) (t := 27) hr_ ?_; clear HB; intro gb549 w7 hg hb BK549 GW549 HB; clear hb hg) | ((with_reducible refine gate_dst (N := 3) rfl ?_); refine bx_ HB rfl (N := 3) rfl (cs := #[.slice A1_0 l1_0.length c1_0, .slice A1_1 l1_1.length c1_1]) (t := 27) hr_ ?_; clear HB; intro gb550 w8 hg hb BK550 GW550 HB; have NB549_550 := ng_ BK549 hg; have NB550_549 := ns_ (ng_ BK549 hg); replace BK549 := bb_ BK549 hb; clear hb hg; have hnb9 := NB549_550.out; have hnc9 := NB550_549.out; obtain ⟨z10_0, z10_1, y10_0, y10_1⟩ := cz2_ BK549; obtain ⟨z11_0, z11_1, y11_0, y11_1⟩ := cz2_ BK550) | ((with_reducible refine gate_callee (f := 162) rfl ?_); refine goesL_ (some 9) rfl rfl Tryz.func162 (by kernel_rfl) rfl #[.slice A0_0 l0_0.length c0_0, .slice A1_0 l1_0.length c1_0] rfl al_ ?_; (with_reducible refine (laws_eqWordS.calls k _ _ l0_0 _ _ l1_0 true _ ?s1 ?s2 ?s3 ?s4 A3.out).mono ?_); (case s1 => exact cb_ (Kd.C_below HR0_0.out HB.out)); (case s2 => exact HC0_0.out); (case s3 => exact cb_ (Kd.C_below HR1_0.out HB.out)); (case s4 => exact HC1_0.out); rintro e w12 ⟨rfl, hb⟩; refine ⟨_, rfl, ?_⟩; replace BK549 := bb_ BK549 hb; replace BK550 := bb_ BK550 hb; replace HB := hs_ HB hb; clear hb; obtain ⟨z13_0, z13_1, y13_0, y13_1⟩ := cz2_ BK549; obtain ⟨z14_0, z14_1, y14_0, y14_1⟩ := cz2_ BK550) | ((with_reducible refine gate_callee (f := 163) rfl ?_); refine goesL_ (some 15) rfl rfl Tryz.func163 (by kernel_rfl) rfl #[.slice A0_1 l0_1.length c0_1, .slice A1_1 l1_1.length c1_1] rfl al_ ?_; (with_reducible refine (laws_eqDescS.calls k _ _ l0_1 _ _ l1_1 true _ ?s1 ?s2 ?s3 ?s4 A5.out).mono ?_); (case s1 => exact cb_ (Kd.C_below HR0_1.out HB.out)); (case s2 => exact HC0_1.out); (case s3 => exact cb_ (Kd.C_below HR1_1.out HB.out)); (case s4 => exact HC1_1.out); rintro e w15 ⟨rfl, hb⟩; refine ⟨_, rfl, ?_⟩; replace BK549 := bb_ BK549 hb; replace BK550 := bb_ BK550 hb; replace HB := hs_ HB hb; clear hb))
   go_ret
   exact ⟨rs_, hb_ HB⟩
  obtain rfl := Bool.eq_false_iff.mpr c6
  replace H := iF_ H
  exact absurd H (by simp)
 obtain rfl := Bool.eq_false_iff.mpr c4
 replace H := iF_ H
 exact absurd H (by simp)
def laws_eqOp.f (a0_0 : Int) (a0_1 : Int) (a0_2 : Int) (a1_0 : Int) (a1_1 : Int) (a1_2 : Int) : Option (Bool) := if a0_0 = a1_0 then (if a0_1 = a1_1 then (if a0_2 = a1_2 then (some true) else (none)) else (none)) else (none)
set_option maxHeartbeats 8000000 in
set_option maxRecDepth 100000 in
theorem laws_eqOp.calls (a0_0 : Int) (a0_1 : Int) (a0_2 : Int) (a1_0 : Int) (a1_1 : Int) (a1_2 : Int) (r : Bool) (w : World) (h : laws_eqOp.f a0_0 a0_1 a0_2 a1_0 a1_1 a1_2 = some r) :
    Calls Tryz.prog 187 #[.agg #[.int .i64 a0_0, .int .i64 a0_1, .int .i64 a0_2], .agg #[.int .i64 a1_0, .int .i64 a1_1, .int .i64 a1_2]] w fun e w' => e = .returned (.bool r) ∧ Below w.heap.size w w' := by
 have hu122 := Tryz.underlying122
 have HB := A_ (Below.refl w.heap.size w)
 have H : (if a0_0 = a1_0 then (if a0_1 = a1_1 then (if a0_2 = a1_2 then (some true) else (none)) else (none)) else (none)) = some r := h
 clear h
 replace H := iy_ H
 obtain ⟨c3b0, c3b1, H⟩ := H
 replace H := iy_ H
 obtain ⟨c4b0, c4b1, H⟩ := H
 replace H := iy_ H
 obtain ⟨c5b0, c5b1, H⟩ := H
 obtain rfl := Option.some.inj H
 go_enter Tryz.func187, Tryz.ntmps187
 go_wp2_with (first | ((with_reducible refine gate_dst (N := 2) rfl ?_); refine bx_ HB rfl (N := 2) rfl (cs := #[.int .i64 a0_0, .int .i64 a0_1, .int .i64 a0_2]) (t := 122) hr_ ?_; clear HB; intro gb553 w6 hg hb BK553 GW553 HB; clear hb hg) | ((with_reducible refine gate_dst (N := 3) rfl ?_); refine bx_ HB rfl (N := 3) rfl (cs := #[.int .i64 a1_0, .int .i64 a1_1, .int .i64 a1_2]) (t := 122) hr_ ?_; clear HB; intro gb554 w7 hg hb BK554 GW554 HB; have NB553_554 := ng_ BK553 hg; have NB554_553 := ns_ (ng_ BK553 hg); replace BK553 := bb_ BK553 hb; clear hb hg; have hnb8 := NB553_554.out; have hnc8 := NB554_553.out; obtain ⟨z9_0, z9_1, z9_2, y9_0, y9_1, y9_2⟩ := cz3_ BK553; obtain ⟨z10_0, z10_1, z10_2, y10_0, y10_1, y10_2⟩ := cz3_ BK554))
 go_ret
 exact ⟨rs_, hb_ HB⟩
def laws_eqOpS.l0 : Nat → List (S122) → List (S122) → Int → Option (Bool)
 | 0, _, _, _ => none
 | k + 1, x0, x1, x5 => if x5 < (x0.length : Int) then (if 0 ≤ x5 then (if x5 < (x1.length : Int) then ((laws_eqOp.f ((rd_T122 x0 x5).f0) ((rd_T122 x0 x5).f1) ((rd_T122 x0 x5).f2) ((rd_T122 x1 x5).f0) ((rd_T122 x1 x5).f1) ((rd_T122 x1 x5).f2)).bind fun t557 => (if t557 = true then (laws_eqOpS.l0 k x0 x1 (wrap64 (x5 + 1))) else (none))) else (none)) else (none)) else (some true)
def laws_eqOpS.f (k : Nat) (l0 : List (S122)) (l1 : List (S122)) : Option (Bool) := if (l0.length : Int) = (l1.length : Int) then (laws_eqOpS.l0 k l0 l1 0) else (none)
def laws_eqOpS.T6 : Bool × List (List Nat × List Nat) := (true, [([], []), ([], []), ([0, 1], [0, 1]), ([2], [2]), ([], []), ([], []), ([4, 5], [4, 5]), ([6], [6]), ([3, 7], [3, 7]), ([8], [8])])
def laws_eqOpS.B6 : List Nat := [0, 0, 3, 7, 0, 0, 48, 112, 255, 511]
theorem laws_eqOpS.tab6 : rtab .any (opsOf Tryz.f184 6) = laws_eqOpS.T6 := by kernel_rfl
theorem laws_eqOpS.bits6 : waitsOk laws_eqOpS.T6.2 laws_eqOpS.B6 = true := by kernel_rfl
set_option maxHeartbeats 8000000 in
set_option maxRecDepth 100000 in
theorem laws_eqOpS.calls (k : Nat) (A0 : Option Addr) (c0 : Nat) (l0 : List (S122)) (A1 : Option Addr) (c1 : Nat) (l1 : List (S122)) (r : Bool) (w : World) (hr0 : Kd.C k122 w A0 l0.length l0) (hc0 : l0.length ≤ c0) (hr1 : Kd.C k122 w A1 l1.length l1) (hc1 : l1.length ≤ c1) (h : laws_eqOpS.f k l0 l1 = some r) :
    Calls Tryz.prog 184 #[.slice A0 l0.length c0, .slice A1 l1.length c1] w fun e w' => e = .returned (.bool r) ∧ Below w.heap.size w w' := by
 have hu122 := Tryz.underlying122
 have HR0 := A_ hr0
 have HC0 := A_ hc0
 clear hr0 hc0
 have HR1 := A_ hr1
 have HC1 := A_ hc1
 clear hr1 hc1
 have HB := A_ (Below.refl w.heap.size w)
 have H : (if (l0.length : Int) = (l1.length : Int) then (laws_eqOpS.l0 k l0 l1 0) else (none)) = some r := h
 clear h
 by_cases c3 : (l0.length : Int) = (l1.length : Int)
 ·
  rw [if_pos c3] at H
  have c3b0 : ((l0.length : Int) == (l1.length : Int)) = true := beq_iff_eq.mpr c3
  have c3b1 : ((l0.length : Int) != (l1.length : Int)) = false := bne_eq_false_iff_eq.mpr c3
  have c3b2 : (l0.length == l1.length) = true := by first | simpa using c3 | (simp at c3 ⊢; omega)
  clear c3
  replace H' := A_ H; clear H
  go_enter Tryz.func184, Tryz.ntmps184
  go_wp2
  go_loopg [5] k (fun kq v5 w' => ∃ (x5_1 : Int), v5 = .int .i64 x5_1 ∧ Aside0 (laws_eqOpS.l0 kq l0 l1 x5_1 = some r) ∧ Aside0 (kq ≤ k) ∧ Aside0 (Below w.heap.size w w'))
  case atStart => exact ⟨(0), rt_, H', ⟨Nat.le_refl _⟩, ⟨hb_ HB⟩⟩
  case round =>
   clear H'
   try clear c1
   try clear c3
   try clear c3b0
   try clear c3b1
   try clear c3b2
   obtain ⟨x5_1, rfl, HA, HK1, HB⟩ := hrel
   cases gk with
   | zero => exact absurd HA.out (by simp [laws_eqOpS.l0])
   | succ k1 =>
    have H := HA.out
    clear HA
    simp only [laws_eqOpS.l0] at H
    replace H := ic_ H
    rcases H with ⟨c4b0, H⟩ | ⟨c4b0, H⟩
    ·
     replace H := ix_ H
     obtain ⟨c5b0, H⟩ := H
     replace H := ix_ H
     obtain ⟨c6b0, H⟩ := H
     replace H := bs_ H
     obtain ⟨t557, A7, H⟩ := H
     by_cases c8 : t557 = true
     ·
      subst c8
      replace H := it_ H
      replace H' := A_ H; clear H
      try go_wp2
      replace HB := A_ (below_drew1 HB.out)
      have p555 : 0 ≤ (x5_1 : Int) := od_
      have q555 : x5_1 < (l0.length : Int) := od_
      obtain ⟨ad555, e555, u555_0, u555_1, u555_2⟩ := at_T122 HR0.out x5_1 p555 q555
      have hw555_2 := u555_2
      have hw555_1 := u555_1
      have hw555_0 := u555_0
      cases e555
      replace u555_0 := hx_ HB u555_0
      replace u555_1 := hx_ HB u555_1
      replace u555_2 := hx_ HB u555_2
      replace p555 := eq_true p555
      replace q555 := eq_true q555
      have p556 : 0 ≤ (x5_1 : Int) := od_
      have q556 : x5_1 < (l1.length : Int) := od_
      obtain ⟨ad556, e556, u556_0, u556_1, u556_2⟩ := at_T122 HR1.out x5_1 p556 q556
      have hw556_2 := u556_2
      have hw556_1 := u556_1
      have hw556_0 := u556_0
      cases e556
      replace u556_0 := hx_ HB u556_0
      replace u556_1 := hx_ HB u556_1
      replace u556_2 := hx_ HB u556_2
      replace p556 := eq_true p556
      replace q556 := eq_true q556
      refine start_ (n := 10) (S := fun w' => w'.cell? (ad555.add ((x5_1).toNat * 3)) = some (.int .i64 ((rd_T122 l0 x5_1).f0)) ∧ w'.cell? ⟨(ad555.add ((x5_1).toNat * 3)).block, (ad555.add ((x5_1).toNat * 3)).off + 1, none⟩ = some (.int .i64 ((rd_T122 l0 x5_1).f1)) ∧ w'.cell? ⟨(ad555.add ((x5_1).toNat * 3)).block, (ad555.add ((x5_1).toNat * 3)).off + 2, none⟩ = some (.int .i64 ((rd_T122 l0 x5_1).f2)) ∧ w'.cell? (ad556.add ((x5_1).toNat * 3)) = some (.int .i64 ((rd_T122 l1 x5_1).f0)) ∧ w'.cell? ⟨(ad556.add ((x5_1).toNat * 3)).block, (ad556.add ((x5_1).toNat * 3)).off + 1, none⟩ = some (.int .i64 ((rd_T122 l1 x5_1).f1)) ∧ w'.cell? ⟨(ad556.add ((x5_1).toNat * 3)).block, (ad556.add ((x5_1).toNat * 3)).off + 2, none⟩ = some (.int .i64 ((rd_T122 l1 x5_1).f2))) (ds := []) (bt_ 0 10) (by kernel_rfl) rfl rfl ⟨(hy_ HB hw555_0), (hy_ HB hw555_1), (hy_ HB hw555_2), (hy_ HB hw556_0), (hy_ HB hw556_1), (hy_ HB hw556_2)⟩ (fun hHeld => ?_); refine with_tabW laws_eqOpS.tab6 laws_eqOpS.bits6 (fun HT_ HW_ => ?_)
      generalize wr.drew = w9 at HB u555_0 u555_1 u555_2 u556_0 u556_1 u556_2 hHeld ⊢
      refine pu_ 0 17 (bt_ 1 10) ?_
      refine pu_ 1 18 (bt_ 3 10) ?_
      refine pu_ 2 19 (bt_ 7 10) ?_
      refine pu_ 4 21 (bt_ 23 10) ?_
      refine pu_ 5 22 (bt_ 55 10) ?_
      refine pu_ 6 23 (bt_ 119 10) ?_
      refine tk6_ 3 20 (bt_ 127 10) hHeld ?_
      refine tk6_ 7 24 (bt_ 255 10) hHeld ?_
      refine one_ (i := 8) (N := some 25) (bt_ 511 10) rfl rfl (one_of HT_.out (by kernel_rfl)) (by decide) (fun K hK => ?_)
      refine goes_ Tryz.func187 (by kernel_rfl) rfl #[.agg #[.int .i64 ((rd_T122 l0 x5_1).f0), .int .i64 ((rd_T122 l0 x5_1).f1), .int .i64 ((rd_T122 l0 x5_1).f2)], .agg #[.int .i64 ((rd_T122 l1 x5_1).f0), .int .i64 ((rd_T122 l1 x5_1).f1), .int .i64 ((rd_T122 l1 x5_1).f2)]] (by rfl) rfl rfl al_ ?_
      with_reducible refine (laws_eqOp.calls ((rd_T122 l0 x5_1).f0) ((rd_T122 l0 x5_1).f1) ((rd_T122 l0 x5_1).f2) ((rd_T122 l1 x5_1).f0) ((rd_T122 l1 x5_1).f1) ((rd_T122 l1 x5_1).f2) true _ A7.out).mono ?_
      rintro e w10 ⟨rfl, hb⟩
      refine ⟨_, rfl, ?_⟩
      replace HB := hs_ HB hb
      (try clear hb)
      (try clear hb2)
      (try clear hk)
      (try clear hi)
      refine hK.out _ _ ⟨(hy_ HB hw555_0), (hy_ HB hw555_1), (hy_ HB hw555_2), (hy_ HB hw556_0), (hy_ HB hw556_1), (hy_ HB hw556_2)⟩ (fun hHeld => ?_)
      clear hK K
      refine norm_ (a' := ?_) ?_ ?_
      rotate_left
      ·
       show Act.put _ (some 25) _ = _
       simp only [Act.put, List.setIfInBounds_toArray, List.set_cons_zero, List.set_cons_succ, i64_w, i32_w]
       rfl
      refine pu_ 9 26 (bt_ 1023 10) ?_
      refine done_ (done_of HT_.out (by kernel_rfl)) ?_
      try go_wp2
      go_roundg k1
      case measure => have := HK1.out; omega
      case rel => exact ⟨(wrap64 (x5_1 + 1)), rt_, H', ⟨by have := HK1.out; omega⟩, ⟨hb_ HB⟩⟩
     obtain rfl := Bool.eq_false_iff.mpr c8
     replace H := iF_ H
     exact absurd H (by simp)
    obtain rfl := Option.some.inj H
    go_wp2
    go_ret
    exact ⟨rs_, hb_ HB⟩
 rw [if_neg c3] at H
 exact absurd H (by simp)
def laws_eqPair.f (a0_0 : Int) (a0_1 : Int) (a1_0 : Int) (a1_1 : Int) : Option (Bool) := if a0_0 = a1_0 then (if a0_1 = a1_1 then (some true) else (none)) else (none)
set_option maxHeartbeats 8000000 in
set_option maxRecDepth 100000 in
theorem laws_eqPair.calls (a0_0 : Int) (a0_1 : Int) (a1_0 : Int) (a1_1 : Int) (r : Bool) (w : World) (h : laws_eqPair.f a0_0 a0_1 a1_0 a1_1 = some r) :
    Calls Tryz.prog 195 #[.agg #[.int .i64 a0_0, .int .i64 a0_1], .agg #[.int .i64 a1_0, .int .i64 a1_1]] w fun e w' => e = .returned (.bool r) ∧ Below w.heap.size w w' := by
 have hu125 := Tryz.underlying125
 have HB := A_ (Below.refl w.heap.size w)
 have H : (if a0_0 = a1_0 then (if a0_1 = a1_1 then (some true) else (none)) else (none)) = some r := h
 clear h
 replace H := iy_ H
 obtain ⟨c3b0, c3b1, H⟩ := H
 replace H := iy_ H
 obtain ⟨c4b0, c4b1, H⟩ := H
 obtain rfl := Option.some.inj H
 go_enter Tryz.func195, Tryz.ntmps195
 go_wp2_with (first | ((with_reducible refine gate_dst (N := 2) rfl ?_); refine bx_ HB rfl (N := 2) rfl (cs := #[.int .i64 a0_0, .int .i64 a0_1]) (t := 125) hr_ ?_; clear HB; intro gb558 w5 hg hb BK558 GW558 HB; clear hb hg) | ((with_reducible refine gate_dst (N := 3) rfl ?_); refine bx_ HB rfl (N := 3) rfl (cs := #[.int .i64 a1_0, .int .i64 a1_1]) (t := 125) hr_ ?_; clear HB; intro gb559 w6 hg hb BK559 GW559 HB; have NB558_559 := ng_ BK558 hg; have NB559_558 := ns_ (ng_ BK558 hg); replace BK558 := bb_ BK558 hb; clear hb hg; have hnb7 := NB558_559.out; have hnc7 := NB559_558.out; obtain ⟨z8_0, z8_1, y8_0, y8_1⟩ := cz2_ BK558; obtain ⟨z9_0, z9_1, y9_0, y9_1⟩ := cz2_ BK559))
 go_ret
 exact ⟨rs_, hb_ HB⟩
end Go.Proofs.YtdcinhpdpoodfaaGreat.PFnExactFinished
