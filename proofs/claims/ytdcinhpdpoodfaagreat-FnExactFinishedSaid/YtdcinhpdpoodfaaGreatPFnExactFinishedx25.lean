/- Contracts of functions of the program. No condition beyond the hypotheses that each theorem names. -/
import Derived.Test.YtdcinhpdpoodfaaGreatPFnExactFinishedx0
import Derived.Test.YtdcinhpdpoodfaaGreatPFnExactFinishedx24
namespace Go.Proofs.YtdcinhpdpoodfaaGreat.PFnExactFinished
open Go.RowKit Go.Proofs.YtdcinhpdpoodfaaGreatW.PrintWords Go.Proofs.YtdcinhpdpoodfaaGreatW.PrintLast Go.Proofs.YtdcinhpdpoodfaaGreatW.PrintMore
attribute [local go_sem] max2_int min2_int max_two min_two max_three min_three max_four min_four
set_option linter.unusedVariables false
set_option linter.unusedSimpArgs false
def laws_eqPairS.l0 : Nat → List (S125) → List (S125) → Int → Option (Bool)
 | 0, _, _, _ => none
 | k + 1, x0, x1, x5 => if x5 < (x0.length : Int) then (if 0 ≤ x5 then (if x5 < (x1.length : Int) then ((laws_eqPair.f ((rd_T125 x0 x5).f0) ((rd_T125 x0 x5).f1) ((rd_T125 x1 x5).f0) ((rd_T125 x1 x5).f1)).bind fun t562 => (if t562 = true then (laws_eqPairS.l0 k x0 x1 (wrap64 (x5 + 1))) else (none))) else (none)) else (none)) else (some true)
def laws_eqPairS.f (k : Nat) (l0 : List (S125)) (l1 : List (S125)) : Option (Bool) := if (l0.length : Int) = (l1.length : Int) then (laws_eqPairS.l0 k l0 l1 0) else (none)
def laws_eqPairS.T6 : Bool × List (List Nat × List Nat) := (true, [([], []), ([], []), ([0, 1], [0, 1]), ([2], [2]), ([], []), ([], []), ([4, 5], [4, 5]), ([6], [6]), ([3, 7], [3, 7]), ([8], [8])])
def laws_eqPairS.B6 : List Nat := [0, 0, 3, 7, 0, 0, 48, 112, 255, 511]
theorem laws_eqPairS.tab6 : rtab .any (opsOf Tryz.f185 6) = laws_eqPairS.T6 := by kernel_rfl
theorem laws_eqPairS.bits6 : waitsOk laws_eqPairS.T6.2 laws_eqPairS.B6 = true := by kernel_rfl
set_option maxHeartbeats 8000000 in
set_option maxRecDepth 100000 in
theorem laws_eqPairS.calls (k : Nat) (A0 : Option Addr) (c0 : Nat) (l0 : List (S125)) (A1 : Option Addr) (c1 : Nat) (l1 : List (S125)) (r : Bool) (w : World) (hr0 : Kd.C k125 w A0 l0.length l0) (hc0 : l0.length ≤ c0) (hr1 : Kd.C k125 w A1 l1.length l1) (hc1 : l1.length ≤ c1) (h : laws_eqPairS.f k l0 l1 = some r) :
    Calls Tryz.prog 185 #[.slice A0 l0.length c0, .slice A1 l1.length c1] w fun e w' => e = .returned (.bool r) ∧ Below w.heap.size w w' := by
 have hu125 := Tryz.underlying125
 have HR0 := A_ hr0
 have HC0 := A_ hc0
 clear hr0 hc0
 have HR1 := A_ hr1
 have HC1 := A_ hc1
 clear hr1 hc1
 have HB := A_ (Below.refl w.heap.size w)
 have H : (if (l0.length : Int) = (l1.length : Int) then (laws_eqPairS.l0 k l0 l1 0) else (none)) = some r := h
 clear h
 by_cases c3 : (l0.length : Int) = (l1.length : Int)
 ·
  rw [if_pos c3] at H
  have c3b0 : ((l0.length : Int) == (l1.length : Int)) = true := beq_iff_eq.mpr c3
  have c3b1 : ((l0.length : Int) != (l1.length : Int)) = false := bne_eq_false_iff_eq.mpr c3
  have c3b2 : (l0.length == l1.length) = true := by first | simpa using c3 | (simp at c3 ⊢; omega)
  clear c3
  replace H' := A_ H; clear H
  go_enter Tryz.func185, Tryz.ntmps185
  go_wp2
  go_loopg [5] k (fun kq v5 w' => ∃ (x5_1 : Int), v5 = .int .i64 x5_1 ∧ Aside0 (laws_eqPairS.l0 kq l0 l1 x5_1 = some r) ∧ Aside0 (kq ≤ k) ∧ Aside0 (Below w.heap.size w w'))
  case atStart => exact ⟨(0), rt_, H', ⟨Nat.le_refl _⟩, ⟨hb_ HB⟩⟩
  case round =>
   clear H'
   try clear c1
   try clear c3
   try clear c3b0
   try clear c3b1
   try clear c3b2
   obtain ⟨x5_1, rfl, HA, HK1, HB⟩ := hrel
   cases gk with
   | zero => exact absurd HA.out (by simp [laws_eqPairS.l0])
   | succ k1 =>
    have H := HA.out
    clear HA
    simp only [laws_eqPairS.l0] at H
    replace H := ic_ H
    rcases H with ⟨c4b0, H⟩ | ⟨c4b0, H⟩
    ·
     replace H := ix_ H
     obtain ⟨c5b0, H⟩ := H
     replace H := ix_ H
     obtain ⟨c6b0, H⟩ := H
     replace H := bs_ H
     obtain ⟨t562, A7, H⟩ := H
     by_cases c8 : t562 = true
     ·
      subst c8
      replace H := it_ H
      replace H' := A_ H; clear H
      try go_wp2
      replace HB := A_ (below_drew1 HB.out)
      have p560 : 0 ≤ (x5_1 : Int) := od_
      have q560 : x5_1 < (l0.length : Int) := od_
      obtain ⟨ad560, e560, u560_0, u560_1⟩ := at_T125 HR0.out x5_1 p560 q560
      have hw560_1 := u560_1
      have hw560_0 := u560_0
      cases e560
      replace u560_0 := hx_ HB u560_0
      replace u560_1 := hx_ HB u560_1
      replace p560 := eq_true p560
      replace q560 := eq_true q560
      have p561 : 0 ≤ (x5_1 : Int) := od_
      have q561 : x5_1 < (l1.length : Int) := od_
      obtain ⟨ad561, e561, u561_0, u561_1⟩ := at_T125 HR1.out x5_1 p561 q561
      have hw561_1 := u561_1
      have hw561_0 := u561_0
      cases e561
      replace u561_0 := hx_ HB u561_0
      replace u561_1 := hx_ HB u561_1
      replace p561 := eq_true p561
      replace q561 := eq_true q561
      refine start_ (n := 10) (S := fun w' => w'.cell? (ad560.add ((x5_1).toNat * 2)) = some (.int .i64 ((rd_T125 l0 x5_1).f0)) ∧ w'.cell? ⟨(ad560.add ((x5_1).toNat * 2)).block, (ad560.add ((x5_1).toNat * 2)).off + 1, none⟩ = some (.int .i64 ((rd_T125 l0 x5_1).f1)) ∧ w'.cell? (ad561.add ((x5_1).toNat * 2)) = some (.int .i64 ((rd_T125 l1 x5_1).f0)) ∧ w'.cell? ⟨(ad561.add ((x5_1).toNat * 2)).block, (ad561.add ((x5_1).toNat * 2)).off + 1, none⟩ = some (.int .i64 ((rd_T125 l1 x5_1).f1))) (ds := []) (bt_ 0 10) (by kernel_rfl) rfl rfl ⟨(hy_ HB hw560_0), (hy_ HB hw560_1), (hy_ HB hw561_0), (hy_ HB hw561_1)⟩ (fun hHeld => ?_); refine with_tabW laws_eqPairS.tab6 laws_eqPairS.bits6 (fun HT_ HW_ => ?_)
      generalize wr.drew = w9 at HB u560_0 u560_1 u561_0 u561_1 hHeld ⊢
      refine pu_ 0 17 (bt_ 1 10) ?_
      refine pu_ 1 18 (bt_ 3 10) ?_
      refine pu_ 2 19 (bt_ 7 10) ?_
      refine pu_ 4 21 (bt_ 23 10) ?_
      refine pu_ 5 22 (bt_ 55 10) ?_
      refine pu_ 6 23 (bt_ 119 10) ?_
      refine tk4_ 3 20 (bt_ 127 10) hHeld ?_
      refine tk4_ 7 24 (bt_ 255 10) hHeld ?_
      refine one_ (i := 8) (N := some 25) (bt_ 511 10) rfl rfl (one_of HT_.out (by kernel_rfl)) (by decide) (fun K hK => ?_)
      refine goes_ Tryz.func195 (by kernel_rfl) rfl #[.agg #[.int .i64 ((rd_T125 l0 x5_1).f0), .int .i64 ((rd_T125 l0 x5_1).f1)], .agg #[.int .i64 ((rd_T125 l1 x5_1).f0), .int .i64 ((rd_T125 l1 x5_1).f1)]] (by rfl) rfl rfl al_ ?_
      with_reducible refine (laws_eqPair.calls ((rd_T125 l0 x5_1).f0) ((rd_T125 l0 x5_1).f1) ((rd_T125 l1 x5_1).f0) ((rd_T125 l1 x5_1).f1) true _ A7.out).mono ?_
      rintro e w10 ⟨rfl, hb⟩
      refine ⟨_, rfl, ?_⟩
      replace HB := hs_ HB hb
      (try clear hb)
      (try clear hb2)
      (try clear hk)
      (try clear hi)
      refine hK.out _ _ ⟨(hy_ HB hw560_0), (hy_ HB hw560_1), (hy_ HB hw561_0), (hy_ HB hw561_1)⟩ (fun hHeld => ?_)
      clear hK K
      refine norm_ (a' := ?_) ?_ ?_
      rotate_left
      ·
       show Act.put _ (some 25) _ = _
       simp only [Act.put, List.setIfInBounds_toArray, List.set_cons_zero, List.set_cons_succ, i64_w, i32_w]
       rfl
      refine pu_ 9 26 (bt_ 1023 10) ?_
      refine done_ (done_of HT_.out (by kernel_rfl)) ?_
      try go_wp2
      go_roundg k1
      case measure => have := HK1.out; omega
      case rel => exact ⟨(wrap64 (x5_1 + 1)), rt_, H', ⟨by have := HK1.out; omega⟩, ⟨hb_ HB⟩⟩
     obtain rfl := Bool.eq_false_iff.mpr c8
     replace H := iF_ H
     exact absurd H (by simp)
    obtain rfl := Option.some.inj H
    go_wp2
    go_ret
    exact ⟨rs_, hb_ HB⟩
 rw [if_neg c3] at H
 exact absurd H (by simp)
def laws_eqHelp.f (a0_0 : Int) (a0_1 : Int) (a0_2 : Int) (a0_3 : Int) (a1_0 : Int) (a1_1 : Int) (a1_2 : Int) (a1_3 : Int) : Option (Bool) := if a0_0 = a1_0 then (if a0_1 = a1_1 then (if a0_2 = a1_2 then (if a0_3 = a1_3 then (some true) else (none)) else (none)) else (none)) else (none)
set_option maxHeartbeats 8000000 in
set_option maxRecDepth 100000 in
theorem laws_eqHelp.calls (a0_0 : Int) (a0_1 : Int) (a0_2 : Int) (a0_3 : Int) (a1_0 : Int) (a1_1 : Int) (a1_2 : Int) (a1_3 : Int) (r : Bool) (w : World) (h : laws_eqHelp.f a0_0 a0_1 a0_2 a0_3 a1_0 a1_1 a1_2 a1_3 = some r) :
    Calls Tryz.prog 196 #[.agg #[.int .i64 a0_0, .int .i64 a0_1, .int .i64 a0_2, .int .i64 a0_3], .agg #[.int .i64 a1_0, .int .i64 a1_1, .int .i64 a1_2, .int .i64 a1_3]] w fun e w' => e = .returned (.bool r) ∧ Below w.heap.size w w' := by
 have hu42 := Tryz.underlying42
 have HB := A_ (Below.refl w.heap.size w)
 have H : (if a0_0 = a1_0 then (if a0_1 = a1_1 then (if a0_2 = a1_2 then (if a0_3 = a1_3 then (some true) else (none)) else (none)) else (none)) else (none)) = some r := h
 clear h
 replace H := iy_ H
 obtain ⟨c3b0, c3b1, H⟩ := H
 replace H := iy_ H
 obtain ⟨c4b0, c4b1, H⟩ := H
 replace H := iy_ H
 obtain ⟨c5b0, c5b1, H⟩ := H
 replace H := iy_ H
 obtain ⟨c6b0, c6b1, H⟩ := H
 obtain rfl := Option.some.inj H
 go_enter Tryz.func196, Tryz.ntmps196
 go_wp2_with (first | ((with_reducible refine gate_dst (N := 2) rfl ?_); refine bx_ HB rfl (N := 2) rfl (cs := #[.int .i64 a0_0, .int .i64 a0_1, .int .i64 a0_2, .int .i64 a0_3]) (t := 42) hr_ ?_; clear HB; intro gb563 w7 hg hb BK563 GW563 HB; clear hb hg) | ((with_reducible refine gate_dst (N := 3) rfl ?_); refine bx_ HB rfl (N := 3) rfl (cs := #[.int .i64 a1_0, .int .i64 a1_1, .int .i64 a1_2, .int .i64 a1_3]) (t := 42) hr_ ?_; clear HB; intro gb564 w8 hg hb BK564 GW564 HB; have NB563_564 := ng_ BK563 hg; have NB564_563 := ns_ (ng_ BK563 hg); replace BK563 := bb_ BK563 hb; clear hb hg; have hnb9 := NB563_564.out; have hnc9 := NB564_563.out; obtain ⟨z10_0, z10_1, z10_2, z10_3, y10_0, y10_1, y10_2, y10_3⟩ := cz4_ BK563; obtain ⟨z11_0, z11_1, z11_2, z11_3, y11_0, y11_1, y11_2, y11_3⟩ := cz4_ BK564))
 go_ret
 exact ⟨rs_, hb_ HB⟩
def laws_eqHelpS.l0 : Nat → List (S42) → List (S42) → Int → Option (Bool)
 | 0, _, _, _ => none
 | k + 1, x0, x1, x5 => if x5 < (x0.length : Int) then (if 0 ≤ x5 then (if x5 < (x1.length : Int) then ((laws_eqHelp.f ((rd_T42 x0 x5).f0) ((rd_T42 x0 x5).f1) ((rd_T42 x0 x5).f2) ((rd_T42 x0 x5).f3) ((rd_T42 x1 x5).f0) ((rd_T42 x1 x5).f1) ((rd_T42 x1 x5).f2) ((rd_T42 x1 x5).f3)).bind fun t567 => (if t567 = true then (laws_eqHelpS.l0 k x0 x1 (wrap64 (x5 + 1))) else (none))) else (none)) else (none)) else (some true)
def laws_eqHelpS.f (k : Nat) (l0 : List (S42)) (l1 : List (S42)) : Option (Bool) := if (l0.length : Int) = (l1.length : Int) then (laws_eqHelpS.l0 k l0 l1 0) else (none)
def laws_eqHelpS.T6 : Bool × List (List Nat × List Nat) := (true, [([], []), ([], []), ([0, 1], [0, 1]), ([2], [2]), ([], []), ([], []), ([4, 5], [4, 5]), ([6], [6]), ([3, 7], [3, 7]), ([8], [8])])
def laws_eqHelpS.B6 : List Nat := [0, 0, 3, 7, 0, 0, 48, 112, 255, 511]
theorem laws_eqHelpS.tab6 : rtab .any (opsOf Tryz.f186 6) = laws_eqHelpS.T6 := by kernel_rfl
theorem laws_eqHelpS.bits6 : waitsOk laws_eqHelpS.T6.2 laws_eqHelpS.B6 = true := by kernel_rfl
set_option maxHeartbeats 8000000 in
set_option maxRecDepth 100000 in
theorem laws_eqHelpS.calls (k : Nat) (A0 : Option Addr) (c0 : Nat) (l0 : List (S42)) (A1 : Option Addr) (c1 : Nat) (l1 : List (S42)) (r : Bool) (w : World) (hr0 : Kd.C k42 w A0 l0.length l0) (hc0 : l0.length ≤ c0) (hr1 : Kd.C k42 w A1 l1.length l1) (hc1 : l1.length ≤ c1) (h : laws_eqHelpS.f k l0 l1 = some r) :
    Calls Tryz.prog 186 #[.slice A0 l0.length c0, .slice A1 l1.length c1] w fun e w' => e = .returned (.bool r) ∧ Below w.heap.size w w' := by
 have hu42 := Tryz.underlying42
 have HR0 := A_ hr0
 have HC0 := A_ hc0
 clear hr0 hc0
 have HR1 := A_ hr1
 have HC1 := A_ hc1
 clear hr1 hc1
 have HB := A_ (Below.refl w.heap.size w)
 have H : (if (l0.length : Int) = (l1.length : Int) then (laws_eqHelpS.l0 k l0 l1 0) else (none)) = some r := h
 clear h
 by_cases c3 : (l0.length : Int) = (l1.length : Int)
 ·
  rw [if_pos c3] at H
  have c3b0 : ((l0.length : Int) == (l1.length : Int)) = true := beq_iff_eq.mpr c3
  have c3b1 : ((l0.length : Int) != (l1.length : Int)) = false := bne_eq_false_iff_eq.mpr c3
  have c3b2 : (l0.length == l1.length) = true := by first | simpa using c3 | (simp at c3 ⊢; omega)
  clear c3
  replace H' := A_ H; clear H
  go_enter Tryz.func186, Tryz.ntmps186
  go_wp2
  go_loopg [5] k (fun kq v5 w' => ∃ (x5_1 : Int), v5 = .int .i64 x5_1 ∧ Aside0 (laws_eqHelpS.l0 kq l0 l1 x5_1 = some r) ∧ Aside0 (kq ≤ k) ∧ Aside0 (Below w.heap.size w w'))
  case atStart => exact ⟨(0), rt_, H', ⟨Nat.le_refl _⟩, ⟨hb_ HB⟩⟩
  case round =>
   clear H'
   try clear c1
   try clear c3
   try clear c3b0
   try clear c3b1
   try clear c3b2
   obtain ⟨x5_1, rfl, HA, HK1, HB⟩ := hrel
   cases gk with
   | zero => exact absurd HA.out (by simp [laws_eqHelpS.l0])
   | succ k1 =>
    have H := HA.out
    clear HA
    simp only [laws_eqHelpS.l0] at H
    replace H := ic_ H
    rcases H with ⟨c4b0, H⟩ | ⟨c4b0, H⟩
    ·
     replace H := ix_ H
     obtain ⟨c5b0, H⟩ := H
     replace H := ix_ H
     obtain ⟨c6b0, H⟩ := H
     replace H := bs_ H
     obtain ⟨t567, A7, H⟩ := H
     by_cases c8 : t567 = true
     ·
      subst c8
      replace H := it_ H
      replace H' := A_ H; clear H
      try go_wp2
      replace HB := A_ (below_drew1 HB.out)
      have p565 : 0 ≤ (x5_1 : Int) := od_
      have q565 : x5_1 < (l0.length : Int) := od_
      obtain ⟨ad565, e565, u565_0, u565_1, u565_2, u565_3⟩ := at_T42 HR0.out x5_1 p565 q565
      have hw565_3 := u565_3
      have hw565_2 := u565_2
      have hw565_1 := u565_1
      have hw565_0 := u565_0
      cases e565
      replace u565_0 := hx_ HB u565_0
      replace u565_1 := hx_ HB u565_1
      replace u565_2 := hx_ HB u565_2
      replace u565_3 := hx_ HB u565_3
      replace p565 := eq_true p565
      replace q565 := eq_true q565
      have p566 : 0 ≤ (x5_1 : Int) := od_
      have q566 : x5_1 < (l1.length : Int) := od_
      obtain ⟨ad566, e566, u566_0, u566_1, u566_2, u566_3⟩ := at_T42 HR1.out x5_1 p566 q566
      have hw566_3 := u566_3
      have hw566_2 := u566_2
      have hw566_1 := u566_1
      have hw566_0 := u566_0
      cases e566
      replace u566_0 := hx_ HB u566_0
      replace u566_1 := hx_ HB u566_1
      replace u566_2 := hx_ HB u566_2
      replace u566_3 := hx_ HB u566_3
      replace p566 := eq_true p566
      replace q566 := eq_true q566
      refine start_ (n := 10) (S := fun w' => w'.cell? (ad565.add ((x5_1).toNat * 4)) = some (.int .i64 ((rd_T42 l0 x5_1).f0)) ∧ w'.cell? ⟨(ad565.add ((x5_1).toNat * 4)).block, (ad565.add ((x5_1).toNat * 4)).off + 1, none⟩ = some (.int .i64 ((rd_T42 l0 x5_1).f1)) ∧ w'.cell? ⟨(ad565.add ((x5_1).toNat * 4)).block, (ad565.add ((x5_1).toNat * 4)).off + 2, none⟩ = some (.int .i64 ((rd_T42 l0 x5_1).f2)) ∧ w'.cell? ⟨(ad565.add ((x5_1).toNat * 4)).block, (ad565.add ((x5_1).toNat * 4)).off + 3, none⟩ = some (.int .i64 ((rd_T42 l0 x5_1).f3)) ∧ w'.cell? (ad566.add ((x5_1).toNat * 4)) = some (.int .i64 ((rd_T42 l1 x5_1).f0)) ∧ w'.cell? ⟨(ad566.add ((x5_1).toNat * 4)).block, (ad566.add ((x5_1).toNat * 4)).off + 1, none⟩ = some (.int .i64 ((rd_T42 l1 x5_1).f1)) ∧ w'.cell? ⟨(ad566.add ((x5_1).toNat * 4)).block, (ad566.add ((x5_1).toNat * 4)).off + 2, none⟩ = some (.int .i64 ((rd_T42 l1 x5_1).f2)) ∧ w'.cell? ⟨(ad566.add ((x5_1).toNat * 4)).block, (ad566.add ((x5_1).toNat * 4)).off + 3, none⟩ = some (.int .i64 ((rd_T42 l1 x5_1).f3))) (ds := []) (bt_ 0 10) (by kernel_rfl) rfl rfl ⟨(hy_ HB hw565_0), (hy_ HB hw565_1), (hy_ HB hw565_2), (hy_ HB hw565_3), (hy_ HB hw566_0), (hy_ HB hw566_1), (hy_ HB hw566_2), (hy_ HB hw566_3)⟩ (fun hHeld => ?_); refine with_tabW laws_eqHelpS.tab6 laws_eqHelpS.bits6 (fun HT_ HW_ => ?_)
      generalize wr.drew = w9 at HB u565_0 u565_1 u565_2 u565_3 u566_0 u566_1 u566_2 u566_3 hHeld ⊢
      refine pu_ 0 17 (bt_ 1 10) ?_
      refine pu_ 1 18 (bt_ 3 10) ?_
      refine pu_ 2 19 (bt_ 7 10) ?_
      refine pu_ 4 21 (bt_ 23 10) ?_
      refine pu_ 5 22 (bt_ 55 10) ?_
      refine pu_ 6 23 (bt_ 119 10) ?_
      refine tk8_ 3 20 (bt_ 127 10) hHeld ?_
      refine tk8_ 7 24 (bt_ 255 10) hHeld ?_
      refine one_ (i := 8) (N := some 25) (bt_ 511 10) rfl rfl (one_of HT_.out (by kernel_rfl)) (by decide) (fun K hK => ?_)
      refine goes_ Tryz.func196 (by kernel_rfl) rfl #[.agg #[.int .i64 ((rd_T42 l0 x5_1).f0), .int .i64 ((rd_T42 l0 x5_1).f1), .int .i64 ((rd_T42 l0 x5_1).f2), .int .i64 ((rd_T42 l0 x5_1).f3)], .agg #[.int .i64 ((rd_T42 l1 x5_1).f0), .int .i64 ((rd_T42 l1 x5_1).f1), .int .i64 ((rd_T42 l1 x5_1).f2), .int .i64 ((rd_T42 l1 x5_1).f3)]] (by rfl) rfl rfl al_ ?_
      with_reducible refine (laws_eqHelp.calls ((rd_T42 l0 x5_1).f0) ((rd_T42 l0 x5_1).f1) ((rd_T42 l0 x5_1).f2) ((rd_T42 l0 x5_1).f3) ((rd_T42 l1 x5_1).f0) ((rd_T42 l1 x5_1).f1) ((rd_T42 l1 x5_1).f2) ((rd_T42 l1 x5_1).f3) true _ A7.out).mono ?_
      rintro e w10 ⟨rfl, hb⟩
      refine ⟨_, rfl, ?_⟩
      replace HB := hs_ HB hb
      (try clear hb)
      (try clear hb2)
      (try clear hk)
      (try clear hi)
      refine hK.out _ _ ⟨(hy_ HB hw565_0), (hy_ HB hw565_1), (hy_ HB hw565_2), (hy_ HB hw565_3), (hy_ HB hw566_0), (hy_ HB hw566_1), (hy_ HB hw566_2), (hy_ HB hw566_3)⟩ (fun hHeld => ?_)
      clear hK K
      refine norm_ (a' := ?_) ?_ ?_
      rotate_left
      ·
       show Act.put _ (some 25) _ = _
       simp only [Act.put, List.setIfInBounds_toArray, List.set_cons_zero, List.set_cons_succ, i64_w, i32_w]
       rfl
      refine pu_ 9 26 (bt_ 1023 10) ?_
      refine done_ (done_of HT_.out (by kernel_rfl)) ?_
      try go_wp2
      go_roundg k1
      case measure => have := HK1.out; omega
      case rel => exact ⟨(wrap64 (x5_1 + 1)), rt_, H', ⟨by have := HK1.out; omega⟩, ⟨hb_ HB⟩⟩
     obtain rfl := Bool.eq_false_iff.mpr c8
     replace H := iF_ H
     exact absurd H (by simp)
    obtain rfl := Option.some.inj H
    go_wp2
    go_ret
    exact ⟨rs_, hb_ HB⟩
 rw [if_neg c3] at H
 exact absurd H (by simp)
def laws_eqThread.f (k : Nat) (l0_0 : List (S122)) (a0_1 : Int) (a0_2 : Bool) (l0_3 : List (S125)) (l0_4 : List (S42)) (l1_0 : List (S122)) (a1_1 : Int) (a1_2 : Bool) (l1_3 : List (S125)) (l1_4 : List (S42)) : Option (Bool) := (laws_eqOpS.f k l0_0 l1_0).bind fun t570 => (if t570 = true then (if a0_1 = a1_1 then (if (a0_2 != a1_2) = true then (none) else ((laws_eqPairS.f k l0_3 l1_3).bind fun t571 => (if t571 = true then ((laws_eqHelpS.f k l0_4 l1_4).bind fun t572 => (if t572 = true then (some true) else (none))) else (none)))) else (none)) else (none))
set_option maxHeartbeats 8000000 in
set_option maxRecDepth 100000 in
theorem laws_eqThread.calls (k : Nat) (A0_0 : Option Addr) (c0_0 : Nat) (l0_0 : List (S122)) (a0_1 : Int) (a0_2 : Bool) (A0_3 : Option Addr) (c0_3 : Nat) (l0_3 : List (S125)) (A0_4 : Option Addr) (c0_4 : Nat) (l0_4 : List (S42)) (A1_0 : Option Addr) (c1_0 : Nat) (l1_0 : List (S122)) (a1_1 : Int) (a1_2 : Bool) (A1_3 : Option Addr) (c1_3 : Nat) (l1_3 : List (S125)) (A1_4 : Option Addr) (c1_4 : Nat) (l1_4 : List (S42)) (r : Bool) (w : World) (hr0_0 : Kd.C k122 w A0_0 l0_0.length l0_0) (hc0_0 : l0_0.length ≤ c0_0) (hr0_3 : Kd.C k125 w A0_3 l0_3.length l0_3) (hc0_3 : l0_3.length ≤ c0_3) (hr0_4 : Kd.C k42 w A0_4 l0_4.length l0_4) (hc0_4 : l0_4.length ≤ c0_4) (hr1_0 : Kd.C k122 w A1_0 l1_0.length l1_0) (hc1_0 : l1_0.length ≤ c1_0) (hr1_3 : Kd.C k125 w A1_3 l1_3.length l1_3) (hc1_3 : l1_3.length ≤ c1_3) (hr1_4 : Kd.C k42 w A1_4 l1_4.length l1_4) (hc1_4 : l1_4.length ≤ c1_4) (h : laws_eqThread.f k l0_0 a0_1 a0_2 l0_3 l0_4 l1_0 a1_1 a1_2 l1_3 l1_4 = some r) :
    Calls Tryz.prog 164 #[.agg #[.slice A0_0 l0_0.length c0_0, .int .i64 a0_1, .bool a0_2, .slice A0_3 l0_3.length c0_3, .slice A0_4 l0_4.length c0_4], .agg #[.slice A1_0 l1_0.length c1_0, .int .i64 a1_1, .bool a1_2, .slice A1_3 l1_3.length c1_3, .slice A1_4 l1_4.length c1_4]] w fun e w' => e = .returned (.bool r) ∧ Below w.heap.size w w' := by
 have hu62 := Tryz.underlying62
 have HR0_0 := A_ hr0_0
 have HC0_0 := A_ hc0_0
 clear hr0_0 hc0_0
 have HR0_3 := A_ hr0_3
 have HC0_3 := A_ hc0_3
 clear hr0_3 hc0_3
 have HR0_4 := A_ hr0_4
 have HC0_4 := A_ hc0_4
 clear hr0_4 hc0_4
 have HR1_0 := A_ hr1_0
 have HC1_0 := A_ hc1_0
 clear hr1_0 hc1_0
 have HR1_3 := A_ hr1_3
 have HC1_3 := A_ hc1_3
 clear hr1_3 hc1_3
 have HR1_4 := A_ hr1_4
 have HC1_4 := A_ hc1_4
 clear hr1_4 hc1_4
 have HB := A_ (Below.refl w.heap.size w)
 have H : ((laws_eqOpS.f k l0_0 l1_0).bind fun t570 => (if t570 = true then (if a0_1 = a1_1 then (if (a0_2 != a1_2) = true then (none) else ((laws_eqPairS.f k l0_3 l1_3).bind fun t571 => (if t571 = true then ((laws_eqHelpS.f k l0_4 l1_4).bind fun t572 => (if t572 = true then (some true) else (none))) else (none)))) else (none)) else (none))) = some r := h
 clear h
 replace H := bs_ H
 obtain ⟨t570, A3, H⟩ := H
 by_cases c4 : t570 = true
 ·
  subst c4
  replace H := it_ H
  replace H := iy_ H
  obtain ⟨c5b0, c5b1, H⟩ := H
  by_cases c6 : (a0_2 != a1_2) = true
  ·
   rw [if_pos c6] at H
   exact absurd H (by simp)
  rw [if_neg c6] at H
  have c6b0 : (a0_2 != a1_2) = false := by simpa using c6
  (try (have c6b1 : decide (a0_2 = a1_2) = true := by simpa using c6))
  (try (have c6b2 : (a0_2 == a1_2) = true := by simpa using c6))
  clear c6
  replace H := bs_ H
  obtain ⟨t571, A7, H⟩ := H
  by_cases c8 : t571 = true
  ·
   subst c8
   replace H := it_ H
   replace H := bs_ H
   obtain ⟨t572, A9, H⟩ := H
   by_cases c10 : t572 = true
   ·
    subst c10
    replace H := it_ H
    obtain rfl := Option.some.inj H
    go_enter Tryz.func164, Tryz.ntmps164
    go_wp2_with (first | ((with_reducible refine gate_dst (N := 2) rfl ?_); refine bx_ HB rfl (N := 2) rfl (cs := #[.slice A0_0 l0_0.length c0_0, .int .i64 a0_1, .bool a0_2, .slice A0_3 l0_3.length c0_3, .slice A0_4 l0_4.length c0_4]) (t := 62) hr_ ?_; clear HB; intro gb568 w11 hg hb BK568 GW568 HB; clear hb hg) | ((with_reducible refine gate_dst (N := 3) rfl ?_); refine bx_ HB rfl (N := 3) rfl (cs := #[.slice A1_0 l1_0.length c1_0, .int .i64 a1_1, .bool a1_2, .slice A1_3 l1_3.length c1_3, .slice A1_4 l1_4.length c1_4]) (t := 62) hr_ ?_; clear HB; intro gb569 w12 hg hb BK569 GW569 HB; have NB568_569 := ng_ BK568 hg; have NB569_568 := ns_ (ng_ BK568 hg); replace BK568 := bb_ BK568 hb; clear hb hg; have hnb13 := NB568_569.out; have hnc13 := NB569_568.out; obtain ⟨z14_0, z14_1, z14_2, z14_3, z14_4, y14_0, y14_1, y14_2, y14_3, y14_4⟩ := cz5_ BK568; obtain ⟨z15_0, z15_1, z15_2, z15_3, z15_4, y15_0, y15_1, y15_2, y15_3, y15_4⟩ := cz5_ BK569) | ((with_reducible refine gate_callee (f := 184) rfl ?_); refine goesL_ (some 9) rfl rfl Tryz.func184 (by kernel_rfl) rfl #[.slice A0_0 l0_0.length c0_0, .slice A1_0 l1_0.length c1_0] rfl al_ ?_; (with_reducible refine (laws_eqOpS.calls k _ _ l0_0 _ _ l1_0 true _ ?s1 ?s2 ?s3 ?s4 A3.out).mono ?_); (case s1 => exact cb_ (Kd.C_below HR0_0.out HB.out)); (case s2 => exact HC0_0.out); (case s3 => exact cb_ (Kd.C_below HR1_0.out HB.out)); (case s4 => exact HC1_0.out); rintro e w16 ⟨rfl, hb⟩; refine ⟨_, rfl, ?_⟩; replace BK568 := bb_ BK568 hb; replace BK569 := bb_ BK569 hb; replace HB := hs_ HB hb; clear hb; obtain ⟨z17_0, z17_1, z17_2, z17_3, z17_4, y17_0, y17_1, y17_2, y17_3, y17_4⟩ := cz5_ BK568; obtain ⟨z18_0, z18_1, z18_2, z18_3, z18_4, y18_0, y18_1, y18_2, y18_3, y18_4⟩ := cz5_ BK569) | ((with_reducible refine gate_callee (f := 185) rfl ?_); refine goesL_ (some 25) rfl rfl Tryz.func185 (by kernel_rfl) rfl #[.slice A0_3 l0_3.length c0_3, .slice A1_3 l1_3.length c1_3] rfl al_ ?_; (with_reducible refine (laws_eqPairS.calls k _ _ l0_3 _ _ l1_3 true _ ?s1 ?s2 ?s3 ?s4 A7.out).mono ?_); (case s1 => exact cb_ (Kd.C_below HR0_3.out HB.out)); (case s2 => exact HC0_3.out); (case s3 => exact cb_ (Kd.C_below HR1_3.out HB.out)); (case s4 => exact HC1_3.out); rintro e w19 ⟨rfl, hb⟩; refine ⟨_, rfl, ?_⟩; replace BK568 := bb_ BK568 hb; replace BK569 := bb_ BK569 hb; replace HB := hs_ HB hb; clear hb; obtain ⟨z20_0, z20_1, z20_2, z20_3, z20_4, y20_0, y20_1, y20_2, y20_3, y20_4⟩ := cz5_ BK568; obtain ⟨z21_0, z21_1, z21_2, z21_3, z21_4, y21_0, y21_1, y21_2, y21_3, y21_4⟩ := cz5_ BK569) | ((with_reducible refine gate_callee (f := 186) rfl ?_); refine goesL_ (some 31) rfl rfl Tryz.func186 (by kernel_rfl) rfl #[.slice A0_4 l0_4.length c0_4, .slice A1_4 l1_4.length c1_4] rfl al_ ?_; (with_reducible refine (laws_eqHelpS.calls k _ _ l0_4 _ _ l1_4 true _ ?s1 ?s2 ?s3 ?s4 A9.out).mono ?_); (case s1 => exact cb_ (Kd.C_below HR0_4.out HB.out)); (case s2 => exact HC0_4.out); (case s3 => exact cb_ (Kd.C_below HR1_4.out HB.out)); (case s4 => exact HC1_4.out); rintro e w22 ⟨rfl, hb⟩; refine ⟨_, rfl, ?_⟩; replace BK568 := bb_ BK568 hb; replace BK569 := bb_ BK569 hb; replace HB := hs_ HB hb; clear hb))
    go_ret
    exact ⟨rs_, hb_ HB⟩
   obtain rfl := Bool.eq_false_iff.mpr c10
   replace H := iF_ H
   exact absurd H (by simp)
  obtain rfl := Bool.eq_false_iff.mpr c8
  replace H := iF_ H
  exact absurd H (by simp)
 obtain rfl := Bool.eq_false_iff.mpr c4
 replace H := iF_ H
 exact absurd H (by simp)
end Go.Proofs.YtdcinhpdpoodfaaGreat.PFnExactFinished
