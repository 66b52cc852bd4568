/- Contracts of functions of the program: each says that the call does what a plain Lean function tells. Made by programs of this session and of the kit. No condition beyond the hypotheses that each theorem names. -/
import Derived.Test.YtmkhghbalnadlaaPFnExactBeginx0
import Derived.Test.YtmkhghbalnadlaaPFnExactBeginx2
namespace Go.Proofs.Ytmkhghbalnadlaa.PFnExactBegin
open Go.RowKit Go.Proofs.YtmkhghbalnadlaaW.PrintWords Go.Proofs.YtmkhghbalnadlaaW.PrintLast Go.Proofs.YtmkhghbalnadlaaW.PrintMore
attribute [local go_sem] max2_int min2_int max_two min_two max_three min_three max_four min_four   -- for this text's walks alone
set_option linter.unusedVariables false
set_option linter.unusedSimpArgs false

/-! ### laws_eqEntryS: function 47 -/
def laws_eqEntryS.l0 : Nat → List (S122) → List (S122) → Int → Option (Bool)
 | 0, _, _, _ => none
 | k + 1, x0, x1, x5 => if x5 < (x0.length : Int) then (if 0 ≤ x5 then (if x5 < (x1.length : Int) then ((laws_eqEntry.f ((rd_T122 x0 x5).f0) ((rd_T122 x0 x5).f1) ((rd_T122 x0 x5).f2) ((rd_T122 x1 x5).f0) ((rd_T122 x1 x5).f1) ((rd_T122 x1 x5).f2)).bind fun t191 => (if t191 = true then (laws_eqEntryS.l0 k x0 x1 (wrap64 (x5 + 1))) else (none))) else (none)) else (none)) else (some true)
def laws_eqEntryS.f (k : Nat) (l0 : List (S122)) (l1 : List (S122)) : Option (Bool) := if (l0.length : Int) = (l1.length : Int) then (laws_eqEntryS.l0 k l0 l1 0) else (none)
def laws_eqEntryS.T6 : Bool × List (List Nat × List Nat) := (true, [([], []), ([], []), ([0, 1], [0, 1]), ([2], [2]), ([], []), ([], []), ([4, 5], [4, 5]), ([6], [6]), ([3, 7], [3, 7]), ([8], [8])])
def laws_eqEntryS.B6 : List Nat := [0, 0, 3, 7, 0, 0, 48, 112, 255, 511]
theorem laws_eqEntryS.tab6 : rtab .any (opsOf Try.f47 6) = laws_eqEntryS.T6 := by kernel_rfl
theorem laws_eqEntryS.bits6 : waitsOk laws_eqEntryS.T6.2 laws_eqEntryS.B6 = true := by kernel_rfl
set_option maxHeartbeats 8000000 in
set_option maxRecDepth 100000 in
theorem laws_eqEntryS.calls (k : Nat) (A0 : Option Addr) (c0 : Nat) (l0 : List (S122)) (A1 : Option Addr) (c1 : Nat) (l1 : List (S122)) (r : Bool) (w : World) (hr0 : Kd.C k122 w A0 l0.length l0) (hc0 : l0.length ≤ c0) (hr1 : Kd.C k122 w A1 l1.length l1) (hc1 : l1.length ≤ c1) (h : laws_eqEntryS.f k l0 l1 = some r) :
    Calls Try.prog 47 #[.slice A0 l0.length c0, .slice A1 l1.length c1] w fun e w' => e = .returned (.bool r) ∧ Below w.heap.size w w' := by
 have hu122 := Try.underlying122
 have HR0 := A_ hr0
 have HC0 := A_ hc0
 clear hr0 hc0
 have HR1 := A_ hr1
 have HC1 := A_ hc1
 clear hr1 hc1
 have HB := A_ (Below.refl w.heap.size w)
 have H : (if (l0.length : Int) = (l1.length : Int) then (laws_eqEntryS.l0 k l0 l1 0) else (none)) = some r := h
 clear h
 by_cases c3 : (l0.length : Int) = (l1.length : Int)
 ·
  rw [if_pos c3] at H
  have c3b0 : ((l0.length : Int) == (l1.length : Int)) = true := beq_iff_eq.mpr c3
  have c3b1 : ((l0.length : Int) != (l1.length : Int)) = false := bne_eq_false_iff_eq.mpr c3
  have c3b2 : (l0.length == l1.length) = true := by first | simpa using c3 | (simp at c3 ⊢; omega)
  clear c3
  replace H' := A_ H; clear H
  go_enter Try.func47, Try.ntmps47
  go_wp2
  go_loopg [5] k (fun kq v5 w' => ∃ (x5_1 : Int), v5 = .int .i64 x5_1 ∧ Aside0 (laws_eqEntryS.l0 kq l0 l1 x5_1 = some r) ∧ Aside0 (kq ≤ k) ∧ Aside0 (Below w.heap.size w w'))
  case atStart => exact ⟨(0), rt_, H', ⟨Nat.le_refl _⟩, ⟨hb_ HB⟩⟩
  case round =>
   clear H'
   try clear c1
   try clear c3
   try clear c3b0
   try clear c3b1
   try clear c3b2
   obtain ⟨x5_1, rfl, HA, HK1, HB⟩ := hrel
   cases gk with
   | zero => exact absurd HA.out (by simp [laws_eqEntryS.l0])
   | succ k1 =>
    have H := HA.out
    clear HA
    simp only [laws_eqEntryS.l0] at H
    replace H := ic_ H
    rcases H with ⟨c4b0, H⟩ | ⟨c4b0, H⟩
    ·
     replace H := ix_ H
     obtain ⟨c5b0, H⟩ := H
     replace H := ix_ H
     obtain ⟨c6b0, H⟩ := H
     replace H := bs_ H
     obtain ⟨t191, A7, H⟩ := H
     by_cases c8 : t191 = true
     ·
      subst c8
      replace H := it_ H
      replace H' := A_ H; clear H
      try go_wp2
      replace HB := A_ (below_drew1 HB.out)
      have p189 : 0 ≤ (x5_1 : Int) := od_
      have q189 : x5_1 < (l0.length : Int) := od_
      obtain ⟨ad189, e189, hx189_0, hx189_1, hx189_2⟩ := at_T122 HR0.out x5_1 p189 q189
      have hw189_2 := hx189_2
      have hw189_1 := hx189_1
      have hw189_0 := hx189_0
      cases e189
      replace hx189_0 := hx_ HB hx189_0
      replace hx189_1 := hx_ HB hx189_1
      replace hx189_2 := hx_ HB hx189_2
      replace p189 := eq_true p189
      replace q189 := eq_true q189
      have p190 : 0 ≤ (x5_1 : Int) := od_
      have q190 : x5_1 < (l1.length : Int) := od_
      obtain ⟨ad190, e190, hx190_0, hx190_1, hx190_2⟩ := at_T122 HR1.out x5_1 p190 q190
      have hw190_2 := hx190_2
      have hw190_1 := hx190_1
      have hw190_0 := hx190_0
      cases e190
      replace hx190_0 := hx_ HB hx190_0
      replace hx190_1 := hx_ HB hx190_1
      replace hx190_2 := hx_ HB hx190_2
      replace p190 := eq_true p190
      replace q190 := eq_true q190
      refine start_ (n := 10) (S := fun w' => w'.cell? (ad189.add ((x5_1).toNat * 3)) = some (.int .i64 ((rd_T122 l0 x5_1).f0)) ∧ w'.cell? ⟨(ad189.add ((x5_1).toNat * 3)).block, (ad189.add ((x5_1).toNat * 3)).off + 1, none⟩ = some (.int .i64 ((rd_T122 l0 x5_1).f1)) ∧ w'.cell? ⟨(ad189.add ((x5_1).toNat * 3)).block, (ad189.add ((x5_1).toNat * 3)).off + 2, none⟩ = some (.int .i64 ((rd_T122 l0 x5_1).f2)) ∧ w'.cell? (ad190.add ((x5_1).toNat * 3)) = some (.int .i64 ((rd_T122 l1 x5_1).f0)) ∧ w'.cell? ⟨(ad190.add ((x5_1).toNat * 3)).block, (ad190.add ((x5_1).toNat * 3)).off + 1, none⟩ = some (.int .i64 ((rd_T122 l1 x5_1).f1)) ∧ w'.cell? ⟨(ad190.add ((x5_1).toNat * 3)).block, (ad190.add ((x5_1).toNat * 3)).off + 2, none⟩ = some (.int .i64 ((rd_T122 l1 x5_1).f2))) (ds := []) (bt_ 0 10) (by kernel_rfl) rfl rfl ⟨(hy_ HB hw189_0), (hy_ HB hw189_1), (hy_ HB hw189_2), (hy_ HB hw190_0), (hy_ HB hw190_1), (hy_ HB hw190_2)⟩ (fun hHeld => ?_); refine with_tabW laws_eqEntryS.tab6 laws_eqEntryS.bits6 (fun HT_ HW_ => ?_)
      generalize wr.drew = w9 at HB hx189_0 hx189_1 hx189_2 hx190_0 hx190_1 hx190_2 hHeld ⊢
      refine pu_ 0 17 (bt_ 1 10) ?_
      refine pu_ 1 18 (bt_ 3 10) ?_
      refine pu_ 2 19 (bt_ 7 10) ?_
      refine pu_ 4 21 (bt_ 23 10) ?_
      refine pu_ 5 22 (bt_ 55 10) ?_
      refine pu_ 6 23 (bt_ 119 10) ?_
      refine tk6_ 3 20 (bt_ 127 10) hHeld ?_
      refine tk6_ 7 24 (bt_ 255 10) hHeld ?_
      refine one_ (i := 8) (N := some 25) (bt_ 511 10) rfl rfl (one_of HT_.out (by kernel_rfl)) (by decide) (fun K hK => ?_)
      refine goes_ Try.func107 (by kernel_rfl) rfl #[.agg #[.int .i64 ((rd_T122 l0 x5_1).f0), .int .i64 ((rd_T122 l0 x5_1).f1), .int .i64 ((rd_T122 l0 x5_1).f2)], .agg #[.int .i64 ((rd_T122 l1 x5_1).f0), .int .i64 ((rd_T122 l1 x5_1).f1), .int .i64 ((rd_T122 l1 x5_1).f2)]] (by rfl) rfl rfl al_ ?_
      with_reducible refine (laws_eqEntry.calls ((rd_T122 l0 x5_1).f0) ((rd_T122 l0 x5_1).f1) ((rd_T122 l0 x5_1).f2) ((rd_T122 l1 x5_1).f0) ((rd_T122 l1 x5_1).f1) ((rd_T122 l1 x5_1).f2) true _ A7.out).mono ?_
      rintro e w10 ⟨rfl, hb⟩
      refine ⟨_, rfl, ?_⟩
      replace HB := hs_ HB hb
      (try clear hb)
      (try clear hb2)
      (try clear hk)
      (try clear hi)
      refine hK.out _ _ ⟨(hy_ HB hw189_0), (hy_ HB hw189_1), (hy_ HB hw189_2), (hy_ HB hw190_0), (hy_ HB hw190_1), (hy_ HB hw190_2)⟩ (fun hHeld => ?_)
      clear hK K
      refine norm_ (a' := ?_) ?_ ?_
      rotate_left
      ·
       show Act.put _ (some 25) _ = _
       simp only [Act.put, List.setIfInBounds_toArray, List.set_cons_zero, List.set_cons_succ, i64_w, i32_w]
       rfl
      refine pu_ 9 26 (bt_ 1023 10) ?_
      refine done_ (done_of HT_.out (by kernel_rfl)) ?_
      try go_wp2
      go_roundg k1
      case measure => have := HK1.out; omega
      case rel => exact ⟨(wrap64 (x5_1 + 1)), rt_, H', ⟨by have := HK1.out; omega⟩, ⟨hb_ HB⟩⟩
     obtain rfl := Bool.eq_false_iff.mpr c8
     replace H := iF_ H
     exact absurd H (by simp)
    obtain rfl := Option.some.inj H
    go_wp2
    go_ret
    exact ⟨rs_, hb_ HB⟩
 rw [if_neg c3] at H
 exact absurd H (by simp)

/-! ### laws_eqDesc: function 125 -/
def laws_eqDesc.f (k : Nat) (a0_0 : Int) (a0_1 : Int) (l0_2 : List (S122)) (a0_3 : Int) (l0_4 : List Int) (a1_0 : Int) (a1_1 : Int) (l1_2 : List (S122)) (a1_3 : Int) (l1_4 : List Int) : Option (Bool) := if a0_0 = a1_0 then (if a0_1 = a1_1 then ((laws_eqEntryS.f k l0_2 l1_2).bind fun t194 => (if t194 = true then ((laws_eqRes.f k a0_3 l0_4 a1_3 l1_4).bind fun t195 => (if t195 = true then (some true) else (none))) else (none))) else (none)) else (none)
set_option maxHeartbeats 8000000 in
set_option maxRecDepth 100000 in
theorem laws_eqDesc.calls (k : Nat) (a0_0 : Int) (a0_1 : Int) (A0_2 : Option Addr) (c0_2 : Nat) (l0_2 : List (S122)) (a0_3 : Int) (A0_4 : Option Addr) (c0_4 : Nat) (l0_4 : List Int) (a1_0 : Int) (a1_1 : Int) (A1_2 : Option Addr) (c1_2 : Nat) (l1_2 : List (S122)) (a1_3 : Int) (A1_4 : Option Addr) (c1_4 : Nat) (l1_4 : List Int) (r : Bool) (w : World) (hr0_2 : Kd.C k122 w A0_2 l0_2.length l0_2) (hc0_2 : l0_2.length ≤ c0_2) (hr0_4 : Kd.C (Kd.int .i64) w A0_4 l0_4.length l0_4) (hc0_4 : l0_4.length ≤ c0_4) (hr1_2 : Kd.C k122 w A1_2 l1_2.length l1_2) (hc1_2 : l1_2.length ≤ c1_2) (hr1_4 : Kd.C (Kd.int .i64) w A1_4 l1_4.length l1_4) (hc1_4 : l1_4.length ≤ c1_4) (h : laws_eqDesc.f k a0_0 a0_1 l0_2 a0_3 l0_4 a1_0 a1_1 l1_2 a1_3 l1_4 = some r) :
    Calls Try.prog 125 #[.agg #[.int .i64 a0_0, .int .i64 a0_1, .slice A0_2 l0_2.length c0_2, .int .i64 a0_3, .slice A0_4 l0_4.length c0_4], .agg #[.int .i64 a1_0, .int .i64 a1_1, .slice A1_2 l1_2.length c1_2, .int .i64 a1_3, .slice A1_4 l1_4.length c1_4]] w fun e w' => e = .returned (.bool r) ∧ Below w.heap.size w w' := by
 have hu119 := Try.underlying119
 have hu49 := Try.underlying49
 have HR0_2 := A_ hr0_2
 have HC0_2 := A_ hc0_2
 clear hr0_2 hc0_2
 have HR0_4 := A_ hr0_4
 have HC0_4 := A_ hc0_4
 clear hr0_4 hc0_4
 have HR1_2 := A_ hr1_2
 have HC1_2 := A_ hc1_2
 clear hr1_2 hc1_2
 have HR1_4 := A_ hr1_4
 have HC1_4 := A_ hc1_4
 clear hr1_4 hc1_4
 have HB := A_ (Below.refl w.heap.size w)
 have H : (if a0_0 = a1_0 then (if a0_1 = a1_1 then ((laws_eqEntryS.f k l0_2 l1_2).bind fun t194 => (if t194 = true then ((laws_eqRes.f k a0_3 l0_4 a1_3 l1_4).bind fun t195 => (if t195 = true then (some true) else (none))) else (none))) else (none)) else (none)) = some r := h
 clear h
 replace H := iy_ H
 obtain ⟨c3b0, c3b1, H⟩ := H
 replace H := iy_ H
 obtain ⟨c4b0, c4b1, H⟩ := H
 replace H := bs_ H
 obtain ⟨t194, A5, H⟩ := H
 by_cases c6 : t194 = true
 ·
  subst c6
  replace H := it_ H
  replace H := bs_ H
  obtain ⟨t195, A7, H⟩ := H
  by_cases c8 : t195 = true
  ·
   subst c8
   replace H := it_ H
   obtain rfl := Option.some.inj H
   go_enter Try.func125, Try.ntmps125
   go_wp2_with (first | ((with_reducible refine gate_dst (N := 2) rfl ?_); refine bx_ HB rfl (N := 2) rfl (cs := #[.int .i64 a0_0, .int .i64 a0_1, .slice A0_2 l0_2.length c0_2, .int .i64 a0_3, .slice A0_4 l0_4.length c0_4]) (t := 119) hr_ ?_; clear HB; intro gb192 w9 hg hb BK192 GW192 HB; clear hb hg) | ((with_reducible refine gate_dst (N := 3) rfl ?_); refine bx_ HB rfl (N := 3) rfl (cs := #[.int .i64 a1_0, .int .i64 a1_1, .slice A1_2 l1_2.length c1_2, .int .i64 a1_3, .slice A1_4 l1_4.length c1_4]) (t := 119) hr_ ?_; clear HB; intro gb193 w10 hg hb BK193 GW193 HB; have NB192_193 := ng_ BK192 hg; have NB193_192 := ns_ (ng_ BK192 hg); replace BK192 := bb_ BK192 hb; clear hb hg; have hnb11 := NB192_193.out; have hnc11 := NB193_192.out; obtain ⟨hcz12_0, hcz12_1, hcz12_2, hcz12_3, hcz12_4, hfz12_0, hfz12_1, hfz12_2, hfz12_3, hfz12_4⟩ := cz5_ BK192; obtain ⟨hcz13_0, hcz13_1, hcz13_2, hcz13_3, hcz13_4, hfz13_0, hfz13_1, hfz13_2, hfz13_3, hfz13_4⟩ := cz5_ BK193) | ((with_reducible refine gate_callee (f := 47) rfl ?_); refine goesL_ (some 19) rfl rfl Try.func47 (by kernel_rfl) rfl #[.slice A0_2 l0_2.length c0_2, .slice A1_2 l1_2.length c1_2] rfl al_ ?_; (with_reducible refine (laws_eqEntryS.calls k _ _ l0_2 _ _ l1_2 true _ ?side1 ?side2 ?side3 ?side4 A5.out).mono ?_); (case side1 => exact cb_ (Kd.C_below HR0_2.out HB.out)); (case side2 => exact HC0_2.out); (case side3 => exact cb_ (Kd.C_below HR1_2.out HB.out)); (case side4 => exact HC1_2.out); rintro e w14 ⟨rfl, hb⟩; refine ⟨_, rfl, ?_⟩; replace BK192 := bb_ BK192 hb; replace BK193 := bb_ BK193 hb; replace HB := hs_ HB hb; (try clear hb); (try clear hb2); (try clear hk); (try clear hi); obtain ⟨hcz15_0, hcz15_1, hcz15_2, hcz15_3, hcz15_4, hfz15_0, hfz15_1, hfz15_2, hfz15_3, hfz15_4⟩ := cz5_ BK192; obtain ⟨hcz16_0, hcz16_1, hcz16_2, hcz16_3, hcz16_4, hfz16_0, hfz16_1, hfz16_2, hfz16_3, hfz16_4⟩ := cz5_ BK193) | ((with_reducible refine gate_callee (f := 22) rfl ?_); refine goesL_ (some 25) rfl rfl Try.func22 (by kernel_rfl) rfl #[.agg #[.int .i64 a0_3, .slice A0_4 l0_4.length c0_4], .agg #[.int .i64 a1_3, .slice A1_4 l1_4.length c1_4]] rfl al_ ?_; (with_reducible refine (laws_eqRes.calls k a0_3 _ _ l0_4 a1_3 _ _ l1_4 true _ ?side1 ?side2 ?side3 ?side4 A7.out).mono ?_); (case side1 => exact cb_ (Kd.C_below HR0_4.out HB.out)); (case side2 => exact HC0_4.out); (case side3 => exact cb_ (Kd.C_below HR1_4.out HB.out)); (case side4 => exact HC1_4.out); rintro e w17 ⟨rfl, hb⟩; refine ⟨_, rfl, ?_⟩; replace BK192 := bb_ BK192 hb; replace BK193 := bb_ BK193 hb; replace HB := hs_ HB hb; (try clear hb); (try clear hb2); (try clear hk); (try clear hi)))
   go_ret
   exact ⟨rs_, hb_ HB⟩
  obtain rfl := Bool.eq_false_iff.mpr c8
  replace H := iF_ H
  exact absurd H (by simp)
 obtain rfl := Bool.eq_false_iff.mpr c6
 replace H := iF_ H
 exact absurd H (by simp)

/-! ### laws_eqDescS: function 62 -/
def laws_eqDescS.l0 : Nat → List (S119) → List (S119) → Int → Option (Bool)
 | 0, _, _, _ => none
 | k + 1, x0, x1, x5 => if x5 < (x0.length : Int) then (if 0 ≤ x5 then (if x5 < (x1.length : Int) then ((laws_eqDesc.f k ((rd_T119 x0 x5).f0) ((rd_T119 x0 x5).f1) ((rd_T119 x0 x5).f2) ((rd_T119 x0 x5).f3.f0) ((rd_T119 x0 x5).f3.f1) ((rd_T119 x1 x5).f0) ((rd_T119 x1 x5).f1) ((rd_T119 x1 x5).f2) ((rd_T119 x1 x5).f3.f0) ((rd_T119 x1 x5).f3.f1)).bind fun t198 => (if t198 = true then (laws_eqDescS.l0 k x0 x1 (wrap64 (x5 + 1))) else (none))) else (none)) else (none)) else (some true)
def laws_eqDescS.f (k : Nat) (l0 : List (S119)) (l1 : List (S119)) : Option (Bool) := if (l0.length : Int) = (l1.length : Int) then (laws_eqDescS.l0 k l0 l1 0) else (none)
def laws_eqDescS.T6 : Bool × List (List Nat × List Nat) := (true, [([], []), ([], []), ([0, 1], [0, 1]), ([2], [2]), ([], []), ([], []), ([4, 5], [4, 5]), ([6], [6]), ([3, 7], [3, 7]), ([8], [8])])
def laws_eqDescS.B6 : List Nat := [0, 0, 3, 7, 0, 0, 48, 112, 255, 511]
theorem laws_eqDescS.tab6 : rtab .any (opsOf Try.f62 6) = laws_eqDescS.T6 := by kernel_rfl
theorem laws_eqDescS.bits6 : waitsOk laws_eqDescS.T6.2 laws_eqDescS.B6 = true := by kernel_rfl
set_option maxHeartbeats 8000000 in
set_option maxRecDepth 100000 in
theorem laws_eqDescS.calls (k : Nat) (A0 : Option Addr) (c0 : Nat) (l0 : List (S119)) (A1 : Option Addr) (c1 : Nat) (l1 : List (S119)) (r : Bool) (w : World) (hr0 : Kd.C k119 w A0 l0.length l0) (hc0 : l0.length ≤ c0) (hr1 : Kd.C k119 w A1 l1.length l1) (hc1 : l1.length ≤ c1) (h : laws_eqDescS.f k l0 l1 = some r) :
    Calls Try.prog 62 #[.slice A0 l0.length c0, .slice A1 l1.length c1] w fun e w' => e = .returned (.bool r) ∧ Below w.heap.size w w' := by
 have hu119 := Try.underlying119
 have HR0 := A_ hr0
 have HC0 := A_ hc0
 clear hr0 hc0
 have HR1 := A_ hr1
 have HC1 := A_ hc1
 clear hr1 hc1
 have HB := A_ (Below.refl w.heap.size w)
 have H : (if (l0.length : Int) = (l1.length : Int) then (laws_eqDescS.l0 k l0 l1 0) else (none)) = some r := h
 clear h
 by_cases c3 : (l0.length : Int) = (l1.length : Int)
 ·
  rw [if_pos c3] at H
  have c3b0 : ((l0.length : Int) == (l1.length : Int)) = true := beq_iff_eq.mpr c3
  have c3b1 : ((l0.length : Int) != (l1.length : Int)) = false := bne_eq_false_iff_eq.mpr c3
  have c3b2 : (l0.length == l1.length) = true := by first | simpa using c3 | (simp at c3 ⊢; omega)
  clear c3
  replace H' := A_ H; clear H
  go_enter Try.func62, Try.ntmps62
  go_wp2
  go_loopg [5] k (fun kq v5 w' => ∃ (x5_1 : Int), v5 = .int .i64 x5_1 ∧ Aside0 (laws_eqDescS.l0 kq l0 l1 x5_1 = some r) ∧ Aside0 (kq ≤ k) ∧ Aside0 (Below w.heap.size w w'))
  case atStart => exact ⟨(0), rt_, H', ⟨Nat.le_refl _⟩, ⟨hb_ HB⟩⟩
  case round =>
   clear H'
   try clear c1
   try clear c3
   try clear c3b0
   try clear c3b1
   try clear c3b2
   obtain ⟨x5_1, rfl, HA, HK1, HB⟩ := hrel
   cases gk with
   | zero => exact absurd HA.out (by simp [laws_eqDescS.l0])
   | succ k1 =>
    have H := HA.out
    clear HA
    simp only [laws_eqDescS.l0] at H
    replace H := ic_ H
    rcases H with ⟨c4b0, H⟩ | ⟨c4b0, H⟩
    ·
     replace H := ix_ H
     obtain ⟨c5b0, H⟩ := H
     replace H := ix_ H
     obtain ⟨c6b0, H⟩ := H
     replace H := bs_ H
     obtain ⟨t198, A7, H⟩ := H
     by_cases c8 : t198 = true
     ·
      subst c8
      replace H := it_ H
      replace H' := A_ H; clear H
      try go_wp2
      replace HB := A_ (below_drew1 HB.out)
      have p196 : 0 ≤ (x5_1 : Int) := od_
      have q196 : x5_1 < (l0.length : Int) := od_
      obtain ⟨ad196, A196_2, c196_2, A196_4, c196_4, e196, hx196_0, hx196_1, hx196_2, hx196_3, hx196_4, hl196_2, hi196_2, hl196_4, hi196_4⟩ := at_T119 HR0.out x5_1 p196 q196
      have hw196_4 := hx196_4
      have hw196_3 := hx196_3
      have hw196_2 := hx196_2
      have hw196_1 := hx196_1
      have hw196_0 := hx196_0
      cases e196
      replace hx196_0 := hx_ HB hx196_0
      replace hx196_1 := hx_ HB hx196_1
      replace hx196_2 := hx_ HB hx196_2
      replace hx196_3 := hx_ HB hx196_3
      replace hx196_4 := hx_ HB hx196_4
      have HR196_2 := A_ hi196_2
      have HC196_2 := A_ hl196_2
      clear hi196_2 hl196_2
      have HR196_4 := A_ hi196_4
      have HC196_4 := A_ hl196_4
      clear hi196_4 hl196_4
      replace p196 := eq_true p196
      replace q196 := eq_true q196
      have p197 : 0 ≤ (x5_1 : Int) := od_
      have q197 : x5_1 < (l1.length : Int) := od_
      obtain ⟨ad197, A197_2, c197_2, A197_4, c197_4, e197, hx197_0, hx197_1, hx197_2, hx197_3, hx197_4, hl197_2, hi197_2, hl197_4, hi197_4⟩ := at_T119 HR1.out x5_1 p197 q197
      have hw197_4 := hx197_4
      have hw197_3 := hx197_3
      have hw197_2 := hx197_2
      have hw197_1 := hx197_1
      have hw197_0 := hx197_0
      cases e197
      replace hx197_0 := hx_ HB hx197_0
      replace hx197_1 := hx_ HB hx197_1
      replace hx197_2 := hx_ HB hx197_2
      replace hx197_3 := hx_ HB hx197_3
      replace hx197_4 := hx_ HB hx197_4
      have HR197_2 := A_ hi197_2
      have HC197_2 := A_ hl197_2
      clear hi197_2 hl197_2
      have HR197_4 := A_ hi197_4
      have HC197_4 := A_ hl197_4
      clear hi197_4 hl197_4
      replace p197 := eq_true p197
      replace q197 := eq_true q197
      refine start_ (n := 10) (S := fun w' => w'.cell? (ad196.add ((x5_1).toNat * 5)) = some (.int .i64 ((rd_T119 l0 x5_1).f0)) ∧ w'.cell? ⟨(ad196.add ((x5_1).toNat * 5)).block, (ad196.add ((x5_1).toNat * 5)).off + 1, none⟩ = some (.int .i64 ((rd_T119 l0 x5_1).f1)) ∧ w'.cell? ⟨(ad196.add ((x5_1).toNat * 5)).block, (ad196.add ((x5_1).toNat * 5)).off + 2, none⟩ = some (.slice A196_2 ((rd_T119 l0 x5_1).f2).length c196_2) ∧ w'.cell? ⟨(ad196.add ((x5_1).toNat * 5)).block, (ad196.add ((x5_1).toNat * 5)).off + 3, none⟩ = some (.int .i64 ((rd_T119 l0 x5_1).f3.f0)) ∧ w'.cell? ⟨(ad196.add ((x5_1).toNat * 5)).block, (ad196.add ((x5_1).toNat * 5)).off + 4, none⟩ = some (.slice A196_4 ((rd_T119 l0 x5_1).f3.f1).length c196_4) ∧ w'.cell? (ad197.add ((x5_1).toNat * 5)) = some (.int .i64 ((rd_T119 l1 x5_1).f0)) ∧ w'.cell? ⟨(ad197.add ((x5_1).toNat * 5)).block, (ad197.add ((x5_1).toNat * 5)).off + 1, none⟩ = some (.int .i64 ((rd_T119 l1 x5_1).f1)) ∧ w'.cell? ⟨(ad197.add ((x5_1).toNat * 5)).block, (ad197.add ((x5_1).toNat * 5)).off + 2, none⟩ = some (.slice A197_2 ((rd_T119 l1 x5_1).f2).length c197_2) ∧ w'.cell? ⟨(ad197.add ((x5_1).toNat * 5)).block, (ad197.add ((x5_1).toNat * 5)).off + 3, none⟩ = some (.int .i64 ((rd_T119 l1 x5_1).f3.f0)) ∧ w'.cell? ⟨(ad197.add ((x5_1).toNat * 5)).block, (ad197.add ((x5_1).toNat * 5)).off + 4, none⟩ = some (.slice A197_4 ((rd_T119 l1 x5_1).f3.f1).length c197_4)) (ds := []) (bt_ 0 10) (by kernel_rfl) rfl rfl ⟨(hy_ HB hw196_0), (hy_ HB hw196_1), (hy_ HB hw196_2), (hy_ HB hw196_3), (hy_ HB hw196_4), (hy_ HB hw197_0), (hy_ HB hw197_1), (hy_ HB hw197_2), (hy_ HB hw197_3), (hy_ HB hw197_4)⟩ (fun hHeld => ?_); refine with_tabW laws_eqDescS.tab6 laws_eqDescS.bits6 (fun HT_ HW_ => ?_)
      generalize wr.drew = w9 at HB HR196_2 HR196_4 HR197_2 HR197_4 hx196_0 hx196_1 hx196_2 hx196_3 hx196_4 hx197_0 hx197_1 hx197_2 hx197_3 hx197_4 hHeld ⊢
      refine pu_ 0 17 (bt_ 1 10) ?_
      refine pu_ 1 18 (bt_ 3 10) ?_
      refine pu_ 2 19 (bt_ 7 10) ?_
      refine pu_ 4 21 (bt_ 23 10) ?_
      refine pu_ 5 22 (bt_ 55 10) ?_
      refine pu_ 6 23 (bt_ 119 10) ?_
      refine tk10_ 3 20 (bt_ 127 10) hHeld ?_
      refine tk10_ 7 24 (bt_ 255 10) hHeld ?_
      refine one_ (i := 8) (N := some 25) (bt_ 511 10) rfl rfl (one_of HT_.out (by kernel_rfl)) (by decide) (fun K hK => ?_)
      refine goes_ Try.func125 (by kernel_rfl) rfl #[.agg #[.int .i64 ((rd_T119 l0 x5_1).f0), .int .i64 ((rd_T119 l0 x5_1).f1), .slice A196_2 ((rd_T119 l0 x5_1).f2).length c196_2, .int .i64 ((rd_T119 l0 x5_1).f3.f0), .slice A196_4 ((rd_T119 l0 x5_1).f3.f1).length c196_4], .agg #[.int .i64 ((rd_T119 l1 x5_1).f0), .int .i64 ((rd_T119 l1 x5_1).f1), .slice A197_2 ((rd_T119 l1 x5_1).f2).length c197_2, .int .i64 ((rd_T119 l1 x5_1).f3.f0), .slice A197_4 ((rd_T119 l1 x5_1).f3.f1).length c197_4]] (by rfl) rfl rfl al_ ?_
      with_reducible refine (laws_eqDesc.calls k1 ((rd_T119 l0 x5_1).f0) ((rd_T119 l0 x5_1).f1) _ _ ((rd_T119 l0 x5_1).f2) ((rd_T119 l0 x5_1).f3.f0) _ _ ((rd_T119 l0 x5_1).f3.f1) ((rd_T119 l1 x5_1).f0) ((rd_T119 l1 x5_1).f1) _ _ ((rd_T119 l1 x5_1).f2) ((rd_T119 l1 x5_1).f3.f0) _ _ ((rd_T119 l1 x5_1).f3.f1) true _ ?side1 ?side2 ?side3 ?side4 ?side5 ?side6 ?side7 ?side8 A7.out).mono ?_
      (case side1 => exact cb_ (Kd.C_below HR196_2.out HB.out))
      (case side2 => exact HC196_2.out)
      (case side3 => exact cb_ (Kd.C_below HR196_4.out HB.out))
      (case side4 => exact HC196_4.out)
      (case side5 => exact cb_ (Kd.C_below HR197_2.out HB.out))
      (case side6 => exact HC197_2.out)
      (case side7 => exact cb_ (Kd.C_below HR197_4.out HB.out))
      (case side8 => exact HC197_4.out)
      rintro e w10 ⟨rfl, hb⟩
      refine ⟨_, rfl, ?_⟩
      replace HB := hs_ HB hb
      (try clear hb)
      (try clear hb2)
      (try clear hk)
      (try clear hi)
      refine hK.out _ _ ⟨(hy_ HB hw196_0), (hy_ HB hw196_1), (hy_ HB hw196_2), (hy_ HB hw196_3), (hy_ HB hw196_4), (hy_ HB hw197_0), (hy_ HB hw197_1), (hy_ HB hw197_2), (hy_ HB hw197_3), (hy_ HB hw197_4)⟩ (fun hHeld => ?_)
      clear hK K
      refine norm_ (a' := ?_) ?_ ?_
      rotate_left
      ·
       show Act.put _ (some 25) _ = _
       simp only [Act.put, List.setIfInBounds_toArray, List.set_cons_zero, List.set_cons_succ, i64_w, i32_w]
       rfl
      refine pu_ 9 26 (bt_ 1023 10) ?_
      refine done_ (done_of HT_.out (by kernel_rfl)) ?_
      try go_wp2
      go_roundg k1
      case measure => have := HK1.out; omega
      case rel => exact ⟨(wrap64 (x5_1 + 1)), rt_, H', ⟨by have := HK1.out; omega⟩, ⟨hb_ HB⟩⟩
     obtain rfl := Bool.eq_false_iff.mpr c8
     replace H := iF_ H
     exact absurd H (by simp)
    obtain rfl := Option.some.inj H
    go_wp2
    go_ret
    exact ⟨rs_, hb_ HB⟩
 rw [if_neg c3] at H
 exact absurd H (by simp)

/-! ### laws_eqMem: function 13 -/
def laws_eqMem.f (k : Nat) (l0_0 : List (S95)) (l0_1 : List (S119)) (l1_0 : List (S95)) (l1_1 : List (S119)) : Option (Bool) := (laws_eqWordS.f k l0_0 l1_0).bind fun t201 => (if t201 = true then ((laws_eqDescS.f k l0_1 l1_1).bind fun t202 => (if t202 = true then (some true) else (none))) else (none))
set_option maxHeartbeats 8000000 in
set_option maxRecDepth 100000 in
theorem laws_eqMem.calls (k : Nat) (A0_0 : Option Addr) (c0_0 : Nat) (l0_0 : List (S95)) (A0_1 : Option Addr) (c0_1 : Nat) (l0_1 : List (S119)) (A1_0 : Option Addr) (c1_0 : Nat) (l1_0 : List (S95)) (A1_1 : Option Addr) (c1_1 : Nat) (l1_1 : List (S119)) (r : Bool) (w : World) (hr0_0 : Kd.C k95 w A0_0 l0_0.length l0_0) (hc0_0 : l0_0.length ≤ c0_0) (hr0_1 : Kd.C k119 w A0_1 l0_1.length l0_1) (hc0_1 : l0_1.length ≤ c0_1) (hr1_0 : Kd.C k95 w A1_0 l1_0.length l1_0) (hc1_0 : l1_0.length ≤ c1_0) (hr1_1 : Kd.C k119 w A1_1 l1_1.length l1_1) (hc1_1 : l1_1.length ≤ c1_1) (h : laws_eqMem.f k l0_0 l0_1 l1_0 l1_1 = some r) :
    Calls Try.prog 13 #[.agg #[.slice A0_0 l0_0.length c0_0, .slice A0_1 l0_1.length c0_1], .agg #[.slice A1_0 l1_0.length c1_0, .slice A1_1 l1_1.length c1_1]] w fun e w' => e = .returned (.bool r) ∧ Below w.heap.size w w' := by
 have hu31 := Try.underlying31
 have HR0_0 := A_ hr0_0
 have HC0_0 := A_ hc0_0
 clear hr0_0 hc0_0
 have HR0_1 := A_ hr0_1
 have HC0_1 := A_ hc0_1
 clear hr0_1 hc0_1
 have HR1_0 := A_ hr1_0
 have HC1_0 := A_ hc1_0
 clear hr1_0 hc1_0
 have HR1_1 := A_ hr1_1
 have HC1_1 := A_ hc1_1
 clear hr1_1 hc1_1
 have HB := A_ (Below.refl w.heap.size w)
 have H : ((laws_eqWordS.f k l0_0 l1_0).bind fun t201 => (if t201 = true then ((laws_eqDescS.f k l0_1 l1_1).bind fun t202 => (if t202 = true then (some true) else (none))) else (none))) = some r := h
 clear h
 replace H := bs_ H
 obtain ⟨t201, A3, H⟩ := H
 by_cases c4 : t201 = true
 ·
  subst c4
  replace H := it_ H
  replace H := bs_ H
  obtain ⟨t202, A5, H⟩ := H
  by_cases c6 : t202 = true
  ·
   subst c6
   replace H := it_ H
   obtain rfl := Option.some.inj H
   go_enter Try.func13, Try.ntmps13
   go_wp2_with (first | ((with_reducible refine gate_dst (N := 2) rfl ?_); refine bx_ HB rfl (N := 2) rfl (cs := #[.slice A0_0 l0_0.length c0_0, .slice A0_1 l0_1.length c0_1]) (t := 31) hr_ ?_; clear HB; intro gb199 w7 hg hb BK199 GW199 HB; clear hb hg) | ((with_reducible refine gate_dst (N := 3) rfl ?_); refine bx_ HB rfl (N := 3) rfl (cs := #[.slice A1_0 l1_0.length c1_0, .slice A1_1 l1_1.length c1_1]) (t := 31) hr_ ?_; clear HB; intro gb200 w8 hg hb BK200 GW200 HB; have NB199_200 := ng_ BK199 hg; have NB200_199 := ns_ (ng_ BK199 hg); replace BK199 := bb_ BK199 hb; clear hb hg; have hnb9 := NB199_200.out; have hnc9 := NB200_199.out; obtain ⟨hcz10_0, hcz10_1, hfz10_0, hfz10_1⟩ := cz2_ BK199; obtain ⟨hcz11_0, hcz11_1, hfz11_0, hfz11_1⟩ := cz2_ BK200) | ((with_reducible refine gate_callee (f := 61) rfl ?_); refine goesL_ (some 9) rfl rfl Try.func61 (by kernel_rfl) rfl #[.slice A0_0 l0_0.length c0_0, .slice A1_0 l1_0.length c1_0] rfl al_ ?_; (with_reducible refine (laws_eqWordS.calls k _ _ l0_0 _ _ l1_0 true _ ?side1 ?side2 ?side3 ?side4 A3.out).mono ?_); (case side1 => exact cb_ (Kd.C_below HR0_0.out HB.out)); (case side2 => exact HC0_0.out); (case side3 => exact cb_ (Kd.C_below HR1_0.out HB.out)); (case side4 => exact HC1_0.out); rintro e w12 ⟨rfl, hb⟩; refine ⟨_, rfl, ?_⟩; replace BK199 := bb_ BK199 hb; replace BK200 := bb_ BK200 hb; replace HB := hs_ HB hb; (try clear hb); (try clear hb2); (try clear hk); (try clear hi); obtain ⟨hcz13_0, hcz13_1, hfz13_0, hfz13_1⟩ := cz2_ BK199; obtain ⟨hcz14_0, hcz14_1, hfz14_0, hfz14_1⟩ := cz2_ BK200) | ((with_reducible refine gate_callee (f := 62) rfl ?_); refine goesL_ (some 15) rfl rfl Try.func62 (by kernel_rfl) rfl #[.slice A0_1 l0_1.length c0_1, .slice A1_1 l1_1.length c1_1] rfl al_ ?_; (with_reducible refine (laws_eqDescS.calls k _ _ l0_1 _ _ l1_1 true _ ?side1 ?side2 ?side3 ?side4 A5.out).mono ?_); (case side1 => exact cb_ (Kd.C_below HR0_1.out HB.out)); (case side2 => exact HC0_1.out); (case side3 => exact cb_ (Kd.C_below HR1_1.out HB.out)); (case side4 => exact HC1_1.out); rintro e w15 ⟨rfl, hb⟩; refine ⟨_, rfl, ?_⟩; replace BK199 := bb_ BK199 hb; replace BK200 := bb_ BK200 hb; replace HB := hs_ HB hb; (try clear hb); (try clear hb2); (try clear hk); (try clear hi)))
   go_ret
   exact ⟨rs_, hb_ HB⟩
  obtain rfl := Bool.eq_false_iff.mpr c6
  replace H := iF_ H
  exact absurd H (by simp)
 obtain rfl := Bool.eq_false_iff.mpr c4
 replace H := iF_ H
 exact absurd H (by simp)

/-! ### laws_markIntS: function 68 -/
def laws_markIntS.l0 : Nat → List Int → Int → Int → Option (Int × List Int)
 | 0, _, _, _ => none
 | k + 1, x0, x1, x5 => if x5 < (x0.length : Int) then (if 0 ≤ x5 then (laws_markIntS.l0 k (x0.set (x5 : Int).toNat x1) (wrap64 (x1 + 1)) (wrap64 (x5 + 1))) else (none)) else (some (x1, x0))
def laws_markIntS.f (k : Nat) (l0 : List Int) (a1 : Int) : Option (Int × List Int) := laws_markIntS.l0 k l0 a1 0
set_option maxHeartbeats 8000000 in
set_option maxRecDepth 100000 in
theorem laws_markIntS.calls (k : Nat) (P0_ : Nat → Prop) (u9000_ : Value) (l0 : List Int) (a1 : Int) (r1 : Int) (r2 : List Int) (w0 w : World) (hB : Below w0.heap.size w0 w) (ho0 : Kd.R (Kd.int .i64) 3 w w0.heap.size P0_ u9000_ l0) (h : laws_markIntS.f k l0 a1 = some (r1, r2)) :
    Calls Try.prog 68 #[u9000_, .int .i64 a1] w fun e w' => e = .returned (.int .i64 r1) ∧ Kd.R (Kd.int .i64) 3 w' w0.heap.size (fun k_ => (P0_ k_ ∨ w.heap.size ≤ k_)) u9000_ r2 ∧ Below w0.heap.size w0 w' ∧ Kept w w' (fun k_ => P0_ k_) := by
 have HO0 := A_ (show Kd.R (Kd.int .i64) 3 w w0.heap.size (fun k_ => (P0_ k_ ∨ w.heap.size ≤ k_)) u9000_ l0 from Kd.R_mono ho0 (fun k_ hk => (.inl hk)))
 have HK := A_ (Kept.refl w (fun k_ => P0_ k_))
 have HW0 := A_ hB.size
 have HB := A_ hB
 clear hB
 have H : (laws_markIntS.l0 k l0 a1 0) = some (r1, r2) := h
 clear h
 replace H' := A_ H; clear H
 go_enter Try.func68, Try.ntmps68
 go_wp2
 go_loopg [1, 5] k (fun kq v1 v5 w' => ∃ (x0_1 : List Int) (x1_1 : Int) (x5_1 : Int), v1 = .int .i64 x1_1 ∧ v5 = .int .i64 x5_1 ∧ Aside0 (laws_markIntS.l0 kq x0_1 x1_1 x5_1 = some (r1, r2)) ∧ Aside0 (kq ≤ k) ∧ Aside0 (Kd.R (Kd.int .i64) 3 w' w0.heap.size (fun k_ => (P0_ k_ ∨ w.heap.size ≤ k_)) u9000_ x0_1) ∧ Aside0 (Kept w w' (fun k_ => P0_ k_)) ∧ Aside0 (Below w0.heap.size w0 w'))
 case atStart => exact ⟨(l0), (a1), (0), rt_, rt_, H', ⟨Nat.le_refl _⟩, ⟨rb_ HO0.out⟩, ⟨by repeat (first | (with_reducible first | exact HK.out | apply Kept.alloc | apply Kept.drewN | apply Kept.drew) | exact HK.out)⟩, ⟨hb_ HB⟩⟩
 case round =>
  clear H'
  obtain ⟨x0_1, x1_1, x5_1, rfl, rfl, HA, HK1, HO_0, HK, HB⟩ := hrel
  cases gk with
  | zero => exact absurd HA.out (by simp [laws_markIntS.l0])
  | succ k1 =>
   have H := HA.out
   clear HA
   simp only [laws_markIntS.l0] at H
   replace H := ic_ H
   rcases H with ⟨c3b0, H⟩ | ⟨c3b0, H⟩
   ·
    replace H := ix_ H
    obtain ⟨c4b0, H⟩ := H
    obtain ⟨y203, hy203⟩ : ∃ y_ : List Int, y_ = (x0_1.set (x5_1 : Int).toNat x1_1) := ⟨_, rfl⟩
    replace H : (laws_markIntS.l0 k1 y203 (wrap64 (x1_1 + 1)) (wrap64 (x5_1 + 1))) = some (r1, r2) := by first | (rw [hy203]; with_reducible exact H) | (have H2_ := (Option.bind_some _ _).symm.trans H; rw [hy203]; with_reducible exact H2_) | (have H2_ := (Option.bind_some _ _).symm.trans H; with_reducible exact H2_) | with_reducible exact H | (rw [hy203]; exact H) | exact H
    have Ny203 := A_ hy203
    clear hy203
    replace H' := A_ H; clear H
    obtain ⟨Ao6, co6, eo6⟩ := Kd.R_slice HO_0.out
    subst eo6
    have p5 : 0 ≤ (x5_1 : Int) := od_
    have q5 : (x5_1 : Int) < ((x0_1.length : Int) : Int) := od_
    obtain ⟨go5, co5, eo5, gb5, gl5, cl5, HG5⟩ := Kd.R_form HO_0.out (by omega)
    (first | cases eo5 | (injection eo5 with ea_ en_ ec_; (first | subst ea_ | (injection ea_ with ea_; subst ea_)); subst ec_; clear en_))
    have GB5 := A_ gb5
    have GG5 := A_ HG5
    clear gb5 gl5 HG5
    have HMgo5 := A_ (show (P0_ go5 ∨ w.heap.size ≤ go5) from (HO_0.out.1 _ rfl))
    obtain ⟨hx5_0, hf5_0⟩ := Kd.R_celln 0 HO_0.out (x5_1 : Int) p5 q5
    replace p5 := eq_true p5
    replace q5 := eq_true q5
    have HP7 := Kd.R_putg HO_0.out (x5_1 : Int) x1_1
    go_wp2_with (first | ((with_reducible refine gate_store (t := 3) (p := 15) rfl ?_); refine store_event (t := 3) (p := 15) (v := ?vo_w8) (w1 := (wr.setCell ⟨go5, (x5_1 : Int).toNat, none⟩ (.int .i64 x1_1))) ?hg ?ho ?hn ?hr ?_; (case ho => rfl); (case hg => rfl); (case hn => rfl); (case hr => first | (go_simp; done) | (go_simp; rfl)); intro w8 hw; have hg : wr.grownBy w8 (some go5) := (by rw [hw]; exact HP7.2); have hp_ : Kd.R (Kd.int .i64) 3 w8 w0.heap.size (fun k_ => (P0_ k_ ∨ w.heap.size ≤ k_)) (.slice (some ⟨go5, 0, none⟩) x0_1.length co6) y203 := (by rw [hw, Ny203.out]; exact HP7.1); clear HP7; have n0_ := A_ hp_; have n1_ := A_ ((by rw [hw]; exact below_set (HB.out) GB5.out : Below w0.heap.size w0 w8)); have n2_ := A_ (Kept.of_grown (S := (fun k_ => P0_ k_)) hg (by repeat (first | (with_reducible first | exact HK.out | apply Kept.alloc | apply Kept.drewN | apply Kept.drew) | exact HK.out)) (fun k_ e_ => (HO_0.out.1 k_ e_))); clear HO_0; clear HB; clear HK; have HO_0 := n0_; have HB := n1_; have HK := n2_; clear n0_ n1_ n2_; clear hg hw hp_))
    go_roundg k1
    case measure => have := HK1.out; omega
    case rel => exact ⟨(y203), (wrap64 (x1_1 + 1)), (wrap64 (x5_1 + 1)), rt_, rt_, H', ⟨by have := HK1.out; omega⟩, ⟨rb_ HO_0.out⟩, ⟨by repeat (first | (with_reducible first | exact HK.out | apply Kept.alloc | apply Kept.drewN | apply Kept.drew) | exact HK.out)⟩, ⟨hb_ HB⟩⟩
   simp only [Option.some.injEq, Prod.mk.injEq] at H
   obtain ⟨rfl, rfl⟩ := H
   obtain ⟨Ao9, co9, eo9⟩ := Kd.R_slice HO_0.out
   subst eo9
   go_wp2
   go_ret
   exact ⟨rs_, rb_ HO_0.out, hb_ HB, by repeat (first | (with_reducible first | exact HK.out | apply Kept.alloc | apply Kept.drewN | apply Kept.drew) | exact HK.out)⟩

/-! ### laws_markRes: function 24 -/
def laws_markRes.f (k : Nat) (a0_0 : Int) (l0_1 : List Int) (a1 : Int) : Option (Int × List Int) := (laws_markIntS.f k l0_1 a1).bind fun bt205 => (some (bt205.1, bt205.2))
set_option maxHeartbeats 8000000 in
set_option maxRecDepth 100000 in
theorem laws_markRes.calls (k : Nat) (a0_0 : Int) (P0_1_ : Nat → Prop) (u9000_ : Value) (l0_1 : List Int) (a1 : Int) (r1 : Int) (r2 : List Int) (w0 w : World) (hB : Below w0.heap.size w0 w) (ho0_1 : Kd.R (Kd.int .i64) 3 w w0.heap.size P0_1_ u9000_ l0_1) (h : laws_markRes.f k a0_0 l0_1 a1 = some (r1, r2)) :
    Calls Try.prog 24 #[.agg #[.int .i64 a0_0, u9000_], .int .i64 a1] w fun e w' => e = .returned (.int .i64 r1) ∧ Kd.R (Kd.int .i64) 3 w' w0.heap.size (fun k_ => (P0_1_ k_ ∨ w.heap.size ≤ k_)) u9000_ r2 ∧ Below w0.heap.size w0 w' ∧ Kept w w' (fun k_ => P0_1_ k_) := by
 have hu49 := Try.underlying49
 have HO0_1 := A_ (show Kd.R (Kd.int .i64) 3 w w0.heap.size (fun k_ => (P0_1_ k_ ∨ w.heap.size ≤ k_)) u9000_ l0_1 from Kd.R_mono ho0_1 (fun k_ hk => (.inl hk)))
 have HK := A_ (Kept.refl w (fun k_ => P0_1_ k_))
 have HW0 := A_ hB.size
 have HB := A_ hB
 clear hB
 have H : ((laws_markIntS.f k l0_1 a1).bind fun bt205 => (some (bt205.1, bt205.2))) = some (r1, r2) := h
 clear h
 replace H := bs_ H
 obtain ⟨⟨t205, t206⟩, A3, H⟩ := H
 dsimp only at H
 simp only [Option.some.injEq, Prod.mk.injEq] at H
 obtain ⟨rfl, rfl⟩ := H
 obtain ⟨Ao4, co4, eo4⟩ := Kd.R_slice HO0_1.out
 subst eo4
 go_enter Try.func24, Try.ntmps24
 go_wp2_with (first | ((with_reducible refine gate_dst (N := 2) rfl ?_); refine box_event rfl (N := 2) rfl (cs := #[.int .i64 a0_0, .slice Ao4 l0_1.length co4]) (t := 49) hr_ ?_; intro gb204 hg w5 hbox hb; have BK204 := A_ hbox; have GW204 := A_ ((by rw [hg]; exact (by first | exact HK.out.1 | exact (show Kept w _ (fun k_ => P0_1_ k_) from by repeat (first | (with_reducible first | exact HK.out | apply Kept.alloc | apply Kept.drewN | apply Kept.drew) | exact HK.out)).1) : w.heap.size ≤ gb204)); have GE204 := A_ ((by rw [hg]; exact (below_size (hb_ HB)) : w0.heap.size ≤ gb204)); replace HO0_1 := A_ (Kd.R_below (rb_ HO0_1.out) hb); replace HK := A_ (Kept.below (S := (fun k_ => P0_1_ k_)) (by repeat (first | (with_reducible first | exact HK.out | apply Kept.alloc | apply Kept.drewN | apply Kept.drew) | exact HK.out)) hb); replace HB := hs_ HB hb; clear hb hbox hg; obtain ⟨hcz6_0, hcz6_1, hfz6_0, hfz6_1⟩ := cz2_ BK204) | ((with_reducible refine gate_callee (f := 68) rfl ?_); refine goesL_ (some 8) rfl rfl Try.func68 (by kernel_rfl) rfl #[.slice Ao4 l0_1.length co4, .int .i64 a1] rfl al_ ?_; (with_reducible refine (laws_markIntS.calls k (fun k_ => some k_ = (.slice Ao4 l0_1.length co4 : Value).ownBlock) (.slice Ao4 l0_1.length co4) l0_1 a1 t205 t206 w0 _ ?side1 ?side2 A3.out).mono ?_); (case side1 => repeat (first | (with_reducible first | exact HB.out | apply below_alloc | apply pw_below_drewN | apply below_drew1 | refine below_set ?_ GE204.out) | exact HB.out)); (case side2 => exact Kd.R_tight rfl HO0_1.out); rintro e w7 ⟨rfl, hy0, hb, hkp⟩; refine ⟨_, rfl, ?_⟩; have n0_ := A_ (Kd.R_reok rfl hy0 (fun k_ e_ => HO0_1.out.1 k_ e_)); have n1_ := A_ (blk_kept (bk_ BK204) hkp (fun hs_ => (fun e_ => (Kd.R_ne HO0_1.out BK204.out (by decide)) e_) hs_)); have n2_ := A_ (Kept.then_ (S := (fun k_ => P0_1_ k_)) (by repeat (first | (with_reducible first | exact HK.out | apply Kept.alloc | apply Kept.drewN | apply Kept.drew | refine Kept.setCell ?_ (.inr GW204.out) _) | exact HK.out)) hkp (fun k_ hs_ => (fun e_ => (HO0_1.out.1 k_ e_.symm)) hs_)); have n3_ := A_ hb; clear HO0_1; clear BK204; clear HK; clear HB; have HO0_1 := n0_; have BK204 := n1_; have HK := n2_; have HB := n3_; clear n0_ n1_ n2_ n3_; (try clear hb); (try clear hkp); (try clear hy0)))
 go_ret
 exact ⟨rs_, rb_ HO0_1.out, hb_ HB, by repeat (first | (with_reducible first | exact HK.out | apply Kept.alloc | apply Kept.drewN | apply Kept.drew | refine Kept.setCell ?_ (.inr GW204.out) _) | exact HK.out)⟩

end Go.Proofs.Ytmkhghbalnadlaa.PFnExactBegin
