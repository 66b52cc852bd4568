/- Contracts of functions of the program. No condition beyond the hypotheses that each theorem names. -/
import Derived.Test.YtdcinhpdpoodfaaGreatPFnExactFinishedx0
import Derived.Test.YtdcinhpdpoodfaaGreatPFnExactFinishedx3
import Derived.Test.YtdcinhpdpoodfaaGreatPFnExactFinishedx6
namespace Go.Proofs.YtdcinhpdpoodfaaGreat.PFnExactFinished
open Go.RowKit Go.Proofs.YtdcinhpdpoodfaaGreatW.PrintWords Go.Proofs.YtdcinhpdpoodfaaGreatW.PrintLast Go.Proofs.YtdcinhpdpoodfaaGreatW.PrintMore
attribute [local go_sem] max2_int min2_int max_two min_two max_three min_three max_four min_four
set_option linter.unusedVariables false
set_option linter.unusedSimpArgs false
def spec_RowsOk.l0 : Nat → Int → List Int → Int → Option (Bool)
 | 0, _, _, _ => none
 | k + 1, x3, x186000, x186001 => if x3 < (x186000.length : Int) then (if 0 ≤ x3 then (if (rd x186000 x3) = 0 then (spec_RowsOk.l0 k (wrap64 (x3 + 1)) x186000 x186001) else ((spec_ValOk.f (rd x186000 x3)).bind fun t189 => (if t189 = true then ((spec_KeyOf.f k x186000 x186001 (rd x186000 x3)).bind fun t191 => (if t191 = x3 then (spec_RowsOk.l0 k (wrap64 (x3 + 1)) x186000 x186001) else (some false))) else (some false)))) else (none)) else (if (x186000.length : Int) = 4 then ((spec_l1In.f x186001 0 5).bind fun t186 => (some t186)) else (some false))
def spec_RowsOk.f (k : Nat) (l0_0 : List Int) (a0_1 : Int) : Option (Bool) := spec_RowsOk.l0 k 0 l0_0 a0_1
def spec_RowsOk.T4 : Bool × List (List Nat × List Nat) := (true, [([], []), ([0], [0]), ([], []), ([1, 2], [1, 2]), ([3], [3]), ([4], [4]), ([5], [5]), ([6], [6]), ([7, 6], [6, 7]), ([6], [6]), ([8, 9, 6], [6, 8, 9]), ([10, 6], [6, 10]), ([11, 6, 6], [6, 11]), ([12, 6], [6, 12]), ([13, 12, 6], [6, 13]), ([14], [14]), ([14], [14]), ([16, 14], [14, 16]), ([14], [14]), ([17, 18, 14], [14, 17, 18]), ([19, 14], [14, 19]), ([15, 20, 14, 14], [14, 15, 20]), ([14], [14]), ([21, 22, 14], [14, 21, 22]), ([14, 23, 6], [6, 14, 23]), ([6, 24], [6, 24])])
def spec_RowsOk.B4 : List Nat := [0, 1, 0, 7, 15, 31, 63, 127, 255, 127, 1023, 2047, 4095, 8191, 16383, 32767, 32767, 98303, 32767, 491519, 1015807, 2097151, 32767, 8388607, 16777215, 33554431]
theorem spec_RowsOk.tab4 : rtab .any (opsOf Tryz.f102 4) = spec_RowsOk.T4 := by kernel_rfl
theorem spec_RowsOk.bits4 : waitsOk spec_RowsOk.T4.2 spec_RowsOk.B4 = true := by kernel_rfl
set_option maxHeartbeats 8000000 in
set_option maxRecDepth 100000 in
theorem spec_RowsOk.calls (k : Nat) (A0_0 : Option Addr) (c0_0 : Nat) (l0_0 : List Int) (a0_1 : Int) (r : Bool) (w : World) (hr0_0 : Kd.C (Kd.int .i64) w A0_0 l0_0.length l0_0) (hc0_0 : l0_0.length ≤ c0_0) (h : spec_RowsOk.f k l0_0 a0_1 = some r) :
    Calls Tryz.prog 102 #[.agg #[.slice A0_0 l0_0.length c0_0, .int .i64 a0_1]] w fun e w' => e = .returned (.bool r) ∧ Below w.heap.size w w' := by
 have hu91 := Tryz.underlying91
 have HR0_0 := A_ hr0_0
 have HC0_0 := A_ hc0_0
 clear hr0_0 hc0_0
 have HB := A_ (Below.refl w.heap.size w)
 have H : (spec_RowsOk.l0 k 0 l0_0 a0_1) = some r := h
 clear h
 replace H' := A_ H; clear H
 go_enter Tryz.func102, Tryz.ntmps102
 go_wp2_with (first | ((with_reducible refine gate_dst (N := 1) rfl ?_); refine bx_ HB rfl (N := 1) rfl (cs := #[.slice A0_0 l0_0.length c0_0, .int .i64 a0_1]) (t := 91) hr_ ?_; clear HB; intro gb185 w2 hg hb BK185 GW185 HB; clear hb hg))
 go_loopg [3] k (fun kq v3 w' => ∃ (x3_1 : Int), v3 = .int .i64 x3_1 ∧ Aside0 (spec_RowsOk.l0 kq x3_1 l0_0 a0_1 = some r) ∧ Aside0 (kq ≤ k) ∧ Aside0 (w'.heap[gb185]? = some (.cells #[(.slice A0_0 l0_0.length c0_0), .int .i64 a0_1] 91 (0, 0))) ∧ Aside0 (Below w.heap.size w w'))
 case atStart => exact ⟨(0), rt_, H', ⟨Nat.le_refl _⟩, ⟨bk_ BK185⟩, ⟨hb_ HB⟩⟩
 case round =>
  clear H'
  obtain ⟨x3_1, rfl, HA, HK1, BK185, HB⟩ := hrel
  cases gk with
  | zero => exact absurd HA.out (by simp [spec_RowsOk.l0])
  | succ k1 =>
   have H := HA.out
   clear HA
   simp only [spec_RowsOk.l0] at H
   replace H := ic_ H
   rcases H with ⟨c3b0, H⟩ | ⟨c3b0, H⟩
   ·
    replace H := ix_ H
    obtain ⟨c4b0, H⟩ := H
    by_cases c5 : (rd l0_0 x3_1) = 0
    ·
     rw [if_pos c5] at H
     have c5b0 : ((rd l0_0 x3_1) == 0) = true := beq_iff_eq.mpr c5
     have c5b1 : ((rd l0_0 x3_1) != 0) = false := bne_eq_false_iff_eq.mpr c5
     clear c5
     replace H' := A_ H; clear H
     obtain ⟨z6_0, z6_1, y6_0, y6_1⟩ := cz2_ BK185
     try go_wp2
     replace BK185 := A_ (blk_drew BK185.out)
     replace HB := A_ (below_drew1 HB.out)
     have p187 : 0 ≤ (x3_1 : Int) := od_
     have q187 : x3_1 < (l0_0.length : Int) := od_
     obtain ⟨ad187, e187, u187_0⟩ := Kd.at_int HR0_0.out x3_1 p187 q187
     have hw187_0 := u187_0
     cases e187
     replace u187_0 := hx_ HB u187_0
     replace p187 := eq_true p187
     replace q187 := eq_true q187
     refine start_ (n := 26) (S := fun w' => w'.cell? ⟨gb185, 0, none⟩ = some (.slice (some ad187) l0_0.length c0_0) ∧ w'.cell? ⟨gb185, 1, none⟩ = some (.int .i64 a0_1) ∧ w'.cell? (ad187.add (x3_1).toNat) = some (.int .i64 (rd l0_0 x3_1))) (ds := []) (bt_ 0 26) (by kernel_rfl) rfl rfl ⟨(blk_cell BK185.out 0).trans rfl, (blk_cell BK185.out 1).trans rfl, (hy_ HB hw187_0)⟩ (fun hHeld => ?_); refine with_tabW spec_RowsOk.tab4 spec_RowsOk.bits4 (fun HT_ HW_ => ?_)
     generalize wr.drew = w7 at BK185 HB u187_0 hHeld ⊢
     refine pu_ 0 11 (bt_ 1 26) ?_
     refine pu_ 2 13 (bt_ 5 26) ?_
     refine tk3_ 1 12 (bt_ 7 26) hHeld ?_
     refine pu_ 3 14 (bt_ 15 26) ?_
     refine tk3_ 4 15 (bt_ 31 26) hHeld ?_
     refine pu_ 5 16 (bt_ 63 26) ?_
     refine pu_ 6 17 (bt_ 127 26) ?_
     refine pn_ 7 18 (bt_ 255 26) ?_
     refine pn_ 8 19 (bt_ 511 26) ?_
     refine pn_ 9 20 (bt_ 1023 26) ?_
     refine pn_ 10 21 (bt_ 2047 26) ?_
     refine pn_ 11 22 (bt_ 4095 26) ?_
     refine pn_ 12 23 (bt_ 8191 26) ?_
     refine pn_ 13 24 (bt_ 16383 26) ?_
     refine pn_ 14 25 (bt_ 32767 26) ?_
     refine pn_ 15 26 (bt_ 65535 26) ?_
     refine pn_ 16 27 (bt_ 131071 26) ?_
     refine pn_ 17 28 (bt_ 262143 26) ?_
     refine pn_ 18 29 (bt_ 524287 26) ?_
     refine pn_ 19 30 (bt_ 1048575 26) ?_
     refine pn_ 20 31 (bt_ 2097151 26) ?_
     refine pn_ 21 32 (bt_ 4194303 26) ?_
     refine pn_ 22 33 (bt_ 8388607 26) ?_
     refine pn_ 23 34 (bt_ 16777215 26) ?_
     refine pn_ 24 35 (bt_ 33554431 26) ?_
     refine pu_ 25 36 (bt_ 67108863 26) ?_
     refine done_ (done_of HT_.out (by kernel_rfl)) ?_
     try go_wp2
     go_roundg k1
     case measure => have := HK1.out; omega
     case rel => exact ⟨(wrap64 (x3_1 + 1)), rt_, H', ⟨by have := HK1.out; omega⟩, ⟨bk_ BK185⟩, ⟨hb_ HB⟩⟩
    rw [if_neg c5] at H
    have c5b0 : ((rd l0_0 x3_1) == 0) = false := beq_eq_false_iff_ne.mpr c5
    have c5b1 : ((rd l0_0 x3_1) != 0) = true := bne_iff_ne.mpr c5
    replace H := bs_ H
    obtain ⟨t189, A8, H⟩ := H
    by_cases c9 : t189 = true
    ·
     subst c9
     replace H := it_ H
     replace H := bs_ H
     obtain ⟨t191, A10, H⟩ := H
     by_cases c11 : t191 = x3_1
     ·
      rw [if_pos c11] at H
      have c11b0 : (t191 == x3_1) = true := beq_iff_eq.mpr c11
      have c11b1 : (t191 != x3_1) = false := bne_eq_false_iff_eq.mpr c11
      clear c11
      replace H' := A_ H; clear H
      obtain ⟨z12_0, z12_1, y12_0, y12_1⟩ := cz2_ BK185
      try go_wp2
      replace BK185 := A_ (blk_drew BK185.out)
      replace HB := A_ (below_drew1 HB.out)
      have p187 : 0 ≤ (x3_1 : Int) := od_
      have q187 : x3_1 < (l0_0.length : Int) := od_
      obtain ⟨ad187, e187, u187_0⟩ := Kd.at_int HR0_0.out x3_1 p187 q187
      have hw187_0 := u187_0
      cases e187
      replace u187_0 := hx_ HB u187_0
      replace p187 := eq_true p187
      replace q187 := eq_true q187
      have p188 : 0 ≤ (x3_1 : Int) := od_
      have q188 : x3_1 < (l0_0.length : Int) := od_
      obtain ⟨ad188, e188, u188_0⟩ := Kd.at_int HR0_0.out x3_1 p188 q188
      have hw188_0 := u188_0
      obtain rfl : ad187 = ad188 := (by injection e188)
      replace u188_0 := hx_ HB u188_0
      replace p188 := eq_true p188
      replace q188 := eq_true q188
      have p190 : 0 ≤ (x3_1 : Int) := od_
      have q190 : x3_1 < (l0_0.length : Int) := od_
      obtain ⟨ad190, e190, u190_0⟩ := Kd.at_int HR0_0.out x3_1 p190 q190
      have hw190_0 := u190_0
      obtain rfl : ad187 = ad190 := (by injection e190)
      replace u190_0 := hx_ HB u190_0
      replace p190 := eq_true p190
      replace q190 := eq_true q190
      refine start_ (n := 26) (S := fun w' => w'.cell? ⟨gb185, 0, none⟩ = some (.slice (some ad187) l0_0.length c0_0) ∧ w'.cell? ⟨gb185, 1, none⟩ = some (.int .i64 a0_1) ∧ w'.cell? (ad187.add (x3_1).toNat) = some (.int .i64 (rd l0_0 x3_1)) ∧ w'.cell? (ad187.add (x3_1).toNat) = some (.int .i64 (rd l0_0 x3_1)) ∧ w'.cell? (ad187.add (x3_1).toNat) = some (.int .i64 (rd l0_0 x3_1))) (ds := []) (bt_ 0 26) (by kernel_rfl) rfl rfl ⟨(blk_cell BK185.out 0).trans rfl, (blk_cell BK185.out 1).trans rfl, (hy_ HB hw187_0), (hy_ HB hw188_0), (hy_ HB hw190_0)⟩ (fun hHeld => ?_); refine with_tabW spec_RowsOk.tab4 spec_RowsOk.bits4 (fun HT_ HW_ => ?_)
      generalize wr.drew = w13 at BK185 HB u187_0 u188_0 u190_0 hHeld ⊢
      refine pu_ 0 11 (bt_ 1 26) ?_
      refine pu_ 2 13 (bt_ 5 26) ?_
      refine tk5_ 1 12 (bt_ 7 26) hHeld ?_
      refine pu_ 3 14 (bt_ 15 26) ?_
      refine tk5_ 4 15 (bt_ 31 26) hHeld ?_
      refine pu_ 5 16 (bt_ 63 26) ?_
      refine pu_ 6 17 (bt_ 127 26) ?_
      refine pu_ 7 18 (bt_ 255 26) ?_
      refine pu_ 9 20 (bt_ 767 26) ?_
      refine tk5_ 8 19 (bt_ 1023 26) hHeld ?_
      refine pu_ 10 21 (bt_ 2047 26) ?_
      refine tk5_ 11 22 (bt_ 4095 26) hHeld ?_
      refine one_ (i := 12) (N := some 23) (bt_ 8191 26) rfl rfl (one_of HT_.out (by kernel_rfl)) (by decide) (fun K hK => ?_)
      refine goes_ Tryz.func148 (by kernel_rfl) rfl #[.int .i64 (rd l0_0 x3_1)] (by rfl) rfl rfl al_ ?_
      with_reducible refine (spec_ValOk.calls (rd l0_0 x3_1) true _ A8.out).mono ?_
      rintro e w' ⟨rfl, ⟨nd, rfl⟩⟩
      refine ⟨_, rfl, ?_⟩
      refine hK.out _ _ ⟨(blk_cell BK185.out 0).trans rfl, (blk_cell BK185.out 1).trans rfl, (hy_ HB hw187_0), (hy_ HB hw188_0), (hy_ HB hw190_0)⟩ (fun hHeld => ?_)
      clear hK K
      refine norm_ (a' := ?_) ?_ ?_
      rotate_left
      ·
       show Act.put _ (some 23) _ = _
       simp only [Act.put, List.setIfInBounds_toArray, List.set_cons_zero, List.set_cons_succ, i64_w, i32_w]
       rfl
      refine pu_ 13 24 (bt_ 16383 26) ?_
      refine pu_ 14 25 (bt_ 32767 26) ?_
      refine pu_ 16 27 (bt_ 98303 26) ?_
      refine pu_ 18 29 (bt_ 360447 26) ?_
      refine pu_ 22 33 (bt_ 4554751 26) ?_
      refine tk5_ 15 26 (bt_ 4587519 26) hHeld ?_
      refine tk5_ 17 28 (bt_ 4718591 26) hHeld ?_
      refine pu_ 19 30 (bt_ 5242879 26) ?_
      refine tk5_ 20 31 (bt_ 6291455 26) hHeld ?_
      refine one_ (i := 21) (N := some 32) (bt_ 8388607 26) rfl rfl (one_of HT_.out (by kernel_rfl)) (by decide) (fun K hK => ?_)
      refine goes_ Tryz.func153 (by kernel_rfl) rfl #[.agg #[.slice (some ad187) l0_0.length c0_0, .int .i64 a0_1], .int .i64 (rd l0_0 x3_1)] (by rfl) rfl rfl al_ ?_
      with_reducible refine (spec_KeyOf.calls k1 _ _ l0_0 a0_1 (rd l0_0 x3_1) t191 _ ?s1 ?s2 A10.out).mono ?_
      (case s1 => exact cb_ (Kd.C_below HR0_0.out (hb_ HB)))
      (case s2 => exact HC0_0.out)
      rintro e w14 ⟨rfl, hb⟩
      refine ⟨_, rfl, ?_⟩
      replace BK185 := bb_ BK185 hb
      replace HB := hs_ HB hb
      (try clear hb)
      (try clear hb2)
      (try clear hk)
      (try clear hi)
      refine hK.out _ _ ⟨(blk_cell BK185.out 0).trans rfl, (blk_cell BK185.out 1).trans rfl, (hy_ HB hw187_0), (hy_ HB hw188_0), (hy_ HB hw190_0)⟩ (fun hHeld => ?_)
      clear hK K
      refine norm_ (a' := ?_) ?_ ?_
      rotate_left
      ·
       show Act.put _ (some 32) _ = _
       simp only [Act.put, List.setIfInBounds_toArray, List.set_cons_zero, List.set_cons_succ, i64_w, i32_w]
       rfl
      refine pu_ 23 34 (bt_ 16777215 26) ?_
      refine pu_ 24 35 (bt_ 33554431 26) ?_
      refine pu_ 25 36 (bt_ 67108863 26) ?_
      refine done_ (done_of HT_.out (by kernel_rfl)) ?_
      try go_wp2
      go_roundg k1
      case measure => have := HK1.out; omega
      case rel => exact ⟨(wrap64 (x3_1 + 1)), rt_, H', ⟨by have := HK1.out; omega⟩, ⟨bk_ BK185⟩, ⟨hb_ HB⟩⟩
     rw [if_neg c11] at H
     have c11b0 : (t191 == x3_1) = false := beq_eq_false_iff_ne.mpr c11
     have c11b1 : (t191 != x3_1) = true := bne_iff_ne.mpr c11
     obtain rfl := Option.some.inj H
     obtain ⟨z15_0, z15_1, y15_0, y15_1⟩ := cz2_ BK185
     try go_wp2
     replace BK185 := A_ (blk_drew BK185.out)
     replace HB := A_ (below_drew1 HB.out)
     have p187 : 0 ≤ (x3_1 : Int) := od_
     have q187 : x3_1 < (l0_0.length : Int) := od_
     obtain ⟨ad187, e187, u187_0⟩ := Kd.at_int HR0_0.out x3_1 p187 q187
     have hw187_0 := u187_0
     cases e187
     replace u187_0 := hx_ HB u187_0
     replace p187 := eq_true p187
     replace q187 := eq_true q187
     have p188 : 0 ≤ (x3_1 : Int) := od_
     have q188 : x3_1 < (l0_0.length : Int) := od_
     obtain ⟨ad188, e188, u188_0⟩ := Kd.at_int HR0_0.out x3_1 p188 q188
     have hw188_0 := u188_0
     obtain rfl : ad187 = ad188 := (by injection e188)
     replace u188_0 := hx_ HB u188_0
     replace p188 := eq_true p188
     replace q188 := eq_true q188
     have p190 : 0 ≤ (x3_1 : Int) := od_
     have q190 : x3_1 < (l0_0.length : Int) := od_
     obtain ⟨ad190, e190, u190_0⟩ := Kd.at_int HR0_0.out x3_1 p190 q190
     have hw190_0 := u190_0
     obtain rfl : ad187 = ad190 := (by injection e190)
     replace u190_0 := hx_ HB u190_0
     replace p190 := eq_true p190
     replace q190 := eq_true q190
     refine start_ (n := 26) (S := fun w' => w'.cell? ⟨gb185, 0, none⟩ = some (.slice (some ad187) l0_0.length c0_0) ∧ w'.cell? ⟨gb185, 1, none⟩ = some (.int .i64 a0_1) ∧ w'.cell? (ad187.add (x3_1).toNat) = some (.int .i64 (rd l0_0 x3_1)) ∧ w'.cell? (ad187.add (x3_1).toNat) = some (.int .i64 (rd l0_0 x3_1)) ∧ w'.cell? (ad187.add (x3_1).toNat) = some (.int .i64 (rd l0_0 x3_1))) (ds := []) (bt_ 0 26) (by kernel_rfl) rfl rfl ⟨(blk_cell BK185.out 0).trans rfl, (blk_cell BK185.out 1).trans rfl, (hy_ HB hw187_0), (hy_ HB hw188_0), (hy_ HB hw190_0)⟩ (fun hHeld => ?_); refine with_tabW spec_RowsOk.tab4 spec_RowsOk.bits4 (fun HT_ HW_ => ?_)
     generalize wr.drew = w16 at BK185 HB u187_0 u188_0 u190_0 hHeld ⊢
     refine pu_ 0 11 (bt_ 1 26) ?_
     refine pu_ 2 13 (bt_ 5 26) ?_
     refine tk5_ 1 12 (bt_ 7 26) hHeld ?_
     refine pu_ 3 14 (bt_ 15 26) ?_
     refine tk5_ 4 15 (bt_ 31 26) hHeld ?_
     refine pu_ 5 16 (bt_ 63 26) ?_
     refine pu_ 6 17 (bt_ 127 26) ?_
     refine pu_ 7 18 (bt_ 255 26) ?_
     refine pu_ 9 20 (bt_ 767 26) ?_
     refine tk5_ 8 19 (bt_ 1023 26) hHeld ?_
     refine pu_ 10 21 (bt_ 2047 26) ?_
     refine tk5_ 11 22 (bt_ 4095 26) hHeld ?_
     refine one_ (i := 12) (N := some 23) (bt_ 8191 26) rfl rfl (one_of HT_.out (by kernel_rfl)) (by decide) (fun K hK => ?_)
     refine goes_ Tryz.func148 (by kernel_rfl) rfl #[.int .i64 (rd l0_0 x3_1)] (by rfl) rfl rfl al_ ?_
     with_reducible refine (spec_ValOk.calls (rd l0_0 x3_1) true _ A8.out).mono ?_
     rintro e w' ⟨rfl, ⟨nd, rfl⟩⟩
     refine ⟨_, rfl, ?_⟩
     refine hK.out _ _ ⟨(blk_cell BK185.out 0).trans rfl, (blk_cell BK185.out 1).trans rfl, (hy_ HB hw187_0), (hy_ HB hw188_0), (hy_ HB hw190_0)⟩ (fun hHeld => ?_)
     clear hK K
     refine norm_ (a' := ?_) ?_ ?_
     rotate_left
     ·
      show Act.put _ (some 23) _ = _
      simp only [Act.put, List.setIfInBounds_toArray, List.set_cons_zero, List.set_cons_succ, i64_w, i32_w]
      rfl
     refine pu_ 13 24 (bt_ 16383 26) ?_
     refine pu_ 14 25 (bt_ 32767 26) ?_
     refine pu_ 16 27 (bt_ 98303 26) ?_
     refine pu_ 18 29 (bt_ 360447 26) ?_
     refine pu_ 22 33 (bt_ 4554751 26) ?_
     refine tk5_ 15 26 (bt_ 4587519 26) hHeld ?_
     refine tk5_ 17 28 (bt_ 4718591 26) hHeld ?_
     refine pu_ 19 30 (bt_ 5242879 26) ?_
     refine tk5_ 20 31 (bt_ 6291455 26) hHeld ?_
     refine one_ (i := 21) (N := some 32) (bt_ 8388607 26) rfl rfl (one_of HT_.out (by kernel_rfl)) (by decide) (fun K hK => ?_)
     refine goes_ Tryz.func153 (by kernel_rfl) rfl #[.agg #[.slice (some ad187) l0_0.length c0_0, .int .i64 a0_1], .int .i64 (rd l0_0 x3_1)] (by rfl) rfl rfl al_ ?_
     with_reducible refine (spec_KeyOf.calls k1 _ _ l0_0 a0_1 (rd l0_0 x3_1) t191 _ ?s1 ?s2 A10.out).mono ?_
     (case s1 => exact cb_ (Kd.C_below HR0_0.out (hb_ HB)))
     (case s2 => exact HC0_0.out)
     rintro e w17 ⟨rfl, hb⟩
     refine ⟨_, rfl, ?_⟩
     replace BK185 := bb_ BK185 hb
     replace HB := hs_ HB hb
     (try clear hb)
     (try clear hb2)
     (try clear hk)
     (try clear hi)
     refine hK.out _ _ ⟨(blk_cell BK185.out 0).trans rfl, (blk_cell BK185.out 1).trans rfl, (hy_ HB hw187_0), (hy_ HB hw188_0), (hy_ HB hw190_0)⟩ (fun hHeld => ?_)
     clear hK K
     refine norm_ (a' := ?_) ?_ ?_
     rotate_left
     ·
      show Act.put _ (some 32) _ = _
      simp only [Act.put, List.setIfInBounds_toArray, List.set_cons_zero, List.set_cons_succ, i64_w, i32_w]
      rfl
     refine pu_ 23 34 (bt_ 16777215 26) ?_
     refine pu_ 24 35 (bt_ 33554431 26) ?_
     refine pu_ 25 36 (bt_ 67108863 26) ?_
     refine done_ (done_of HT_.out (by kernel_rfl)) ?_
     try go_wp2
     go_ret
     exact ⟨rs_, hb_ HB⟩
    obtain rfl := Bool.eq_false_iff.mpr c9
    replace H := iF_ H
    obtain rfl := Option.some.inj H
    obtain ⟨z18_0, z18_1, y18_0, y18_1⟩ := cz2_ BK185
    try go_wp2
    replace BK185 := A_ (blk_drew BK185.out)
    replace HB := A_ (below_drew1 HB.out)
    have p187 : 0 ≤ (x3_1 : Int) := od_
    have q187 : x3_1 < (l0_0.length : Int) := od_
    obtain ⟨ad187, e187, u187_0⟩ := Kd.at_int HR0_0.out x3_1 p187 q187
    have hw187_0 := u187_0
    cases e187
    replace u187_0 := hx_ HB u187_0
    replace p187 := eq_true p187
    replace q187 := eq_true q187
    have p188 : 0 ≤ (x3_1 : Int) := od_
    have q188 : x3_1 < (l0_0.length : Int) := od_
    obtain ⟨ad188, e188, u188_0⟩ := Kd.at_int HR0_0.out x3_1 p188 q188
    have hw188_0 := u188_0
    obtain rfl : ad187 = ad188 := (by injection e188)
    replace u188_0 := hx_ HB u188_0
    replace p188 := eq_true p188
    replace q188 := eq_true q188
    refine start_ (n := 26) (S := fun w' => w'.cell? ⟨gb185, 0, none⟩ = some (.slice (some ad187) l0_0.length c0_0) ∧ w'.cell? ⟨gb185, 1, none⟩ = some (.int .i64 a0_1) ∧ w'.cell? (ad187.add (x3_1).toNat) = some (.int .i64 (rd l0_0 x3_1)) ∧ w'.cell? (ad187.add (x3_1).toNat) = some (.int .i64 (rd l0_0 x3_1))) (ds := []) (bt_ 0 26) (by kernel_rfl) rfl rfl ⟨(blk_cell BK185.out 0).trans rfl, (blk_cell BK185.out 1).trans rfl, (hy_ HB hw187_0), (hy_ HB hw188_0)⟩ (fun hHeld => ?_); refine with_tabW spec_RowsOk.tab4 spec_RowsOk.bits4 (fun HT_ HW_ => ?_)
    generalize wr.drew = w19 at BK185 HB u187_0 u188_0 hHeld ⊢
    refine pu_ 0 11 (bt_ 1 26) ?_
    refine pu_ 2 13 (bt_ 5 26) ?_
    refine tk4_ 1 12 (bt_ 7 26) hHeld ?_
    refine pu_ 3 14 (bt_ 15 26) ?_
    refine tk4_ 4 15 (bt_ 31 26) hHeld ?_
    refine pu_ 5 16 (bt_ 63 26) ?_
    refine pu_ 6 17 (bt_ 127 26) ?_
    refine pu_ 7 18 (bt_ 255 26) ?_
    refine pu_ 9 20 (bt_ 767 26) ?_
    refine tk4_ 8 19 (bt_ 1023 26) hHeld ?_
    refine pu_ 10 21 (bt_ 2047 26) ?_
    refine tk4_ 11 22 (bt_ 4095 26) hHeld ?_
    refine one_ (i := 12) (N := some 23) (bt_ 8191 26) rfl rfl (one_of HT_.out (by kernel_rfl)) (by decide) (fun K hK => ?_)
    refine goes_ Tryz.func148 (by kernel_rfl) rfl #[.int .i64 (rd l0_0 x3_1)] (by rfl) rfl rfl al_ ?_
    with_reducible refine (spec_ValOk.calls (rd l0_0 x3_1) false _ A8.out).mono ?_
    rintro e w' ⟨rfl, ⟨nd, rfl⟩⟩
    refine ⟨_, rfl, ?_⟩
    refine hK.out _ _ ⟨(blk_cell BK185.out 0).trans rfl, (blk_cell BK185.out 1).trans rfl, (hy_ HB hw187_0), (hy_ HB hw188_0)⟩ (fun hHeld => ?_)
    clear hK K
    refine norm_ (a' := ?_) ?_ ?_
    rotate_left
    ·
     show Act.put _ (some 23) _ = _
     simp only [Act.put, List.setIfInBounds_toArray, List.set_cons_zero, List.set_cons_succ, i64_w, i32_w]
     rfl
    refine pu_ 13 24 (bt_ 16383 26) ?_
    refine pu_ 14 25 (bt_ 32767 26) ?_
    refine pn_ 15 26 (bt_ 65535 26) ?_
    refine pn_ 16 27 (bt_ 131071 26) ?_
    refine pn_ 17 28 (bt_ 262143 26) ?_
    refine pn_ 18 29 (bt_ 524287 26) ?_
    refine pn_ 19 30 (bt_ 1048575 26) ?_
    refine pn_ 20 31 (bt_ 2097151 26) ?_
    refine pn_ 21 32 (bt_ 4194303 26) ?_
    refine pn_ 22 33 (bt_ 8388607 26) ?_
    refine pn_ 23 34 (bt_ 16777215 26) ?_
    refine pu_ 24 35 (bt_ 33554431 26) ?_
    refine pu_ 25 36 (bt_ 67108863 26) ?_
    refine done_ (done_of HT_.out (by kernel_rfl)) ?_
    try go_wp2
    go_ret
    exact ⟨rs_, hb_ HB⟩
   by_cases c20 : (l0_0.length : Int) = 4
   ·
    rw [if_pos c20] at H
    have c20b0 : ((l0_0.length : Int) == 4) = true := beq_iff_eq.mpr c20
    have c20b1 : ((l0_0.length : Int) != 4) = false := bne_eq_false_iff_eq.mpr c20
    clear c20
    replace H := bs_ H
    obtain ⟨t186, A21, H⟩ := H
    obtain rfl := Option.some.inj H
    obtain ⟨z22_0, z22_1, y22_0, y22_1⟩ := cz2_ BK185
    go_wp2_with (first | (go_at_call 70; (with_reducible refine (spec_l1In.calls a0_1 0 5 t186 _ A21.out).mono ?_); rintro e w' ⟨rfl, ⟨nd, rfl⟩⟩))
    go_ret
    exact ⟨rs_, hb_ HB⟩
   rw [if_neg c20] at H
   have c20b0 : ((l0_0.length : Int) == 4) = false := beq_eq_false_iff_ne.mpr c20
   have c20b1 : ((l0_0.length : Int) != 4) = true := bne_iff_ne.mpr c20
   obtain rfl := Option.some.inj H
   obtain ⟨z23_0, z23_1, y23_0, y23_1⟩ := cz2_ BK185
   go_wp2
   go_ret
   exact ⟨rs_, hb_ HB⟩
end Go.Proofs.YtdcinhpdpoodfaaGreat.PFnExactFinished
