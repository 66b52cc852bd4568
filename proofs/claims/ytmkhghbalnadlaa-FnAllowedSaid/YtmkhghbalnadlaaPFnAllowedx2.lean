/- Contracts of functions of the program: each says that the call does what a plain Lean function tells. Made by programs of this session and of the kit. No condition beyond the hypotheses that each theorem names. -/
import Derived.Test.YtmkhghbalnadlaaPFnAllowedx0
import Derived.Test.YtmkhghbalnadlaaPFnAllowedx1
namespace Go.Proofs.Ytmkhghbalnadlaa.PFnAllowed
open Go.RowKit Go.Proofs.YtmkhghbalnadlaaW.PrintWords Go.Proofs.YtmkhghbalnadlaaW.PrintLast Go.Proofs.YtmkhghbalnadlaaW.PrintMore
attribute [local go_sem] max2_int min2_int max_two min_two max_three min_three max_four min_four   -- for this text's walks alone
set_option linter.unusedVariables false
set_option linter.unusedSimpArgs false

/-! ### spec_RowsOk: function 80 -/
def spec_RowsOk.l0 : Nat → Int → List Int → Int → Option (Bool)
 | 0, _, _, _ => none
 | k + 1, x3, x114000, x114001 => if x3 < (x114000.length : Int) then (if 0 ≤ x3 then (if (rd x114000 x3) = 0 then (spec_RowsOk.l0 k (wrap64 (x3 + 1)) x114000 x114001) else ((spec_ValOk.f (rd x114000 x3)).bind fun t117 => (if t117 = true then ((spec_KeyOf.f k x114000 x114001 (rd x114000 x3)).bind fun t119 => (if t119 = x3 then (spec_RowsOk.l0 k (wrap64 (x3 + 1)) x114000 x114001) else (some false))) else (some false)))) else (none)) else (if (x114000.length : Int) = 4 then ((spec_l1In.f x114001 0 5).bind fun t114 => (some t114)) else (some false))
def spec_RowsOk.f (k : Nat) (l0_0 : List Int) (a0_1 : Int) : Option (Bool) := spec_RowsOk.l0 k 0 l0_0 a0_1
theorem spec_RowsOk.mono_l : ∀ k, (∀ y0 y1 y2, LeO (spec_RowsOk.l0 k y0 y1 y2) (spec_RowsOk.l0 (k + 1) y0 y1 y2))
 | 0 => fun _ _ _ r h => by simp [spec_RowsOk.l0] at h
 | k + 1 => by
  have ih0 := spec_RowsOk.mono_l k
  ·
   intro y0 y1 y2
   unfold spec_RowsOk.l0
   repeat' first | (with_reducible first | apply ih0 | apply spec_KeyOf.mono | apply LeO.refl | apply LeO.none | apply LeO.ite | refine LeO.bind ?_ (fun _ => ?_)) | apply ih0 | apply spec_KeyOf.mono | apply LeO.none | apply LeO.ite | refine LeO.bind ?_ (fun _ => ?_)
theorem spec_RowsOk.mono : ∀ a0 a1 k, LeO (spec_RowsOk.f k a0 a1) (spec_RowsOk.f (k + 1) a0 a1) := by
 intro a0 a1 k
 have ih0 := spec_RowsOk.mono_l k
 unfold spec_RowsOk.f
 repeat' first | (with_reducible first | apply ih0 | apply spec_KeyOf.mono | apply LeO.refl | apply LeO.none | apply LeO.ite | refine LeO.bind ?_ (fun _ => ?_)) | apply ih0 | apply spec_KeyOf.mono | apply LeO.none | apply LeO.ite | refine LeO.bind ?_ (fun _ => ?_)
def spec_RowsOk.T4 : Bool × List (List Nat × List Nat) := (true, [([], []), ([0], [0]), ([], []), ([1, 2], [1, 2]), ([3], [3]), ([4], [4]), ([5], [5]), ([6], [6]), ([7, 6], [6, 7]), ([6], [6]), ([8, 9, 6], [6, 8, 9]), ([10, 6], [6, 10]), ([11, 6, 6], [6, 11]), ([12, 6], [6, 12]), ([13, 12, 6], [6, 13]), ([14], [14]), ([14], [14]), ([16, 14], [14, 16]), ([14], [14]), ([17, 18, 14], [14, 17, 18]), ([19, 14], [14, 19]), ([15, 20, 14, 14], [14, 15, 20]), ([14], [14]), ([21, 22, 14], [14, 21, 22]), ([14, 23, 6], [6, 14, 23]), ([6, 24], [6, 24])])
def spec_RowsOk.B4 : List Nat := [0, 1, 0, 7, 15, 31, 63, 127, 255, 127, 1023, 2047, 4095, 8191, 16383, 32767, 32767, 98303, 32767, 491519, 1015807, 2097151, 32767, 8388607, 16777215, 33554431]
theorem spec_RowsOk.tab4 : rtab .any (opsOf Try.f80 4) = spec_RowsOk.T4 := by kernel_rfl
theorem spec_RowsOk.bits4 : waitsOk spec_RowsOk.T4.2 spec_RowsOk.B4 = true := by kernel_rfl
set_option maxHeartbeats 8000000 in
set_option maxRecDepth 100000 in
theorem spec_RowsOk.calls (k : Nat) (A0_0 : Option Addr) (c0_0 : Nat) (l0_0 : List Int) (a0_1 : Int) (r : Bool) (w : World) (hr0_0 : Kd.C (Kd.int .i64) w A0_0 l0_0.length l0_0) (hc0_0 : l0_0.length ≤ c0_0) (h : spec_RowsOk.f k l0_0 a0_1 = some r) :
    Calls Try.prog 80 #[.agg #[.slice A0_0 l0_0.length c0_0, .int .i64 a0_1]] w fun e w' => e = .returned (.bool r) ∧ Below w.heap.size w w' := by
 have hu44 := Try.underlying44
 have HR0_0 := A_ hr0_0
 have HC0_0 := A_ hc0_0
 clear hr0_0 hc0_0
 have HB := A_ (Below.refl w.heap.size w)
 have H : (spec_RowsOk.l0 k 0 l0_0 a0_1) = some r := h
 clear h
 replace H' := A_ H; clear H
 go_enter Try.func80, Try.ntmps80
 go_wp2_with (first | ((with_reducible refine gate_dst (N := 1) rfl ?_); refine Y4_ ?_; clear HB; intro gb113 w2 BK113 GW113 HB))
 go_loopg [3] k (fun kq v3 w' => ∃ (x3_1 : Int), v3 = .int .i64 x3_1 ∧ Aside0 (spec_RowsOk.l0 kq x3_1 l0_0 a0_1 = some r) ∧ Aside0 (kq ≤ k) ∧ Aside0 (w'.heap[gb113]? = some (.cells #[(.slice A0_0 l0_0.length c0_0), .int .i64 a0_1] 44 (0, 0))) ∧ Aside0 (Below w.heap.size w w'))
 case atStart => exact ⟨(0), rt_, H', ⟨Nat.le_refl _⟩, ⟨bk_ BK113⟩, ⟨hb_ HB⟩⟩
 case round =>
  clear H'
  obtain ⟨x3_1, rfl, HA, HK1, BK113, HB⟩ := hrel
  cases gk with
  | zero => exact absurd HA.out (by simp [spec_RowsOk.l0])
  | succ k1 =>
   have H := HA.out
   clear HA
   simp only [spec_RowsOk.l0] at H
   replace H := ic_ H
   rcases H with ⟨c3b0, H⟩ | ⟨c3b0, H⟩
   ·
    replace H := ix_ H
    obtain ⟨c4b0, H⟩ := H
    by_cases c5 : (rd l0_0 x3_1) = 0
    ·
     rw [if_pos c5] at H
     have c5b0 : ((rd l0_0 x3_1) == 0) = true := beq_iff_eq.mpr c5
     have c5b1 : ((rd l0_0 x3_1) != 0) = false := bne_eq_false_iff_eq.mpr c5
     clear c5
     replace H' := A_ H; clear H
     obtain ⟨hcz6_0, hcz6_1, hfz6_0, hfz6_1⟩ := cz2_ BK113
     try go_wp2
     replace BK113 := A_ (blk_drew BK113.out)
     replace HB := A_ (below_drew1 HB.out)
     have p115 : 0 ≤ (x3_1 : Int) := od_
     have q115 : x3_1 < (l0_0.length : Int) := od_
     obtain ⟨ad115, e115, hx115_0⟩ := Kd.at_int HR0_0.out x3_1 p115 q115
     have hw115_0 := hx115_0
     cases e115
     replace hx115_0 := hx_ HB hx115_0
     replace p115 := eq_true p115
     replace q115 := eq_true q115
     refine start_ (n := 26) (S := fun w' => w'.cell? ⟨gb113, 0, none⟩ = some (.slice (some ad115) l0_0.length c0_0) ∧ w'.cell? ⟨gb113, 1, none⟩ = some (.int .i64 a0_1) ∧ w'.cell? (ad115.add (x3_1).toNat) = some (.int .i64 (rd l0_0 x3_1))) (ds := []) (bt_ 0 26) (by kernel_rfl) rfl rfl ⟨(blk_cell BK113.out 0).trans rfl, (blk_cell BK113.out 1).trans rfl, (hy_ HB hw115_0)⟩ (fun hHeld => ?_); refine with_tabW spec_RowsOk.tab4 spec_RowsOk.bits4 (fun HT_ HW_ => ?_)
     generalize wr.drew = w7 at BK113 HB hx115_0 hHeld ⊢
     refine pu_ 0 11 (bt_ 1 26) ?_
     refine pu_ 2 13 (bt_ 5 26) ?_
     refine tk3_ 1 12 (bt_ 7 26) hHeld ?_
     refine pu_ 3 14 (bt_ 15 26) ?_
     refine tk3_ 4 15 (bt_ 31 26) hHeld ?_
     refine pu_ 5 16 (bt_ 63 26) ?_
     refine pu_ 6 17 (bt_ 127 26) ?_
     refine pn_ 7 18 (bt_ 255 26) ?_
     refine pn_ 8 19 (bt_ 511 26) ?_
     refine pn_ 9 20 (bt_ 1023 26) ?_
     refine pn_ 10 21 (bt_ 2047 26) ?_
     refine pn_ 11 22 (bt_ 4095 26) ?_
     refine pn_ 12 23 (bt_ 8191 26) ?_
     refine pn_ 13 24 (bt_ 16383 26) ?_
     refine pn_ 14 25 (bt_ 32767 26) ?_
     refine pn_ 15 26 (bt_ 65535 26) ?_
     refine pn_ 16 27 (bt_ 131071 26) ?_
     refine pn_ 17 28 (bt_ 262143 26) ?_
     refine pn_ 18 29 (bt_ 524287 26) ?_
     refine pn_ 19 30 (bt_ 1048575 26) ?_
     refine pn_ 20 31 (bt_ 2097151 26) ?_
     refine pn_ 21 32 (bt_ 4194303 26) ?_
     refine pn_ 22 33 (bt_ 8388607 26) ?_
     refine pn_ 23 34 (bt_ 16777215 26) ?_
     refine pn_ 24 35 (bt_ 33554431 26) ?_
     refine pu_ 25 36 (bt_ 67108863 26) ?_
     refine done_ (done_of HT_.out (by kernel_rfl)) ?_
     try go_wp2
     go_roundg k1
     case measure => have := HK1.out; omega
     case rel => exact ⟨(wrap64 (x3_1 + 1)), rt_, H', ⟨by have := HK1.out; omega⟩, ⟨bk_ BK113⟩, ⟨hb_ HB⟩⟩
    rw [if_neg c5] at H
    have c5b0 : ((rd l0_0 x3_1) == 0) = false := beq_eq_false_iff_ne.mpr c5
    have c5b1 : ((rd l0_0 x3_1) != 0) = true := bne_iff_ne.mpr c5
    replace H := bs_ H
    obtain ⟨t117, A8, H⟩ := H
    by_cases c9 : t117 = true
    ·
     subst c9
     replace H := it_ H
     replace H := bs_ H
     obtain ⟨t119, A10, H⟩ := H
     by_cases c11 : t119 = x3_1
     ·
      rw [if_pos c11] at H
      have c11b0 : (t119 == x3_1) = true := beq_iff_eq.mpr c11
      have c11b1 : (t119 != x3_1) = false := bne_eq_false_iff_eq.mpr c11
      clear c11
      replace H' := A_ H; clear H
      obtain ⟨hcz12_0, hcz12_1, hfz12_0, hfz12_1⟩ := cz2_ BK113
      try go_wp2
      replace BK113 := A_ (blk_drew BK113.out)
      replace HB := A_ (below_drew1 HB.out)
      have p115 : 0 ≤ (x3_1 : Int) := od_
      have q115 : x3_1 < (l0_0.length : Int) := od_
      obtain ⟨ad115, e115, hx115_0⟩ := Kd.at_int HR0_0.out x3_1 p115 q115
      have hw115_0 := hx115_0
      cases e115
      replace hx115_0 := hx_ HB hx115_0
      replace p115 := eq_true p115
      replace q115 := eq_true q115
      have p116 : 0 ≤ (x3_1 : Int) := od_
      have q116 : x3_1 < (l0_0.length : Int) := od_
      obtain ⟨ad116, e116, hx116_0⟩ := Kd.at_int HR0_0.out x3_1 p116 q116
      have hw116_0 := hx116_0
      obtain rfl : ad115 = ad116 := (by injection e116)
      replace hx116_0 := hx_ HB hx116_0
      replace p116 := eq_true p116
      replace q116 := eq_true q116
      have p118 : 0 ≤ (x3_1 : Int) := od_
      have q118 : x3_1 < (l0_0.length : Int) := od_
      obtain ⟨ad118, e118, hx118_0⟩ := Kd.at_int HR0_0.out x3_1 p118 q118
      have hw118_0 := hx118_0
      obtain rfl : ad115 = ad118 := (by injection e118)
      replace hx118_0 := hx_ HB hx118_0
      replace p118 := eq_true p118
      replace q118 := eq_true q118
      refine start_ (n := 26) (S := fun w' => w'.cell? ⟨gb113, 0, none⟩ = some (.slice (some ad115) l0_0.length c0_0) ∧ w'.cell? ⟨gb113, 1, none⟩ = some (.int .i64 a0_1) ∧ w'.cell? (ad115.add (x3_1).toNat) = some (.int .i64 (rd l0_0 x3_1)) ∧ w'.cell? (ad115.add (x3_1).toNat) = some (.int .i64 (rd l0_0 x3_1)) ∧ w'.cell? (ad115.add (x3_1).toNat) = some (.int .i64 (rd l0_0 x3_1))) (ds := []) (bt_ 0 26) (by kernel_rfl) rfl rfl ⟨(blk_cell BK113.out 0).trans rfl, (blk_cell BK113.out 1).trans rfl, (hy_ HB hw115_0), (hy_ HB hw116_0), (hy_ HB hw118_0)⟩ (fun hHeld => ?_); refine with_tabW spec_RowsOk.tab4 spec_RowsOk.bits4 (fun HT_ HW_ => ?_)
      generalize wr.drew = w13 at BK113 HB hx115_0 hx116_0 hx118_0 hHeld ⊢
      refine pu_ 0 11 (bt_ 1 26) ?_
      refine pu_ 2 13 (bt_ 5 26) ?_
      refine tk5_ 1 12 (bt_ 7 26) hHeld ?_
      refine pu_ 3 14 (bt_ 15 26) ?_
      refine tk5_ 4 15 (bt_ 31 26) hHeld ?_
      refine pu_ 5 16 (bt_ 63 26) ?_
      refine pu_ 6 17 (bt_ 127 26) ?_
      refine pu_ 7 18 (bt_ 255 26) ?_
      refine pu_ 9 20 (bt_ 767 26) ?_
      refine tk5_ 8 19 (bt_ 1023 26) hHeld ?_
      refine pu_ 10 21 (bt_ 2047 26) ?_
      refine tk5_ 11 22 (bt_ 4095 26) hHeld ?_
      refine one_ (i := 12) (N := some 23) (bt_ 8191 26) rfl rfl (one_of HT_.out (by kernel_rfl)) (by decide) (fun K hK => ?_)
      refine goes_ Try.func91 (by kernel_rfl) rfl #[.int .i64 (rd l0_0 x3_1)] (by rfl) rfl rfl al_ ?_
      with_reducible refine (spec_ValOk.calls (rd l0_0 x3_1) true _ A8.out).mono ?_
      rintro e w' ⟨rfl, ⟨nd, rfl⟩⟩
      refine ⟨_, rfl, ?_⟩
      refine hK.out _ _ ⟨(blk_cell BK113.out 0).trans rfl, (blk_cell BK113.out 1).trans rfl, (hy_ HB hw115_0), (hy_ HB hw116_0), (hy_ HB hw118_0)⟩ (fun hHeld => ?_)
      clear hK K
      refine norm_ (a' := ?_) ?_ ?_
      rotate_left
      ·
       show Act.put _ (some 23) _ = _
       simp only [Act.put, List.setIfInBounds_toArray, List.set_cons_zero, List.set_cons_succ, i64_w, i32_w]
       rfl
      refine pu_ 13 24 (bt_ 16383 26) ?_
      refine pu_ 14 25 (bt_ 32767 26) ?_
      refine pu_ 16 27 (bt_ 98303 26) ?_
      refine pu_ 18 29 (bt_ 360447 26) ?_
      refine pu_ 22 33 (bt_ 4554751 26) ?_
      refine tk5_ 15 26 (bt_ 4587519 26) hHeld ?_
      refine tk5_ 17 28 (bt_ 4718591 26) hHeld ?_
      refine pu_ 19 30 (bt_ 5242879 26) ?_
      refine tk5_ 20 31 (bt_ 6291455 26) hHeld ?_
      refine one_ (i := 21) (N := some 32) (bt_ 8388607 26) rfl rfl (one_of HT_.out (by kernel_rfl)) (by decide) (fun K hK => ?_)
      refine goes_ Try.func133 (by kernel_rfl) rfl #[.agg #[.slice (some ad115) l0_0.length c0_0, .int .i64 a0_1], .int .i64 (rd l0_0 x3_1)] (by rfl) rfl rfl al_ ?_
      with_reducible refine (spec_KeyOf.calls k1 _ _ l0_0 a0_1 (rd l0_0 x3_1) t119 _ ?side1 ?side2 A10.out).mono ?_
      (case side1 => exact cb_ (Kd.C_below HR0_0.out (hb_ HB)))
      (case side2 => exact HC0_0.out)
      rintro e w14 ⟨rfl, hb⟩
      refine ⟨_, rfl, ?_⟩
      replace BK113 := bb_ BK113 hb
      replace HB := hs_ HB hb
      (try clear hb)
      (try clear hb2)
      (try clear hk)
      (try clear hi)
      refine hK.out _ _ ⟨(blk_cell BK113.out 0).trans rfl, (blk_cell BK113.out 1).trans rfl, (hy_ HB hw115_0), (hy_ HB hw116_0), (hy_ HB hw118_0)⟩ (fun hHeld => ?_)
      clear hK K
      refine norm_ (a' := ?_) ?_ ?_
      rotate_left
      ·
       show Act.put _ (some 32) _ = _
       simp only [Act.put, List.setIfInBounds_toArray, List.set_cons_zero, List.set_cons_succ, i64_w, i32_w]
       rfl
      refine pu_ 23 34 (bt_ 16777215 26) ?_
      refine pu_ 24 35 (bt_ 33554431 26) ?_
      refine pu_ 25 36 (bt_ 67108863 26) ?_
      refine done_ (done_of HT_.out (by kernel_rfl)) ?_
      try go_wp2
      go_roundg k1
      case measure => have := HK1.out; omega
      case rel => exact ⟨(wrap64 (x3_1 + 1)), rt_, H', ⟨by have := HK1.out; omega⟩, ⟨bk_ BK113⟩, ⟨hb_ HB⟩⟩
     rw [if_neg c11] at H
     have c11b0 : (t119 == x3_1) = false := beq_eq_false_iff_ne.mpr c11
     have c11b1 : (t119 != x3_1) = true := bne_iff_ne.mpr c11
     obtain rfl := Option.some.inj H
     obtain ⟨hcz15_0, hcz15_1, hfz15_0, hfz15_1⟩ := cz2_ BK113
     try go_wp2
     replace BK113 := A_ (blk_drew BK113.out)
     replace HB := A_ (below_drew1 HB.out)
     have p115 : 0 ≤ (x3_1 : Int) := od_
     have q115 : x3_1 < (l0_0.length : Int) := od_
     obtain ⟨ad115, e115, hx115_0⟩ := Kd.at_int HR0_0.out x3_1 p115 q115
     have hw115_0 := hx115_0
     cases e115
     replace hx115_0 := hx_ HB hx115_0
     replace p115 := eq_true p115
     replace q115 := eq_true q115
     have p116 : 0 ≤ (x3_1 : Int) := od_
     have q116 : x3_1 < (l0_0.length : Int) := od_
     obtain ⟨ad116, e116, hx116_0⟩ := Kd.at_int HR0_0.out x3_1 p116 q116
     have hw116_0 := hx116_0
     obtain rfl : ad115 = ad116 := (by injection e116)
     replace hx116_0 := hx_ HB hx116_0
     replace p116 := eq_true p116
     replace q116 := eq_true q116
     have p118 : 0 ≤ (x3_1 : Int) := od_
     have q118 : x3_1 < (l0_0.length : Int) := od_
     obtain ⟨ad118, e118, hx118_0⟩ := Kd.at_int HR0_0.out x3_1 p118 q118
     have hw118_0 := hx118_0
     obtain rfl : ad115 = ad118 := (by injection e118)
     replace hx118_0 := hx_ HB hx118_0
     replace p118 := eq_true p118
     replace q118 := eq_true q118
     refine start_ (n := 26) (S := fun w' => w'.cell? ⟨gb113, 0, none⟩ = some (.slice (some ad115) l0_0.length c0_0) ∧ w'.cell? ⟨gb113, 1, none⟩ = some (.int .i64 a0_1) ∧ w'.cell? (ad115.add (x3_1).toNat) = some (.int .i64 (rd l0_0 x3_1)) ∧ w'.cell? (ad115.add (x3_1).toNat) = some (.int .i64 (rd l0_0 x3_1)) ∧ w'.cell? (ad115.add (x3_1).toNat) = some (.int .i64 (rd l0_0 x3_1))) (ds := []) (bt_ 0 26) (by kernel_rfl) rfl rfl ⟨(blk_cell BK113.out 0).trans rfl, (blk_cell BK113.out 1).trans rfl, (hy_ HB hw115_0), (hy_ HB hw116_0), (hy_ HB hw118_0)⟩ (fun hHeld => ?_); refine with_tabW spec_RowsOk.tab4 spec_RowsOk.bits4 (fun HT_ HW_ => ?_)
     generalize wr.drew = w16 at BK113 HB hx115_0 hx116_0 hx118_0 hHeld ⊢
     refine pu_ 0 11 (bt_ 1 26) ?_
     refine pu_ 2 13 (bt_ 5 26) ?_
     refine tk5_ 1 12 (bt_ 7 26) hHeld ?_
     refine pu_ 3 14 (bt_ 15 26) ?_
     refine tk5_ 4 15 (bt_ 31 26) hHeld ?_
     refine pu_ 5 16 (bt_ 63 26) ?_
     refine pu_ 6 17 (bt_ 127 26) ?_
     refine pu_ 7 18 (bt_ 255 26) ?_
     refine pu_ 9 20 (bt_ 767 26) ?_
     refine tk5_ 8 19 (bt_ 1023 26) hHeld ?_
     refine pu_ 10 21 (bt_ 2047 26) ?_
     refine tk5_ 11 22 (bt_ 4095 26) hHeld ?_
     refine one_ (i := 12) (N := some 23) (bt_ 8191 26) rfl rfl (one_of HT_.out (by kernel_rfl)) (by decide) (fun K hK => ?_)
     refine goes_ Try.func91 (by kernel_rfl) rfl #[.int .i64 (rd l0_0 x3_1)] (by rfl) rfl rfl al_ ?_
     with_reducible refine (spec_ValOk.calls (rd l0_0 x3_1) true _ A8.out).mono ?_
     rintro e w' ⟨rfl, ⟨nd, rfl⟩⟩
     refine ⟨_, rfl, ?_⟩
     refine hK.out _ _ ⟨(blk_cell BK113.out 0).trans rfl, (blk_cell BK113.out 1).trans rfl, (hy_ HB hw115_0), (hy_ HB hw116_0), (hy_ HB hw118_0)⟩ (fun hHeld => ?_)
     clear hK K
     refine norm_ (a' := ?_) ?_ ?_
     rotate_left
     ·
      show Act.put _ (some 23) _ = _
      simp only [Act.put, List.setIfInBounds_toArray, List.set_cons_zero, List.set_cons_succ, i64_w, i32_w]
      rfl
     refine pu_ 13 24 (bt_ 16383 26) ?_
     refine pu_ 14 25 (bt_ 32767 26) ?_
     refine pu_ 16 27 (bt_ 98303 26) ?_
     refine pu_ 18 29 (bt_ 360447 26) ?_
     refine pu_ 22 33 (bt_ 4554751 26) ?_
     refine tk5_ 15 26 (bt_ 4587519 26) hHeld ?_
     refine tk5_ 17 28 (bt_ 4718591 26) hHeld ?_
     refine pu_ 19 30 (bt_ 5242879 26) ?_
     refine tk5_ 20 31 (bt_ 6291455 26) hHeld ?_
     refine one_ (i := 21) (N := some 32) (bt_ 8388607 26) rfl rfl (one_of HT_.out (by kernel_rfl)) (by decide) (fun K hK => ?_)
     refine goes_ Try.func133 (by kernel_rfl) rfl #[.agg #[.slice (some ad115) l0_0.length c0_0, .int .i64 a0_1], .int .i64 (rd l0_0 x3_1)] (by rfl) rfl rfl al_ ?_
     with_reducible refine (spec_KeyOf.calls k1 _ _ l0_0 a0_1 (rd l0_0 x3_1) t119 _ ?side1 ?side2 A10.out).mono ?_
     (case side1 => exact cb_ (Kd.C_below HR0_0.out (hb_ HB)))
     (case side2 => exact HC0_0.out)
     rintro e w17 ⟨rfl, hb⟩
     refine ⟨_, rfl, ?_⟩
     replace BK113 := bb_ BK113 hb
     replace HB := hs_ HB hb
     (try clear hb)
     (try clear hb2)
     (try clear hk)
     (try clear hi)
     refine hK.out _ _ ⟨(blk_cell BK113.out 0).trans rfl, (blk_cell BK113.out 1).trans rfl, (hy_ HB hw115_0), (hy_ HB hw116_0), (hy_ HB hw118_0)⟩ (fun hHeld => ?_)
     clear hK K
     refine norm_ (a' := ?_) ?_ ?_
     rotate_left
     ·
      show Act.put _ (some 32) _ = _
      simp only [Act.put, List.setIfInBounds_toArray, List.set_cons_zero, List.set_cons_succ, i64_w, i32_w]
      rfl
     refine pu_ 23 34 (bt_ 16777215 26) ?_
     refine pu_ 24 35 (bt_ 33554431 26) ?_
     refine pu_ 25 36 (bt_ 67108863 26) ?_
     refine done_ (done_of HT_.out (by kernel_rfl)) ?_
     try go_wp2
     go_ret
     exact ⟨rs_, hb_ HB⟩
    obtain rfl := Bool.eq_false_iff.mpr c9
    replace H := iF_ H
    obtain rfl := Option.some.inj H
    obtain ⟨hcz18_0, hcz18_1, hfz18_0, hfz18_1⟩ := cz2_ BK113
    try go_wp2
    replace BK113 := A_ (blk_drew BK113.out)
    replace HB := A_ (below_drew1 HB.out)
    have p115 : 0 ≤ (x3_1 : Int) := od_
    have q115 : x3_1 < (l0_0.length : Int) := od_
    obtain ⟨ad115, e115, hx115_0⟩ := Kd.at_int HR0_0.out x3_1 p115 q115
    have hw115_0 := hx115_0
    cases e115
    replace hx115_0 := hx_ HB hx115_0
    replace p115 := eq_true p115
    replace q115 := eq_true q115
    have p116 : 0 ≤ (x3_1 : Int) := od_
    have q116 : x3_1 < (l0_0.length : Int) := od_
    obtain ⟨ad116, e116, hx116_0⟩ := Kd.at_int HR0_0.out x3_1 p116 q116
    have hw116_0 := hx116_0
    obtain rfl : ad115 = ad116 := (by injection e116)
    replace hx116_0 := hx_ HB hx116_0
    replace p116 := eq_true p116
    replace q116 := eq_true q116
    refine start_ (n := 26) (S := fun w' => w'.cell? ⟨gb113, 0, none⟩ = some (.slice (some ad115) l0_0.length c0_0) ∧ w'.cell? ⟨gb113, 1, none⟩ = some (.int .i64 a0_1) ∧ w'.cell? (ad115.add (x3_1).toNat) = some (.int .i64 (rd l0_0 x3_1)) ∧ w'.cell? (ad115.add (x3_1).toNat) = some (.int .i64 (rd l0_0 x3_1))) (ds := []) (bt_ 0 26) (by kernel_rfl) rfl rfl ⟨(blk_cell BK113.out 0).trans rfl, (blk_cell BK113.out 1).trans rfl, (hy_ HB hw115_0), (hy_ HB hw116_0)⟩ (fun hHeld => ?_); refine with_tabW spec_RowsOk.tab4 spec_RowsOk.bits4 (fun HT_ HW_ => ?_)
    generalize wr.drew = w19 at BK113 HB hx115_0 hx116_0 hHeld ⊢
    refine pu_ 0 11 (bt_ 1 26) ?_
    refine pu_ 2 13 (bt_ 5 26) ?_
    refine tk4_ 1 12 (bt_ 7 26) hHeld ?_
    refine pu_ 3 14 (bt_ 15 26) ?_
    refine tk4_ 4 15 (bt_ 31 26) hHeld ?_
    refine pu_ 5 16 (bt_ 63 26) ?_
    refine pu_ 6 17 (bt_ 127 26) ?_
    refine pu_ 7 18 (bt_ 255 26) ?_
    refine pu_ 9 20 (bt_ 767 26) ?_
    refine tk4_ 8 19 (bt_ 1023 26) hHeld ?_
    refine pu_ 10 21 (bt_ 2047 26) ?_
    refine tk4_ 11 22 (bt_ 4095 26) hHeld ?_
    refine one_ (i := 12) (N := some 23) (bt_ 8191 26) rfl rfl (one_of HT_.out (by kernel_rfl)) (by decide) (fun K hK => ?_)
    refine goes_ Try.func91 (by kernel_rfl) rfl #[.int .i64 (rd l0_0 x3_1)] (by rfl) rfl rfl al_ ?_
    with_reducible refine (spec_ValOk.calls (rd l0_0 x3_1) false _ A8.out).mono ?_
    rintro e w' ⟨rfl, ⟨nd, rfl⟩⟩
    refine ⟨_, rfl, ?_⟩
    refine hK.out _ _ ⟨(blk_cell BK113.out 0).trans rfl, (blk_cell BK113.out 1).trans rfl, (hy_ HB hw115_0), (hy_ HB hw116_0)⟩ (fun hHeld => ?_)
    clear hK K
    refine norm_ (a' := ?_) ?_ ?_
    rotate_left
    ·
     show Act.put _ (some 23) _ = _
     simp only [Act.put, List.setIfInBounds_toArray, List.set_cons_zero, List.set_cons_succ, i64_w, i32_w]
     rfl
    refine pu_ 13 24 (bt_ 16383 26) ?_
    refine pu_ 14 25 (bt_ 32767 26) ?_
    refine pn_ 15 26 (bt_ 65535 26) ?_
    refine pn_ 16 27 (bt_ 131071 26) ?_
    refine pn_ 17 28 (bt_ 262143 26) ?_
    refine pn_ 18 29 (bt_ 524287 26) ?_
    refine pn_ 19 30 (bt_ 1048575 26) ?_
    refine pn_ 20 31 (bt_ 2097151 26) ?_
    refine pn_ 21 32 (bt_ 4194303 26) ?_
    refine pn_ 22 33 (bt_ 8388607 26) ?_
    refine pn_ 23 34 (bt_ 16777215 26) ?_
    refine pu_ 24 35 (bt_ 33554431 26) ?_
    refine pu_ 25 36 (bt_ 67108863 26) ?_
    refine done_ (done_of HT_.out (by kernel_rfl)) ?_
    try go_wp2
    go_ret
    exact ⟨rs_, hb_ HB⟩
   by_cases c20 : (l0_0.length : Int) = 4
   ·
    rw [if_pos c20] at H
    have c20b0 : ((l0_0.length : Int) == 4) = true := beq_iff_eq.mpr c20
    have c20b1 : ((l0_0.length : Int) != 4) = false := bne_eq_false_iff_eq.mpr c20
    clear c20
    replace H := bs_ H
    obtain ⟨t114, A21, H⟩ := H
    obtain rfl := Option.some.inj H
    obtain ⟨hcz22_0, hcz22_1, hfz22_0, hfz22_1⟩ := cz2_ BK113
    go_wp2_with (first | (go_at_call 87; (with_reducible refine (spec_l1In.calls a0_1 0 5 t114 _ A21.out).mono ?_); rintro e w' ⟨rfl, ⟨nd, rfl⟩⟩))
    go_ret
    exact ⟨rs_, hb_ HB⟩
   rw [if_neg c20] at H
   have c20b0 : ((l0_0.length : Int) == 4) = false := beq_eq_false_iff_ne.mpr c20
   have c20b1 : ((l0_0.length : Int) != 4) = true := bne_iff_ne.mpr c20
   obtain rfl := Option.some.inj H
   obtain ⟨hcz23_0, hcz23_1, hfz23_0, hfz23_1⟩ := cz2_ BK113
   go_wp2
   go_ret
   exact ⟨rs_, hb_ HB⟩

end Go.Proofs.Ytmkhghbalnadlaa.PFnAllowed
