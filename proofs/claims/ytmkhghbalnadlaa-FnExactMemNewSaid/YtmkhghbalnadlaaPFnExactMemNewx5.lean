/- Contracts of functions of the program: each says that the call does what a plain Lean function tells. Made by programs of this session and of the kit. No condition beyond the hypotheses that each theorem names. -/
import Derived.Test.YtmkhghbalnadlaaPFnExactMemNewx0
import Derived.Test.YtmkhghbalnadlaaPFnExactMemNewx2
import Derived.Test.YtmkhghbalnadlaaPFnExactMemNewx4
namespace Go.Proofs.Ytmkhghbalnadlaa.PFnExactMemNew
open Go.RowKit Go.Proofs.YtmkhghbalnadlaaW.PrintWords Go.Proofs.YtmkhghbalnadlaaW.PrintLast Go.Proofs.YtmkhghbalnadlaaW.PrintMore
attribute [local go_sem] max2_int min2_int max_two min_two max_three min_three max_four min_four   -- for this text's walks alone
set_option linter.unusedVariables false
set_option linter.unusedSimpArgs false

/-! ### spec_RowsOk: function 80 -/
def spec_RowsOk.l0 : Nat → Int → List Int → Int → Option (Bool)
 | 0, _, _, _ => none
 | k + 1, x3, x182000, x182001 => if x3 < (x182000.length : Int) then (if 0 ≤ x3 then (if (rd x182000 x3) = 0 then (spec_RowsOk.l0 k (wrap64 (x3 + 1)) x182000 x182001) else ((spec_ValOk.f (rd x182000 x3)).bind fun t185 => (if t185 = true then ((spec_KeyOf.f k x182000 x182001 (rd x182000 x3)).bind fun t187 => (if t187 = x3 then (spec_RowsOk.l0 k (wrap64 (x3 + 1)) x182000 x182001) else (some false))) else (some false)))) else (none)) else (if (x182000.length : Int) = 4 then ((spec_l1In.f x182001 0 5).bind fun t182 => (some t182)) else (some false))
def spec_RowsOk.f (k : Nat) (l0_0 : List Int) (a0_1 : Int) : Option (Bool) := spec_RowsOk.l0 k 0 l0_0 a0_1
theorem spec_RowsOk.mono_l : ∀ k, (∀ y0 y1 y2, LeO (spec_RowsOk.l0 k y0 y1 y2) (spec_RowsOk.l0 (k + 1) y0 y1 y2))
 | 0 => fun _ _ _ r h => by simp [spec_RowsOk.l0] at h
 | k + 1 => by
  have ih0 := spec_RowsOk.mono_l k
  ·
   intro y0 y1 y2
   unfold spec_RowsOk.l0
   repeat' first | (with_reducible first | apply ih0 | apply spec_KeyOf.mono | apply LeO.refl | apply LeO.none | apply LeO.ite | refine LeO.bind ?_ (fun _ => ?_)) | apply ih0 | apply spec_KeyOf.mono | apply LeO.none | apply LeO.ite | refine LeO.bind ?_ (fun _ => ?_)
theorem spec_RowsOk.mono : ∀ a0 a1 k, LeO (spec_RowsOk.f k a0 a1) (spec_RowsOk.f (k + 1) a0 a1) := by
 intro a0 a1 k
 have ih0 := spec_RowsOk.mono_l k
 unfold spec_RowsOk.f
 repeat' first | (with_reducible first | apply ih0 | apply spec_KeyOf.mono | apply LeO.refl | apply LeO.none | apply LeO.ite | refine LeO.bind ?_ (fun _ => ?_)) | apply ih0 | apply spec_KeyOf.mono | apply LeO.none | apply LeO.ite | refine LeO.bind ?_ (fun _ => ?_)
def spec_RowsOk.T4 : Bool × List (List Nat × List Nat) := (true, [([], []), ([0], [0]), ([], []), ([1, 2], [1, 2]), ([3], [3]), ([4], [4]), ([5], [5]), ([6], [6]), ([7, 6], [6, 7]), ([6], [6]), ([8, 9, 6], [6, 8, 9]), ([10, 6], [6, 10]), ([11, 6, 6], [6, 11]), ([12, 6], [6, 12]), ([13, 12, 6], [6, 13]), ([14], [14]), ([14], [14]), ([16, 14], [14, 16]), ([14], [14]), ([17, 18, 14], [14, 17, 18]), ([19, 14], [14, 19]), ([15, 20, 14, 14], [14, 15, 20]), ([14], [14]), ([21, 22, 14], [14, 21, 22]), ([14, 23, 6], [6, 14, 23]), ([6, 24], [6, 24])])
def spec_RowsOk.B4 : List Nat := [0, 1, 0, 7, 15, 31, 63, 127, 255, 127, 1023, 2047, 4095, 8191, 16383, 32767, 32767, 98303, 32767, 491519, 1015807, 2097151, 32767, 8388607, 16777215, 33554431]
theorem spec_RowsOk.tab4 : rtab .any (opsOf Try.f80 4) = spec_RowsOk.T4 := by kernel_rfl
theorem spec_RowsOk.bits4 : waitsOk spec_RowsOk.T4.2 spec_RowsOk.B4 = true := by kernel_rfl
set_option maxHeartbeats 8000000 in
set_option maxRecDepth 100000 in
theorem spec_RowsOk.calls (k : Nat) (A0_0 : Option Addr) (c0_0 : Nat) (l0_0 : List Int) (a0_1 : Int) (r : Bool) (w : World) (hr0_0 : Kd.C (Kd.int .i64) w A0_0 l0_0.length l0_0) (hc0_0 : l0_0.length ≤ c0_0) (h : spec_RowsOk.f k l0_0 a0_1 = some r) :
    Calls Try.prog 80 #[.agg #[.slice A0_0 l0_0.length c0_0, .int .i64 a0_1]] w fun e w' => e = .returned (.bool r) ∧ Below w.heap.size w w' := by
 have hu44 := Try.underlying44
 have HR0_0 := A_ hr0_0
 have HC0_0 := A_ hc0_0
 clear hr0_0 hc0_0
 have HB := A_ (Below.refl w.heap.size w)
 have H : (spec_RowsOk.l0 k 0 l0_0 a0_1) = some r := h
 clear h
 replace H' := A_ H; clear H
 go_enter Try.func80, Try.ntmps80
 go_wp2_with (first | ((with_reducible refine gate_dst (N := 1) rfl ?_); refine bx_ HB rfl (N := 1) rfl (cs := #[.slice A0_0 l0_0.length c0_0, .int .i64 a0_1]) (t := 44) hr_ ?_; clear HB; intro gb181 w2 hg hb BK181 GW181 HB; clear hb hg))
 go_loopg [3] k (fun kq v3 w' => ∃ (x3_1 : Int), v3 = .int .i64 x3_1 ∧ Aside0 (spec_RowsOk.l0 kq x3_1 l0_0 a0_1 = some r) ∧ Aside0 (kq ≤ k) ∧ Aside0 (w'.heap[gb181]? = some (.cells #[(.slice A0_0 l0_0.length c0_0), .int .i64 a0_1] 44 (0, 0))) ∧ Aside0 (Below w.heap.size w w'))
 case atStart => exact ⟨(0), rt_, H', ⟨Nat.le_refl _⟩, ⟨bk_ BK181⟩, ⟨hb_ HB⟩⟩
 case round =>
  clear H'
  obtain ⟨x3_1, rfl, HA, HK1, BK181, HB⟩ := hrel
  cases gk with
  | zero => exact absurd HA.out (by simp [spec_RowsOk.l0])
  | succ k1 =>
   have H := HA.out
   clear HA
   simp only [spec_RowsOk.l0] at H
   replace H := ic_ H
   rcases H with ⟨c3b0, H⟩ | ⟨c3b0, H⟩
   ·
    replace H := ix_ H
    obtain ⟨c4b0, H⟩ := H
    by_cases c5 : (rd l0_0 x3_1) = 0
    ·
     rw [if_pos c5] at H
     have c5b0 : ((rd l0_0 x3_1) == 0) = true := beq_iff_eq.mpr c5
     have c5b1 : ((rd l0_0 x3_1) != 0) = false := bne_eq_false_iff_eq.mpr c5
     clear c5
     replace H' := A_ H; clear H
     obtain ⟨hcz6_0, hcz6_1, hfz6_0, hfz6_1⟩ := cz2_ BK181
     try go_wp2
     replace BK181 := A_ (blk_drew BK181.out)
     replace HB := A_ (below_drew1 HB.out)
     have p183 : 0 ≤ (x3_1 : Int) := od_
     have q183 : x3_1 < (l0_0.length : Int) := od_
     obtain ⟨ad183, e183, hx183_0⟩ := Kd.at_int HR0_0.out x3_1 p183 q183
     have hw183_0 := hx183_0
     cases e183
     replace hx183_0 := hx_ HB hx183_0
     replace p183 := eq_true p183
     replace q183 := eq_true q183
     refine start_ (n := 26) (S := fun w' => w'.cell? ⟨gb181, 0, none⟩ = some (.slice (some ad183) l0_0.length c0_0) ∧ w'.cell? ⟨gb181, 1, none⟩ = some (.int .i64 a0_1) ∧ w'.cell? (ad183.add (x3_1).toNat) = some (.int .i64 (rd l0_0 x3_1))) (ds := []) (bt_ 0 26) (by kernel_rfl) rfl rfl ⟨(blk_cell BK181.out 0).trans rfl, (blk_cell BK181.out 1).trans rfl, (hy_ HB hw183_0)⟩ (fun hHeld => ?_); refine with_tabW spec_RowsOk.tab4 spec_RowsOk.bits4 (fun HT_ HW_ => ?_)
     generalize wr.drew = w7 at BK181 HB hx183_0 hHeld ⊢
     refine pu_ 0 11 (bt_ 1 26) ?_
     refine pu_ 2 13 (bt_ 5 26) ?_
     refine tk3_ 1 12 (bt_ 7 26) hHeld ?_
     refine pu_ 3 14 (bt_ 15 26) ?_
     refine tk3_ 4 15 (bt_ 31 26) hHeld ?_
     refine pu_ 5 16 (bt_ 63 26) ?_
     refine pu_ 6 17 (bt_ 127 26) ?_
     refine pn_ 7 18 (bt_ 255 26) ?_
     refine pn_ 8 19 (bt_ 511 26) ?_
     refine pn_ 9 20 (bt_ 1023 26) ?_
     refine pn_ 10 21 (bt_ 2047 26) ?_
     refine pn_ 11 22 (bt_ 4095 26) ?_
     refine pn_ 12 23 (bt_ 8191 26) ?_
     refine pn_ 13 24 (bt_ 16383 26) ?_
     refine pn_ 14 25 (bt_ 32767 26) ?_
     refine pn_ 15 26 (bt_ 65535 26) ?_
     refine pn_ 16 27 (bt_ 131071 26) ?_
     refine pn_ 17 28 (bt_ 262143 26) ?_
     refine pn_ 18 29 (bt_ 524287 26) ?_
     refine pn_ 19 30 (bt_ 1048575 26) ?_
     refine pn_ 20 31 (bt_ 2097151 26) ?_
     refine pn_ 21 32 (bt_ 4194303 26) ?_
     refine pn_ 22 33 (bt_ 8388607 26) ?_
     refine pn_ 23 34 (bt_ 16777215 26) ?_
     refine pn_ 24 35 (bt_ 33554431 26) ?_
     refine pu_ 25 36 (bt_ 67108863 26) ?_
     refine done_ (done_of HT_.out (by kernel_rfl)) ?_
     try go_wp2
     go_roundg k1
     case measure => have := HK1.out; omega
     case rel => exact ⟨(wrap64 (x3_1 + 1)), rt_, H', ⟨by have := HK1.out; omega⟩, ⟨bk_ BK181⟩, ⟨hb_ HB⟩⟩
    rw [if_neg c5] at H
    have c5b0 : ((rd l0_0 x3_1) == 0) = false := beq_eq_false_iff_ne.mpr c5
    have c5b1 : ((rd l0_0 x3_1) != 0) = true := bne_iff_ne.mpr c5
    replace H := bs_ H
    obtain ⟨t185, A8, H⟩ := H
    by_cases c9 : t185 = true
    ·
     subst c9
     replace H := it_ H
     replace H := bs_ H
     obtain ⟨t187, A10, H⟩ := H
     by_cases c11 : t187 = x3_1
     ·
      rw [if_pos c11] at H
      have c11b0 : (t187 == x3_1) = true := beq_iff_eq.mpr c11
      have c11b1 : (t187 != x3_1) = false := bne_eq_false_iff_eq.mpr c11
      clear c11
      replace H' := A_ H; clear H
      obtain ⟨hcz12_0, hcz12_1, hfz12_0, hfz12_1⟩ := cz2_ BK181
      try go_wp2
      replace BK181 := A_ (blk_drew BK181.out)
      replace HB := A_ (below_drew1 HB.out)
      have p183 : 0 ≤ (x3_1 : Int) := od_
      have q183 : x3_1 < (l0_0.length : Int) := od_
      obtain ⟨ad183, e183, hx183_0⟩ := Kd.at_int HR0_0.out x3_1 p183 q183
      have hw183_0 := hx183_0
      cases e183
      replace hx183_0 := hx_ HB hx183_0
      replace p183 := eq_true p183
      replace q183 := eq_true q183
      have p184 : 0 ≤ (x3_1 : Int) := od_
      have q184 : x3_1 < (l0_0.length : Int) := od_
      obtain ⟨ad184, e184, hx184_0⟩ := Kd.at_int HR0_0.out x3_1 p184 q184
      have hw184_0 := hx184_0
      obtain rfl : ad183 = ad184 := (by injection e184)
      replace hx184_0 := hx_ HB hx184_0
      replace p184 := eq_true p184
      replace q184 := eq_true q184
      have p186 : 0 ≤ (x3_1 : Int) := od_
      have q186 : x3_1 < (l0_0.length : Int) := od_
      obtain ⟨ad186, e186, hx186_0⟩ := Kd.at_int HR0_0.out x3_1 p186 q186
      have hw186_0 := hx186_0
      obtain rfl : ad183 = ad186 := (by injection e186)
      replace hx186_0 := hx_ HB hx186_0
      replace p186 := eq_true p186
      replace q186 := eq_true q186
      refine start_ (n := 26) (S := fun w' => w'.cell? ⟨gb181, 0, none⟩ = some (.slice (some ad183) l0_0.length c0_0) ∧ w'.cell? ⟨gb181, 1, none⟩ = some (.int .i64 a0_1) ∧ w'.cell? (ad183.add (x3_1).toNat) = some (.int .i64 (rd l0_0 x3_1)) ∧ w'.cell? (ad183.add (x3_1).toNat) = some (.int .i64 (rd l0_0 x3_1)) ∧ w'.cell? (ad183.add (x3_1).toNat) = some (.int .i64 (rd l0_0 x3_1))) (ds := []) (bt_ 0 26) (by kernel_rfl) rfl rfl ⟨(blk_cell BK181.out 0).trans rfl, (blk_cell BK181.out 1).trans rfl, (hy_ HB hw183_0), (hy_ HB hw184_0), (hy_ HB hw186_0)⟩ (fun hHeld => ?_); refine with_tabW spec_RowsOk.tab4 spec_RowsOk.bits4 (fun HT_ HW_ => ?_)
      generalize wr.drew = w13 at BK181 HB hx183_0 hx184_0 hx186_0 hHeld ⊢
      refine pu_ 0 11 (bt_ 1 26) ?_
      refine pu_ 2 13 (bt_ 5 26) ?_
      refine tk5_ 1 12 (bt_ 7 26) hHeld ?_
      refine pu_ 3 14 (bt_ 15 26) ?_
      refine tk5_ 4 15 (bt_ 31 26) hHeld ?_
      refine pu_ 5 16 (bt_ 63 26) ?_
      refine pu_ 6 17 (bt_ 127 26) ?_
      refine pu_ 7 18 (bt_ 255 26) ?_
      refine pu_ 9 20 (bt_ 767 26) ?_
      refine tk5_ 8 19 (bt_ 1023 26) hHeld ?_
      refine pu_ 10 21 (bt_ 2047 26) ?_
      refine tk5_ 11 22 (bt_ 4095 26) hHeld ?_
      refine one_ (i := 12) (N := some 23) (bt_ 8191 26) rfl rfl (one_of HT_.out (by kernel_rfl)) (by decide) (fun K hK => ?_)
      refine goes_ Try.func91 (by kernel_rfl) rfl #[.int .i64 (rd l0_0 x3_1)] (by rfl) rfl rfl al_ ?_
      with_reducible refine (spec_ValOk.calls (rd l0_0 x3_1) true _ A8.out).mono ?_
      rintro e w' ⟨rfl, ⟨nd, rfl⟩⟩
      refine ⟨_, rfl, ?_⟩
      refine hK.out _ _ ⟨(blk_cell BK181.out 0).trans rfl, (blk_cell BK181.out 1).trans rfl, (hy_ HB hw183_0), (hy_ HB hw184_0), (hy_ HB hw186_0)⟩ (fun hHeld => ?_)
      clear hK K
      refine norm_ (a' := ?_) ?_ ?_
      rotate_left
      ·
       show Act.put _ (some 23) _ = _
       simp only [Act.put, List.setIfInBounds_toArray, List.set_cons_zero, List.set_cons_succ, i64_w, i32_w]
       rfl
      refine pu_ 13 24 (bt_ 16383 26) ?_
      refine pu_ 14 25 (bt_ 32767 26) ?_
      refine pu_ 16 27 (bt_ 98303 26) ?_
      refine pu_ 18 29 (bt_ 360447 26) ?_
      refine pu_ 22 33 (bt_ 4554751 26) ?_
      refine tk5_ 15 26 (bt_ 4587519 26) hHeld ?_
      refine tk5_ 17 28 (bt_ 4718591 26) hHeld ?_
      refine pu_ 19 30 (bt_ 5242879 26) ?_
      refine tk5_ 20 31 (bt_ 6291455 26) hHeld ?_
      refine one_ (i := 21) (N := some 32) (bt_ 8388607 26) rfl rfl (one_of HT_.out (by kernel_rfl)) (by decide) (fun K hK => ?_)
      refine goes_ Try.func133 (by kernel_rfl) rfl #[.agg #[.slice (some ad183) l0_0.length c0_0, .int .i64 a0_1], .int .i64 (rd l0_0 x3_1)] (by rfl) rfl rfl al_ ?_
      with_reducible refine (spec_KeyOf.calls k1 _ _ l0_0 a0_1 (rd l0_0 x3_1) t187 _ ?side1 ?side2 A10.out).mono ?_
      (case side1 => exact cb_ (Kd.C_below HR0_0.out (hb_ HB)))
      (case side2 => exact HC0_0.out)
      rintro e w14 ⟨rfl, hb⟩
      refine ⟨_, rfl, ?_⟩
      replace BK181 := bb_ BK181 hb
      replace HB := hs_ HB hb
      (try clear hb)
      (try clear hb2)
      (try clear hk)
      (try clear hi)
      refine hK.out _ _ ⟨(blk_cell BK181.out 0).trans rfl, (blk_cell BK181.out 1).trans rfl, (hy_ HB hw183_0), (hy_ HB hw184_0), (hy_ HB hw186_0)⟩ (fun hHeld => ?_)
      clear hK K
      refine norm_ (a' := ?_) ?_ ?_
      rotate_left
      ·
       show Act.put _ (some 32) _ = _
       simp only [Act.put, List.setIfInBounds_toArray, List.set_cons_zero, List.set_cons_succ, i64_w, i32_w]
       rfl
      refine pu_ 23 34 (bt_ 16777215 26) ?_
      refine pu_ 24 35 (bt_ 33554431 26) ?_
      refine pu_ 25 36 (bt_ 67108863 26) ?_
      refine done_ (done_of HT_.out (by kernel_rfl)) ?_
      try go_wp2
      go_roundg k1
      case measure => have := HK1.out; omega
      case rel => exact ⟨(wrap64 (x3_1 + 1)), rt_, H', ⟨by have := HK1.out; omega⟩, ⟨bk_ BK181⟩, ⟨hb_ HB⟩⟩
     rw [if_neg c11] at H
     have c11b0 : (t187 == x3_1) = false := beq_eq_false_iff_ne.mpr c11
     have c11b1 : (t187 != x3_1) = true := bne_iff_ne.mpr c11
     obtain rfl := Option.some.inj H
     obtain ⟨hcz15_0, hcz15_1, hfz15_0, hfz15_1⟩ := cz2_ BK181
     try go_wp2
     replace BK181 := A_ (blk_drew BK181.out)
     replace HB := A_ (below_drew1 HB.out)
     have p183 : 0 ≤ (x3_1 : Int) := od_
     have q183 : x3_1 < (l0_0.length : Int) := od_
     obtain ⟨ad183, e183, hx183_0⟩ := Kd.at_int HR0_0.out x3_1 p183 q183
     have hw183_0 := hx183_0
     cases e183
     replace hx183_0 := hx_ HB hx183_0
     replace p183 := eq_true p183
     replace q183 := eq_true q183
     have p184 : 0 ≤ (x3_1 : Int) := od_
     have q184 : x3_1 < (l0_0.length : Int) := od_
     obtain ⟨ad184, e184, hx184_0⟩ := Kd.at_int HR0_0.out x3_1 p184 q184
     have hw184_0 := hx184_0
     obtain rfl : ad183 = ad184 := (by injection e184)
     replace hx184_0 := hx_ HB hx184_0
     replace p184 := eq_true p184
     replace q184 := eq_true q184
     have p186 : 0 ≤ (x3_1 : Int) := od_
     have q186 : x3_1 < (l0_0.length : Int) := od_
     obtain ⟨ad186, e186, hx186_0⟩ := Kd.at_int HR0_0.out x3_1 p186 q186
     have hw186_0 := hx186_0
     obtain rfl : ad183 = ad186 := (by injection e186)
     replace hx186_0 := hx_ HB hx186_0
     replace p186 := eq_true p186
     replace q186 := eq_true q186
     refine start_ (n := 26) (S := fun w' => w'.cell? ⟨gb181, 0, none⟩ = some (.slice (some ad183) l0_0.length c0_0) ∧ w'.cell? ⟨gb181, 1, none⟩ = some (.int .i64 a0_1) ∧ w'.cell? (ad183.add (x3_1).toNat) = some (.int .i64 (rd l0_0 x3_1)) ∧ w'.cell? (ad183.add (x3_1).toNat) = some (.int .i64 (rd l0_0 x3_1)) ∧ w'.cell? (ad183.add (x3_1).toNat) = some (.int .i64 (rd l0_0 x3_1))) (ds := []) (bt_ 0 26) (by kernel_rfl) rfl rfl ⟨(blk_cell BK181.out 0).trans rfl, (blk_cell BK181.out 1).trans rfl, (hy_ HB hw183_0), (hy_ HB hw184_0), (hy_ HB hw186_0)⟩ (fun hHeld => ?_); refine with_tabW spec_RowsOk.tab4 spec_RowsOk.bits4 (fun HT_ HW_ => ?_)
     generalize wr.drew = w16 at BK181 HB hx183_0 hx184_0 hx186_0 hHeld ⊢
     refine pu_ 0 11 (bt_ 1 26) ?_
     refine pu_ 2 13 (bt_ 5 26) ?_
     refine tk5_ 1 12 (bt_ 7 26) hHeld ?_
     refine pu_ 3 14 (bt_ 15 26) ?_
     refine tk5_ 4 15 (bt_ 31 26) hHeld ?_
     refine pu_ 5 16 (bt_ 63 26) ?_
     refine pu_ 6 17 (bt_ 127 26) ?_
     refine pu_ 7 18 (bt_ 255 26) ?_
     refine pu_ 9 20 (bt_ 767 26) ?_
     refine tk5_ 8 19 (bt_ 1023 26) hHeld ?_
     refine pu_ 10 21 (bt_ 2047 26) ?_
     refine tk5_ 11 22 (bt_ 4095 26) hHeld ?_
     refine one_ (i := 12) (N := some 23) (bt_ 8191 26) rfl rfl (one_of HT_.out (by kernel_rfl)) (by decide) (fun K hK => ?_)
     refine goes_ Try.func91 (by kernel_rfl) rfl #[.int .i64 (rd l0_0 x3_1)] (by rfl) rfl rfl al_ ?_
     with_reducible refine (spec_ValOk.calls (rd l0_0 x3_1) true _ A8.out).mono ?_
     rintro e w' ⟨rfl, ⟨nd, rfl⟩⟩
     refine ⟨_, rfl, ?_⟩
     refine hK.out _ _ ⟨(blk_cell BK181.out 0).trans rfl, (blk_cell BK181.out 1).trans rfl, (hy_ HB hw183_0), (hy_ HB hw184_0), (hy_ HB hw186_0)⟩ (fun hHeld => ?_)
     clear hK K
     refine norm_ (a' := ?_) ?_ ?_
     rotate_left
     ·
      show Act.put _ (some 23) _ = _
      simp only [Act.put, List.setIfInBounds_toArray, List.set_cons_zero, List.set_cons_succ, i64_w, i32_w]
      rfl
     refine pu_ 13 24 (bt_ 16383 26) ?_
     refine pu_ 14 25 (bt_ 32767 26) ?_
     refine pu_ 16 27 (bt_ 98303 26) ?_
     refine pu_ 18 29 (bt_ 360447 26) ?_
     refine pu_ 22 33 (bt_ 4554751 26) ?_
     refine tk5_ 15 26 (bt_ 4587519 26) hHeld ?_
     refine tk5_ 17 28 (bt_ 4718591 26) hHeld ?_
     refine pu_ 19 30 (bt_ 5242879 26) ?_
     refine tk5_ 20 31 (bt_ 6291455 26) hHeld ?_
     refine one_ (i := 21) (N := some 32) (bt_ 8388607 26) rfl rfl (one_of HT_.out (by kernel_rfl)) (by decide) (fun K hK => ?_)
     refine goes_ Try.func133 (by kernel_rfl) rfl #[.agg #[.slice (some ad183) l0_0.length c0_0, .int .i64 a0_1], .int .i64 (rd l0_0 x3_1)] (by rfl) rfl rfl al_ ?_
     with_reducible refine (spec_KeyOf.calls k1 _ _ l0_0 a0_1 (rd l0_0 x3_1) t187 _ ?side1 ?side2 A10.out).mono ?_
     (case side1 => exact cb_ (Kd.C_below HR0_0.out (hb_ HB)))
     (case side2 => exact HC0_0.out)
     rintro e w17 ⟨rfl, hb⟩
     refine ⟨_, rfl, ?_⟩
     replace BK181 := bb_ BK181 hb
     replace HB := hs_ HB hb
     (try clear hb)
     (try clear hb2)
     (try clear hk)
     (try clear hi)
     refine hK.out _ _ ⟨(blk_cell BK181.out 0).trans rfl, (blk_cell BK181.out 1).trans rfl, (hy_ HB hw183_0), (hy_ HB hw184_0), (hy_ HB hw186_0)⟩ (fun hHeld => ?_)
     clear hK K
     refine norm_ (a' := ?_) ?_ ?_
     rotate_left
     ·
      show Act.put _ (some 32) _ = _
      simp only [Act.put, List.setIfInBounds_toArray, List.set_cons_zero, List.set_cons_succ, i64_w, i32_w]
      rfl
     refine pu_ 23 34 (bt_ 16777215 26) ?_
     refine pu_ 24 35 (bt_ 33554431 26) ?_
     refine pu_ 25 36 (bt_ 67108863 26) ?_
     refine done_ (done_of HT_.out (by kernel_rfl)) ?_
     try go_wp2
     go_ret
     exact ⟨rs_, hb_ HB⟩
    obtain rfl := Bool.eq_false_iff.mpr c9
    replace H := iF_ H
    obtain rfl := Option.some.inj H
    obtain ⟨hcz18_0, hcz18_1, hfz18_0, hfz18_1⟩ := cz2_ BK181
    try go_wp2
    replace BK181 := A_ (blk_drew BK181.out)
    replace HB := A_ (below_drew1 HB.out)
    have p183 : 0 ≤ (x3_1 : Int) := od_
    have q183 : x3_1 < (l0_0.length : Int) := od_
    obtain ⟨ad183, e183, hx183_0⟩ := Kd.at_int HR0_0.out x3_1 p183 q183
    have hw183_0 := hx183_0
    cases e183
    replace hx183_0 := hx_ HB hx183_0
    replace p183 := eq_true p183
    replace q183 := eq_true q183
    have p184 : 0 ≤ (x3_1 : Int) := od_
    have q184 : x3_1 < (l0_0.length : Int) := od_
    obtain ⟨ad184, e184, hx184_0⟩ := Kd.at_int HR0_0.out x3_1 p184 q184
    have hw184_0 := hx184_0
    obtain rfl : ad183 = ad184 := (by injection e184)
    replace hx184_0 := hx_ HB hx184_0
    replace p184 := eq_true p184
    replace q184 := eq_true q184
    refine start_ (n := 26) (S := fun w' => w'.cell? ⟨gb181, 0, none⟩ = some (.slice (some ad183) l0_0.length c0_0) ∧ w'.cell? ⟨gb181, 1, none⟩ = some (.int .i64 a0_1) ∧ w'.cell? (ad183.add (x3_1).toNat) = some (.int .i64 (rd l0_0 x3_1)) ∧ w'.cell? (ad183.add (x3_1).toNat) = some (.int .i64 (rd l0_0 x3_1))) (ds := []) (bt_ 0 26) (by kernel_rfl) rfl rfl ⟨(blk_cell BK181.out 0).trans rfl, (blk_cell BK181.out 1).trans rfl, (hy_ HB hw183_0), (hy_ HB hw184_0)⟩ (fun hHeld => ?_); refine with_tabW spec_RowsOk.tab4 spec_RowsOk.bits4 (fun HT_ HW_ => ?_)
    generalize wr.drew = w19 at BK181 HB hx183_0 hx184_0 hHeld ⊢
    refine pu_ 0 11 (bt_ 1 26) ?_
    refine pu_ 2 13 (bt_ 5 26) ?_
    refine tk4_ 1 12 (bt_ 7 26) hHeld ?_
    refine pu_ 3 14 (bt_ 15 26) ?_
    refine tk4_ 4 15 (bt_ 31 26) hHeld ?_
    refine pu_ 5 16 (bt_ 63 26) ?_
    refine pu_ 6 17 (bt_ 127 26) ?_
    refine pu_ 7 18 (bt_ 255 26) ?_
    refine pu_ 9 20 (bt_ 767 26) ?_
    refine tk4_ 8 19 (bt_ 1023 26) hHeld ?_
    refine pu_ 10 21 (bt_ 2047 26) ?_
    refine tk4_ 11 22 (bt_ 4095 26) hHeld ?_
    refine one_ (i := 12) (N := some 23) (bt_ 8191 26) rfl rfl (one_of HT_.out (by kernel_rfl)) (by decide) (fun K hK => ?_)
    refine goes_ Try.func91 (by kernel_rfl) rfl #[.int .i64 (rd l0_0 x3_1)] (by rfl) rfl rfl al_ ?_
    with_reducible refine (spec_ValOk.calls (rd l0_0 x3_1) false _ A8.out).mono ?_
    rintro e w' ⟨rfl, ⟨nd, rfl⟩⟩
    refine ⟨_, rfl, ?_⟩
    refine hK.out _ _ ⟨(blk_cell BK181.out 0).trans rfl, (blk_cell BK181.out 1).trans rfl, (hy_ HB hw183_0), (hy_ HB hw184_0)⟩ (fun hHeld => ?_)
    clear hK K
    refine norm_ (a' := ?_) ?_ ?_
    rotate_left
    ·
     show Act.put _ (some 23) _ = _
     simp only [Act.put, List.setIfInBounds_toArray, List.set_cons_zero, List.set_cons_succ, i64_w, i32_w]
     rfl
    refine pu_ 13 24 (bt_ 16383 26) ?_
    refine pu_ 14 25 (bt_ 32767 26) ?_
    refine pn_ 15 26 (bt_ 65535 26) ?_
    refine pn_ 16 27 (bt_ 131071 26) ?_
    refine pn_ 17 28 (bt_ 262143 26) ?_
    refine pn_ 18 29 (bt_ 524287 26) ?_
    refine pn_ 19 30 (bt_ 1048575 26) ?_
    refine pn_ 20 31 (bt_ 2097151 26) ?_
    refine pn_ 21 32 (bt_ 4194303 26) ?_
    refine pn_ 22 33 (bt_ 8388607 26) ?_
    refine pn_ 23 34 (bt_ 16777215 26) ?_
    refine pu_ 24 35 (bt_ 33554431 26) ?_
    refine pu_ 25 36 (bt_ 67108863 26) ?_
    refine done_ (done_of HT_.out (by kernel_rfl)) ?_
    try go_wp2
    go_ret
    exact ⟨rs_, hb_ HB⟩
   by_cases c20 : (l0_0.length : Int) = 4
   ·
    rw [if_pos c20] at H
    have c20b0 : ((l0_0.length : Int) == 4) = true := beq_iff_eq.mpr c20
    have c20b1 : ((l0_0.length : Int) != 4) = false := bne_eq_false_iff_eq.mpr c20
    clear c20
    replace H := bs_ H
    obtain ⟨t182, A21, H⟩ := H
    obtain rfl := Option.some.inj H
    obtain ⟨hcz22_0, hcz22_1, hfz22_0, hfz22_1⟩ := cz2_ BK181
    go_wp2_with (first | (go_at_call 87; (with_reducible refine (spec_l1In.calls a0_1 0 5 t182 _ A21.out).mono ?_); rintro e w' ⟨rfl, ⟨nd, rfl⟩⟩))
    go_ret
    exact ⟨rs_, hb_ HB⟩
   rw [if_neg c20] at H
   have c20b0 : ((l0_0.length : Int) == 4) = false := beq_eq_false_iff_ne.mpr c20
   have c20b1 : ((l0_0.length : Int) != 4) = true := bne_iff_ne.mpr c20
   obtain rfl := Option.some.inj H
   obtain ⟨hcz23_0, hcz23_1, hfz23_0, hfz23_1⟩ := cz2_ BK181
   go_wp2
   go_ret
   exact ⟨rs_, hb_ HB⟩

end Go.Proofs.Ytmkhghbalnadlaa.PFnExactMemNew
