/- Contracts of functions of the program. No condition beyond the hypotheses that each theorem names. -/
import Derived.Test.YtdcinhpdpoodfaaGreatPFnExactFinishedx0
import Derived.Test.YtdcinhpdpoodfaaGreatPFnExactFinishedx3
import Derived.Test.YtdcinhpdpoodfaaGreatPFnExactFinishedx8
namespace Go.Proofs.YtdcinhpdpoodfaaGreat.PFnExactFinished
open Go.RowKit Go.Proofs.YtdcinhpdpoodfaaGreatW.PrintWords Go.Proofs.YtdcinhpdpoodfaaGreatW.PrintLast Go.Proofs.YtdcinhpdpoodfaaGreatW.PrintMore
attribute [local go_sem] max2_int min2_int max_two min_two max_three min_three max_four min_four
set_option linter.unusedVariables false
set_option linter.unusedSimpArgs false
mutual
def spec_l9Calls.l0 : Nat → Int → Int → List (S39) → List (S52) → List (S62) → Int → List (S147) → List Int → List Int → Int → Option (Bool)
 | 0, _, _, _, _, _, _, _, _, _, _ => none
 | k + 1, x3, x4, x201000, x201001, x201002, x201003, x201004, x201005, x201006, x201007 => if x4 < (x201004.length : Int) then (if 0 ≤ x4 then ((spec_l9Call.f k x201000 x201001 x201002 x201003 x201004 x201005 x201006 x201007 ((rd_T147 x201004 x4).f0) ((rd_T147 x201004 x4).f1.f0) ((rd_T147 x201004 x4).f1.f1) ((rd_T147 x201004 x4).f1.f2) ((rd_T147 x201004 x4).f2) ((rd_T147 x201004 x4).f3) ((rd_T147 x201004 x4).f4) ((rd_T147 x201004 x4).f5.f0) ((rd_T147 x201004 x4).f5.f1)).bind fun t202 => (if t202 = true then ((spec_l1Bit.f (decide (((rd_T147 x201004 x4).f3) ≥ 0))).bind fun t204 => (spec_l9Calls.l0 k (wrap64 (x3 + t204)) (wrap64 (x4 + 1)) x201000 x201001 x201002 x201003 x201004 x201005 x201006 x201007)) else (some false))) else (none)) else (spec_l9Calls.l1 k x3 0 x201000 x201001 x201002 x201003 x201004 x201005 x201006 x201007)
def spec_l9Calls.l1 : Nat → Int → Int → List (S39) → List (S52) → List (S62) → Int → List (S147) → List Int → List Int → Int → Option (Bool)
 | 0, _, _, _, _, _, _, _, _, _, _ => none
 | k + 1, x3, x5, x201000, x201001, x201002, x201003, x201004, x201005, x201006, x201007 => if x5 < (x201005.length : Int) then (if 0 ≤ x5 then ((spec_l1In.f (rd x201005 x5) 0 (wrap64 ((x201004.length : Int) - 1))).bind fun t206 => (if t206 = true then (if 0 ≤ (rd x201005 x5) then (if (rd x201005 x5) < (x201004.length : Int) then (if ((rd_T147 x201004 (rd x201005 x5)).f3) < 0 then (spec_l9Calls.j2 k x3 x5 (rd x201005 x5) true x201000 x201001 x201002 x201003 x201004 x201005 x201006 x201007) else (if x5 > 0 then (if 0 ≤ (wrap64 (x5 - 1)) then (if (wrap64 (x5 - 1)) < (x201005.length : Int) then (if 0 ≤ (rd x201005 (wrap64 (x5 - 1))) then (if (rd x201005 (wrap64 (x5 - 1))) < (x201004.length : Int) then (spec_l9Calls.j2 k x3 x5 (rd x201005 x5) (decide (((rd_T147 x201004 (rd x201005 (wrap64 (x5 - 1)))).f3) > ((rd_T147 x201004 (rd x201005 x5)).f3))) x201000 x201001 x201002 x201003 x201004 x201005 x201006 x201007) else (none)) else (none)) else (none)) else (none)) else (spec_l9Calls.j2 k x3 x5 (rd x201005 x5) false x201000 x201001 x201002 x201003 x201004 x201005 x201006 x201007))) else (none)) else (none)) else (spec_l9Calls.j2 k x3 x5 (rd x201005 x5) true x201000 x201001 x201002 x201003 x201004 x201005 x201006 x201007))) else (none)) else (if (x201004.length : Int) ≤ 40 then (some (x3 == (x201005.length : Int))) else (some false))
def spec_l9Calls.j2 : Nat → Int → Int → Int → Bool → List (S39) → List (S52) → List (S62) → Int → List (S147) → List Int → List Int → Int → Option (Bool)
 | 0, _, _, _, _, _, _, _, _, _, _, _, _ => none
 | k + 1, x3, x5, x6, x84, x201000, x201001, x201002, x201003, x201004, x201005, x201006, x201007 => if x84 = true then (some false) else (spec_l9Calls.l2 k x3 x5 x6 0 x201000 x201001 x201002 x201003 x201004 x201005 x201006 x201007)
def spec_l9Calls.l2 : Nat → Int → Int → Int → Int → List (S39) → List (S52) → List (S62) → Int → List (S147) → List Int → List Int → Int → Option (Bool)
 | 0, _, _, _, _, _, _, _, _, _, _, _, _ => none
 | k + 1, x3, x5, x6, x7, x201000, x201001, x201002, x201003, x201004, x201005, x201006, x201007 => if x7 < x5 then (if 0 ≤ x7 then (if x7 < (x201005.length : Int) then (if (rd x201005 x7) = x6 then (some false) else (spec_l9Calls.l2 k x3 x5 x6 (wrap64 (x7 + 1)) x201000 x201001 x201002 x201003 x201004 x201005 x201006 x201007)) else (none)) else (none)) else (spec_l9Calls.l1 k x3 (wrap64 (x5 + 1)) x201000 x201001 x201002 x201003 x201004 x201005 x201006 x201007)
end
def spec_l9Calls.f (k : Nat) (l0_0 : List (S39)) (l0_1 : List (S52)) (l0_2 : List (S62)) (a0_3 : Int) (l0_4 : List (S147)) (l0_5 : List Int) (l0_6 : List Int) (a0_7 : Int) : Option (Bool) := spec_l9Calls.l0 k 0 0 l0_0 l0_1 l0_2 a0_3 l0_4 l0_5 l0_6 a0_7
def spec_l9Calls.T5 : Bool × List (List Nat × List Nat) := (true, [([], []), ([], []), ([1], [1]), ([], []), ([2, 3], [2, 3]), ([4], [4]), ([0, 5], [0, 5]), ([6], [6])])
def spec_l9Calls.B5 : List Nat := [0, 0, 2, 0, 14, 30, 63, 127]
theorem spec_l9Calls.tab5 : rtab .any (opsOf Tryz.f103 5) = spec_l9Calls.T5 := by kernel_rfl
theorem spec_l9Calls.bits5 : waitsOk spec_l9Calls.T5.2 spec_l9Calls.B5 = true := by kernel_rfl
def spec_l9Calls.T12 : Bool × List (List Nat × List Nat) := (true, [([], []), ([], []), ([1], [1]), ([2], [2]), ([3], [3]), ([0, 4], [0, 4]), ([5], [5]), ([6, 5], [6]), ([7], [7]), ([8, 7], [7, 8]), ([7], [7]), ([9, 10, 7], [7, 9, 10]), ([11, 7], [7, 11]), ([12, 7], [7, 12]), ([13, 7], [7, 13]), ([7, 14], [7, 14]), ([15, 7], [15]), ([16], [16]), ([17, 16], [16, 17]), ([18, 16, 16], [16, 18]), ([19], [19]), ([20, 19], [19, 20]), ([19], [19]), ([22, 19], [19, 22]), ([19], [19]), ([24, 19], [19, 24]), ([23, 25, 19], [19, 23, 25]), ([26, 19], [19, 26]), ([21, 27, 19], [19, 21, 27]), ([28, 19], [19, 28]), ([29, 19], [19, 29]), ([19], [19]), ([31, 19], [19, 31]), ([19], [19]), ([32, 33, 19], [19, 32, 33]), ([34, 19], [19, 34]), ([35, 19], [19, 35]), ([30, 36, 19], [19, 30, 36]), ([19, 37, 16], [16, 19, 37]), ([16, 38], [16, 38])])
def spec_l9Calls.B12 : List Nat := [0, 0, 2, 6, 14, 31, 63, 127, 255, 511, 255, 2047, 4095, 8191, 16383, 32767, 65535, 131071, 262143, 524287, 1048575, 2097151, 1048575, 5242879, 1048575, 17825791, 63963135, 131071999, 268435455, 536870911, 1073741823, 1048575, 2148532223, 1048575, 15033434111, 32213303295, 66573041663, 137438953471, 274877906943, 549755813887]
theorem spec_l9Calls.tab12 : rtab .any (opsOf Tryz.f103 12) = spec_l9Calls.T12 := by kernel_rfl
theorem spec_l9Calls.bits12 : waitsOk spec_l9Calls.T12.2 spec_l9Calls.B12 = true := by kernel_rfl
set_option maxHeartbeats 8000000 in
set_option maxRecDepth 100000 in
theorem spec_l9Calls.calls (k : Nat) (A0_0 : Option Addr) (c0_0 : Nat) (l0_0 : List (S39)) (A0_1 : Option Addr) (c0_1 : Nat) (l0_1 : List (S52)) (A0_2 : Option Addr) (c0_2 : Nat) (l0_2 : List (S62)) (a0_3 : Int) (A0_4 : Option Addr) (c0_4 : Nat) (l0_4 : List (S147)) (A0_5 : Option Addr) (c0_5 : Nat) (l0_5 : List Int) (A0_6 : Option Addr) (c0_6 : Nat) (l0_6 : List Int) (a0_7 : Int) (r : Bool) (w : World) (hr0_0 : Kd.C k39 w A0_0 l0_0.length l0_0) (hc0_0 : l0_0.length ≤ c0_0) (hr0_1 : Kd.C k52 w A0_1 l0_1.length l0_1) (hc0_1 : l0_1.length ≤ c0_1) (hr0_2 : Kd.C k62 w A0_2 l0_2.length l0_2) (hc0_2 : l0_2.length ≤ c0_2) (hr0_4 : Kd.C k147 w A0_4 l0_4.length l0_4) (hc0_4 : l0_4.length ≤ c0_4) (hr0_5 : Kd.C (Kd.int .i64) w A0_5 l0_5.length l0_5) (hc0_5 : l0_5.length ≤ c0_5) (hr0_6 : Kd.C (Kd.int .i64) w A0_6 l0_6.length l0_6) (hc0_6 : l0_6.length ≤ c0_6) (h : spec_l9Calls.f k l0_0 l0_1 l0_2 a0_3 l0_4 l0_5 l0_6 a0_7 = some r) :
    Calls Tryz.prog 103 #[.agg #[.slice A0_0 l0_0.length c0_0, .slice A0_1 l0_1.length c0_1, .slice A0_2 l0_2.length c0_2, .int .i64 a0_3, .slice A0_4 l0_4.length c0_4, .slice A0_5 l0_5.length c0_5, .slice A0_6 l0_6.length c0_6, .int .i64 a0_7]] w fun e w' => e = .returned (.bool r) ∧ Below w.heap.size w w' := by
 have hu93 := Tryz.underlying93
 have hu147 := Tryz.underlying147
 have HR0_0 := A_ hr0_0
 have HC0_0 := A_ hc0_0
 clear hr0_0 hc0_0
 have HR0_1 := A_ hr0_1
 have HC0_1 := A_ hc0_1
 clear hr0_1 hc0_1
 have HR0_2 := A_ hr0_2
 have HC0_2 := A_ hc0_2
 clear hr0_2 hc0_2
 have HR0_4 := A_ hr0_4
 have HC0_4 := A_ hc0_4
 clear hr0_4 hc0_4
 have HR0_5 := A_ hr0_5
 have HC0_5 := A_ hc0_5
 clear hr0_5 hc0_5
 have HR0_6 := A_ hr0_6
 have HC0_6 := A_ hc0_6
 clear hr0_6 hc0_6
 have HB := A_ (Below.refl w.heap.size w)
 have H : (spec_l9Calls.l0 k 0 0 l0_0 l0_1 l0_2 a0_3 l0_4 l0_5 l0_6 a0_7) = some r := h
 clear h
 replace H' := A_ H; clear H
 go_enter Tryz.func103, Tryz.ntmps103
 go_wp2_with (first | ((with_reducible refine gate_dst (N := 1) rfl ?_); (try (refine gate_guard (by rfl) ?_; dsimp only)); refine bx_ HB rfl (N := 1) rfl (cs := #[.slice A0_0 l0_0.length c0_0, .slice A0_1 l0_1.length c0_1, .slice A0_2 l0_2.length c0_2, .int .i64 a0_3, .slice A0_4 l0_4.length c0_4, .slice A0_5 l0_5.length c0_5, .slice A0_6 l0_6.length c0_6, .int .i64 a0_7]) (t := 93) hr_ ?_; clear HB; intro gb200 w2 hg hb BK200 GW200 HB; clear hb hg))
 go_loopg [3, 4] k (fun kq v3 v4 w' => ∃ (x3_1 : Int) (x4_1 : Int), v3 = .int .i64 x3_1 ∧ v4 = .int .i64 x4_1 ∧ Aside0 (spec_l9Calls.l0 kq x3_1 x4_1 l0_0 l0_1 l0_2 a0_3 l0_4 l0_5 l0_6 a0_7 = some r) ∧ Aside0 (kq ≤ k) ∧ Aside0 (w'.heap[gb200]? = some (.cells #[(.slice A0_0 l0_0.length c0_0), (.slice A0_1 l0_1.length c0_1), (.slice A0_2 l0_2.length c0_2), .int .i64 a0_3, (.slice A0_4 l0_4.length c0_4), (.slice A0_5 l0_5.length c0_5), (.slice A0_6 l0_6.length c0_6), .int .i64 a0_7] 93 (0, 0))) ∧ Aside0 (Below w.heap.size w w'))
 case atStart => exact ⟨(0), (0), rt_, rt_, H', ⟨Nat.le_refl _⟩, ⟨bk_ BK200⟩, ⟨hb_ HB⟩⟩
 case round =>
  clear H'
  obtain ⟨x3_1, x4_1, rfl, rfl, HA, HK1, BK200, HB⟩ := hrel
  cases gk with
  | zero => exact absurd HA.out (by simp [spec_l9Calls.l0])
  | succ k1 =>
   have H := HA.out
   clear HA
   simp only [spec_l9Calls.l0] at H
   replace H := ic_ H
   rcases H with ⟨c3b0, H⟩ | ⟨c3b0, H⟩
   ·
    replace H := ix_ H
    obtain ⟨c4b0, H⟩ := H
    replace H := bs_ H
    obtain ⟨t202, A5, H⟩ := H
    by_cases c6 : t202 = true
    ·
     subst c6
     replace H := it_ H
     replace H := bs_ H
     obtain ⟨t204, A7, H⟩ := H
     replace H' := A_ H; clear H
     obtain ⟨z8_0, z8_1, z8_2, z8_3, z8_4, z8_5, z8_6, z8_7, y8_0, y8_1, y8_2, y8_3, y8_4, y8_5, y8_6, y8_7⟩ := cz8_ BK200
     try go_wp2
     replace BK200 := A_ (blk_drew BK200.out)
     replace HB := A_ (below_drew1 HB.out)
     have p201 : 0 ≤ (x4_1 : Int) := od_
     have q201 : x4_1 < (l0_4.length : Int) := od_
     obtain ⟨ad201, A201_8, c201_8, e201, u201_0, u201_1, u201_2, u201_3, u201_4, u201_5, u201_6, u201_7, u201_8, hl201_8, hi201_8⟩ := at_T147 HR0_4.out x4_1 p201 q201
     have hw201_8 := u201_8
     have hw201_7 := u201_7
     have hw201_6 := u201_6
     have hw201_5 := u201_5
     have hw201_4 := u201_4
     have hw201_3 := u201_3
     have hw201_2 := u201_2
     have hw201_1 := u201_1
     have hw201_0 := u201_0
     cases e201
     replace u201_0 := hx_ HB u201_0
     replace u201_1 := hx_ HB u201_1
     replace u201_2 := hx_ HB u201_2
     replace u201_3 := hx_ HB u201_3
     replace u201_4 := hx_ HB u201_4
     replace u201_5 := hx_ HB u201_5
     replace u201_6 := hx_ HB u201_6
     replace u201_7 := hx_ HB u201_7
     replace u201_8 := hx_ HB u201_8
     have HR201_8 := A_ hi201_8
     have HC201_8 := A_ hl201_8
     clear hi201_8 hl201_8
     replace p201 := eq_true p201
     replace q201 := eq_true q201
     refine start_ (n := 8) (S := fun w' => w'.cell? ⟨gb200, 0, none⟩ = some (.slice A0_0 l0_0.length c0_0) ∧ w'.cell? ⟨gb200, 1, none⟩ = some (.slice A0_1 l0_1.length c0_1) ∧ w'.cell? ⟨gb200, 2, none⟩ = some (.slice A0_2 l0_2.length c0_2) ∧ w'.cell? ⟨gb200, 3, none⟩ = some (.int .i64 a0_3) ∧ w'.cell? ⟨gb200, 4, none⟩ = some (.slice (some ad201) l0_4.length c0_4) ∧ w'.cell? ⟨gb200, 5, none⟩ = some (.slice A0_5 l0_5.length c0_5) ∧ w'.cell? ⟨gb200, 6, none⟩ = some (.slice A0_6 l0_6.length c0_6) ∧ w'.cell? ⟨gb200, 7, none⟩ = some (.int .i64 a0_7) ∧ w'.cell? (ad201.add ((x4_1).toNat * 9)) = some (.int .i64 ((rd_T147 l0_4 x4_1).f0)) ∧ w'.cell? ⟨(ad201.add ((x4_1).toNat * 9)).block, (ad201.add ((x4_1).toNat * 9)).off + 1, none⟩ = some (.int .i64 ((rd_T147 l0_4 x4_1).f1.f0)) ∧ w'.cell? ⟨(ad201.add ((x4_1).toNat * 9)).block, (ad201.add ((x4_1).toNat * 9)).off + 2, none⟩ = some (.int .i64 ((rd_T147 l0_4 x4_1).f1.f1)) ∧ w'.cell? ⟨(ad201.add ((x4_1).toNat * 9)).block, (ad201.add ((x4_1).toNat * 9)).off + 3, none⟩ = some (.int .i64 ((rd_T147 l0_4 x4_1).f1.f2)) ∧ w'.cell? ⟨(ad201.add ((x4_1).toNat * 9)).block, (ad201.add ((x4_1).toNat * 9)).off + 4, none⟩ = some (.int .i64 ((rd_T147 l0_4 x4_1).f2)) ∧ w'.cell? ⟨(ad201.add ((x4_1).toNat * 9)).block, (ad201.add ((x4_1).toNat * 9)).off + 5, none⟩ = some (.int .i64 ((rd_T147 l0_4 x4_1).f3)) ∧ w'.cell? ⟨(ad201.add ((x4_1).toNat * 9)).block, (ad201.add ((x4_1).toNat * 9)).off + 6, none⟩ = some (.int .i64 ((rd_T147 l0_4 x4_1).f4)) ∧ w'.cell? ⟨(ad201.add ((x4_1).toNat * 9)).block, (ad201.add ((x4_1).toNat * 9)).off + 7, none⟩ = some (.int .i64 ((rd_T147 l0_4 x4_1).f5.f0)) ∧ w'.cell? ⟨(ad201.add ((x4_1).toNat * 9)).block, (ad201.add ((x4_1).toNat * 9)).off + 8, none⟩ = some (.slice A201_8 ((rd_T147 l0_4 x4_1).f5.f1).length c201_8)) (ds := []) (bt_ 0 8) (by kernel_rfl) rfl rfl ⟨(blk_cell BK200.out 0).trans rfl, (blk_cell BK200.out 1).trans rfl, (blk_cell BK200.out 2).trans rfl, (blk_cell BK200.out 3).trans rfl, (blk_cell BK200.out 4).trans rfl, (blk_cell BK200.out 5).trans rfl, (blk_cell BK200.out 6).trans rfl, (blk_cell BK200.out 7).trans rfl, (hy_ HB hw201_0), (hy_ HB hw201_1), (hy_ HB hw201_2), (hy_ HB hw201_3), (hy_ HB hw201_4), (hy_ HB hw201_5), (hy_ HB hw201_6), (hy_ HB hw201_7), (hy_ HB hw201_8)⟩ (fun hHeld => ?_); refine with_tabW spec_l9Calls.tab5 spec_l9Calls.bits5 (fun HT_ HW_ => ?_)
     generalize wr.drew = w9 at BK200 HB HR201_8 u201_0 u201_1 u201_2 u201_3 u201_4 u201_5 u201_6 u201_7 u201_8 hHeld ⊢
     refine pu_ 1 16 (bt_ 2 8) ?_
     refine pu_ 3 18 (bt_ 10 8) ?_
     refine tk17_ 0 15 (bt_ 11 8) hHeld ?_
     refine tk17_ 2 17 (bt_ 15 8) hHeld ?_
     refine pu_ 4 19 (bt_ 31 8) ?_
     refine tk17_ 5 20 (bt_ 63 8) hHeld ?_
     refine one_ (i := 6) (N := some 21) (bt_ 127 8) rfl rfl (one_of HT_.out (by kernel_rfl)) (by decide) (fun K hK => ?_)
     refine goes_ Tryz.func154 (by kernel_rfl) rfl #[.agg #[.slice A0_0 l0_0.length c0_0, .slice A0_1 l0_1.length c0_1, .slice A0_2 l0_2.length c0_2, .int .i64 a0_3, .slice (some ad201) l0_4.length c0_4, .slice A0_5 l0_5.length c0_5, .slice A0_6 l0_6.length c0_6, .int .i64 a0_7], .agg #[.int .i64 ((rd_T147 l0_4 x4_1).f0), .int .i64 ((rd_T147 l0_4 x4_1).f1.f0), .int .i64 ((rd_T147 l0_4 x4_1).f1.f1), .int .i64 ((rd_T147 l0_4 x4_1).f1.f2), .int .i64 ((rd_T147 l0_4 x4_1).f2), .int .i64 ((rd_T147 l0_4 x4_1).f3), .int .i64 ((rd_T147 l0_4 x4_1).f4), .int .i64 ((rd_T147 l0_4 x4_1).f5.f0), .slice A201_8 ((rd_T147 l0_4 x4_1).f5.f1).length c201_8]] (by rfl) rfl rfl al_ ?_
     with_reducible refine (spec_l9Call.calls k1 _ _ l0_0 _ _ l0_1 _ _ l0_2 a0_3 _ _ l0_4 _ _ l0_5 _ _ l0_6 a0_7 ((rd_T147 l0_4 x4_1).f0) ((rd_T147 l0_4 x4_1).f1.f0) ((rd_T147 l0_4 x4_1).f1.f1) ((rd_T147 l0_4 x4_1).f1.f2) ((rd_T147 l0_4 x4_1).f2) ((rd_T147 l0_4 x4_1).f3) ((rd_T147 l0_4 x4_1).f4) ((rd_T147 l0_4 x4_1).f5.f0) _ _ ((rd_T147 l0_4 x4_1).f5.f1) true _ ?s1 ?s2 ?s3 ?s4 ?s5 ?s6 ?s7 ?s8 ?s9 ?s10 ?s11 ?s12 ?s13 ?s14 A5.out).mono ?_
     (case s1 => exact cb_ (Kd.C_below HR0_0.out HB.out))
     (case s2 => exact HC0_0.out)
     (case s3 => exact cb_ (Kd.C_below HR0_1.out HB.out))
     (case s4 => exact HC0_1.out)
     (case s5 => exact cb_ (Kd.C_below HR0_2.out HB.out))
     (case s6 => exact HC0_2.out)
     (case s7 => exact cb_ (Kd.C_below HR0_4.out HB.out))
     (case s8 => exact HC0_4.out)
     (case s9 => exact cb_ (Kd.C_below HR0_5.out HB.out))
     (case s10 => exact HC0_5.out)
     (case s11 => exact cb_ (Kd.C_below HR0_6.out HB.out))
     (case s12 => exact HC0_6.out)
     (case s13 => exact cb_ (Kd.C_below HR201_8.out HB.out))
     (case s14 => exact HC201_8.out)
     rintro e w10 ⟨rfl, hb⟩
     refine ⟨_, rfl, ?_⟩
     replace BK200 := bb_ BK200 hb
     replace HB := hs_ HB hb
     (try clear hb)
     (try clear hb2)
     (try clear hk)
     (try clear hi)
     refine hK.out _ _ ⟨(blk_cell BK200.out 0).trans rfl, (blk_cell BK200.out 1).trans rfl, (blk_cell BK200.out 2).trans rfl, (blk_cell BK200.out 3).trans rfl, (blk_cell BK200.out 4).trans rfl, (blk_cell BK200.out 5).trans rfl, (blk_cell BK200.out 6).trans rfl, (blk_cell BK200.out 7).trans rfl, (hy_ HB hw201_0), (hy_ HB hw201_1), (hy_ HB hw201_2), (hy_ HB hw201_3), (hy_ HB hw201_4), (hy_ HB hw201_5), (hy_ HB hw201_6), (hy_ HB hw201_7), (hy_ HB hw201_8)⟩ (fun hHeld => ?_)
     clear hK K
     refine norm_ (a' := ?_) ?_ ?_
     rotate_left
     ·
      show Act.put _ (some 21) _ = _
      simp only [Act.put, List.setIfInBounds_toArray, List.set_cons_zero, List.set_cons_succ, i64_w, i32_w]
      rfl
     refine pu_ 7 22 (bt_ 255 8) ?_
     refine done_ (done_of HT_.out (by kernel_rfl)) ?_
     obtain ⟨z11_0, z11_1, z11_2, z11_3, z11_4, z11_5, z11_6, z11_7, y11_0, y11_1, y11_2, y11_3, y11_4, y11_5, y11_6, y11_7⟩ := cz8_ BK200
     have p203 : 0 ≤ (x4_1 : Int) := od_
     have q203 : x4_1 < (l0_4.length : Int) := od_
     obtain ⟨ad203, A203_8, c203_8, e203, u203_0, u203_1, u203_2, u203_3, u203_4, u203_5, u203_6, u203_7, u203_8, hl203_8, hi203_8⟩ := at_T147 HR0_4.out x4_1 p203 q203
     obtain rfl : ad201 = ad203 := (by injection e203)
     replace u203_0 := hx_ HB u203_0
     replace u203_1 := hx_ HB u203_1
     replace u203_2 := hx_ HB u203_2
     replace u203_3 := hx_ HB u203_3
     replace u203_4 := hx_ HB u203_4
     replace u203_5 := hx_ HB u203_5
     replace u203_6 := hx_ HB u203_6
     replace u203_7 := hx_ HB u203_7
     replace u203_8 := hx_ HB u203_8
     have HR203_8 := A_ hi203_8
     have HC203_8 := A_ hl203_8
     clear hi203_8 hl203_8
     replace p203 := eq_true p203
     replace q203 := eq_true q203
     try go_wp2_with (first | ((with_reducible refine gate_callee (f := 155) rfl ?_); refine goesL_ (some 31) rfl rfl Tryz.func155 (by kernel_rfl) rfl #[.bool (decide (((rd_T147 l0_4 x4_1).f3) ≥ 0))] rfl al_ ?_; (with_reducible refine (spec_l1Bit.calls (decide (((rd_T147 l0_4 x4_1).f3) ≥ 0)) t204 _ A7.out).mono ?_); rintro e w' ⟨rfl, ⟨nd, rfl⟩⟩; refine ⟨_, rfl, ?_⟩))
     go_roundg k1
     case measure => have := HK1.out; omega
     case rel => exact ⟨(wrap64 (x3_1 + t204)), (wrap64 (x4_1 + 1)), rt_, rt_, H', ⟨by have := HK1.out; omega⟩, ⟨bk_ BK200⟩, ⟨hb_ HB⟩⟩
    obtain rfl := Bool.eq_false_iff.mpr c6
    replace H := iF_ H
    obtain rfl := Option.some.inj H
    obtain ⟨z12_0, z12_1, z12_2, z12_3, z12_4, z12_5, z12_6, z12_7, y12_0, y12_1, y12_2, y12_3, y12_4, y12_5, y12_6, y12_7⟩ := cz8_ BK200
    try go_wp2
    replace BK200 := A_ (blk_drew BK200.out)
    replace HB := A_ (below_drew1 HB.out)
    have p201 : 0 ≤ (x4_1 : Int) := od_
    have q201 : x4_1 < (l0_4.length : Int) := od_
    obtain ⟨ad201, A201_8, c201_8, e201, u201_0, u201_1, u201_2, u201_3, u201_4, u201_5, u201_6, u201_7, u201_8, hl201_8, hi201_8⟩ := at_T147 HR0_4.out x4_1 p201 q201
    have hw201_8 := u201_8
    have hw201_7 := u201_7
    have hw201_6 := u201_6
    have hw201_5 := u201_5
    have hw201_4 := u201_4
    have hw201_3 := u201_3
    have hw201_2 := u201_2
    have hw201_1 := u201_1
    have hw201_0 := u201_0
    cases e201
    replace u201_0 := hx_ HB u201_0
    replace u201_1 := hx_ HB u201_1
    replace u201_2 := hx_ HB u201_2
    replace u201_3 := hx_ HB u201_3
    replace u201_4 := hx_ HB u201_4
    replace u201_5 := hx_ HB u201_5
    replace u201_6 := hx_ HB u201_6
    replace u201_7 := hx_ HB u201_7
    replace u201_8 := hx_ HB u201_8
    have HR201_8 := A_ hi201_8
    have HC201_8 := A_ hl201_8
    clear hi201_8 hl201_8
    replace p201 := eq_true p201
    replace q201 := eq_true q201
    refine start_ (n := 8) (S := fun w' => w'.cell? ⟨gb200, 0, none⟩ = some (.slice A0_0 l0_0.length c0_0) ∧ w'.cell? ⟨gb200, 1, none⟩ = some (.slice A0_1 l0_1.length c0_1) ∧ w'.cell? ⟨gb200, 2, none⟩ = some (.slice A0_2 l0_2.length c0_2) ∧ w'.cell? ⟨gb200, 3, none⟩ = some (.int .i64 a0_3) ∧ w'.cell? ⟨gb200, 4, none⟩ = some (.slice (some ad201) l0_4.length c0_4) ∧ w'.cell? ⟨gb200, 5, none⟩ = some (.slice A0_5 l0_5.length c0_5) ∧ w'.cell? ⟨gb200, 6, none⟩ = some (.slice A0_6 l0_6.length c0_6) ∧ w'.cell? ⟨gb200, 7, none⟩ = some (.int .i64 a0_7) ∧ w'.cell? (ad201.add ((x4_1).toNat * 9)) = some (.int .i64 ((rd_T147 l0_4 x4_1).f0)) ∧ w'.cell? ⟨(ad201.add ((x4_1).toNat * 9)).block, (ad201.add ((x4_1).toNat * 9)).off + 1, none⟩ = some (.int .i64 ((rd_T147 l0_4 x4_1).f1.f0)) ∧ w'.cell? ⟨(ad201.add ((x4_1).toNat * 9)).block, (ad201.add ((x4_1).toNat * 9)).off + 2, none⟩ = some (.int .i64 ((rd_T147 l0_4 x4_1).f1.f1)) ∧ w'.cell? ⟨(ad201.add ((x4_1).toNat * 9)).block, (ad201.add ((x4_1).toNat * 9)).off + 3, none⟩ = some (.int .i64 ((rd_T147 l0_4 x4_1).f1.f2)) ∧ w'.cell? ⟨(ad201.add ((x4_1).toNat * 9)).block, (ad201.add ((x4_1).toNat * 9)).off + 4, none⟩ = some (.int .i64 ((rd_T147 l0_4 x4_1).f2)) ∧ w'.cell? ⟨(ad201.add ((x4_1).toNat * 9)).block, (ad201.add ((x4_1).toNat * 9)).off + 5, none⟩ = some (.int .i64 ((rd_T147 l0_4 x4_1).f3)) ∧ w'.cell? ⟨(ad201.add ((x4_1).toNat * 9)).block, (ad201.add ((x4_1).toNat * 9)).off + 6, none⟩ = some (.int .i64 ((rd_T147 l0_4 x4_1).f4)) ∧ w'.cell? ⟨(ad201.add ((x4_1).toNat * 9)).block, (ad201.add ((x4_1).toNat * 9)).off + 7, none⟩ = some (.int .i64 ((rd_T147 l0_4 x4_1).f5.f0)) ∧ w'.cell? ⟨(ad201.add ((x4_1).toNat * 9)).block, (ad201.add ((x4_1).toNat * 9)).off + 8, none⟩ = some (.slice A201_8 ((rd_T147 l0_4 x4_1).f5.f1).length c201_8)) (ds := []) (bt_ 0 8) (by kernel_rfl) rfl rfl ⟨(blk_cell BK200.out 0).trans rfl, (blk_cell BK200.out 1).trans rfl, (blk_cell BK200.out 2).trans rfl, (blk_cell BK200.out 3).trans rfl, (blk_cell BK200.out 4).trans rfl, (blk_cell BK200.out 5).trans rfl, (blk_cell BK200.out 6).trans rfl, (blk_cell BK200.out 7).trans rfl, (hy_ HB hw201_0), (hy_ HB hw201_1), (hy_ HB hw201_2), (hy_ HB hw201_3), (hy_ HB hw201_4), (hy_ HB hw201_5), (hy_ HB hw201_6), (hy_ HB hw201_7), (hy_ HB hw201_8)⟩ (fun hHeld => ?_); refine with_tabW spec_l9Calls.tab5 spec_l9Calls.bits5 (fun HT_ HW_ => ?_)
    generalize wr.drew = w13 at BK200 HB HR201_8 u201_0 u201_1 u201_2 u201_3 u201_4 u201_5 u201_6 u201_7 u201_8 hHeld ⊢
    refine pu_ 1 16 (bt_ 2 8) ?_
    refine pu_ 3 18 (bt_ 10 8) ?_
    refine tk17_ 0 15 (bt_ 11 8) hHeld ?_
    refine tk17_ 2 17 (bt_ 15 8) hHeld ?_
    refine pu_ 4 19 (bt_ 31 8) ?_
    refine tk17_ 5 20 (bt_ 63 8) hHeld ?_
    refine one_ (i := 6) (N := some 21) (bt_ 127 8) rfl rfl (one_of HT_.out (by kernel_rfl)) (by decide) (fun K hK => ?_)
    refine goes_ Tryz.func154 (by kernel_rfl) rfl #[.agg #[.slice A0_0 l0_0.length c0_0, .slice A0_1 l0_1.length c0_1, .slice A0_2 l0_2.length c0_2, .int .i64 a0_3, .slice (some ad201) l0_4.length c0_4, .slice A0_5 l0_5.length c0_5, .slice A0_6 l0_6.length c0_6, .int .i64 a0_7], .agg #[.int .i64 ((rd_T147 l0_4 x4_1).f0), .int .i64 ((rd_T147 l0_4 x4_1).f1.f0), .int .i64 ((rd_T147 l0_4 x4_1).f1.f1), .int .i64 ((rd_T147 l0_4 x4_1).f1.f2), .int .i64 ((rd_T147 l0_4 x4_1).f2), .int .i64 ((rd_T147 l0_4 x4_1).f3), .int .i64 ((rd_T147 l0_4 x4_1).f4), .int .i64 ((rd_T147 l0_4 x4_1).f5.f0), .slice A201_8 ((rd_T147 l0_4 x4_1).f5.f1).length c201_8]] (by rfl) rfl rfl al_ ?_
    with_reducible refine (spec_l9Call.calls k1 _ _ l0_0 _ _ l0_1 _ _ l0_2 a0_3 _ _ l0_4 _ _ l0_5 _ _ l0_6 a0_7 ((rd_T147 l0_4 x4_1).f0) ((rd_T147 l0_4 x4_1).f1.f0) ((rd_T147 l0_4 x4_1).f1.f1) ((rd_T147 l0_4 x4_1).f1.f2) ((rd_T147 l0_4 x4_1).f2) ((rd_T147 l0_4 x4_1).f3) ((rd_T147 l0_4 x4_1).f4) ((rd_T147 l0_4 x4_1).f5.f0) _ _ ((rd_T147 l0_4 x4_1).f5.f1) false _ ?s1 ?s2 ?s3 ?s4 ?s5 ?s6 ?s7 ?s8 ?s9 ?s10 ?s11 ?s12 ?s13 ?s14 A5.out).mono ?_
    (case s1 => exact cb_ (Kd.C_below HR0_0.out HB.out))
    (case s2 => exact HC0_0.out)
    (case s3 => exact cb_ (Kd.C_below HR0_1.out HB.out))
    (case s4 => exact HC0_1.out)
    (case s5 => exact cb_ (Kd.C_below HR0_2.out HB.out))
    (case s6 => exact HC0_2.out)
    (case s7 => exact cb_ (Kd.C_below HR0_4.out HB.out))
    (case s8 => exact HC0_4.out)
    (case s9 => exact cb_ (Kd.C_below HR0_5.out HB.out))
    (case s10 => exact HC0_5.out)
    (case s11 => exact cb_ (Kd.C_below HR0_6.out HB.out))
    (case s12 => exact HC0_6.out)
    (case s13 => exact cb_ (Kd.C_below HR201_8.out HB.out))
    (case s14 => exact HC201_8.out)
    rintro e w14 ⟨rfl, hb⟩
    refine ⟨_, rfl, ?_⟩
    replace BK200 := bb_ BK200 hb
    replace HB := hs_ HB hb
    (try clear hb)
    (try clear hb2)
    (try clear hk)
    (try clear hi)
    refine hK.out _ _ ⟨(blk_cell BK200.out 0).trans rfl, (blk_cell BK200.out 1).trans rfl, (blk_cell BK200.out 2).trans rfl, (blk_cell BK200.out 3).trans rfl, (blk_cell BK200.out 4).trans rfl, (blk_cell BK200.out 5).trans rfl, (blk_cell BK200.out 6).trans rfl, (blk_cell BK200.out 7).trans rfl, (hy_ HB hw201_0), (hy_ HB hw201_1), (hy_ HB hw201_2), (hy_ HB hw201_3), (hy_ HB hw201_4), (hy_ HB hw201_5), (hy_ HB hw201_6), (hy_ HB hw201_7), (hy_ HB hw201_8)⟩ (fun hHeld => ?_)
    clear hK K
    refine norm_ (a' := ?_) ?_ ?_
    rotate_left
    ·
     show Act.put _ (some 21) _ = _
     simp only [Act.put, List.setIfInBounds_toArray, List.set_cons_zero, List.set_cons_succ, i64_w, i32_w]
     rfl
    refine pu_ 7 22 (bt_ 255 8) ?_
    refine done_ (done_of HT_.out (by kernel_rfl)) ?_
    try go_wp2
    go_ret
    exact ⟨rs_, hb_ HB⟩
   replace H' := A_ H; clear H
   obtain ⟨z15_0, z15_1, z15_2, z15_3, z15_4, z15_5, z15_6, z15_7, y15_0, y15_1, y15_2, y15_3, y15_4, y15_5, y15_6, y15_7⟩ := cz8_ BK200
   go_wp2
   go_loopg [5] k1 (fun kq v5 w' => ∃ (x5_2 : Int), v5 = .int .i64 x5_2 ∧ Aside0 (spec_l9Calls.l1 kq x3_1 x5_2 l0_0 l0_1 l0_2 a0_3 l0_4 l0_5 l0_6 a0_7 = some r) ∧ Aside0 (kq ≤ k1) ∧ Aside0 (w'.heap[gb200]? = some (.cells #[(.slice A0_0 l0_0.length c0_0), (.slice A0_1 l0_1.length c0_1), (.slice A0_2 l0_2.length c0_2), .int .i64 a0_3, (.slice A0_4 l0_4.length c0_4), (.slice A0_5 l0_5.length c0_5), (.slice A0_6 l0_6.length c0_6), .int .i64 a0_7] 93 (0, 0))) ∧ Aside0 (Below w.heap.size w w'))
   case atStart => exact ⟨(0), rt_, H', ⟨Nat.le_refl _⟩, ⟨bk_ BK200⟩, ⟨hb_ HB⟩⟩
   case round =>
    clear H'
    try clear c3b0
    try clear c4b0
    try clear c6
    try clear u201_0
    try clear u201_1
    try clear u201_2
    try clear u201_3
    try clear u201_4
    try clear u201_5
    try clear u201_6
    try clear u201_7
    try clear u201_8
    try clear u203_0
    try clear u203_1
    try clear u203_2
    try clear u203_3
    try clear u203_4
    try clear u203_5
    try clear u203_6
    try clear u203_7
    try clear u203_8
    try clear p201
    try clear p203
    try clear q201
    try clear q203
    obtain ⟨x5_2, rfl, HA, HK2, BK200, HB⟩ := hrel
    cases gk with
    | zero => exact absurd HA.out (by simp [spec_l9Calls.l1])
    | succ k2 =>
     have H := HA.out
     clear HA
     simp only [spec_l9Calls.l1] at H
     replace H := ic_ H
     rcases H with ⟨c16b0, H⟩ | ⟨c16b0, H⟩
     ·
      replace H := ix_ H
      obtain ⟨c17b0, H⟩ := H
      have HC18 := A_ H
      clear H
      obtain ⟨z19_0, z19_1, z19_2, z19_3, z19_4, z19_5, z19_6, z19_7, y19_0, y19_1, y19_2, y19_3, y19_4, y19_5, y19_6, y19_7⟩ := cz8_ BK200
      obtain ⟨ad205, p205, q205, rfl, u205_0⟩ := ab_int HB HR0_5 x5_2
      go_upto_region 12 with (fail)
      go_cut [84] (fun v84 wc => ∃ (kq : Nat) (x84_17 : Bool), v84 = .bool x84_17 ∧ Aside0 (spec_l9Calls.j2 kq x3_1 x5_2 (rd l0_5 x5_2) x84_17 l0_0 l0_1 l0_2 a0_3 l0_4 l0_5 l0_6 a0_7 = some r) ∧ Aside0 (kq ≤ k2) ∧ Aside0 (wc.heap[gb200]? = some (.cells #[(.slice A0_0 l0_0.length c0_0), (.slice A0_1 l0_1.length c0_1), (.slice A0_2 l0_2.length c0_2), .int .i64 a0_3, (.slice A0_4 l0_4.length c0_4), (.slice (some ad205) l0_5.length c0_5), (.slice A0_6 l0_6.length c0_6), .int .i64 a0_7] 93 (0, 0))) ∧ Aside0 (Below w.heap.size w wc))
      case first =>
       have H := HC18.out
       clear HC18
       replace H := bs_ H
       obtain ⟨t206, A20, H⟩ := H
       by_cases c21 : t206 = true
       ·
        subst c21
        replace H := it_ H
        replace H := ix_ H
        obtain ⟨c22b0, H⟩ := H
        (first | rw [c22b0] | (simp only [i64_w, i32_w]; rw [c22b0]) | skip)
        replace H := ix_ H
        obtain ⟨c23b0, H⟩ := H
        replace H := ic_ H
        rcases H with ⟨c24b0, H⟩ | ⟨c24b0, H⟩
        ·
         replace H' := A_ H; clear H
         try go_wp2
         replace BK200 := A_ (blk_drew BK200.out)
         replace HB := A_ (below_drew1 HB.out)
         have p207 : 0 ≤ ((rd l0_5 x5_2) : Int) := od_
         have q207 : (rd l0_5 x5_2) < (l0_4.length : Int) := od_
         obtain ⟨ad207, A207_8, c207_8, e207, u207_0, u207_1, u207_2, u207_3, u207_4, u207_5, u207_6, u207_7, u207_8, hl207_8, hi207_8⟩ := at_T147 HR0_4.out (rd l0_5 x5_2) p207 q207
         have hw207_8 := u207_8
         have hw207_7 := u207_7
         have hw207_6 := u207_6
         have hw207_5 := u207_5
         have hw207_4 := u207_4
         have hw207_3 := u207_3
         have hw207_2 := u207_2
         have hw207_1 := u207_1
         have hw207_0 := u207_0
         cases e207
         replace u207_0 := hx_ HB u207_0
         replace u207_1 := hx_ HB u207_1
         replace u207_2 := hx_ HB u207_2
         replace u207_3 := hx_ HB u207_3
         replace u207_4 := hx_ HB u207_4
         replace u207_5 := hx_ HB u207_5
         replace u207_6 := hx_ HB u207_6
         replace u207_7 := hx_ HB u207_7
         replace u207_8 := hx_ HB u207_8
         have HR207_8 := A_ hi207_8
         have HC207_8 := A_ hl207_8
         clear hi207_8 hl207_8
         replace p207 := eq_true p207
         replace q207 := eq_true q207
         refine start_ (n := 40) (S := fun w' => w'.cell? ⟨gb200, 0, none⟩ = some (.slice A0_0 l0_0.length c0_0) ∧ w'.cell? ⟨gb200, 1, none⟩ = some (.slice A0_1 l0_1.length c0_1) ∧ w'.cell? ⟨gb200, 2, none⟩ = some (.slice A0_2 l0_2.length c0_2) ∧ w'.cell? ⟨gb200, 3, none⟩ = some (.int .i64 a0_3) ∧ w'.cell? ⟨gb200, 4, none⟩ = some (.slice (some ad207) l0_4.length c0_4) ∧ w'.cell? ⟨gb200, 5, none⟩ = some (.slice (some ad205) l0_5.length c0_5) ∧ w'.cell? ⟨gb200, 6, none⟩ = some (.slice A0_6 l0_6.length c0_6) ∧ w'.cell? ⟨gb200, 7, none⟩ = some (.int .i64 a0_7) ∧ w'.cell? (ad207.add (((rd l0_5 x5_2)).toNat * 9)) = some (.int .i64 ((rd_T147 l0_4 (rd l0_5 x5_2)).f0)) ∧ w'.cell? ⟨(ad207.add (((rd l0_5 x5_2)).toNat * 9)).block, (ad207.add (((rd l0_5 x5_2)).toNat * 9)).off + 1, none⟩ = some (.int .i64 ((rd_T147 l0_4 (rd l0_5 x5_2)).f1.f0)) ∧ w'.cell? ⟨(ad207.add (((rd l0_5 x5_2)).toNat * 9)).block, (ad207.add (((rd l0_5 x5_2)).toNat * 9)).off + 2, none⟩ = some (.int .i64 ((rd_T147 l0_4 (rd l0_5 x5_2)).f1.f1)) ∧ w'.cell? ⟨(ad207.add (((rd l0_5 x5_2)).toNat * 9)).block, (ad207.add (((rd l0_5 x5_2)).toNat * 9)).off + 3, none⟩ = some (.int .i64 ((rd_T147 l0_4 (rd l0_5 x5_2)).f1.f2)) ∧ w'.cell? ⟨(ad207.add (((rd l0_5 x5_2)).toNat * 9)).block, (ad207.add (((rd l0_5 x5_2)).toNat * 9)).off + 4, none⟩ = some (.int .i64 ((rd_T147 l0_4 (rd l0_5 x5_2)).f2)) ∧ w'.cell? ⟨(ad207.add (((rd l0_5 x5_2)).toNat * 9)).block, (ad207.add (((rd l0_5 x5_2)).toNat * 9)).off + 5, none⟩ = some (.int .i64 ((rd_T147 l0_4 (rd l0_5 x5_2)).f3)) ∧ w'.cell? ⟨(ad207.add (((rd l0_5 x5_2)).toNat * 9)).block, (ad207.add (((rd l0_5 x5_2)).toNat * 9)).off + 6, none⟩ = some (.int .i64 ((rd_T147 l0_4 (rd l0_5 x5_2)).f4)) ∧ w'.cell? ⟨(ad207.add (((rd l0_5 x5_2)).toNat * 9)).block, (ad207.add (((rd l0_5 x5_2)).toNat * 9)).off + 7, none⟩ = some (.int .i64 ((rd_T147 l0_4 (rd l0_5 x5_2)).f5.f0)) ∧ w'.cell? ⟨(ad207.add (((rd l0_5 x5_2)).toNat * 9)).block, (ad207.add (((rd l0_5 x5_2)).toNat * 9)).off + 8, none⟩ = some (.slice A207_8 ((rd_T147 l0_4 (rd l0_5 x5_2)).f5.f1).length c207_8)) (ds := []) (bt_ 0 40) (by kernel_rfl) rfl rfl ⟨(blk_cell BK200.out 0).trans rfl, (blk_cell BK200.out 1).trans rfl, (blk_cell BK200.out 2).trans rfl, (blk_cell BK200.out 3).trans rfl, (blk_cell BK200.out 4).trans rfl, (blk_cell BK200.out 5).trans rfl, (blk_cell BK200.out 6).trans rfl, (blk_cell BK200.out 7).trans rfl, (hy_ HB hw207_0), (hy_ HB hw207_1), (hy_ HB hw207_2), (hy_ HB hw207_3), (hy_ HB hw207_4), (hy_ HB hw207_5), (hy_ HB hw207_6), (hy_ HB hw207_7), (hy_ HB hw207_8)⟩ (fun hHeld => ?_); refine with_tabW spec_l9Calls.tab12 spec_l9Calls.bits12 (fun HT_ HW_ => ?_)
         generalize wr.drew = w25 at BK200 HB HR207_8 u207_0 u207_1 u207_2 u207_3 u207_4 u207_5 u207_6 u207_7 u207_8 hHeld ⊢
         refine pu_ 0 45 (bt_ 1 40) ?_
         refine pu_ 1 46 (bt_ 3 40) ?_
         refine tk17_ 2 47 (bt_ 7 40) hHeld ?_
         refine pu_ 3 48 (bt_ 15 40) ?_
         refine pu_ 4 49 (bt_ 31 40) ?_
         refine one_ (i := 5) (N := some 50) (bt_ 63 40) rfl rfl (one_of HT_.out (by kernel_rfl)) (by decide) (fun K hK => ?_)
         refine goes_ Tryz.func70 (by kernel_rfl) rfl #[.int .i64 (rd l0_5 x5_2), .int .i64 0, .int .i64 (wrap64 ((l0_4.length : Int) - 1))] (by rfl) rfl rfl al_ ?_
         with_reducible refine (spec_l1In.calls (rd l0_5 x5_2) 0 (wrap64 ((l0_4.length : Int) - 1)) true _ A20.out).mono ?_
         rintro e w' ⟨rfl, ⟨nd, rfl⟩⟩
         refine ⟨_, rfl, ?_⟩
         refine hK.out _ _ ⟨(blk_cell BK200.out 0).trans rfl, (blk_cell BK200.out 1).trans rfl, (blk_cell BK200.out 2).trans rfl, (blk_cell BK200.out 3).trans rfl, (blk_cell BK200.out 4).trans rfl, (blk_cell BK200.out 5).trans rfl, (blk_cell BK200.out 6).trans rfl, (blk_cell BK200.out 7).trans rfl, (hy_ HB hw207_0), (hy_ HB hw207_1), (hy_ HB hw207_2), (hy_ HB hw207_3), (hy_ HB hw207_4), (hy_ HB hw207_5), (hy_ HB hw207_6), (hy_ HB hw207_7), (hy_ HB hw207_8)⟩ (fun hHeld => ?_)
         clear hK K
         refine norm_ (a' := ?_) ?_ ?_
         rotate_left
         ·
          show Act.put _ (some 50) _ = _
          simp only [Act.put, List.setIfInBounds_toArray, List.set_cons_zero, List.set_cons_succ, i64_w, i32_w]
          rfl
         refine pu_ 6 51 (bt_ 127 40) ?_
         refine pu_ 7 52 (bt_ 255 40) ?_
         refine pu_ 8 53 (bt_ 511 40) ?_
         refine pu_ 10 55 (bt_ 1535 40) ?_
         refine tk17_ 9 54 (bt_ 2047 40) hHeld ?_
         refine pu_ 11 56 (bt_ 4095 40) ?_
         refine pu_ 12 57 (bt_ 8191 40) ?_
         refine tk17_ 13 58 (bt_ 16383 40) hHeld ?_
         refine pu_ 14 59 (bt_ 32767 40) ?_
         refine pu_ 15 60 (bt_ 65535 40) ?_
         refine pu_ 16 61 (bt_ 131071 40) ?_
         refine pn_ 17 62 (bt_ 262143 40) ?_
         refine pn_ 18 63 (bt_ 524287 40) ?_
         refine pn_ 19 64 (bt_ 1048575 40) ?_
         refine pn_ 20 65 (bt_ 2097151 40) ?_
         refine pn_ 21 66 (bt_ 4194303 40) ?_
         refine pn_ 22 67 (bt_ 8388607 40) ?_
         refine pn_ 23 68 (bt_ 16777215 40) ?_
         refine pn_ 24 69 (bt_ 33554431 40) ?_
         refine pn_ 25 70 (bt_ 67108863 40) ?_
         refine pn_ 26 71 (bt_ 134217727 40) ?_
         refine pn_ 27 72 (bt_ 268435455 40) ?_
         refine pn_ 28 73 (bt_ 536870911 40) ?_
         refine pn_ 29 74 (bt_ 1073741823 40) ?_
         refine pn_ 30 75 (bt_ 2147483647 40) ?_
         refine pn_ 31 76 (bt_ 4294967295 40) ?_
         refine pn_ 32 77 (bt_ 8589934591 40) ?_
         refine pn_ 33 78 (bt_ 17179869183 40) ?_
         refine pn_ 34 79 (bt_ 34359738367 40) ?_
         refine pn_ 35 80 (bt_ 68719476735 40) ?_
         refine pn_ 36 81 (bt_ 137438953471 40) ?_
         refine pn_ 37 82 (bt_ 274877906943 40) ?_
         refine pn_ 38 83 (bt_ 549755813887 40) ?_
         refine pu_ 39 84 (bt_ 1099511627775 40) ?_
         refine done_ (done_of HT_.out (by kernel_rfl)) ?_
         try go_wp2
         go_meet
         case rel => exact ⟨_, (true), rt_, H', ⟨by have := HK1.out; have := HK2.out; first | omega | exact Nat.le_refl _⟩, ⟨bk_ BK200⟩, ⟨hb_ HB⟩⟩
        replace H := ic_ H
        rcases H with ⟨c26b0, H⟩ | ⟨c26b0, H⟩
        ·
         obtain ⟨ji27, hji27⟩ : ∃ j_ : Int, (wrap64 (x5_2 - 1)) = j_ := ⟨_, rfl⟩
         replace H : (if 0 ≤ (ji27) then (if (ji27) < (l0_5.length : Int) then (if 0 ≤ (rd l0_5 (ji27)) then (if (rd l0_5 (ji27)) < (l0_4.length : Int) then (spec_l9Calls.j2 k2 x3_1 x5_2 (rd l0_5 x5_2) (decide (((rd_T147 l0_4 (rd l0_5 (ji27))).f3) > ((rd_T147 l0_4 (rd l0_5 x5_2)).f3))) l0_0 l0_1 l0_2 a0_3 l0_4 l0_5 l0_6 a0_7) else (none)) else (none)) else (none)) else (none)) = some r := by first | (rw [hji27] at H; exact H) | (simp only [hji27] at H ⊢; exact H)
         (try rw [hji27] at A20)
         have hji27w : (IntKind.i64.wrap (x5_2 - 1)) = ji27 := (i64_w _).trans hji27
         replace H := ix_ H
         obtain ⟨c28b0, H⟩ := H
         replace H := ix_ H
         obtain ⟨c29b0, H⟩ := H
         replace H := ix_ H
         obtain ⟨c30b0, H⟩ := H
         replace H := ix_ H
         obtain ⟨c31b0, H⟩ := H
         replace H' := A_ H; clear H
         try go_wp2
         replace BK200 := A_ (blk_drew BK200.out)
         replace HB := A_ (below_drew1 HB.out)
         have p207 : 0 ≤ ((rd l0_5 x5_2) : Int) := od_
         have q207 : (rd l0_5 x5_2) < (l0_4.length : Int) := od_
         obtain ⟨ad207, A207_8, c207_8, e207, u207_0, u207_1, u207_2, u207_3, u207_4, u207_5, u207_6, u207_7, u207_8, hl207_8, hi207_8⟩ := at_T147 HR0_4.out (rd l0_5 x5_2) p207 q207
         have hw207_8 := u207_8
         have hw207_7 := u207_7
         have hw207_6 := u207_6
         have hw207_5 := u207_5
         have hw207_4 := u207_4
         have hw207_3 := u207_3
         have hw207_2 := u207_2
         have hw207_1 := u207_1
         have hw207_0 := u207_0
         cases e207
         replace u207_0 := hx_ HB u207_0
         replace u207_1 := hx_ HB u207_1
         replace u207_2 := hx_ HB u207_2
         replace u207_3 := hx_ HB u207_3
         replace u207_4 := hx_ HB u207_4
         replace u207_5 := hx_ HB u207_5
         replace u207_6 := hx_ HB u207_6
         replace u207_7 := hx_ HB u207_7
         replace u207_8 := hx_ HB u207_8
         have HR207_8 := A_ hi207_8
         have HC207_8 := A_ hl207_8
         clear hi207_8 hl207_8
         replace p207 := eq_true p207
         replace q207 := eq_true q207
         have p208 : 0 ≤ ((ji27) : Int) := od_
         have q208 : (ji27) < (l0_5.length : Int) := od_
         obtain ⟨ad208, e208, u208_0⟩ := Kd.at_int HR0_5.out (ji27) p208 q208
         have hw208_0 := u208_0
         obtain rfl : ad205 = ad208 := (by injection e208)
         replace u208_0 := hx_ HB u208_0
         replace p208 := eq_true p208
         replace q208 := eq_true q208
         have p209 : 0 ≤ ((rd l0_5 (ji27)) : Int) := od_
         have q209 : (rd l0_5 (ji27)) < (l0_4.length : Int) := od_
         obtain ⟨ad209, A209_8, c209_8, e209, u209_0, u209_1, u209_2, u209_3, u209_4, u209_5, u209_6, u209_7, u209_8, hl209_8, hi209_8⟩ := at_T147 HR0_4.out (rd l0_5 (ji27)) p209 q209
         have hw209_8 := u209_8
         have hw209_7 := u209_7
         have hw209_6 := u209_6
         have hw209_5 := u209_5
         have hw209_4 := u209_4
         have hw209_3 := u209_3
         have hw209_2 := u209_2
         have hw209_1 := u209_1
         have hw209_0 := u209_0
         obtain rfl : ad207 = ad209 := (by injection e209)
         replace u209_0 := hx_ HB u209_0
         replace u209_1 := hx_ HB u209_1
         replace u209_2 := hx_ HB u209_2
         replace u209_3 := hx_ HB u209_3
         replace u209_4 := hx_ HB u209_4
         replace u209_5 := hx_ HB u209_5
         replace u209_6 := hx_ HB u209_6
         replace u209_7 := hx_ HB u209_7
         replace u209_8 := hx_ HB u209_8
         have HR209_8 := A_ hi209_8
         have HC209_8 := A_ hl209_8
         clear hi209_8 hl209_8
         replace p209 := eq_true p209
         replace q209 := eq_true q209
         have p210 : 0 ≤ ((rd l0_5 x5_2) : Int) := od_
         have q210 : (rd l0_5 x5_2) < (l0_4.length : Int) := od_
         obtain ⟨ad210, A210_8, c210_8, e210, u210_0, u210_1, u210_2, u210_3, u210_4, u210_5, u210_6, u210_7, u210_8, hl210_8, hi210_8⟩ := at_T147 HR0_4.out (rd l0_5 x5_2) p210 q210
         have hw210_8 := u210_8
         have hw210_7 := u210_7
         have hw210_6 := u210_6
         have hw210_5 := u210_5
         have hw210_4 := u210_4
         have hw210_3 := u210_3
         have hw210_2 := u210_2
         have hw210_1 := u210_1
         have hw210_0 := u210_0
         obtain rfl : ad207 = ad210 := (by injection e210)
         replace u210_0 := hx_ HB u210_0
         replace u210_1 := hx_ HB u210_1
         replace u210_2 := hx_ HB u210_2
         replace u210_3 := hx_ HB u210_3
         replace u210_4 := hx_ HB u210_4
         replace u210_5 := hx_ HB u210_5
         replace u210_6 := hx_ HB u210_6
         replace u210_7 := hx_ HB u210_7
         replace u210_8 := hx_ HB u210_8
         have HR210_8 := A_ hi210_8
         have HC210_8 := A_ hl210_8
         clear hi210_8 hl210_8
         replace p210 := eq_true p210
         replace q210 := eq_true q210
         have ea_ := Option.some.inj (u207_8.symm.trans u210_8)
         injection ea_ with ea_ en_ ec_
         subst ea_
         subst ec_
         clear en_
         refine start_ (n := 40) (S := fun w' => w'.cell? ⟨gb200, 0, none⟩ = some (.slice A0_0 l0_0.length c0_0) ∧ w'.cell? ⟨gb200, 1, none⟩ = some (.slice A0_1 l0_1.length c0_1) ∧ w'.cell? ⟨gb200, 2, none⟩ = some (.slice A0_2 l0_2.length c0_2) ∧ w'.cell? ⟨gb200, 3, none⟩ = some (.int .i64 a0_3) ∧ w'.cell? ⟨gb200, 4, none⟩ = some (.slice (some ad207) l0_4.length c0_4) ∧ w'.cell? ⟨gb200, 5, none⟩ = some (.slice (some ad205) l0_5.length c0_5) ∧ w'.cell? ⟨gb200, 6, none⟩ = some (.slice A0_6 l0_6.length c0_6) ∧ w'.cell? ⟨gb200, 7, none⟩ = some (.int .i64 a0_7) ∧ w'.cell? (ad207.add (((rd l0_5 x5_2)).toNat * 9)) = some (.int .i64 ((rd_T147 l0_4 (rd l0_5 x5_2)).f0)) ∧ w'.cell? ⟨(ad207.add (((rd l0_5 x5_2)).toNat * 9)).block, (ad207.add (((rd l0_5 x5_2)).toNat * 9)).off + 1, none⟩ = some (.int .i64 ((rd_T147 l0_4 (rd l0_5 x5_2)).f1.f0)) ∧ w'.cell? ⟨(ad207.add (((rd l0_5 x5_2)).toNat * 9)).block, (ad207.add (((rd l0_5 x5_2)).toNat * 9)).off + 2, none⟩ = some (.int .i64 ((rd_T147 l0_4 (rd l0_5 x5_2)).f1.f1)) ∧ w'.cell? ⟨(ad207.add (((rd l0_5 x5_2)).toNat * 9)).block, (ad207.add (((rd l0_5 x5_2)).toNat * 9)).off + 3, none⟩ = some (.int .i64 ((rd_T147 l0_4 (rd l0_5 x5_2)).f1.f2)) ∧ w'.cell? ⟨(ad207.add (((rd l0_5 x5_2)).toNat * 9)).block, (ad207.add (((rd l0_5 x5_2)).toNat * 9)).off + 4, none⟩ = some (.int .i64 ((rd_T147 l0_4 (rd l0_5 x5_2)).f2)) ∧ w'.cell? ⟨(ad207.add (((rd l0_5 x5_2)).toNat * 9)).block, (ad207.add (((rd l0_5 x5_2)).toNat * 9)).off + 5, none⟩ = some (.int .i64 ((rd_T147 l0_4 (rd l0_5 x5_2)).f3)) ∧ w'.cell? ⟨(ad207.add (((rd l0_5 x5_2)).toNat * 9)).block, (ad207.add (((rd l0_5 x5_2)).toNat * 9)).off + 6, none⟩ = some (.int .i64 ((rd_T147 l0_4 (rd l0_5 x5_2)).f4)) ∧ w'.cell? ⟨(ad207.add (((rd l0_5 x5_2)).toNat * 9)).block, (ad207.add (((rd l0_5 x5_2)).toNat * 9)).off + 7, none⟩ = some (.int .i64 ((rd_T147 l0_4 (rd l0_5 x5_2)).f5.f0)) ∧ w'.cell? ⟨(ad207.add (((rd l0_5 x5_2)).toNat * 9)).block, (ad207.add (((rd l0_5 x5_2)).toNat * 9)).off + 8, none⟩ = some (.slice A207_8 ((rd_T147 l0_4 (rd l0_5 x5_2)).f5.f1).length c207_8) ∧ w'.cell? (ad205.add ((ji27)).toNat) = some (.int .i64 (rd l0_5 (ji27))) ∧ w'.cell? (ad207.add (((rd l0_5 (ji27))).toNat * 9)) = some (.int .i64 ((rd_T147 l0_4 (rd l0_5 (ji27))).f0)) ∧ w'.cell? ⟨(ad207.add (((rd l0_5 (ji27))).toNat * 9)).block, (ad207.add (((rd l0_5 (ji27))).toNat * 9)).off + 1, none⟩ = some (.int .i64 ((rd_T147 l0_4 (rd l0_5 (ji27))).f1.f0)) ∧ w'.cell? ⟨(ad207.add (((rd l0_5 (ji27))).toNat * 9)).block, (ad207.add (((rd l0_5 (ji27))).toNat * 9)).off + 2, none⟩ = some (.int .i64 ((rd_T147 l0_4 (rd l0_5 (ji27))).f1.f1)) ∧ w'.cell? ⟨(ad207.add (((rd l0_5 (ji27))).toNat * 9)).block, (ad207.add (((rd l0_5 (ji27))).toNat * 9)).off + 3, none⟩ = some (.int .i64 ((rd_T147 l0_4 (rd l0_5 (ji27))).f1.f2)) ∧ w'.cell? ⟨(ad207.add (((rd l0_5 (ji27))).toNat * 9)).block, (ad207.add (((rd l0_5 (ji27))).toNat * 9)).off + 4, none⟩ = some (.int .i64 ((rd_T147 l0_4 (rd l0_5 (ji27))).f2)) ∧ w'.cell? ⟨(ad207.add (((rd l0_5 (ji27))).toNat * 9)).block, (ad207.add (((rd l0_5 (ji27))).toNat * 9)).off + 5, none⟩ = some (.int .i64 ((rd_T147 l0_4 (rd l0_5 (ji27))).f3)) ∧ w'.cell? ⟨(ad207.add (((rd l0_5 (ji27))).toNat * 9)).block, (ad207.add (((rd l0_5 (ji27))).toNat * 9)).off + 6, none⟩ = some (.int .i64 ((rd_T147 l0_4 (rd l0_5 (ji27))).f4)) ∧ w'.cell? ⟨(ad207.add (((rd l0_5 (ji27))).toNat * 9)).block, (ad207.add (((rd l0_5 (ji27))).toNat * 9)).off + 7, none⟩ = some (.int .i64 ((rd_T147 l0_4 (rd l0_5 (ji27))).f5.f0)) ∧ w'.cell? ⟨(ad207.add (((rd l0_5 (ji27))).toNat * 9)).block, (ad207.add (((rd l0_5 (ji27))).toNat * 9)).off + 8, none⟩ = some (.slice A209_8 ((rd_T147 l0_4 (rd l0_5 (ji27))).f5.f1).length c209_8) ∧ w'.cell? (ad207.add (((rd l0_5 x5_2)).toNat * 9)) = some (.int .i64 ((rd_T147 l0_4 (rd l0_5 x5_2)).f0)) ∧ w'.cell? ⟨(ad207.add (((rd l0_5 x5_2)).toNat * 9)).block, (ad207.add (((rd l0_5 x5_2)).toNat * 9)).off + 1, none⟩ = some (.int .i64 ((rd_T147 l0_4 (rd l0_5 x5_2)).f1.f0)) ∧ w'.cell? ⟨(ad207.add (((rd l0_5 x5_2)).toNat * 9)).block, (ad207.add (((rd l0_5 x5_2)).toNat * 9)).off + 2, none⟩ = some (.int .i64 ((rd_T147 l0_4 (rd l0_5 x5_2)).f1.f1)) ∧ w'.cell? ⟨(ad207.add (((rd l0_5 x5_2)).toNat * 9)).block, (ad207.add (((rd l0_5 x5_2)).toNat * 9)).off + 3, none⟩ = some (.int .i64 ((rd_T147 l0_4 (rd l0_5 x5_2)).f1.f2)) ∧ w'.cell? ⟨(ad207.add (((rd l0_5 x5_2)).toNat * 9)).block, (ad207.add (((rd l0_5 x5_2)).toNat * 9)).off + 4, none⟩ = some (.int .i64 ((rd_T147 l0_4 (rd l0_5 x5_2)).f2)) ∧ w'.cell? ⟨(ad207.add (((rd l0_5 x5_2)).toNat * 9)).block, (ad207.add (((rd l0_5 x5_2)).toNat * 9)).off + 5, none⟩ = some (.int .i64 ((rd_T147 l0_4 (rd l0_5 x5_2)).f3)) ∧ w'.cell? ⟨(ad207.add (((rd l0_5 x5_2)).toNat * 9)).block, (ad207.add (((rd l0_5 x5_2)).toNat * 9)).off + 6, none⟩ = some (.int .i64 ((rd_T147 l0_4 (rd l0_5 x5_2)).f4)) ∧ w'.cell? ⟨(ad207.add (((rd l0_5 x5_2)).toNat * 9)).block, (ad207.add (((rd l0_5 x5_2)).toNat * 9)).off + 7, none⟩ = some (.int .i64 ((rd_T147 l0_4 (rd l0_5 x5_2)).f5.f0)) ∧ w'.cell? ⟨(ad207.add (((rd l0_5 x5_2)).toNat * 9)).block, (ad207.add (((rd l0_5 x5_2)).toNat * 9)).off + 8, none⟩ = some (.slice A207_8 ((rd_T147 l0_4 (rd l0_5 x5_2)).f5.f1).length c207_8)) (ds := []) (bt_ 0 40) (by kernel_rfl) rfl rfl ⟨(blk_cell BK200.out 0).trans rfl, (blk_cell BK200.out 1).trans rfl, (blk_cell BK200.out 2).trans rfl, (blk_cell BK200.out 3).trans rfl, (blk_cell BK200.out 4).trans rfl, (blk_cell BK200.out 5).trans rfl, (blk_cell BK200.out 6).trans rfl, (blk_cell BK200.out 7).trans rfl, (hy_ HB hw207_0), (hy_ HB hw207_1), (hy_ HB hw207_2), (hy_ HB hw207_3), (hy_ HB hw207_4), (hy_ HB hw207_5), (hy_ HB hw207_6), (hy_ HB hw207_7), (hy_ HB hw207_8), (hy_ HB hw208_0), (hy_ HB hw209_0), (hy_ HB hw209_1), (hy_ HB hw209_2), (hy_ HB hw209_3), (hy_ HB hw209_4), (hy_ HB hw209_5), (hy_ HB hw209_6), (hy_ HB hw209_7), (hy_ HB hw209_8), (hy_ HB hw210_0), (hy_ HB hw210_1), (hy_ HB hw210_2), (hy_ HB hw210_3), (hy_ HB hw210_4), (hy_ HB hw210_5), (hy_ HB hw210_6), (hy_ HB hw210_7), (hy_ HB hw210_8)⟩ (fun hHeld => ?_); refine with_tabW spec_l9Calls.tab12 spec_l9Calls.bits12 (fun HT_ HW_ => ?_)
         generalize wr.drew = w32 at BK200 HB HR207_8 HR209_8 HR210_8 u207_0 u207_1 u207_2 u207_3 u207_4 u207_5 u207_6 u207_7 u207_8 u208_0 u209_0 u209_1 u209_2 u209_3 u209_4 u209_5 u209_6 u209_7 u209_8 u210_0 u210_1 u210_2 u210_3 u210_4 u210_5 u210_6 u210_7 u210_8 hHeld ⊢
         refine pu_ 0 45 (bt_ 1 40) ?_
         refine pu_ 1 46 (bt_ 3 40) ?_
         refine tk36_ 2 47 (bt_ 7 40) hHeld ?_
         refine pu_ 3 48 (bt_ 15 40) ?_
         refine pu_ 4 49 (bt_ 31 40) ?_
         refine one_ (i := 5) (N := some 50) (bt_ 63 40) rfl rfl (one_of HT_.out (by kernel_rfl)) (by decide) (fun K hK => ?_)
         refine goes_ Tryz.func70 (by kernel_rfl) rfl #[.int .i64 (rd l0_5 x5_2), .int .i64 0, .int .i64 (wrap64 ((l0_4.length : Int) - 1))] (by rfl) rfl rfl al_ ?_
         with_reducible refine (spec_l1In.calls (rd l0_5 x5_2) 0 (wrap64 ((l0_4.length : Int) - 1)) true _ A20.out).mono ?_
         rintro e w' ⟨rfl, ⟨nd, rfl⟩⟩
         refine ⟨_, rfl, ?_⟩
         refine hK.out _ _ ⟨(blk_cell BK200.out 0).trans rfl, (blk_cell BK200.out 1).trans rfl, (blk_cell BK200.out 2).trans rfl, (blk_cell BK200.out 3).trans rfl, (blk_cell BK200.out 4).trans rfl, (blk_cell BK200.out 5).trans rfl, (blk_cell BK200.out 6).trans rfl, (blk_cell BK200.out 7).trans rfl, (hy_ HB hw207_0), (hy_ HB hw207_1), (hy_ HB hw207_2), (hy_ HB hw207_3), (hy_ HB hw207_4), (hy_ HB hw207_5), (hy_ HB hw207_6), (hy_ HB hw207_7), (hy_ HB hw207_8), (hy_ HB hw208_0), (hy_ HB hw209_0), (hy_ HB hw209_1), (hy_ HB hw209_2), (hy_ HB hw209_3), (hy_ HB hw209_4), (hy_ HB hw209_5), (hy_ HB hw209_6), (hy_ HB hw209_7), (hy_ HB hw209_8), (hy_ HB hw210_0), (hy_ HB hw210_1), (hy_ HB hw210_2), (hy_ HB hw210_3), (hy_ HB hw210_4), (hy_ HB hw210_5), (hy_ HB hw210_6), (hy_ HB hw210_7), (hy_ HB hw210_8)⟩ (fun hHeld => ?_)
         clear hK K
         refine norm_ (a' := ?_) ?_ ?_
         rotate_left
         ·
          show Act.put _ (some 50) _ = _
          simp only [Act.put, List.setIfInBounds_toArray, List.set_cons_zero, List.set_cons_succ, i64_w, i32_w]
          rfl
         refine pu_ 6 51 (bt_ 127 40) ?_
         refine pu_ 7 52 (bt_ 255 40) ?_
         refine pu_ 8 53 (bt_ 511 40) ?_
         refine pu_ 10 55 (bt_ 1535 40) ?_
         refine tk36_ 9 54 (bt_ 2047 40) hHeld ?_
         refine pu_ 11 56 (bt_ 4095 40) ?_
         refine pu_ 12 57 (bt_ 8191 40) ?_
         refine tk36_ 13 58 (bt_ 16383 40) hHeld ?_
         refine pu_ 14 59 (bt_ 32767 40) ?_
         refine pu_ 15 60 (bt_ 65535 40) ?_
         refine pu_ 16 61 (bt_ 131071 40) ?_
         refine pu_ 17 62 (bt_ 262143 40) ?_
         refine pu_ 18 63 (bt_ 524287 40) ?_
         refine pu_ 19 64 (bt_ 1048575 40) ?_
         refine pu_ 20 65 (bt_ 2097151 40) ?_
         refine pu_ 22 67 (bt_ 6291455 40) ?_
         refine pu_ 24 69 (bt_ 23068671 40) ?_
         refine pu_ 25 70 (bt_ 56623103 40) ?_
         refine pu_ 31 76 (bt_ 2204106751 40) ?_
         refine pu_ 33 78 (bt_ 10794041343 40) ?_
         refine tk36_ 21 66 (bt_ 10796138495 40) hHeld ?_
         refine tk36_ 23 68 (bt_ 10804527103 40) hHeld ?_
         refine pu_ 26 71 (bt_ 10871635967 40) ?_
         refine tk36_ 27 72 (bt_ 11005853695 40) hHeld ?_
         refine pu_ 28 73 (bt_ 11274289151 40) ?_
         refine pu_ 29 74 (bt_ 11811160063 40) ?_
         refine tk36_ 30 75 (bt_ 12884901887 40) hHeld ?_
         refine tk36_ 32 77 (bt_ 17179869183 40) hHeld ?_
         refine pu_ 34 79 (bt_ 34359738367 40) ?_
         refine pu_ 35 80 (bt_ 68719476735 40) ?_
         refine tk36_ 36 81 (bt_ 137438953471 40) hHeld ?_
         refine pu_ 37 82 (bt_ 274877906943 40) ?_
         refine pu_ 38 83 (bt_ 549755813887 40) ?_
         refine pu_ 39 84 (bt_ 1099511627775 40) ?_
         refine done_ (done_of HT_.out (by kernel_rfl)) ?_
         try go_wp2
         go_meet
         case rel => exact ⟨_, (decide (((rd_T147 l0_4 (rd l0_5 (ji27))).f3) > ((rd_T147 l0_4 (rd l0_5 x5_2)).f3))), (by first | rfl | (simp; done) | (simp only [← hji27] <;> (first | rfl | simp)) | (simp [*]; done)), H', ⟨by have := HK1.out; have := HK2.out; first | omega | exact Nat.le_refl _⟩, ⟨bk_ BK200⟩, ⟨hb_ HB⟩⟩
        replace H' := A_ H; clear H
        try go_wp2
        replace BK200 := A_ (blk_drew BK200.out)
        replace HB := A_ (below_drew1 HB.out)
        have p207 : 0 ≤ ((rd l0_5 x5_2) : Int) := od_
        have q207 : (rd l0_5 x5_2) < (l0_4.length : Int) := od_
        obtain ⟨ad207, A207_8, c207_8, e207, u207_0, u207_1, u207_2, u207_3, u207_4, u207_5, u207_6, u207_7, u207_8, hl207_8, hi207_8⟩ := at_T147 HR0_4.out (rd l0_5 x5_2) p207 q207
        have hw207_8 := u207_8
        have hw207_7 := u207_7
        have hw207_6 := u207_6
        have hw207_5 := u207_5
        have hw207_4 := u207_4
        have hw207_3 := u207_3
        have hw207_2 := u207_2
        have hw207_1 := u207_1
        have hw207_0 := u207_0
        cases e207
        replace u207_0 := hx_ HB u207_0
        replace u207_1 := hx_ HB u207_1
        replace u207_2 := hx_ HB u207_2
        replace u207_3 := hx_ HB u207_3
        replace u207_4 := hx_ HB u207_4
        replace u207_5 := hx_ HB u207_5
        replace u207_6 := hx_ HB u207_6
        replace u207_7 := hx_ HB u207_7
        replace u207_8 := hx_ HB u207_8
        have HR207_8 := A_ hi207_8
        have HC207_8 := A_ hl207_8
        clear hi207_8 hl207_8
        replace p207 := eq_true p207
        replace q207 := eq_true q207
        refine start_ (n := 40) (S := fun w' => w'.cell? ⟨gb200, 0, none⟩ = some (.slice A0_0 l0_0.length c0_0) ∧ w'.cell? ⟨gb200, 1, none⟩ = some (.slice A0_1 l0_1.length c0_1) ∧ w'.cell? ⟨gb200, 2, none⟩ = some (.slice A0_2 l0_2.length c0_2) ∧ w'.cell? ⟨gb200, 3, none⟩ = some (.int .i64 a0_3) ∧ w'.cell? ⟨gb200, 4, none⟩ = some (.slice (some ad207) l0_4.length c0_4) ∧ w'.cell? ⟨gb200, 5, none⟩ = some (.slice (some ad205) l0_5.length c0_5) ∧ w'.cell? ⟨gb200, 6, none⟩ = some (.slice A0_6 l0_6.length c0_6) ∧ w'.cell? ⟨gb200, 7, none⟩ = some (.int .i64 a0_7) ∧ w'.cell? (ad207.add (((rd l0_5 x5_2)).toNat * 9)) = some (.int .i64 ((rd_T147 l0_4 (rd l0_5 x5_2)).f0)) ∧ w'.cell? ⟨(ad207.add (((rd l0_5 x5_2)).toNat * 9)).block, (ad207.add (((rd l0_5 x5_2)).toNat * 9)).off + 1, none⟩ = some (.int .i64 ((rd_T147 l0_4 (rd l0_5 x5_2)).f1.f0)) ∧ w'.cell? ⟨(ad207.add (((rd l0_5 x5_2)).toNat * 9)).block, (ad207.add (((rd l0_5 x5_2)).toNat * 9)).off + 2, none⟩ = some (.int .i64 ((rd_T147 l0_4 (rd l0_5 x5_2)).f1.f1)) ∧ w'.cell? ⟨(ad207.add (((rd l0_5 x5_2)).toNat * 9)).block, (ad207.add (((rd l0_5 x5_2)).toNat * 9)).off + 3, none⟩ = some (.int .i64 ((rd_T147 l0_4 (rd l0_5 x5_2)).f1.f2)) ∧ w'.cell? ⟨(ad207.add (((rd l0_5 x5_2)).toNat * 9)).block, (ad207.add (((rd l0_5 x5_2)).toNat * 9)).off + 4, none⟩ = some (.int .i64 ((rd_T147 l0_4 (rd l0_5 x5_2)).f2)) ∧ w'.cell? ⟨(ad207.add (((rd l0_5 x5_2)).toNat * 9)).block, (ad207.add (((rd l0_5 x5_2)).toNat * 9)).off + 5, none⟩ = some (.int .i64 ((rd_T147 l0_4 (rd l0_5 x5_2)).f3)) ∧ w'.cell? ⟨(ad207.add (((rd l0_5 x5_2)).toNat * 9)).block, (ad207.add (((rd l0_5 x5_2)).toNat * 9)).off + 6, none⟩ = some (.int .i64 ((rd_T147 l0_4 (rd l0_5 x5_2)).f4)) ∧ w'.cell? ⟨(ad207.add (((rd l0_5 x5_2)).toNat * 9)).block, (ad207.add (((rd l0_5 x5_2)).toNat * 9)).off + 7, none⟩ = some (.int .i64 ((rd_T147 l0_4 (rd l0_5 x5_2)).f5.f0)) ∧ w'.cell? ⟨(ad207.add (((rd l0_5 x5_2)).toNat * 9)).block, (ad207.add (((rd l0_5 x5_2)).toNat * 9)).off + 8, none⟩ = some (.slice A207_8 ((rd_T147 l0_4 (rd l0_5 x5_2)).f5.f1).length c207_8)) (ds := []) (bt_ 0 40) (by kernel_rfl) rfl rfl ⟨(blk_cell BK200.out 0).trans rfl, (blk_cell BK200.out 1).trans rfl, (blk_cell BK200.out 2).trans rfl, (blk_cell BK200.out 3).trans rfl, (blk_cell BK200.out 4).trans rfl, (blk_cell BK200.out 5).trans rfl, (blk_cell BK200.out 6).trans rfl, (blk_cell BK200.out 7).trans rfl, (hy_ HB hw207_0), (hy_ HB hw207_1), (hy_ HB hw207_2), (hy_ HB hw207_3), (hy_ HB hw207_4), (hy_ HB hw207_5), (hy_ HB hw207_6), (hy_ HB hw207_7), (hy_ HB hw207_8)⟩ (fun hHeld => ?_); refine with_tabW spec_l9Calls.tab12 spec_l9Calls.bits12 (fun HT_ HW_ => ?_)
        generalize wr.drew = w33 at BK200 HB HR207_8 u207_0 u207_1 u207_2 u207_3 u207_4 u207_5 u207_6 u207_7 u207_8 hHeld ⊢
        refine pu_ 0 45 (bt_ 1 40) ?_
        refine pu_ 1 46 (bt_ 3 40) ?_
        refine tk17_ 2 47 (bt_ 7 40) hHeld ?_
        refine pu_ 3 48 (bt_ 15 40) ?_
        refine pu_ 4 49 (bt_ 31 40) ?_
        refine one_ (i := 5) (N := some 50) (bt_ 63 40) rfl rfl (one_of HT_.out (by kernel_rfl)) (by decide) (fun K hK => ?_)
        refine goes_ Tryz.func70 (by kernel_rfl) rfl #[.int .i64 (rd l0_5 x5_2), .int .i64 0, .int .i64 (wrap64 ((l0_4.length : Int) - 1))] (by rfl) rfl rfl al_ ?_
        with_reducible refine (spec_l1In.calls (rd l0_5 x5_2) 0 (wrap64 ((l0_4.length : Int) - 1)) true _ A20.out).mono ?_
        rintro e w' ⟨rfl, ⟨nd, rfl⟩⟩
        refine ⟨_, rfl, ?_⟩
        refine hK.out _ _ ⟨(blk_cell BK200.out 0).trans rfl, (blk_cell BK200.out 1).trans rfl, (blk_cell BK200.out 2).trans rfl, (blk_cell BK200.out 3).trans rfl, (blk_cell BK200.out 4).trans rfl, (blk_cell BK200.out 5).trans rfl, (blk_cell BK200.out 6).trans rfl, (blk_cell BK200.out 7).trans rfl, (hy_ HB hw207_0), (hy_ HB hw207_1), (hy_ HB hw207_2), (hy_ HB hw207_3), (hy_ HB hw207_4), (hy_ HB hw207_5), (hy_ HB hw207_6), (hy_ HB hw207_7), (hy_ HB hw207_8)⟩ (fun hHeld => ?_)
        clear hK K
        refine norm_ (a' := ?_) ?_ ?_
        rotate_left
        ·
         show Act.put _ (some 50) _ = _
         simp only [Act.put, List.setIfInBounds_toArray, List.set_cons_zero, List.set_cons_succ, i64_w, i32_w]
         rfl
        refine pu_ 6 51 (bt_ 127 40) ?_
        refine pu_ 7 52 (bt_ 255 40) ?_
        refine pu_ 8 53 (bt_ 511 40) ?_
        refine pu_ 10 55 (bt_ 1535 40) ?_
        refine tk17_ 9 54 (bt_ 2047 40) hHeld ?_
        refine pu_ 11 56 (bt_ 4095 40) ?_
        refine pu_ 12 57 (bt_ 8191 40) ?_
        refine tk17_ 13 58 (bt_ 16383 40) hHeld ?_
        refine pu_ 14 59 (bt_ 32767 40) ?_
        refine pu_ 15 60 (bt_ 65535 40) ?_
        refine pu_ 16 61 (bt_ 131071 40) ?_
        refine pu_ 17 62 (bt_ 262143 40) ?_
        refine pu_ 18 63 (bt_ 524287 40) ?_
        refine pu_ 19 64 (bt_ 1048575 40) ?_
        refine pn_ 20 65 (bt_ 2097151 40) ?_
        refine pn_ 21 66 (bt_ 4194303 40) ?_
        refine pn_ 22 67 (bt_ 8388607 40) ?_
        refine pn_ 23 68 (bt_ 16777215 40) ?_
        refine pn_ 24 69 (bt_ 33554431 40) ?_
        refine pn_ 25 70 (bt_ 67108863 40) ?_
        refine pn_ 26 71 (bt_ 134217727 40) ?_
        refine pn_ 27 72 (bt_ 268435455 40) ?_
        refine pn_ 28 73 (bt_ 536870911 40) ?_
        refine pn_ 29 74 (bt_ 1073741823 40) ?_
        refine pn_ 30 75 (bt_ 2147483647 40) ?_
        refine pn_ 31 76 (bt_ 4294967295 40) ?_
        refine pn_ 32 77 (bt_ 8589934591 40) ?_
        refine pn_ 33 78 (bt_ 17179869183 40) ?_
        refine pn_ 34 79 (bt_ 34359738367 40) ?_
        refine pn_ 35 80 (bt_ 68719476735 40) ?_
        refine pn_ 36 81 (bt_ 137438953471 40) ?_
        refine pn_ 37 82 (bt_ 274877906943 40) ?_
        refine pu_ 38 83 (bt_ 549755813887 40) ?_
        refine pu_ 39 84 (bt_ 1099511627775 40) ?_
        refine done_ (done_of HT_.out (by kernel_rfl)) ?_
        try go_wp2
        go_meet
        case rel => exact ⟨_, (false), rt_, H', ⟨by have := HK1.out; have := HK2.out; first | omega | exact Nat.le_refl _⟩, ⟨bk_ BK200⟩, ⟨hb_ HB⟩⟩
       obtain rfl := Bool.eq_false_iff.mpr c21
       replace H := iF_ H
       replace H' := A_ H; clear H
       try go_wp2
       replace BK200 := A_ (blk_drew BK200.out)
       replace HB := A_ (below_drew1 HB.out)
       refine start_ (n := 40) (S := fun w' => w'.cell? ⟨gb200, 0, none⟩ = some (.slice A0_0 l0_0.length c0_0) ∧ w'.cell? ⟨gb200, 1, none⟩ = some (.slice A0_1 l0_1.length c0_1) ∧ w'.cell? ⟨gb200, 2, none⟩ = some (.slice A0_2 l0_2.length c0_2) ∧ w'.cell? ⟨gb200, 3, none⟩ = some (.int .i64 a0_3) ∧ w'.cell? ⟨gb200, 4, none⟩ = some (.slice A0_4 l0_4.length c0_4) ∧ w'.cell? ⟨gb200, 5, none⟩ = some (.slice (some ad205) l0_5.length c0_5) ∧ w'.cell? ⟨gb200, 6, none⟩ = some (.slice A0_6 l0_6.length c0_6) ∧ w'.cell? ⟨gb200, 7, none⟩ = some (.int .i64 a0_7)) (ds := []) (bt_ 0 40) (by kernel_rfl) rfl rfl ⟨(blk_cell BK200.out 0).trans rfl, (blk_cell BK200.out 1).trans rfl, (blk_cell BK200.out 2).trans rfl, (blk_cell BK200.out 3).trans rfl, (blk_cell BK200.out 4).trans rfl, (blk_cell BK200.out 5).trans rfl, (blk_cell BK200.out 6).trans rfl, (blk_cell BK200.out 7).trans rfl⟩ (fun hHeld => ?_); refine with_tabW spec_l9Calls.tab12 spec_l9Calls.bits12 (fun HT_ HW_ => ?_)
       generalize wr.drew = w34 at BK200 HB hHeld ⊢
       refine pu_ 0 45 (bt_ 1 40) ?_
       refine pu_ 1 46 (bt_ 3 40) ?_
       refine tk8_ 2 47 (bt_ 7 40) hHeld ?_
       refine pu_ 3 48 (bt_ 15 40) ?_
       refine pu_ 4 49 (bt_ 31 40) ?_
       refine one_ (i := 5) (N := some 50) (bt_ 63 40) rfl rfl (one_of HT_.out (by kernel_rfl)) (by decide) (fun K hK => ?_)
       refine goes_ Tryz.func70 (by kernel_rfl) rfl #[.int .i64 (rd l0_5 x5_2), .int .i64 0, .int .i64 (wrap64 ((l0_4.length : Int) - 1))] (by rfl) rfl rfl al_ ?_
       with_reducible refine (spec_l1In.calls (rd l0_5 x5_2) 0 (wrap64 ((l0_4.length : Int) - 1)) false _ A20.out).mono ?_
       rintro e w' ⟨rfl, ⟨nd, rfl⟩⟩
       refine ⟨_, rfl, ?_⟩
       refine hK.out _ _ ⟨(blk_cell BK200.out 0).trans rfl, (blk_cell BK200.out 1).trans rfl, (blk_cell BK200.out 2).trans rfl, (blk_cell BK200.out 3).trans rfl, (blk_cell BK200.out 4).trans rfl, (blk_cell BK200.out 5).trans rfl, (blk_cell BK200.out 6).trans rfl, (blk_cell BK200.out 7).trans rfl⟩ (fun hHeld => ?_)
       clear hK K
       refine norm_ (a' := ?_) ?_ ?_
       rotate_left
       ·
        show Act.put _ (some 50) _ = _
        simp only [Act.put, List.setIfInBounds_toArray, List.set_cons_zero, List.set_cons_succ, i64_w, i32_w]
        rfl
       refine pu_ 6 51 (bt_ 127 40) ?_
       refine pu_ 7 52 (bt_ 255 40) ?_
       refine pn_ 8 53 (bt_ 511 40) ?_
       refine pn_ 9 54 (bt_ 1023 40) ?_
       refine pn_ 10 55 (bt_ 2047 40) ?_
       refine pn_ 11 56 (bt_ 4095 40) ?_
       refine pn_ 12 57 (bt_ 8191 40) ?_
       refine pn_ 13 58 (bt_ 16383 40) ?_
       refine pn_ 14 59 (bt_ 32767 40) ?_
       refine pu_ 15 60 (bt_ 65535 40) ?_
       refine pu_ 16 61 (bt_ 131071 40) ?_
       refine pn_ 17 62 (bt_ 262143 40) ?_
       refine pn_ 18 63 (bt_ 524287 40) ?_
       refine pn_ 19 64 (bt_ 1048575 40) ?_
       refine pn_ 20 65 (bt_ 2097151 40) ?_
       refine pn_ 21 66 (bt_ 4194303 40) ?_
       refine pn_ 22 67 (bt_ 8388607 40) ?_
       refine pn_ 23 68 (bt_ 16777215 40) ?_
       refine pn_ 24 69 (bt_ 33554431 40) ?_
       refine pn_ 25 70 (bt_ 67108863 40) ?_
       refine pn_ 26 71 (bt_ 134217727 40) ?_
       refine pn_ 27 72 (bt_ 268435455 40) ?_
       refine pn_ 28 73 (bt_ 536870911 40) ?_
       refine pn_ 29 74 (bt_ 1073741823 40) ?_
       refine pn_ 30 75 (bt_ 2147483647 40) ?_
       refine pn_ 31 76 (bt_ 4294967295 40) ?_
       refine pn_ 32 77 (bt_ 8589934591 40) ?_
       refine pn_ 33 78 (bt_ 17179869183 40) ?_
       refine pn_ 34 79 (bt_ 34359738367 40) ?_
       refine pn_ 35 80 (bt_ 68719476735 40) ?_
       refine pn_ 36 81 (bt_ 137438953471 40) ?_
       refine pn_ 37 82 (bt_ 274877906943 40) ?_
       refine pn_ 38 83 (bt_ 549755813887 40) ?_
       refine pu_ 39 84 (bt_ 1099511627775 40) ?_
       refine done_ (done_of HT_.out (by kernel_rfl)) ?_
       try go_wp2
       go_meet
       case rel => exact ⟨_, (true), rt_, H', ⟨by have := HK1.out; have := HK2.out; first | omega | exact Nat.le_refl _⟩, ⟨bk_ BK200⟩, ⟨hb_ HB⟩⟩
      case rest =>
       clear HC18
       try clear c21
       try clear c26b0
       try clear u207_0
       try clear u207_1
       try clear u207_2
       try clear u207_3
       try clear u207_4
       try clear u207_5
       try clear u207_6
       try clear u207_7
       try clear u207_8
       try clear p207
       try clear q207
       obtain ⟨kq, x84_17, rfl, HA, HJ17, BK200, HB⟩ := hcut
       cases kq with
       | zero => exact absurd HA.out (by simp [spec_l9Calls.j2])
       | succ kj17 =>
        have H := HA.out
        clear HA
        simp only [spec_l9Calls.j2] at H
        by_cases c35 : x84_17 = true
        ·
         subst c35
         replace H := it_ H
         obtain rfl := Option.some.inj H
         go_wp2
         go_ret
         exact ⟨rs_, hb_ HB⟩
        obtain rfl := Bool.eq_false_iff.mpr c35
        replace H := iF_ H
        replace H' := A_ H; clear H
        go_wp2
        go_loopg [7] kj17 (fun kq v7 w' => ∃ (x7_4 : Int), v7 = .int .i64 x7_4 ∧ Aside0 (spec_l9Calls.l2 kq x3_1 x5_2 (rd l0_5 x5_2) x7_4 l0_0 l0_1 l0_2 a0_3 l0_4 l0_5 l0_6 a0_7 = some r) ∧ Aside0 (kq ≤ kj17) ∧ Aside0 (w'.heap[gb200]? = some (.cells #[(.slice A0_0 l0_0.length c0_0), (.slice A0_1 l0_1.length c0_1), (.slice A0_2 l0_2.length c0_2), .int .i64 a0_3, (.slice A0_4 l0_4.length c0_4), (.slice (some ad205) l0_5.length c0_5), (.slice A0_6 l0_6.length c0_6), .int .i64 a0_7] 93 (0, 0))) ∧ Aside0 (Below w.heap.size w w'))
        case atStart => exact ⟨(0), rt_, H', ⟨Nat.le_refl _⟩, ⟨bk_ BK200⟩, ⟨hb_ HB⟩⟩
        case round =>
         clear H'
         try clear c21
         try clear c26b0
         try clear c35
         try clear u207_0
         try clear u207_1
         try clear u207_2
         try clear u207_3
         try clear u207_4
         try clear u207_5
         try clear u207_6
         try clear u207_7
         try clear u207_8
         try clear p207
         try clear q207
         obtain ⟨x7_4, rfl, HA, HK4, BK200, HB⟩ := hrel
         cases gk with
         | zero => exact absurd HA.out (by simp [spec_l9Calls.l2])
         | succ k4 =>
          have H := HA.out
          clear HA
          simp only [spec_l9Calls.l2] at H
          replace H := ic_ H
          rcases H with ⟨c36b0, H⟩ | ⟨c36b0, H⟩
          ·
           replace H := ix_ H
           obtain ⟨c37b0, H⟩ := H
           replace H := ix_ H
           obtain ⟨c38b0, H⟩ := H
           by_cases c39 : (rd l0_5 x7_4) = (rd l0_5 x5_2)
           ·
            rw [if_pos c39] at H
            have c39b0 : ((rd l0_5 x7_4) == (rd l0_5 x5_2)) = true := beq_iff_eq.mpr c39
            have c39b1 : ((rd l0_5 x7_4) != (rd l0_5 x5_2)) = false := bne_eq_false_iff_eq.mpr c39
            clear c39
            obtain rfl := Option.some.inj H
            obtain ⟨z40_0, z40_1, z40_2, z40_3, z40_4, z40_5, z40_6, z40_7, y40_0, y40_1, y40_2, y40_3, y40_4, y40_5, y40_6, y40_7⟩ := cz8_ BK200
            have p211 : 0 ≤ (x7_4 : Int) := od_
            have q211 : x7_4 < (l0_5.length : Int) := od_
            obtain ⟨ad211, e211, u211_0⟩ := Kd.at_int HR0_5.out x7_4 p211 q211
            obtain rfl : ad205 = ad211 := (by injection e211)
            replace u211_0 := hx_ HB u211_0
            replace p211 := eq_true p211
            replace q211 := eq_true q211
            go_wp2
            go_ret
            exact ⟨rs_, hb_ HB⟩
           rw [if_neg c39] at H
           have c39b0 : ((rd l0_5 x7_4) == (rd l0_5 x5_2)) = false := beq_eq_false_iff_ne.mpr c39
           have c39b1 : ((rd l0_5 x7_4) != (rd l0_5 x5_2)) = true := bne_iff_ne.mpr c39
           replace H' := A_ H; clear H
           obtain ⟨z41_0, z41_1, z41_2, z41_3, z41_4, z41_5, z41_6, z41_7, y41_0, y41_1, y41_2, y41_3, y41_4, y41_5, y41_6, y41_7⟩ := cz8_ BK200
           have p211 : 0 ≤ (x7_4 : Int) := od_
           have q211 : x7_4 < (l0_5.length : Int) := od_
           obtain ⟨ad211, e211, u211_0⟩ := Kd.at_int HR0_5.out x7_4 p211 q211
           obtain rfl : ad205 = ad211 := (by injection e211)
           replace u211_0 := hx_ HB u211_0
           replace p211 := eq_true p211
           replace q211 := eq_true q211
           go_wp2
           go_roundg k4
           case measure => have := HK1.out; have := HK2.out; have := HJ17.out; have := HK4.out; omega
           case rel => exact ⟨(wrap64 (x7_4 + 1)), rt_, H', ⟨by have := HK1.out; have := HK2.out; have := HJ17.out; have := HK4.out; omega⟩, ⟨bk_ BK200⟩, ⟨hb_ HB⟩⟩
          replace H' := A_ H; clear H
          go_wp2
          go_roundg k4
          case measure => have := HK1.out; have := HK2.out; have := HJ17.out; have := HK4.out; omega
          case rel => exact ⟨(wrap64 (x5_2 + 1)), rt_, H', ⟨by have := HK1.out; have := HK2.out; have := HJ17.out; have := HK4.out; omega⟩, ⟨bk_ BK200⟩, ⟨hb_ HB⟩⟩
     by_cases c42 : (l0_4.length : Int) ≤ 40
     ·
      rw [if_pos c42] at H
      have c42b0 : decide ((l0_4.length : Int) ≤ 40) = true := decide_eq_true c42
      have c42b1 : decide (l0_4.length ≤ 40) = true := decide_eq_true (by omega)
      clear c42
      obtain rfl := Option.some.inj H
      obtain ⟨z43_0, z43_1, z43_2, z43_3, z43_4, z43_5, z43_6, z43_7, y43_0, y43_1, y43_2, y43_3, y43_4, y43_5, y43_6, y43_7⟩ := cz8_ BK200
      go_wp2
      go_ret
      exact ⟨rs_, hb_ HB⟩
     rw [if_neg c42] at H
     have c42b0 : decide ((l0_4.length : Int) ≤ 40) = false := decide_eq_false c42
     have c42b1 : decide (l0_4.length ≤ 40) = false := decide_eq_false (by omega)
     clear c42
     obtain rfl := Option.some.inj H
     obtain ⟨z44_0, z44_1, z44_2, z44_3, z44_4, z44_5, z44_6, z44_7, y44_0, y44_1, y44_2, y44_3, y44_4, y44_5, y44_6, y44_7⟩ := cz8_ BK200
     go_wp2
     go_ret
     exact ⟨rs_, hb_ HB⟩
end Go.Proofs.YtdcinhpdpoodfaaGreat.PFnExactFinished
