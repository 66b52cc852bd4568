/- Contracts of functions of the program. No condition beyond the hypotheses that each theorem names. -/
import Derived.Test.YtdcinhpdpoodfaaGreatPFnExactFinishedx0
import Derived.Test.YtdcinhpdpoodfaaGreatPFnExactFinishedx15
import Derived.Test.YtdcinhpdpoodfaaGreatPFnExactFinishedx16
import Derived.Test.YtdcinhpdpoodfaaGreatPFnExactFinishedx17
import Derived.Test.YtdcinhpdpoodfaaGreatPFnExactFinishedx19
import Derived.Test.YtdcinhpdpoodfaaGreatPFnExactFinishedx20
import Derived.Test.YtdcinhpdpoodfaaGreatPFnExactFinishedx21
namespace Go.Proofs.YtdcinhpdpoodfaaGreat.PFnExactFinished
open Go.RowKit Go.Proofs.YtdcinhpdpoodfaaGreatW.PrintWords Go.Proofs.YtdcinhpdpoodfaaGreatW.PrintLast Go.Proofs.YtdcinhpdpoodfaaGreatW.PrintMore
attribute [local go_sem] max2_int min2_int max_two min_two max_three min_three max_four min_four
set_option linter.unusedVariables false
set_option linter.unusedSimpArgs false
mutual
def impl_MachineOk.j0 : Nat → Int → Bool → List (S39) → List (S52) → List (S62) → Int → List (S147) → List Int → List Int → Int → Option (Bool)
 | 0, _, _, _, _, _, _, _, _, _, _ => none
 | k + 1, x3, x41, x512000, x512001, x512002, x512003, x512004, x512005, x512006, x512007 => if x41 = true then (some false) else (impl_MachineOk.l0 k x3 x512004 (x512004.length : Int) 0 x512000 x512001 x512002 x512003 x512004 x512005 x512006 x512007)
def impl_MachineOk.l0 : Nat → Int → List (S147) → Int → Int → List (S39) → List (S52) → List (S62) → Int → List (S147) → List Int → List Int → Int → Option (Bool)
 | 0, _, _, _, _, _, _, _, _, _, _, _, _ => none
 | k + 1, x3, x44, x45, x46, x512000, x512001, x512002, x512003, x512004, x512005, x512006, x512007 => if x46 < x45 then (if 0 ≤ x46 then (if x46 < (x44.length : Int) then ((impl_from.f ((rd_T147 x44 x46).f0) 0 (wrap64 (x3 - 1))).bind fun t517 => (if t517 = true then ((impl_OpOk.f k ((rd_T147 x44 x46).f1.f0) ((rd_T147 x44 x46).f1.f1) ((rd_T147 x44 x46).f1.f2)).bind fun t518 => (if t518 = true then ((impl_from.f ((rd_T147 x44 x46).f2) 0 x512003).bind fun t519 => (if t519 = true then ((impl_MachineOkWhen.f ((rd_T147 x44 x46).f0) ((rd_T147 x44 x46).f1.f0) ((rd_T147 x44 x46).f1.f1) ((rd_T147 x44 x46).f1.f2) ((rd_T147 x44 x46).f2) ((rd_T147 x44 x46).f3) ((rd_T147 x44 x46).f4) ((rd_T147 x44 x46).f5.f0) ((rd_T147 x44 x46).f5.f1) ((rd_T147 x44 x46).f3) x512003).bind fun t520 => (if t520 = true then ((impl_MachineOkWhen.f ((rd_T147 x44 x46).f0) ((rd_T147 x44 x46).f1.f0) ((rd_T147 x44 x46).f1.f1) ((rd_T147 x44 x46).f1.f2) ((rd_T147 x44 x46).f2) ((rd_T147 x44 x46).f3) ((rd_T147 x44 x46).f4) ((rd_T147 x44 x46).f5.f0) ((rd_T147 x44 x46).f5.f1) ((rd_T147 x44 x46).f4) x512003).bind fun t521 => (if t521 = true then (impl_MachineOk.l0 k x3 x44 x45 (wrap64 (x46 + 1)) x512000 x512001 x512002 x512003 x512004 x512005 x512006 x512007) else (some false))) else (some false))) else (some false))) else (some false))) else (some false))) else (none)) else (none)) else (impl_MachineOk.l1 k x3 x512002 (x512002.length : Int) 0 x512000 x512001 x512002 x512003 x512004 x512005 x512006 x512007)
def impl_MachineOk.l1 : Nat → Int → List (S62) → Int → Int → List (S39) → List (S52) → List (S62) → Int → List (S147) → List Int → List Int → Int → Option (Bool)
 | 0, _, _, _, _, _, _, _, _, _, _, _, _ => none
 | k + 1, x3, x88, x89, x90, x512000, x512001, x512002, x512003, x512004, x512005, x512006, x512007 => if x90 < x89 then (if 0 ≤ x90 then (if x90 < (x88.length : Int) then ((impl_ThreadOk.f k ((rd_T62 x88 x90).f0) ((rd_T62 x88 x90).f1) ((rd_T62 x88 x90).f2) ((rd_T62 x88 x90).f3) ((rd_T62 x88 x90).f4) x3).bind fun t525 => (if t525 = true then ((impl_callsOk.f k x512000 x512001 x512002 x512003 x512004 x512005 x512006 x512007 x90).bind fun t526 => (if t526 = true then (impl_MachineOk.l1 k x3 x88 x89 (wrap64 (x90 + 1)) x512000 x512001 x512002 x512003 x512004 x512005 x512006 x512007) else (some false))) else (some false))) else (none)) else (none)) else ((impl_orderOk.f k x512000 x512001 x512002 x512003 x512004 x512005 x512006 x512007).bind fun t522 => (some t522))
end
def impl_MachineOk.f (k : Nat) (l0_0 : List (S39)) (l0_1 : List (S52)) (l0_2 : List (S62)) (a0_3 : Int) (l0_4 : List (S147)) (l0_5 : List Int) (l0_6 : List Int) (a0_7 : Int) : Option (Bool) := (impl_MemOk.f k l0_0 l0_1).bind fun t512 => (if t512 = true then (if (l0_1.length : Int) = (l0_2.length : Int) then ((impl_from.f a0_3 0 100000).bind fun t513 => (if t513 = true then (if (l0_4.length : Int) > 40 then (impl_MachineOk.j0 k (l0_2.length : Int) true l0_0 l0_1 l0_2 a0_3 l0_4 l0_5 l0_6 a0_7) else ((impl_RowsOk.f k l0_6 a0_7).bind fun t514 => (impl_MachineOk.j0 k (l0_2.length : Int) (!t514) l0_0 l0_1 l0_2 a0_3 l0_4 l0_5 l0_6 a0_7))) else (impl_MachineOk.j0 k (l0_2.length : Int) true l0_0 l0_1 l0_2 a0_3 l0_4 l0_5 l0_6 a0_7))) else (impl_MachineOk.j0 k (l0_2.length : Int) true l0_0 l0_1 l0_2 a0_3 l0_4 l0_5 l0_6 a0_7)) else (impl_MachineOk.j0 k (l0_2.length : Int) true l0_0 l0_1 l0_2 a0_3 l0_4 l0_5 l0_6 a0_7))
theorem blk_fill9 {w : World} {g : Nat} {t : TypeId} {z0 z1 z2 z3 z4 z5 z6 z7 z8 v0 v1 v2 v3 v4 v5 v6 v7 v8 : Value} (h : w.heap[g]? = some (.cells #[z0, z1, z2, z3, z4, z5, z6, z7, z8] t (0, 0))) : (((((((((w.setCell ⟨g, 0, none⟩ v0).setCell ⟨g, 1, none⟩ v1).setCell ⟨g, 2, none⟩ v2).setCell ⟨g, 3, none⟩ v3).setCell ⟨g, 4, none⟩ v4).setCell ⟨g, 5, none⟩ v5).setCell ⟨g, 6, none⟩ v6).setCell ⟨g, 7, none⟩ v7).setCell ⟨g, 8, none⟩ v8).heap[g]? = some (.cells #[v0, v1, v2, v3, v4, v5, v6, v7, v8] t (0, 0)) := by
 have h0 := blk_put (cs' := #[v0, z1, z2, z3, z4, z5, z6, z7, z8]) h 0 v0 (by simp)
 have h1 := blk_put (cs' := #[v0, v1, z2, z3, z4, z5, z6, z7, z8]) h0 1 v1 (by simp)
 have h2 := blk_put (cs' := #[v0, v1, v2, z3, z4, z5, z6, z7, z8]) h1 2 v2 (by simp)
 have h3 := blk_put (cs' := #[v0, v1, v2, v3, z4, z5, z6, z7, z8]) h2 3 v3 (by simp)
 have h4 := blk_put (cs' := #[v0, v1, v2, v3, v4, z5, z6, z7, z8]) h3 4 v4 (by simp)
 have h5 := blk_put (cs' := #[v0, v1, v2, v3, v4, v5, z6, z7, z8]) h4 5 v5 (by simp)
 have h6 := blk_put (cs' := #[v0, v1, v2, v3, v4, v5, v6, z7, z8]) h5 6 v6 (by simp)
 have h7 := blk_put (cs' := #[v0, v1, v2, v3, v4, v5, v6, v7, z8]) h6 7 v7 (by simp)
 have h8 := blk_put (cs' := #[v0, v1, v2, v3, v4, v5, v6, v7, v8]) h7 8 v8 (by simp)
 exact h8
set_option maxHeartbeats 8000000 in
set_option maxRecDepth 100000 in
theorem impl_MachineOk.calls (k : Nat) (A0_0 : Option Addr) (c0_0 : Nat) (l0_0 : List (S39)) (A0_1 : Option Addr) (c0_1 : Nat) (l0_1 : List (S52)) (A0_2 : Option Addr) (c0_2 : Nat) (l0_2 : List (S62)) (a0_3 : Int) (A0_4 : Option Addr) (c0_4 : Nat) (l0_4 : List (S147)) (A0_5 : Option Addr) (c0_5 : Nat) (l0_5 : List Int) (A0_6 : Option Addr) (c0_6 : Nat) (l0_6 : List Int) (a0_7 : Int) (r : Bool) (w : World) (hr0_0 : Kd.C k39 w A0_0 l0_0.length l0_0) (hc0_0 : l0_0.length ≤ c0_0) (hr0_1 : Kd.C k52 w A0_1 l0_1.length l0_1) (hc0_1 : l0_1.length ≤ c0_1) (hr0_2 : Kd.C k62 w A0_2 l0_2.length l0_2) (hc0_2 : l0_2.length ≤ c0_2) (hr0_4 : Kd.C k147 w A0_4 l0_4.length l0_4) (hc0_4 : l0_4.length ≤ c0_4) (hr0_5 : Kd.C (Kd.int .i64) w A0_5 l0_5.length l0_5) (hc0_5 : l0_5.length ≤ c0_5) (hr0_6 : Kd.C (Kd.int .i64) w A0_6 l0_6.length l0_6) (hc0_6 : l0_6.length ≤ c0_6) (h : impl_MachineOk.f k l0_0 l0_1 l0_2 a0_3 l0_4 l0_5 l0_6 a0_7 = some r) :
    Calls Tryz.prog 50 #[.agg #[.slice A0_0 l0_0.length c0_0, .slice A0_1 l0_1.length c0_1, .slice A0_2 l0_2.length c0_2, .int .i64 a0_3, .slice A0_4 l0_4.length c0_4, .slice A0_5 l0_5.length c0_5, .slice A0_6 l0_6.length c0_6, .int .i64 a0_7]] w fun e w' => e = .returned (.bool r) ∧ Below w.heap.size w w' := by
 have hu93 := Tryz.underlying93
 have hu27 := Tryz.underlying27
 have hu91 := Tryz.underlying91
 have hu147 := Tryz.underlying147
 have hu122 := Tryz.underlying122
 have hu62 := Tryz.underlying62
 have HR0_0 := A_ hr0_0
 have HC0_0 := A_ hc0_0
 clear hr0_0 hc0_0
 have HR0_1 := A_ hr0_1
 have HC0_1 := A_ hc0_1
 clear hr0_1 hc0_1
 have HR0_2 := A_ hr0_2
 have HC0_2 := A_ hc0_2
 clear hr0_2 hc0_2
 have HR0_4 := A_ hr0_4
 have HC0_4 := A_ hc0_4
 clear hr0_4 hc0_4
 have HR0_5 := A_ hr0_5
 have HC0_5 := A_ hc0_5
 clear hr0_5 hc0_5
 have HR0_6 := A_ hr0_6
 have HC0_6 := A_ hc0_6
 clear hr0_6 hc0_6
 have HB := A_ (Below.refl w.heap.size w)
 have H : ((impl_MemOk.f k l0_0 l0_1).bind fun t512 => (if t512 = true then (if (l0_1.length : Int) = (l0_2.length : Int) then ((impl_from.f a0_3 0 100000).bind fun t513 => (if t513 = true then (if (l0_4.length : Int) > 40 then (impl_MachineOk.j0 k (l0_2.length : Int) true l0_0 l0_1 l0_2 a0_3 l0_4 l0_5 l0_6 a0_7) else ((impl_RowsOk.f k l0_6 a0_7).bind fun t514 => (impl_MachineOk.j0 k (l0_2.length : Int) (!t514) l0_0 l0_1 l0_2 a0_3 l0_4 l0_5 l0_6 a0_7))) else (impl_MachineOk.j0 k (l0_2.length : Int) true l0_0 l0_1 l0_2 a0_3 l0_4 l0_5 l0_6 a0_7))) else (impl_MachineOk.j0 k (l0_2.length : Int) true l0_0 l0_1 l0_2 a0_3 l0_4 l0_5 l0_6 a0_7)) else (impl_MachineOk.j0 k (l0_2.length : Int) true l0_0 l0_1 l0_2 a0_3 l0_4 l0_5 l0_6 a0_7))) = some r := h
 clear h
 have HC2 := A_ H
 clear H
 go_enter Tryz.func50, Tryz.ntmps50
 go_upto_region 2 with (first | ((with_reducible refine gate_dst (N := 1) rfl ?_); (try (refine gate_guard (by rfl) ?_; dsimp only)); refine bx_ HB rfl (N := 1) rfl (cs := #[.slice A0_0 l0_0.length c0_0, .slice A0_1 l0_1.length c0_1, .slice A0_2 l0_2.length c0_2, .int .i64 a0_3, .slice A0_4 l0_4.length c0_4, .slice A0_5 l0_5.length c0_5, .slice A0_6 l0_6.length c0_6, .int .i64 a0_7]) (t := 93) hr_ ?_; clear HB; intro gb511 w3 hg hb BK511 GW511 HB; clear hb hg; obtain ⟨z4_0, z4_1, z4_2, z4_3, z4_4, z4_5, z4_6, z4_7, y4_0, y4_1, y4_2, y4_3, y4_4, y4_5, y4_6, y4_7⟩ := cz8_ BK511))
 (try simp only [Act.put, List.setIfInBounds_toArray, List.set_cons_zero, List.set_cons_succ])
 go_cut [41] (fun v41 wc => ∃ (kq : Nat) (x41_1 : Bool), v41 = .bool x41_1 ∧ Aside0 (impl_MachineOk.j0 kq (l0_2.length : Int) x41_1 l0_0 l0_1 l0_2 a0_3 l0_4 l0_5 l0_6 a0_7 = some r) ∧ Aside0 (kq ≤ k) ∧ Aside0 (wc.heap[gb511]? = some (.cells #[(.slice A0_0 l0_0.length c0_0), (.slice A0_1 l0_1.length c0_1), (.slice A0_2 l0_2.length c0_2), .int .i64 a0_3, (.slice A0_4 l0_4.length c0_4), (.slice A0_5 l0_5.length c0_5), (.slice A0_6 l0_6.length c0_6), .int .i64 a0_7] 93 (0, 0))) ∧ Aside0 (Below w.heap.size w wc))
 case first =>
  have H := HC2.out
  clear HC2
  replace H := bs_ H
  obtain ⟨t512, A5, H⟩ := H
  by_cases c6 : t512 = true
  ·
   subst c6
   replace H := it_ H
   by_cases c7 : (l0_1.length : Int) = (l0_2.length : Int)
   ·
    rw [if_pos c7] at H
    have c7b0 : ((l0_1.length : Int) == (l0_2.length : Int)) = true := beq_iff_eq.mpr c7
    have c7b1 : ((l0_1.length : Int) != (l0_2.length : Int)) = false := bne_eq_false_iff_eq.mpr c7
    have c7b2 : (l0_1.length == l0_2.length) = true := by first | simpa using c7 | (simp at c7 ⊢; omega)
    clear c7
    (first | rw [c7b0] | (simp only [i64_w, i32_w]; rw [c7b0]) | skip)
    replace H := bs_ H
    obtain ⟨t513, A8, H⟩ := H
    by_cases c9 : t513 = true
    ·
     subst c9
     replace H := it_ H
     by_cases c10 : (l0_4.length : Int) > 40
     ·
      rw [if_pos c10] at H
      have c10b0 : decide (40 < (l0_4.length : Int)) = true := decide_eq_true c10
      have c10b1 : decide (40 < l0_4.length) = true := decide_eq_true (by omega)
      clear c10
      replace H' := A_ H; clear H
      obtain ⟨z11_0, z11_1, z11_2, z11_3, z11_4, z11_5, z11_6, z11_7, y11_0, y11_1, y11_2, y11_3, y11_4, y11_5, y11_6, y11_7⟩ := cz8_ BK511
      go_wp2_with (first | ((with_reducible refine gate_callee (f := 22) rfl ?_); refine goesL_ (some 14) rfl rfl Tryz.func22 (by kernel_rfl) rfl #[.agg #[.slice A0_0 l0_0.length c0_0, .slice A0_1 l0_1.length c0_1]] rfl al_ ?_; (with_reducible refine (impl_MemOk.calls k _ _ l0_0 _ _ l0_1 true _ ?s1 ?s2 ?s3 ?s4 A5.out).mono ?_); (case s1 => exact cb_ (Kd.C_below HR0_0.out HB.out)); (case s2 => exact HC0_0.out); (case s3 => exact cb_ (Kd.C_below HR0_1.out HB.out)); (case s4 => exact HC0_1.out); rintro e w12 ⟨rfl, hb⟩; refine ⟨_, rfl, ?_⟩; replace BK511 := bb_ BK511 hb; replace HB := hs_ HB hb; clear hb; obtain ⟨z13_0, z13_1, z13_2, z13_3, z13_4, z13_5, z13_6, z13_7, y13_0, y13_1, y13_2, y13_3, y13_4, y13_5, y13_6, y13_7⟩ := cz8_ BK511) | (go_at_call 62; (with_reducible refine (impl_from.calls a0_3 0 100000 true _ A8.out).mono ?_); rintro e w' ⟨rfl, ⟨nd, rfl⟩⟩))
      go_meet
      case rel => exact ⟨_, (true), rt_, H', ⟨by first | omega | exact Nat.le_refl _⟩, ⟨bk_ BK511⟩, ⟨hb_ HB⟩⟩
     rw [if_neg c10] at H
     have c10b0 : decide (40 < (l0_4.length : Int)) = false := decide_eq_false c10
     have c10b1 : decide (40 < l0_4.length) = false := decide_eq_false (by omega)
     clear c10
     replace H := bs_ H
     obtain ⟨t514, A14, H⟩ := H
     replace H' := A_ H; clear H
     obtain ⟨z15_0, z15_1, z15_2, z15_3, z15_4, z15_5, z15_6, z15_7, y15_0, y15_1, y15_2, y15_3, y15_4, y15_5, y15_6, y15_7⟩ := cz8_ BK511
     go_wp2_with (first | ((with_reducible refine gate_callee (f := 22) rfl ?_); refine goesL_ (some 14) rfl rfl Tryz.func22 (by kernel_rfl) rfl #[.agg #[.slice A0_0 l0_0.length c0_0, .slice A0_1 l0_1.length c0_1]] rfl al_ ?_; (with_reducible refine (impl_MemOk.calls k _ _ l0_0 _ _ l0_1 true _ ?s1 ?s2 ?s3 ?s4 A5.out).mono ?_); (case s1 => exact cb_ (Kd.C_below HR0_0.out HB.out)); (case s2 => exact HC0_0.out); (case s3 => exact cb_ (Kd.C_below HR0_1.out HB.out)); (case s4 => exact HC0_1.out); rintro e w16 ⟨rfl, hb⟩; refine ⟨_, rfl, ?_⟩; replace BK511 := bb_ BK511 hb; replace HB := hs_ HB hb; clear hb; obtain ⟨z17_0, z17_1, z17_2, z17_3, z17_4, z17_5, z17_6, z17_7, y17_0, y17_1, y17_2, y17_3, y17_4, y17_5, y17_6, y17_7⟩ := cz8_ BK511) | (go_at_call 62; (with_reducible refine (impl_from.calls a0_3 0 100000 true _ A8.out).mono ?_); rintro e w' ⟨rfl, ⟨nd, rfl⟩⟩) | (go_at_call 110; (with_reducible refine (impl_RowsOk.calls k _ _ l0_6 a0_7 t514 _ ?s1 ?s2 A14.out).mono ?_); (case s1 => exact cb_ (Kd.C_below HR0_6.out (hb_ HB))); (case s2 => exact HC0_6.out); rintro e w18 ⟨rfl, hb⟩; replace BK511 := bb_ BK511 hb; replace HB := hs_ HB hb; clear hb))
     go_meet
     case rel => exact ⟨_, (!t514), rt_, H', ⟨by first | omega | exact Nat.le_refl _⟩, ⟨bk_ BK511⟩, ⟨hb_ HB⟩⟩
    obtain rfl := Bool.eq_false_iff.mpr c9
    replace H := iF_ H
    replace H' := A_ H; clear H
    obtain ⟨z19_0, z19_1, z19_2, z19_3, z19_4, z19_5, z19_6, z19_7, y19_0, y19_1, y19_2, y19_3, y19_4, y19_5, y19_6, y19_7⟩ := cz8_ BK511
    go_wp2_with (first | ((with_reducible refine gate_callee (f := 22) rfl ?_); refine goesL_ (some 14) rfl rfl Tryz.func22 (by kernel_rfl) rfl #[.agg #[.slice A0_0 l0_0.length c0_0, .slice A0_1 l0_1.length c0_1]] rfl al_ ?_; (with_reducible refine (impl_MemOk.calls k _ _ l0_0 _ _ l0_1 true _ ?s1 ?s2 ?s3 ?s4 A5.out).mono ?_); (case s1 => exact cb_ (Kd.C_below HR0_0.out HB.out)); (case s2 => exact HC0_0.out); (case s3 => exact cb_ (Kd.C_below HR0_1.out HB.out)); (case s4 => exact HC0_1.out); rintro e w20 ⟨rfl, hb⟩; refine ⟨_, rfl, ?_⟩; replace BK511 := bb_ BK511 hb; replace HB := hs_ HB hb; clear hb; obtain ⟨z21_0, z21_1, z21_2, z21_3, z21_4, z21_5, z21_6, z21_7, y21_0, y21_1, y21_2, y21_3, y21_4, y21_5, y21_6, y21_7⟩ := cz8_ BK511) | (go_at_call 62; (with_reducible refine (impl_from.calls a0_3 0 100000 false _ A8.out).mono ?_); rintro e w' ⟨rfl, ⟨nd, rfl⟩⟩))
    go_meet
    case rel => exact ⟨_, (true), rt_, H', ⟨by first | omega | exact Nat.le_refl _⟩, ⟨bk_ BK511⟩, ⟨hb_ HB⟩⟩
   rw [if_neg c7] at H
   have c7b0 : ((l0_1.length : Int) == (l0_2.length : Int)) = false := beq_eq_false_iff_ne.mpr c7
   have c7b1 : ((l0_1.length : Int) != (l0_2.length : Int)) = true := bne_iff_ne.mpr c7
   have c7b2 : (l0_1.length == l0_2.length) = false := by first | simpa using c7 | (simp at c7 ⊢; omega)
   (first | rw [c7b0] | (simp only [i64_w, i32_w]; rw [c7b0]) | skip)
   replace H' := A_ H; clear H
   obtain ⟨z22_0, z22_1, z22_2, z22_3, z22_4, z22_5, z22_6, z22_7, y22_0, y22_1, y22_2, y22_3, y22_4, y22_5, y22_6, y22_7⟩ := cz8_ BK511
   go_wp2_with (first | ((with_reducible refine gate_callee (f := 22) rfl ?_); refine goesL_ (some 14) rfl rfl Tryz.func22 (by kernel_rfl) rfl #[.agg #[.slice A0_0 l0_0.length c0_0, .slice A0_1 l0_1.length c0_1]] rfl al_ ?_; (with_reducible refine (impl_MemOk.calls k _ _ l0_0 _ _ l0_1 true _ ?s1 ?s2 ?s3 ?s4 A5.out).mono ?_); (case s1 => exact cb_ (Kd.C_below HR0_0.out HB.out)); (case s2 => exact HC0_0.out); (case s3 => exact cb_ (Kd.C_below HR0_1.out HB.out)); (case s4 => exact HC0_1.out); rintro e w23 ⟨rfl, hb⟩; refine ⟨_, rfl, ?_⟩; replace BK511 := bb_ BK511 hb; replace HB := hs_ HB hb; clear hb; obtain ⟨z24_0, z24_1, z24_2, z24_3, z24_4, z24_5, z24_6, z24_7, y24_0, y24_1, y24_2, y24_3, y24_4, y24_5, y24_6, y24_7⟩ := cz8_ BK511))
   go_meet
   case rel => exact ⟨_, (true), rt_, H', ⟨by first | omega | exact Nat.le_refl _⟩, ⟨bk_ BK511⟩, ⟨hb_ HB⟩⟩
  obtain rfl := Bool.eq_false_iff.mpr c6
  replace H := iF_ H
  replace H' := A_ H; clear H
  obtain ⟨z25_0, z25_1, z25_2, z25_3, z25_4, z25_5, z25_6, z25_7, y25_0, y25_1, y25_2, y25_3, y25_4, y25_5, y25_6, y25_7⟩ := cz8_ BK511
  go_wp2_with (first | ((with_reducible refine gate_callee (f := 22) rfl ?_); refine goesL_ (some 14) rfl rfl Tryz.func22 (by kernel_rfl) rfl #[.agg #[.slice A0_0 l0_0.length c0_0, .slice A0_1 l0_1.length c0_1]] rfl al_ ?_; (with_reducible refine (impl_MemOk.calls k _ _ l0_0 _ _ l0_1 false _ ?s1 ?s2 ?s3 ?s4 A5.out).mono ?_); (case s1 => exact cb_ (Kd.C_below HR0_0.out HB.out)); (case s2 => exact HC0_0.out); (case s3 => exact cb_ (Kd.C_below HR0_1.out HB.out)); (case s4 => exact HC0_1.out); rintro e w26 ⟨rfl, hb⟩; refine ⟨_, rfl, ?_⟩; replace BK511 := bb_ BK511 hb; replace HB := hs_ HB hb; clear hb))
  go_meet
  case rel => exact ⟨_, (true), rt_, H', ⟨by first | omega | exact Nat.le_refl _⟩, ⟨bk_ BK511⟩, ⟨hb_ HB⟩⟩
 case rest =>
  clear HC2
  try clear c6
  try clear c7
  try clear c7b0
  try clear c7b1
  try clear c7b2
  try clear c9
  try clear c10
  try clear c10b0
  try clear c10b1
  obtain ⟨kq, x41_1, rfl, HA, HJ1, BK511, HB⟩ := hcut
  cases kq with
  | zero => exact absurd HA.out (by simp [impl_MachineOk.j0])
  | succ kj1 =>
   have H := HA.out
   clear HA
   simp only [impl_MachineOk.j0] at H
   by_cases c27 : x41_1 = true
   ·
    subst c27
    replace H := it_ H
    obtain rfl := Option.some.inj H
    go_wp2
    go_ret
    exact ⟨rs_, hb_ HB⟩
   obtain rfl := Bool.eq_false_iff.mpr c27
   replace H := iF_ H
   replace H' := A_ H; clear H
   obtain ⟨z28_0, z28_1, z28_2, z28_3, z28_4, z28_5, z28_6, z28_7, y28_0, y28_1, y28_2, y28_3, y28_4, y28_5, y28_6, y28_7⟩ := cz8_ BK511
   go_wp2
   go_loopg [46] kj1 (fun kq v46 w' => ∃ (x46_2 : Int), v46 = .int .i64 x46_2 ∧ Aside0 (impl_MachineOk.l0 kq (l0_2.length : Int) l0_4 (l0_4.length : Int) x46_2 l0_0 l0_1 l0_2 a0_3 l0_4 l0_5 l0_6 a0_7 = some r) ∧ Aside0 (kq ≤ kj1) ∧ Aside0 (w'.heap[gb511]? = some (.cells #[(.slice A0_0 l0_0.length c0_0), (.slice A0_1 l0_1.length c0_1), (.slice A0_2 l0_2.length c0_2), .int .i64 a0_3, (.slice A0_4 l0_4.length c0_4), (.slice A0_5 l0_5.length c0_5), (.slice A0_6 l0_6.length c0_6), .int .i64 a0_7] 93 (0, 0))) ∧ Aside0 (Below w.heap.size w w'))
   case atStart => exact ⟨(0), rt_, H', ⟨Nat.le_refl _⟩, ⟨bk_ BK511⟩, ⟨hb_ HB⟩⟩
   case round =>
    clear H'
    try clear c6
    try clear c7
    try clear c7b0
    try clear c7b1
    try clear c7b2
    try clear c9
    try clear c10
    try clear c10b0
    try clear c10b1
    try clear c27
    obtain ⟨x46_2, rfl, HA, HK2, BK511, HB⟩ := hrel
    cases gk with
    | zero => exact absurd HA.out (by simp [impl_MachineOk.l0])
    | succ k2 =>
     have H := HA.out
     clear HA
     simp only [impl_MachineOk.l0] at H
     replace H := ic_ H
     rcases H with ⟨c29b0, H⟩ | ⟨c29b0, H⟩
     ·
      replace H := ix_ H
      obtain ⟨c30b0, H⟩ := H
      replace H := ix_ H
      obtain ⟨c31b0, H⟩ := H
      replace H := bs_ H
      obtain ⟨t517, A32, H⟩ := H
      by_cases c33 : t517 = true
      ·
       subst c33
       replace H := it_ H
       replace H := bs_ H
       obtain ⟨t518, A34, H⟩ := H
       by_cases c35 : t518 = true
       ·
        subst c35
        replace H := it_ H
        replace H := bs_ H
        obtain ⟨t519, A36, H⟩ := H
        by_cases c37 : t519 = true
        ·
         subst c37
         replace H := it_ H
         replace H := bs_ H
         obtain ⟨t520, A38, H⟩ := H
         by_cases c39 : t520 = true
         ·
          subst c39
          replace H := it_ H
          replace H := bs_ H
          obtain ⟨t521, A40, H⟩ := H
          by_cases c41 : t521 = true
          ·
           subst c41
           replace H := it_ H
           replace H' := A_ H; clear H
           obtain ⟨ad515, A515_8, c515_8, p515, q515, rfl, u515_0, u515_1, u515_2, u515_3, u515_4, u515_5, u515_6, u515_7, u515_8, HC515_8, HR515_8⟩ := ab_T147 HB HR0_4 x46_2
           go_wp2_with (first | ((with_reducible refine gate_dst (N := 6) rfl ?_); (try (refine gate_guard (by rfl) ?_; dsimp only)); refine bx_ HB rfl (N := 6) rfl (cs := #[.int .i64 0, .int .i64 0, .int .i64 0, .int .i64 0, .int .i64 0, .int .i64 0, .int .i64 0, .int .i64 0, .slice none 0 0]) (t := 147) hr_ ?_; clear HB; intro gb516 w42 hg hb BK516 GW516 HB; have NB511_516 := ng_ BK511 hg; have NB516_511 := ns_ (ng_ BK511 hg); replace BK511 := bb_ BK511 hb; clear hb hg; have hnb43 := NB516_511.out; have hnc43 := NB511_516.out; obtain ⟨z44_0, z44_1, z44_2, z44_3, z44_4, z44_5, z44_6, z44_7, z44_8, y44_0, y44_1, y44_2, y44_3, y44_4, y44_5, y44_6, y44_7, y44_8⟩ := cz9_ BK516) | ((with_reducible refine gate_callee (f := 62) rfl ?_); refine goesL_ (some 54) rfl rfl Tryz.func62 (by kernel_rfl) rfl #[.int .i64 ((rd_T147 l0_4 x46_2).f0), .int .i64 0, .int .i64 (wrap64 ((l0_2.length : Int) - 1))] rfl al_ ?_; (with_reducible refine (impl_from.calls ((rd_T147 l0_4 x46_2).f0) 0 (wrap64 ((l0_2.length : Int) - 1)) true _ A32.out).mono ?_); rintro e w' ⟨rfl, ⟨nd, rfl⟩⟩; refine ⟨_, rfl, ?_⟩) | (go_at_call 88; (with_reducible refine (impl_OpOk.calls k2 ((rd_T147 l0_4 x46_2).f1.f0) ((rd_T147 l0_4 x46_2).f1.f1) ((rd_T147 l0_4 x46_2).f1.f2) true _ A34.out).mono ?_); rintro e w45 ⟨rfl, hb⟩; replace BK511 := bb_ BK511 hb; replace BK516 := bq_ (o' := .cells #[.int .i64 ((rd_T147 l0_4 x46_2).f0), .int .i64 ((rd_T147 l0_4 x46_2).f1.f0), .int .i64 ((rd_T147 l0_4 x46_2).f1.f1), .int .i64 ((rd_T147 l0_4 x46_2).f1.f2), .int .i64 ((rd_T147 l0_4 x46_2).f2), .int .i64 ((rd_T147 l0_4 x46_2).f3), .int .i64 ((rd_T147 l0_4 x46_2).f4), .int .i64 ((rd_T147 l0_4 x46_2).f5.f0), .slice A515_8 ((rd_T147 l0_4 x46_2).f5.f1).length c515_8] 147 (0, 0)) BK516 hb (fun HX_ => blk_drewN (blk_fill9 HX_) _); replace HB := hs_ HB hb; clear hb; obtain ⟨z46_0, z46_1, z46_2, z46_3, z46_4, z46_5, z46_6, z46_7, z46_8, y46_0, y46_1, y46_2, y46_3, y46_4, y46_5, y46_6, y46_7, y46_8⟩ := cz9_ BK516; obtain ⟨z47_0, z47_1, z47_2, z47_3, z47_4, z47_5, z47_6, z47_7, y47_0, y47_1, y47_2, y47_3, y47_4, y47_5, y47_6, y47_7⟩ := cz8_ BK511) | (go_at_call 62; (with_reducible refine (impl_from.calls ((rd_T147 l0_4 x46_2).f2) 0 a0_3 true _ A36.out).mono ?_); rintro e w' ⟨rfl, ⟨nd, rfl⟩⟩) | (go_at_call 111; (with_reducible refine (impl_MachineOkWhen.calls ((rd_T147 l0_4 x46_2).f0) ((rd_T147 l0_4 x46_2).f1.f0) ((rd_T147 l0_4 x46_2).f1.f1) ((rd_T147 l0_4 x46_2).f1.f2) ((rd_T147 l0_4 x46_2).f2) ((rd_T147 l0_4 x46_2).f3) ((rd_T147 l0_4 x46_2).f4) ((rd_T147 l0_4 x46_2).f5.f0) _ _ ((rd_T147 l0_4 x46_2).f5.f1) ((rd_T147 l0_4 x46_2).f3) a0_3 gb511 true _ ?cap_ ?s1 ?s2 A38.out).mono ?_); (case cap_ => exact (blk_cell (bk_ BK511) 3).trans rfl); (case s1 => exact cb_ (Kd.C_below HR515_8.out (hb_ HB))); (case s2 => exact HC515_8.out); rintro e w48 ⟨rfl, hb⟩; replace BK511 := bb_ BK511 hb; replace BK516 := bb_ BK516 hb; replace HB := hs_ HB hb; clear hb; obtain ⟨z49_0, z49_1, z49_2, z49_3, z49_4, z49_5, z49_6, z49_7, z49_8, y49_0, y49_1, y49_2, y49_3, y49_4, y49_5, y49_6, y49_7, y49_8⟩ := cz9_ BK516) | (go_at_call 111; (with_reducible refine (impl_MachineOkWhen.calls ((rd_T147 l0_4 x46_2).f0) ((rd_T147 l0_4 x46_2).f1.f0) ((rd_T147 l0_4 x46_2).f1.f1) ((rd_T147 l0_4 x46_2).f1.f2) ((rd_T147 l0_4 x46_2).f2) ((rd_T147 l0_4 x46_2).f3) ((rd_T147 l0_4 x46_2).f4) ((rd_T147 l0_4 x46_2).f5.f0) _ _ ((rd_T147 l0_4 x46_2).f5.f1) ((rd_T147 l0_4 x46_2).f4) a0_3 gb511 true _ ?cap_ ?s1 ?s2 A40.out).mono ?_); (case cap_ => exact (blk_cell (bk_ BK511) 3).trans rfl); (case s1 => exact cb_ (Kd.C_below HR515_8.out HB.out)); (case s2 => exact HC515_8.out); rintro e w50 ⟨rfl, hb⟩; replace BK511 := bb_ BK511 hb; replace BK516 := bb_ BK516 hb; replace HB := hs_ HB hb; clear hb))
           go_roundg k2
           case measure => have := HJ1.out; have := HK2.out; omega
           case rel => exact ⟨(wrap64 (x46_2 + 1)), rt_, H', ⟨by have := HJ1.out; have := HK2.out; omega⟩, ⟨bk_ BK511⟩, ⟨hb_ HB⟩⟩
          obtain rfl := Bool.eq_false_iff.mpr c41
          replace H := iF_ H
          obtain rfl := Option.some.inj H
          obtain ⟨ad515, A515_8, c515_8, p515, q515, rfl, u515_0, u515_1, u515_2, u515_3, u515_4, u515_5, u515_6, u515_7, u515_8, HC515_8, HR515_8⟩ := ab_T147 HB HR0_4 x46_2
          go_wp2_with (first | ((with_reducible refine gate_dst (N := 6) rfl ?_); (try (refine gate_guard (by rfl) ?_; dsimp only)); refine bx_ HB rfl (N := 6) rfl (cs := #[.int .i64 0, .int .i64 0, .int .i64 0, .int .i64 0, .int .i64 0, .int .i64 0, .int .i64 0, .int .i64 0, .slice none 0 0]) (t := 147) hr_ ?_; clear HB; intro gb516 w51 hg hb BK516 GW516 HB; have NB511_516 := ng_ BK511 hg; have NB516_511 := ns_ (ng_ BK511 hg); replace BK511 := bb_ BK511 hb; clear hb hg; have hnb52 := NB516_511.out; have hnc52 := NB511_516.out; obtain ⟨z53_0, z53_1, z53_2, z53_3, z53_4, z53_5, z53_6, z53_7, z53_8, y53_0, y53_1, y53_2, y53_3, y53_4, y53_5, y53_6, y53_7, y53_8⟩ := cz9_ BK516) | ((with_reducible refine gate_callee (f := 62) rfl ?_); refine goesL_ (some 54) rfl rfl Tryz.func62 (by kernel_rfl) rfl #[.int .i64 ((rd_T147 l0_4 x46_2).f0), .int .i64 0, .int .i64 (wrap64 ((l0_2.length : Int) - 1))] rfl al_ ?_; (with_reducible refine (impl_from.calls ((rd_T147 l0_4 x46_2).f0) 0 (wrap64 ((l0_2.length : Int) - 1)) true _ A32.out).mono ?_); rintro e w' ⟨rfl, ⟨nd, rfl⟩⟩; refine ⟨_, rfl, ?_⟩) | (go_at_call 88; (with_reducible refine (impl_OpOk.calls k2 ((rd_T147 l0_4 x46_2).f1.f0) ((rd_T147 l0_4 x46_2).f1.f1) ((rd_T147 l0_4 x46_2).f1.f2) true _ A34.out).mono ?_); rintro e w54 ⟨rfl, hb⟩; replace BK511 := bb_ BK511 hb; replace BK516 := bq_ (o' := .cells #[.int .i64 ((rd_T147 l0_4 x46_2).f0), .int .i64 ((rd_T147 l0_4 x46_2).f1.f0), .int .i64 ((rd_T147 l0_4 x46_2).f1.f1), .int .i64 ((rd_T147 l0_4 x46_2).f1.f2), .int .i64 ((rd_T147 l0_4 x46_2).f2), .int .i64 ((rd_T147 l0_4 x46_2).f3), .int .i64 ((rd_T147 l0_4 x46_2).f4), .int .i64 ((rd_T147 l0_4 x46_2).f5.f0), .slice A515_8 ((rd_T147 l0_4 x46_2).f5.f1).length c515_8] 147 (0, 0)) BK516 hb (fun HX_ => blk_drewN (blk_fill9 HX_) _); replace HB := hs_ HB hb; clear hb; obtain ⟨z55_0, z55_1, z55_2, z55_3, z55_4, z55_5, z55_6, z55_7, z55_8, y55_0, y55_1, y55_2, y55_3, y55_4, y55_5, y55_6, y55_7, y55_8⟩ := cz9_ BK516; obtain ⟨z56_0, z56_1, z56_2, z56_3, z56_4, z56_5, z56_6, z56_7, y56_0, y56_1, y56_2, y56_3, y56_4, y56_5, y56_6, y56_7⟩ := cz8_ BK511) | (go_at_call 62; (with_reducible refine (impl_from.calls ((rd_T147 l0_4 x46_2).f2) 0 a0_3 true _ A36.out).mono ?_); rintro e w' ⟨rfl, ⟨nd, rfl⟩⟩) | (go_at_call 111; (with_reducible refine (impl_MachineOkWhen.calls ((rd_T147 l0_4 x46_2).f0) ((rd_T147 l0_4 x46_2).f1.f0) ((rd_T147 l0_4 x46_2).f1.f1) ((rd_T147 l0_4 x46_2).f1.f2) ((rd_T147 l0_4 x46_2).f2) ((rd_T147 l0_4 x46_2).f3) ((rd_T147 l0_4 x46_2).f4) ((rd_T147 l0_4 x46_2).f5.f0) _ _ ((rd_T147 l0_4 x46_2).f5.f1) ((rd_T147 l0_4 x46_2).f3) a0_3 gb511 true _ ?cap_ ?s1 ?s2 A38.out).mono ?_); (case cap_ => exact (blk_cell (bk_ BK511) 3).trans rfl); (case s1 => exact cb_ (Kd.C_below HR515_8.out (hb_ HB))); (case s2 => exact HC515_8.out); rintro e w57 ⟨rfl, hb⟩; replace BK511 := bb_ BK511 hb; replace BK516 := bb_ BK516 hb; replace HB := hs_ HB hb; clear hb; obtain ⟨z58_0, z58_1, z58_2, z58_3, z58_4, z58_5, z58_6, z58_7, z58_8, y58_0, y58_1, y58_2, y58_3, y58_4, y58_5, y58_6, y58_7, y58_8⟩ := cz9_ BK516) | (go_at_call 111; (with_reducible refine (impl_MachineOkWhen.calls ((rd_T147 l0_4 x46_2).f0) ((rd_T147 l0_4 x46_2).f1.f0) ((rd_T147 l0_4 x46_2).f1.f1) ((rd_T147 l0_4 x46_2).f1.f2) ((rd_T147 l0_4 x46_2).f2) ((rd_T147 l0_4 x46_2).f3) ((rd_T147 l0_4 x46_2).f4) ((rd_T147 l0_4 x46_2).f5.f0) _ _ ((rd_T147 l0_4 x46_2).f5.f1) ((rd_T147 l0_4 x46_2).f4) a0_3 gb511 false _ ?cap_ ?s1 ?s2 A40.out).mono ?_); (case cap_ => exact (blk_cell (bk_ BK511) 3).trans rfl); (case s1 => exact cb_ (Kd.C_below HR515_8.out HB.out)); (case s2 => exact HC515_8.out); rintro e w59 ⟨rfl, hb⟩; replace BK511 := bb_ BK511 hb; replace BK516 := bb_ BK516 hb; replace HB := hs_ HB hb; clear hb))
          go_ret
          exact ⟨rs_, hb_ HB⟩
         obtain rfl := Bool.eq_false_iff.mpr c39
         replace H := iF_ H
         obtain rfl := Option.some.inj H
         obtain ⟨ad515, A515_8, c515_8, p515, q515, rfl, u515_0, u515_1, u515_2, u515_3, u515_4, u515_5, u515_6, u515_7, u515_8, HC515_8, HR515_8⟩ := ab_T147 HB HR0_4 x46_2
         go_wp2_with (first | ((with_reducible refine gate_dst (N := 6) rfl ?_); (try (refine gate_guard (by rfl) ?_; dsimp only)); refine bx_ HB rfl (N := 6) rfl (cs := #[.int .i64 0, .int .i64 0, .int .i64 0, .int .i64 0, .int .i64 0, .int .i64 0, .int .i64 0, .int .i64 0, .slice none 0 0]) (t := 147) hr_ ?_; clear HB; intro gb516 w60 hg hb BK516 GW516 HB; have NB511_516 := ng_ BK511 hg; have NB516_511 := ns_ (ng_ BK511 hg); replace BK511 := bb_ BK511 hb; clear hb hg; have hnb61 := NB516_511.out; have hnc61 := NB511_516.out; obtain ⟨z62_0, z62_1, z62_2, z62_3, z62_4, z62_5, z62_6, z62_7, z62_8, y62_0, y62_1, y62_2, y62_3, y62_4, y62_5, y62_6, y62_7, y62_8⟩ := cz9_ BK516) | ((with_reducible refine gate_callee (f := 62) rfl ?_); refine goesL_ (some 54) rfl rfl Tryz.func62 (by kernel_rfl) rfl #[.int .i64 ((rd_T147 l0_4 x46_2).f0), .int .i64 0, .int .i64 (wrap64 ((l0_2.length : Int) - 1))] rfl al_ ?_; (with_reducible refine (impl_from.calls ((rd_T147 l0_4 x46_2).f0) 0 (wrap64 ((l0_2.length : Int) - 1)) true _ A32.out).mono ?_); rintro e w' ⟨rfl, ⟨nd, rfl⟩⟩; refine ⟨_, rfl, ?_⟩) | (go_at_call 88; (with_reducible refine (impl_OpOk.calls k2 ((rd_T147 l0_4 x46_2).f1.f0) ((rd_T147 l0_4 x46_2).f1.f1) ((rd_T147 l0_4 x46_2).f1.f2) true _ A34.out).mono ?_); rintro e w63 ⟨rfl, hb⟩; replace BK511 := bb_ BK511 hb; replace BK516 := bq_ (o' := .cells #[.int .i64 ((rd_T147 l0_4 x46_2).f0), .int .i64 ((rd_T147 l0_4 x46_2).f1.f0), .int .i64 ((rd_T147 l0_4 x46_2).f1.f1), .int .i64 ((rd_T147 l0_4 x46_2).f1.f2), .int .i64 ((rd_T147 l0_4 x46_2).f2), .int .i64 ((rd_T147 l0_4 x46_2).f3), .int .i64 ((rd_T147 l0_4 x46_2).f4), .int .i64 ((rd_T147 l0_4 x46_2).f5.f0), .slice A515_8 ((rd_T147 l0_4 x46_2).f5.f1).length c515_8] 147 (0, 0)) BK516 hb (fun HX_ => blk_drewN (blk_fill9 HX_) _); replace HB := hs_ HB hb; clear hb; obtain ⟨z64_0, z64_1, z64_2, z64_3, z64_4, z64_5, z64_6, z64_7, z64_8, y64_0, y64_1, y64_2, y64_3, y64_4, y64_5, y64_6, y64_7, y64_8⟩ := cz9_ BK516; obtain ⟨z65_0, z65_1, z65_2, z65_3, z65_4, z65_5, z65_6, z65_7, y65_0, y65_1, y65_2, y65_3, y65_4, y65_5, y65_6, y65_7⟩ := cz8_ BK511) | (go_at_call 62; (with_reducible refine (impl_from.calls ((rd_T147 l0_4 x46_2).f2) 0 a0_3 true _ A36.out).mono ?_); rintro e w' ⟨rfl, ⟨nd, rfl⟩⟩) | (go_at_call 111; (with_reducible refine (impl_MachineOkWhen.calls ((rd_T147 l0_4 x46_2).f0) ((rd_T147 l0_4 x46_2).f1.f0) ((rd_T147 l0_4 x46_2).f1.f1) ((rd_T147 l0_4 x46_2).f1.f2) ((rd_T147 l0_4 x46_2).f2) ((rd_T147 l0_4 x46_2).f3) ((rd_T147 l0_4 x46_2).f4) ((rd_T147 l0_4 x46_2).f5.f0) _ _ ((rd_T147 l0_4 x46_2).f5.f1) ((rd_T147 l0_4 x46_2).f3) a0_3 gb511 false _ ?cap_ ?s1 ?s2 A38.out).mono ?_); (case cap_ => exact (blk_cell (bk_ BK511) 3).trans rfl); (case s1 => exact cb_ (Kd.C_below HR515_8.out (hb_ HB))); (case s2 => exact HC515_8.out); rintro e w66 ⟨rfl, hb⟩; replace BK511 := bb_ BK511 hb; replace BK516 := bb_ BK516 hb; replace HB := hs_ HB hb; clear hb))
         go_ret
         exact ⟨rs_, hb_ HB⟩
        obtain rfl := Bool.eq_false_iff.mpr c37
        replace H := iF_ H
        obtain rfl := Option.some.inj H
        obtain ⟨ad515, A515_8, c515_8, p515, q515, rfl, u515_0, u515_1, u515_2, u515_3, u515_4, u515_5, u515_6, u515_7, u515_8, HC515_8, HR515_8⟩ := ab_T147 HB HR0_4 x46_2
        go_wp2_with (first | ((with_reducible refine gate_dst (N := 6) rfl ?_); (try (refine gate_guard (by rfl) ?_; dsimp only)); refine bx_ HB rfl (N := 6) rfl (cs := #[.int .i64 0, .int .i64 0, .int .i64 0, .int .i64 0, .int .i64 0, .int .i64 0, .int .i64 0, .int .i64 0, .slice none 0 0]) (t := 147) hr_ ?_; clear HB; intro gb516 w67 hg hb BK516 GW516 HB; have NB511_516 := ng_ BK511 hg; have NB516_511 := ns_ (ng_ BK511 hg); replace BK511 := bb_ BK511 hb; clear hb hg; have hnb68 := NB516_511.out; have hnc68 := NB511_516.out; obtain ⟨z69_0, z69_1, z69_2, z69_3, z69_4, z69_5, z69_6, z69_7, z69_8, y69_0, y69_1, y69_2, y69_3, y69_4, y69_5, y69_6, y69_7, y69_8⟩ := cz9_ BK516) | ((with_reducible refine gate_callee (f := 62) rfl ?_); refine goesL_ (some 54) rfl rfl Tryz.func62 (by kernel_rfl) rfl #[.int .i64 ((rd_T147 l0_4 x46_2).f0), .int .i64 0, .int .i64 (wrap64 ((l0_2.length : Int) - 1))] rfl al_ ?_; (with_reducible refine (impl_from.calls ((rd_T147 l0_4 x46_2).f0) 0 (wrap64 ((l0_2.length : Int) - 1)) true _ A32.out).mono ?_); rintro e w' ⟨rfl, ⟨nd, rfl⟩⟩; refine ⟨_, rfl, ?_⟩) | (go_at_call 88; (with_reducible refine (impl_OpOk.calls k2 ((rd_T147 l0_4 x46_2).f1.f0) ((rd_T147 l0_4 x46_2).f1.f1) ((rd_T147 l0_4 x46_2).f1.f2) true _ A34.out).mono ?_); rintro e w70 ⟨rfl, hb⟩; replace BK511 := bb_ BK511 hb; replace BK516 := bq_ (o' := .cells #[.int .i64 ((rd_T147 l0_4 x46_2).f0), .int .i64 ((rd_T147 l0_4 x46_2).f1.f0), .int .i64 ((rd_T147 l0_4 x46_2).f1.f1), .int .i64 ((rd_T147 l0_4 x46_2).f1.f2), .int .i64 ((rd_T147 l0_4 x46_2).f2), .int .i64 ((rd_T147 l0_4 x46_2).f3), .int .i64 ((rd_T147 l0_4 x46_2).f4), .int .i64 ((rd_T147 l0_4 x46_2).f5.f0), .slice A515_8 ((rd_T147 l0_4 x46_2).f5.f1).length c515_8] 147 (0, 0)) BK516 hb (fun HX_ => blk_drewN (blk_fill9 HX_) _); replace HB := hs_ HB hb; clear hb; obtain ⟨z71_0, z71_1, z71_2, z71_3, z71_4, z71_5, z71_6, z71_7, z71_8, y71_0, y71_1, y71_2, y71_3, y71_4, y71_5, y71_6, y71_7, y71_8⟩ := cz9_ BK516; obtain ⟨z72_0, z72_1, z72_2, z72_3, z72_4, z72_5, z72_6, z72_7, y72_0, y72_1, y72_2, y72_3, y72_4, y72_5, y72_6, y72_7⟩ := cz8_ BK511) | (go_at_call 62; (with_reducible refine (impl_from.calls ((rd_T147 l0_4 x46_2).f2) 0 a0_3 false _ A36.out).mono ?_); rintro e w' ⟨rfl, ⟨nd, rfl⟩⟩))
        go_ret
        exact ⟨rs_, hb_ HB⟩
       obtain rfl := Bool.eq_false_iff.mpr c35
       replace H := iF_ H
       obtain rfl := Option.some.inj H
       obtain ⟨ad515, A515_8, c515_8, p515, q515, rfl, u515_0, u515_1, u515_2, u515_3, u515_4, u515_5, u515_6, u515_7, u515_8, HC515_8, HR515_8⟩ := ab_T147 HB HR0_4 x46_2
       go_wp2_with (first | ((with_reducible refine gate_dst (N := 6) rfl ?_); (try (refine gate_guard (by rfl) ?_; dsimp only)); refine bx_ HB rfl (N := 6) rfl (cs := #[.int .i64 0, .int .i64 0, .int .i64 0, .int .i64 0, .int .i64 0, .int .i64 0, .int .i64 0, .int .i64 0, .slice none 0 0]) (t := 147) hr_ ?_; clear HB; intro gb516 w73 hg hb BK516 GW516 HB; have NB511_516 := ng_ BK511 hg; have NB516_511 := ns_ (ng_ BK511 hg); replace BK511 := bb_ BK511 hb; clear hb hg; have hnb74 := NB516_511.out; have hnc74 := NB511_516.out; obtain ⟨z75_0, z75_1, z75_2, z75_3, z75_4, z75_5, z75_6, z75_7, z75_8, y75_0, y75_1, y75_2, y75_3, y75_4, y75_5, y75_6, y75_7, y75_8⟩ := cz9_ BK516) | ((with_reducible refine gate_callee (f := 62) rfl ?_); refine goesL_ (some 54) rfl rfl Tryz.func62 (by kernel_rfl) rfl #[.int .i64 ((rd_T147 l0_4 x46_2).f0), .int .i64 0, .int .i64 (wrap64 ((l0_2.length : Int) - 1))] rfl al_ ?_; (with_reducible refine (impl_from.calls ((rd_T147 l0_4 x46_2).f0) 0 (wrap64 ((l0_2.length : Int) - 1)) true _ A32.out).mono ?_); rintro e w' ⟨rfl, ⟨nd, rfl⟩⟩; refine ⟨_, rfl, ?_⟩) | (go_at_call 88; (with_reducible refine (impl_OpOk.calls k2 ((rd_T147 l0_4 x46_2).f1.f0) ((rd_T147 l0_4 x46_2).f1.f1) ((rd_T147 l0_4 x46_2).f1.f2) false _ A34.out).mono ?_); rintro e w76 ⟨rfl, hb⟩; replace BK511 := bb_ BK511 hb; replace BK516 := bq_ (o' := .cells #[.int .i64 ((rd_T147 l0_4 x46_2).f0), .int .i64 ((rd_T147 l0_4 x46_2).f1.f0), .int .i64 ((rd_T147 l0_4 x46_2).f1.f1), .int .i64 ((rd_T147 l0_4 x46_2).f1.f2), .int .i64 ((rd_T147 l0_4 x46_2).f2), .int .i64 ((rd_T147 l0_4 x46_2).f3), .int .i64 ((rd_T147 l0_4 x46_2).f4), .int .i64 ((rd_T147 l0_4 x46_2).f5.f0), .slice A515_8 ((rd_T147 l0_4 x46_2).f5.f1).length c515_8] 147 (0, 0)) BK516 hb (fun HX_ => blk_drewN (blk_fill9 HX_) _); replace HB := hs_ HB hb; clear hb))
       go_ret
       exact ⟨rs_, hb_ HB⟩
      obtain rfl := Bool.eq_false_iff.mpr c33
      replace H := iF_ H
      obtain rfl := Option.some.inj H
      obtain ⟨ad515, A515_8, c515_8, p515, q515, rfl, u515_0, u515_1, u515_2, u515_3, u515_4, u515_5, u515_6, u515_7, u515_8, HC515_8, HR515_8⟩ := ab_T147 HB HR0_4 x46_2
      go_wp2_with (first | ((with_reducible refine gate_dst (N := 6) rfl ?_); (try (refine gate_guard (by rfl) ?_; dsimp only)); refine bx_ HB rfl (N := 6) rfl (cs := #[.int .i64 0, .int .i64 0, .int .i64 0, .int .i64 0, .int .i64 0, .int .i64 0, .int .i64 0, .int .i64 0, .slice none 0 0]) (t := 147) hr_ ?_; clear HB; intro gb516 w77 hg hb BK516 GW516 HB; have NB511_516 := ng_ BK511 hg; have NB516_511 := ns_ (ng_ BK511 hg); replace BK511 := bb_ BK511 hb; clear hb hg; have hnb78 := NB516_511.out; have hnc78 := NB511_516.out; obtain ⟨z79_0, z79_1, z79_2, z79_3, z79_4, z79_5, z79_6, z79_7, z79_8, y79_0, y79_1, y79_2, y79_3, y79_4, y79_5, y79_6, y79_7, y79_8⟩ := cz9_ BK516) | ((with_reducible refine gate_callee (f := 62) rfl ?_); refine goesL_ (some 54) rfl rfl Tryz.func62 (by kernel_rfl) rfl #[.int .i64 ((rd_T147 l0_4 x46_2).f0), .int .i64 0, .int .i64 (wrap64 ((l0_2.length : Int) - 1))] rfl al_ ?_; (with_reducible refine (impl_from.calls ((rd_T147 l0_4 x46_2).f0) 0 (wrap64 ((l0_2.length : Int) - 1)) false _ A32.out).mono ?_); rintro e w' ⟨rfl, ⟨nd, rfl⟩⟩; refine ⟨_, rfl, ?_⟩))
      go_ret
      exact ⟨rs_, hb_ HB⟩
     replace H' := A_ H; clear H
     obtain ⟨z80_0, z80_1, z80_2, z80_3, z80_4, z80_5, z80_6, z80_7, y80_0, y80_1, y80_2, y80_3, y80_4, y80_5, y80_6, y80_7⟩ := cz8_ BK511
     go_wp2
     go_loopg [90] k2 (fun kq v90 w' => ∃ (x90_3 : Int), v90 = .int .i64 x90_3 ∧ Aside0 (impl_MachineOk.l1 kq (l0_2.length : Int) l0_2 (l0_2.length : Int) x90_3 l0_0 l0_1 l0_2 a0_3 l0_4 l0_5 l0_6 a0_7 = some r) ∧ Aside0 (kq ≤ k2) ∧ Aside0 (w'.heap[gb511]? = some (.cells #[(.slice A0_0 l0_0.length c0_0), (.slice A0_1 l0_1.length c0_1), (.slice A0_2 l0_2.length c0_2), .int .i64 a0_3, (.slice A0_4 l0_4.length c0_4), (.slice A0_5 l0_5.length c0_5), (.slice A0_6 l0_6.length c0_6), .int .i64 a0_7] 93 (0, 0))) ∧ Aside0 (Below w.heap.size w w'))
     case atStart => exact ⟨(0), rt_, H', ⟨Nat.le_refl _⟩, ⟨bk_ BK511⟩, ⟨hb_ HB⟩⟩
     case round =>
      clear H'
      try clear c6
      try clear c7
      try clear c7b0
      try clear c7b1
      try clear c7b2
      try clear c9
      try clear c10
      try clear c10b0
      try clear c10b1
      try clear c27
      try clear c29b0
      try clear c30b0
      try clear c31b0
      try clear c33
      try clear c35
      try clear c37
      try clear c39
      try clear c41
      try clear u515_0
      try clear u515_1
      try clear u515_2
      try clear u515_3
      try clear u515_4
      try clear u515_5
      try clear u515_6
      try clear u515_7
      try clear u515_8
      try clear p515
      try clear q515
      obtain ⟨x90_3, rfl, HA, HK3, BK511, HB⟩ := hrel
      cases gk with
      | zero => exact absurd HA.out (by simp [impl_MachineOk.l1])
      | succ k3 =>
       have H := HA.out
       clear HA
       simp only [impl_MachineOk.l1] at H
       replace H := ic_ H
       rcases H with ⟨c81b0, H⟩ | ⟨c81b0, H⟩
       ·
        replace H := ix_ H
        obtain ⟨c82b0, H⟩ := H
        replace H := ix_ H
        obtain ⟨c83b0, H⟩ := H
        replace H := bs_ H
        obtain ⟨t525, A84, H⟩ := H
        by_cases c85 : t525 = true
        ·
         subst c85
         replace H := it_ H
         replace H := bs_ H
         obtain ⟨t526, A86, H⟩ := H
         by_cases c87 : t526 = true
         ·
          subst c87
          replace H := it_ H
          replace H' := A_ H; clear H
          obtain ⟨ad523, A523_0, c523_0, A523_3, c523_3, A523_4, c523_4, p523, q523, rfl, u523_0, u523_1, u523_2, u523_3, u523_4, HC523_0, HR523_0, HC523_3, HR523_3, HC523_4, HR523_4⟩ := ab_T62 HB HR0_2 x90_3
          go_wp2_with (first | ((with_reducible refine gate_dst (N := 8) rfl ?_); (try (refine gate_guard (by rfl) ?_; dsimp only)); refine bx_ HB rfl (N := 8) rfl (cs := #[.slice none 0 0, .int .i64 0, .bool false, .slice none 0 0, .slice none 0 0]) (t := 62) hr_ ?_; clear HB; intro gb524 w88 hg hb BK524 GW524 HB; have NB511_524 := ng_ BK511 hg; have NB524_511 := ns_ (ng_ BK511 hg); replace BK511 := bb_ BK511 hb; clear hb hg; have hnb89 := NB524_511.out; have hnc89 := NB511_524.out; obtain ⟨z90_0, z90_1, z90_2, z90_3, z90_4, y90_0, y90_1, y90_2, y90_3, y90_4⟩ := cz5_ BK524) | ((with_reducible refine gate_callee (f := 41) rfl ?_); refine goesL_ (some 97) rfl rfl Tryz.func41 (by kernel_rfl) rfl #[.agg #[.slice A523_0 ((rd_T62 l0_2 x90_3).f0).length c523_0, .int .i64 ((rd_T62 l0_2 x90_3).f1), .bool ((rd_T62 l0_2 x90_3).f2), .slice A523_3 ((rd_T62 l0_2 x90_3).f3).length c523_3, .slice A523_4 ((rd_T62 l0_2 x90_3).f4).length c523_4], .int .i64 (l0_2.length : Int)] rfl al_ ?_; (with_reducible refine (impl_ThreadOk.calls k3 _ _ ((rd_T62 l0_2 x90_3).f0) ((rd_T62 l0_2 x90_3).f1) ((rd_T62 l0_2 x90_3).f2) _ _ ((rd_T62 l0_2 x90_3).f3) _ _ ((rd_T62 l0_2 x90_3).f4) (l0_2.length : Int) true _ ?s1 ?s2 ?s3 ?s4 ?s5 ?s6 A84.out).mono ?_); (case s1 => exact Kd.C_below HR523_0.out (hb_ HB)); (case s2 => exact HC523_0.out); (case s3 => exact Kd.C_below HR523_3.out (hb_ HB)); (case s4 => exact HC523_3.out); (case s5 => exact Kd.C_below HR523_4.out (hb_ HB)); (case s6 => exact HC523_4.out); rintro e w91 ⟨rfl, hb⟩; refine ⟨_, rfl, ?_⟩; replace BK511 := bb_ BK511 hb; replace BK524 := bq_ (o' := .cells #[.slice A523_0 ((rd_T62 l0_2 x90_3).f0).length c523_0, .int .i64 ((rd_T62 l0_2 x90_3).f1), .bool ((rd_T62 l0_2 x90_3).f2), .slice A523_3 ((rd_T62 l0_2 x90_3).f3).length c523_3, .slice A523_4 ((rd_T62 l0_2 x90_3).f4).length c523_4] 62 (0, 0)) BK524 hb; replace HB := hs_ HB hb; clear hb; obtain ⟨z92_0, z92_1, z92_2, z92_3, z92_4, z92_5, z92_6, z92_7, y92_0, y92_1, y92_2, y92_3, y92_4, y92_5, y92_6, y92_7⟩ := cz8_ BK511) | (go_at_call 112; (with_reducible refine (impl_callsOk.calls k3 _ _ l0_0 _ _ l0_1 _ _ l0_2 a0_3 _ _ l0_4 _ _ l0_5 _ _ l0_6 a0_7 x90_3 true _ ?s1 ?s2 ?s3 ?s4 ?s5 ?s6 ?s7 ?s8 ?s9 ?s10 ?s11 ?s12 A86.out).mono ?_); (case s1 => exact cb_ (Kd.C_below HR0_0.out HB.out)); (case s2 => exact HC0_0.out); (case s3 => exact cb_ (Kd.C_below HR0_1.out HB.out)); (case s4 => exact HC0_1.out); (case s5 => exact cb_ (Kd.C_below HR0_2.out HB.out)); (case s6 => exact HC0_2.out); (case s7 => exact cb_ (Kd.C_below HR0_4.out HB.out)); (case s8 => exact HC0_4.out); (case s9 => exact cb_ (Kd.C_below HR0_5.out HB.out)); (case s10 => exact HC0_5.out); (case s11 => exact cb_ (Kd.C_below HR0_6.out HB.out)); (case s12 => exact HC0_6.out); rintro e w93 ⟨rfl, hb⟩; replace BK511 := bb_ BK511 hb; replace BK524 := bb_ BK524 hb; replace HB := hs_ HB hb; clear hb))
          go_roundg k3
          case measure => have := HJ1.out; have := HK2.out; have := HK3.out; omega
          case rel => exact ⟨(wrap64 (x90_3 + 1)), rt_, H', ⟨by have := HJ1.out; have := HK2.out; have := HK3.out; omega⟩, ⟨bk_ BK511⟩, ⟨hb_ HB⟩⟩
         obtain rfl := Bool.eq_false_iff.mpr c87
         replace H := iF_ H
         obtain rfl := Option.some.inj H
         obtain ⟨ad523, A523_0, c523_0, A523_3, c523_3, A523_4, c523_4, p523, q523, rfl, u523_0, u523_1, u523_2, u523_3, u523_4, HC523_0, HR523_0, HC523_3, HR523_3, HC523_4, HR523_4⟩ := ab_T62 HB HR0_2 x90_3
         go_wp2_with (first | ((with_reducible refine gate_dst (N := 8) rfl ?_); (try (refine gate_guard (by rfl) ?_; dsimp only)); refine bx_ HB rfl (N := 8) rfl (cs := #[.slice none 0 0, .int .i64 0, .bool false, .slice none 0 0, .slice none 0 0]) (t := 62) hr_ ?_; clear HB; intro gb524 w94 hg hb BK524 GW524 HB; have NB511_524 := ng_ BK511 hg; have NB524_511 := ns_ (ng_ BK511 hg); replace BK511 := bb_ BK511 hb; clear hb hg; have hnb95 := NB524_511.out; have hnc95 := NB511_524.out; obtain ⟨z96_0, z96_1, z96_2, z96_3, z96_4, y96_0, y96_1, y96_2, y96_3, y96_4⟩ := cz5_ BK524) | ((with_reducible refine gate_callee (f := 41) rfl ?_); refine goesL_ (some 97) rfl rfl Tryz.func41 (by kernel_rfl) rfl #[.agg #[.slice A523_0 ((rd_T62 l0_2 x90_3).f0).length c523_0, .int .i64 ((rd_T62 l0_2 x90_3).f1), .bool ((rd_T62 l0_2 x90_3).f2), .slice A523_3 ((rd_T62 l0_2 x90_3).f3).length c523_3, .slice A523_4 ((rd_T62 l0_2 x90_3).f4).length c523_4], .int .i64 (l0_2.length : Int)] rfl al_ ?_; (with_reducible refine (impl_ThreadOk.calls k3 _ _ ((rd_T62 l0_2 x90_3).f0) ((rd_T62 l0_2 x90_3).f1) ((rd_T62 l0_2 x90_3).f2) _ _ ((rd_T62 l0_2 x90_3).f3) _ _ ((rd_T62 l0_2 x90_3).f4) (l0_2.length : Int) true _ ?s1 ?s2 ?s3 ?s4 ?s5 ?s6 A84.out).mono ?_); (case s1 => exact Kd.C_below HR523_0.out (hb_ HB)); (case s2 => exact HC523_0.out); (case s3 => exact Kd.C_below HR523_3.out (hb_ HB)); (case s4 => exact HC523_3.out); (case s5 => exact Kd.C_below HR523_4.out (hb_ HB)); (case s6 => exact HC523_4.out); rintro e w97 ⟨rfl, hb⟩; refine ⟨_, rfl, ?_⟩; replace BK511 := bb_ BK511 hb; replace BK524 := bq_ (o' := .cells #[.slice A523_0 ((rd_T62 l0_2 x90_3).f0).length c523_0, .int .i64 ((rd_T62 l0_2 x90_3).f1), .bool ((rd_T62 l0_2 x90_3).f2), .slice A523_3 ((rd_T62 l0_2 x90_3).f3).length c523_3, .slice A523_4 ((rd_T62 l0_2 x90_3).f4).length c523_4] 62 (0, 0)) BK524 hb; replace HB := hs_ HB hb; clear hb; obtain ⟨z98_0, z98_1, z98_2, z98_3, z98_4, z98_5, z98_6, z98_7, y98_0, y98_1, y98_2, y98_3, y98_4, y98_5, y98_6, y98_7⟩ := cz8_ BK511) | (go_at_call 112; (with_reducible refine (impl_callsOk.calls k3 _ _ l0_0 _ _ l0_1 _ _ l0_2 a0_3 _ _ l0_4 _ _ l0_5 _ _ l0_6 a0_7 x90_3 false _ ?s1 ?s2 ?s3 ?s4 ?s5 ?s6 ?s7 ?s8 ?s9 ?s10 ?s11 ?s12 A86.out).mono ?_); (case s1 => exact cb_ (Kd.C_below HR0_0.out HB.out)); (case s2 => exact HC0_0.out); (case s3 => exact cb_ (Kd.C_below HR0_1.out HB.out)); (case s4 => exact HC0_1.out); (case s5 => exact cb_ (Kd.C_below HR0_2.out HB.out)); (case s6 => exact HC0_2.out); (case s7 => exact cb_ (Kd.C_below HR0_4.out HB.out)); (case s8 => exact HC0_4.out); (case s9 => exact cb_ (Kd.C_below HR0_5.out HB.out)); (case s10 => exact HC0_5.out); (case s11 => exact cb_ (Kd.C_below HR0_6.out HB.out)); (case s12 => exact HC0_6.out); rintro e w99 ⟨rfl, hb⟩; replace BK511 := bb_ BK511 hb; replace BK524 := bb_ BK524 hb; replace HB := hs_ HB hb; clear hb))
         go_ret
         exact ⟨rs_, hb_ HB⟩
        obtain rfl := Bool.eq_false_iff.mpr c85
        replace H := iF_ H
        obtain rfl := Option.some.inj H
        obtain ⟨ad523, A523_0, c523_0, A523_3, c523_3, A523_4, c523_4, p523, q523, rfl, u523_0, u523_1, u523_2, u523_3, u523_4, HC523_0, HR523_0, HC523_3, HR523_3, HC523_4, HR523_4⟩ := ab_T62 HB HR0_2 x90_3
        go_wp2_with (first | ((with_reducible refine gate_dst (N := 8) rfl ?_); (try (refine gate_guard (by rfl) ?_; dsimp only)); refine bx_ HB rfl (N := 8) rfl (cs := #[.slice none 0 0, .int .i64 0, .bool false, .slice none 0 0, .slice none 0 0]) (t := 62) hr_ ?_; clear HB; intro gb524 w100 hg hb BK524 GW524 HB; have NB511_524 := ng_ BK511 hg; have NB524_511 := ns_ (ng_ BK511 hg); replace BK511 := bb_ BK511 hb; clear hb hg; have hnb101 := NB524_511.out; have hnc101 := NB511_524.out; obtain ⟨z102_0, z102_1, z102_2, z102_3, z102_4, y102_0, y102_1, y102_2, y102_3, y102_4⟩ := cz5_ BK524) | ((with_reducible refine gate_callee (f := 41) rfl ?_); refine goesL_ (some 97) rfl rfl Tryz.func41 (by kernel_rfl) rfl #[.agg #[.slice A523_0 ((rd_T62 l0_2 x90_3).f0).length c523_0, .int .i64 ((rd_T62 l0_2 x90_3).f1), .bool ((rd_T62 l0_2 x90_3).f2), .slice A523_3 ((rd_T62 l0_2 x90_3).f3).length c523_3, .slice A523_4 ((rd_T62 l0_2 x90_3).f4).length c523_4], .int .i64 (l0_2.length : Int)] rfl al_ ?_; (with_reducible refine (impl_ThreadOk.calls k3 _ _ ((rd_T62 l0_2 x90_3).f0) ((rd_T62 l0_2 x90_3).f1) ((rd_T62 l0_2 x90_3).f2) _ _ ((rd_T62 l0_2 x90_3).f3) _ _ ((rd_T62 l0_2 x90_3).f4) (l0_2.length : Int) false _ ?s1 ?s2 ?s3 ?s4 ?s5 ?s6 A84.out).mono ?_); (case s1 => exact Kd.C_below HR523_0.out (hb_ HB)); (case s2 => exact HC523_0.out); (case s3 => exact Kd.C_below HR523_3.out (hb_ HB)); (case s4 => exact HC523_3.out); (case s5 => exact Kd.C_below HR523_4.out (hb_ HB)); (case s6 => exact HC523_4.out); rintro e w103 ⟨rfl, hb⟩; refine ⟨_, rfl, ?_⟩; replace BK511 := bb_ BK511 hb; replace BK524 := bq_ (o' := .cells #[.slice A523_0 ((rd_T62 l0_2 x90_3).f0).length c523_0, .int .i64 ((rd_T62 l0_2 x90_3).f1), .bool ((rd_T62 l0_2 x90_3).f2), .slice A523_3 ((rd_T62 l0_2 x90_3).f3).length c523_3, .slice A523_4 ((rd_T62 l0_2 x90_3).f4).length c523_4] 62 (0, 0)) BK524 hb; replace HB := hs_ HB hb; clear hb))
        go_ret
        exact ⟨rs_, hb_ HB⟩
       replace H := bs_ H
       obtain ⟨t522, A104, H⟩ := H
       obtain rfl := Option.some.inj H
       obtain ⟨z105_0, z105_1, z105_2, z105_3, z105_4, z105_5, z105_6, z105_7, y105_0, y105_1, y105_2, y105_3, y105_4, y105_5, y105_6, y105_7⟩ := cz8_ BK511
       go_wp2_with (first | ((with_reducible refine gate_callee (f := 113) rfl ?_); refine goesL_ (some 107) rfl rfl Tryz.func113 (by kernel_rfl) rfl #[.agg #[.slice A0_0 l0_0.length c0_0, .slice A0_1 l0_1.length c0_1, .slice A0_2 l0_2.length c0_2, .int .i64 a0_3, .slice A0_4 l0_4.length c0_4, .slice A0_5 l0_5.length c0_5, .slice A0_6 l0_6.length c0_6, .int .i64 a0_7]] rfl al_ ?_; (with_reducible refine (impl_orderOk.calls k3 _ _ l0_0 _ _ l0_1 _ _ l0_2 a0_3 _ _ l0_4 _ _ l0_5 _ _ l0_6 a0_7 t522 _ ?s1 ?s2 ?s3 ?s4 ?s5 ?s6 ?s7 ?s8 ?s9 ?s10 ?s11 ?s12 A104.out).mono ?_); (case s1 => exact cb_ (Kd.C_below HR0_0.out HB.out)); (case s2 => exact HC0_0.out); (case s3 => exact cb_ (Kd.C_below HR0_1.out HB.out)); (case s4 => exact HC0_1.out); (case s5 => exact cb_ (Kd.C_below HR0_2.out HB.out)); (case s6 => exact HC0_2.out); (case s7 => exact cb_ (Kd.C_below HR0_4.out HB.out)); (case s8 => exact HC0_4.out); (case s9 => exact cb_ (Kd.C_below HR0_5.out HB.out)); (case s10 => exact HC0_5.out); (case s11 => exact cb_ (Kd.C_below HR0_6.out HB.out)); (case s12 => exact HC0_6.out); rintro e w106 ⟨rfl, hb⟩; refine ⟨_, rfl, ?_⟩; replace BK511 := bb_ BK511 hb; replace HB := hs_ HB hb; clear hb))
       go_ret
       exact ⟨rs_, hb_ HB⟩
end Go.Proofs.YtdcinhpdpoodfaaGreat.PFnExactFinished
