/- Contracts of functions of the program: each says that the call does what a plain Lean function tells. Made by programs of this session and of the kit. No condition beyond the hypotheses that each theorem names. -/
import Derived.Test.YtmkhghbalnadlaaPFnAllowedx0
import Derived.Test.YtmkhghbalnadlaaPFnAllowedx13
import Derived.Test.YtmkhghbalnadlaaPFnAllowedx14
import Derived.Test.YtmkhghbalnadlaaPFnAllowedx15
namespace Go.Proofs.Ytmkhghbalnadlaa.PFnAllowed
open Go.RowKit Go.Proofs.YtmkhghbalnadlaaW.PrintWords Go.Proofs.YtmkhghbalnadlaaW.PrintLast Go.Proofs.YtmkhghbalnadlaaW.PrintMore
attribute [local go_sem] max2_int min2_int max_two min_two max_three min_three max_four min_four   -- for this text's walks alone
set_option linter.unusedVariables false
set_option linter.unusedSimpArgs false

/-! ### spec_DrawAllowed: function 27 -/
def spec_DrawAllowed.f (k : Nat) (l0 : List Int) : Option (List Int × Int × Int × Int × Int × Int × List Int) := (spec_l1New.f k l0).bind fun bt431 => ((spec_l3Draw.f k bt431.1 bt431.2.1 bt431.2.2).bind fun bt435 => ((spec_l4Draw.f k bt431.1 bt435.2.2.1 bt435.2.2.2).bind fun bt442 => ((spec_l4DrawRes.f k bt431.1 bt442.2.2.2.1 bt442.2.2.2.2 bt435.1 bt435.2.1 bt442.1 bt442.2.1 bt442.2.2.1).bind fun bt448 => (some (bt435.1, bt435.2.1, bt442.1, bt442.2.1, bt442.2.2.1, bt448.1, bt448.2.1)))))
theorem spec_DrawAllowed.mono : ∀ a0 k, LeO (spec_DrawAllowed.f k a0) (spec_DrawAllowed.f (k + 1) a0) := by
 intro a0 k
 unfold spec_DrawAllowed.f
 repeat' first | (with_reducible first | apply spec_l1New.mono | apply spec_l3Draw.mono | apply spec_l4Draw.mono | apply spec_l4DrawRes.mono | apply LeO.refl | apply LeO.none | apply LeO.ite | refine LeO.bind ?_ (fun _ => ?_)) | apply spec_l1New.mono | apply spec_l3Draw.mono | apply spec_l4Draw.mono | apply spec_l4DrawRes.mono | apply LeO.none | apply LeO.ite | refine LeO.bind ?_ (fun _ => ?_)
def spec_DrawAllowed.T4 : Bool × List (List Nat × List Nat) := (true, [([], []), ([], []), ([], []), ([], []), ([], []), ([2, 3, 4], [2, 3, 4]), ([0, 5, 0], [0]), ([1, 6, 0, 1, 6], [1]), ([5, 7, 0, 1, 2, 3, 4, 5, 6, 7], [5])])
def spec_DrawAllowed.B4 : List Nat := [0, 0, 0, 0, 0, 28, 61, 127, 255]
theorem spec_DrawAllowed.tab4 : rtab .any (opsOf Try.f27 4) = spec_DrawAllowed.T4 := by kernel_rfl
theorem spec_DrawAllowed.bits4 : waitsOk spec_DrawAllowed.T4.2 spec_DrawAllowed.B4 = true := by kernel_rfl
set_option maxHeartbeats 8000000 in
set_option maxRecDepth 100000 in
theorem spec_DrawAllowed.calls (k : Nat) (A0 : Option Addr) (c0 : Nat) (l0 : List Int) (r1 : List Int) (r2 : Int) (r3 : Int) (r4 : Int) (r5 : Int) (r6 : Int) (r7 : List Int) (w : World) (hr0 : Kd.C (Kd.int .u8) w A0 l0.length l0) (hc0 : l0.length ≤ c0) (h : spec_DrawAllowed.f k l0 = some (r1, r2, r3, r4, r5, r6, r7)) :
    Calls Try.prog 27 #[.slice A0 l0.length c0] w fun e w' => ∃ v0_ v6_ : Value, e = .returned (.tuple #[.agg #[v0_, .int .i64 r2], .agg #[.int .i64 r3, .int .i64 r4, .int .i64 r5], .agg #[.int .i64 r6, v6_]]) ∧ Kd.R (Kd.int .i64) 3 w' w.heap.size (fun k_ => some k_ ≠ (v6_ : Value).ownBlock) v0_ r1 ∧ Kd.R (Kd.int .i64) 3 w' w.heap.size (fun k_ => some k_ ≠ (v0_ : Value).ownBlock) v6_ r7 ∧ Below w.heap.size w w' := by
 have hu44 := Try.underlying44
 have hu47 := Try.underlying47
 have hu49 := Try.underlying49
 have HR0 := A_ hr0
 have HC0 := A_ hc0
 clear hr0 hc0
 have HB := A_ (Below.refl w.heap.size w)
 have H : ((spec_l1New.f k l0).bind fun bt431 => ((spec_l3Draw.f k bt431.1 bt431.2.1 bt431.2.2).bind fun bt435 => ((spec_l4Draw.f k bt431.1 bt435.2.2.1 bt435.2.2.2).bind fun bt442 => ((spec_l4DrawRes.f k bt431.1 bt442.2.2.2.1 bt442.2.2.2.2 bt435.1 bt435.2.1 bt442.1 bt442.2.1 bt442.2.2.1).bind fun bt448 => (some (bt435.1, bt435.2.1, bt442.1, bt442.2.1, bt442.2.2.1, bt448.1, bt448.2.1)))))) = some (r1, r2, r3, r4, r5, r6, r7) := h
 clear h
 replace H := bs_ H
 obtain ⟨⟨t431, t432, t433⟩, A2, H⟩ := H
 dsimp only at H
 replace H := bs_ H
 obtain ⟨⟨t435, t438, t439, t440⟩, A3, H⟩ := H
 dsimp only at H
 replace H := bs_ H
 obtain ⟨⟨t442, t443, t444, t445, t446⟩, A4, H⟩ := H
 dsimp only at H
 replace H := bs_ H
 obtain ⟨⟨t448, t449, t452, t453⟩, A5, H⟩ := H
 dsimp only at H
 simp only [Option.some.injEq, Prod.mk.injEq] at H
 obtain ⟨rfl, rfl, rfl, rfl, rfl, rfl, rfl⟩ := H
 go_enter Try.func27, Try.ntmps27
 try go_wp2_with (first | ((with_reducible refine gate_dst (N := 2) rfl ?_); refine bx_ HB rfl (N := 2) rfl (cs := #[.slice none 0 0, .int .i64 0]) (t := 44) hr_ ?_; clear HB; intro gb428 w6 hg hb BK428 GW428 HB; clear hb hg) | ((with_reducible refine gate_dst (N := 3) rfl ?_); refine bx_ HB rfl (N := 3) rfl (cs := #[.int .i64 0, .int .i64 0, .int .i64 0]) (t := 47) hr_ ?_; clear HB; intro gb429 w7 hg hb BK429 GW429 HB; have NB428_429 := ng_ BK428 hg; have NB429_428 := ns_ (ng_ BK428 hg); replace BK428 := bb_ BK428 hb; clear hb hg) | ((with_reducible refine gate_dst (N := 4) rfl ?_); refine bx_ HB rfl (N := 4) rfl (cs := #[.int .i64 0, .slice none 0 0]) (t := 49) hr_ ?_; clear HB; intro gb430 w8 hg hb BK430 GW430 HB; have NB428_430 := ng_ BK428 hg; have NB430_428 := ns_ (ng_ BK428 hg); have NB429_430 := ng_ BK429 hg; have NB430_429 := ns_ (ng_ BK429 hg); replace BK428 := bb_ BK428 hb; replace BK429 := bb_ BK429 hb; clear hb hg) | ((with_reducible refine gate_callee (f := 70) rfl ?_); refine goesL_ (some 9) rfl rfl Try.func70 (by kernel_rfl) rfl #[.slice A0 l0.length c0] rfl al_ ?_; (with_reducible refine (spec_l1New.calls k _ _ l0 t431 t432 t433 w _ ?side1 ?side2 ?side3 A2.out).mono ?_); (case side1 => repeat (first | (with_reducible first | exact HB.out | apply below_alloc | apply pw_below_drewN | apply below_drew1 | refine below_set ?_ GW428.out | refine below_set ?_ GW429.out | refine below_set ?_ GW430.out) | exact HB.out)); (case side2 => exact HR0.out); (case side3 => exact HC0.out); rintro e w9 ⟨g434, rfl, hi, hb, hb2⟩; refine ⟨_, rfl, ?_⟩; have HI434 := A_ hi; have NB434_428 := A_ (IsS147.ne_blk hi (blk_below (g := gb428) (o := .cells #[.slice none 0 0, .int .i64 0] 44 (0, 0)) (bk_ BK428) hb2) (by decide)); have NB428_434 := A_ (Ne.symm (IsS147.ne_blk hi (blk_below (g := gb428) (o := .cells #[.slice none 0 0, .int .i64 0] 44 (0, 0)) (bk_ BK428) hb2) (by decide))); have NB434_429 := A_ (IsS147.ne_blk hi (blk_below (g := gb429) (o := .cells #[.int .i64 0, .int .i64 0, .int .i64 0] 47 (0, 0)) (bk_ BK429) hb2) (by decide)); have NB429_434 := A_ (Ne.symm (IsS147.ne_blk hi (blk_below (g := gb429) (o := .cells #[.int .i64 0, .int .i64 0, .int .i64 0] 47 (0, 0)) (bk_ BK429) hb2) (by decide))); have NB434_430 := A_ (IsS147.ne_blk hi (blk_below (g := gb430) (o := .cells #[.int .i64 0, .slice none 0 0] 49 (0, 0)) (bk_ BK430) hb2) (by decide)); have NB430_434 := A_ (Ne.symm (IsS147.ne_blk hi (blk_below (g := gb430) (o := .cells #[.int .i64 0, .slice none 0 0] 49 (0, 0)) (bk_ BK430) hb2) (by decide))); replace BK428 := A_ (blk_below (g := gb428) (o := .cells #[.slice none 0 0, .int .i64 0] 44 (0, 0)) (bk_ BK428) hb2); replace BK429 := A_ (blk_below (g := gb429) (o := .cells #[.int .i64 0, .int .i64 0, .int .i64 0] 47 (0, 0)) (bk_ BK429) hb2); replace BK430 := A_ (blk_below (g := gb430) (o := .cells #[.int .i64 0, .slice none 0 0] 49 (0, 0)) (bk_ BK430) hb2); replace HB := A_ hb; (try clear hb); (try clear hb2); (try clear hk); (try clear hi)) | ((with_reducible refine gate_callee (f := 71) rfl ?_); refine goesL_ (some 11) rfl rfl Try.func71 (by kernel_rfl) rfl #[.pointer (some ⟨g434, 0, none⟩)] rfl al_ ?_; (with_reducible refine (spec_l3Draw.calls k g434 t431 t432 t433 t435 t438 t439 t440 w _ ?side1 ?side2 A3.out).mono ?_); (case side1 => repeat (first | (with_reducible first | exact HI434.out | apply IsS147.alloc | apply IsS147.drewN | apply IsS147.drew | apply IsS147.set_1 | apply IsS147.set_2 | refine IsS147.far ?_ NB434_428.out _ | refine IsS147.far ?_ NB434_429.out _ | refine IsS147.far ?_ NB434_430.out _) | exact HI434.out)); (case side2 => repeat (first | (with_reducible first | exact HB.out | apply below_alloc | apply pw_below_drewN | apply below_drew1 | refine below_set ?_ (IsS147.ge HI434.out) | refine below_set ?_ GW428.out | refine below_set ?_ GW429.out | refine below_set ?_ GW430.out) | exact HB.out)); rintro e w10 ⟨v436, rfl, ho0, hi, hb, hk⟩; refine ⟨_, rfl, ?_⟩; have HO437 := A_ (Kd.R_lower ho0 (below_size (by repeat (first | (with_reducible first | exact HB.out | apply below_alloc | apply pw_below_drewN | apply below_drew1 | refine below_set ?_ (IsS147.ge HI434.out) | refine below_set ?_ GW428.out | refine below_set ?_ GW429.out | refine below_set ?_ GW430.out) | exact HB.out)))); replace BK428 := A_ (KeepBut.blk hk (g' := gb428) (o := .cells #[.slice none 0 0, .int .i64 0] 44 (0, 0)) (bk_ BK428) NB428_434.out (by simp)); replace BK429 := A_ (KeepBut.blk hk (g' := gb429) (o := .cells #[.int .i64 0, .int .i64 0, .int .i64 0] 47 (0, 0)) (bk_ BK429) NB429_434.out (by simp)); replace BK430 := A_ (KeepBut.blk hk (g' := gb430) (o := .cells #[.int .i64 0, .slice none 0 0] 49 (0, 0)) (bk_ BK430) NB430_434.out (by simp)); replace HI434 := A_ hi; replace HB := A_ hb; (try clear hb); (try clear hb2); (try clear hk); (try clear hi); (try clear ho0)) | ((with_reducible refine gate_dst (N := 6) rfl ?_); refine box_event rfl (N := 6) rfl (cs := #[.slice none 0 0, .int .i64 0]) (t := 44) hr_ ?_; intro gb441 hg w11 hbox hb; have n0_ := A_ (Kd.R_below (rb_ HO437.out) hb); have n1_ := bb_ BK428 hb; have n2_ := bb_ BK429 hb; have n3_ := bb_ BK430 hb; have n4_ := A_ (IsS147.below (by repeat (first | (with_reducible first | exact HI434.out | apply IsS147.alloc | apply IsS147.drewN | apply IsS147.drew | apply IsS147.set_1 | apply IsS147.set_2 | refine IsS147.far ?_ NB434_428.out _ | refine IsS147.far ?_ NB434_429.out _ | refine IsS147.far ?_ NB434_430.out _) | exact HI434.out)) hb); have n5_ := A_ (below_step (by repeat (first | (with_reducible first | exact HB.out | apply below_alloc | apply pw_below_drewN | apply below_drew1 | refine below_set ?_ (IsS147.ge HI434.out) | refine below_set ?_ GW428.out | refine below_set ?_ GW429.out | refine below_set ?_ GW430.out) | exact HB.out)) hb); have n6_ := A_ hbox; have n7_ := A_ ((by rw [hg]; exact (below_size (by repeat (first | (with_reducible first | exact HB.out | apply below_alloc | apply pw_below_drewN | apply below_drew1 | refine below_set ?_ (IsS147.ge HI434.out) | refine below_set ?_ GW428.out | refine below_set ?_ GW429.out | refine below_set ?_ GW430.out) | exact HB.out))) : w.heap.size ≤ gb441)); have n8_ := A_ ((by rw [hg]; exact (below_size (by repeat (first | (with_reducible first | exact HB.out | apply below_alloc | apply pw_below_drewN | apply below_drew1 | refine below_set ?_ (IsS147.ge HI434.out) | refine below_set ?_ GW428.out | refine below_set ?_ GW429.out | refine below_set ?_ GW430.out) | exact HB.out))) : w.heap.size ≤ gb441)); have n9_ := ng_ BK428 hg; have n10_ := ns_ (ng_ BK428 hg); have n11_ := ng_ BK429 hg; have n12_ := ns_ (ng_ BK429 hg); have n13_ := ng_ BK430 hg; have n14_ := ns_ (ng_ BK430 hg); have n15_ := A_ ((by rw [hg]; exact Nat.ne_of_lt (IsS147.lt (show IsS147 w _ g434 t431 t439 t440 from by repeat (first | (with_reducible first | exact HI434.out | apply IsS147.alloc | apply IsS147.drewN | apply IsS147.drew | apply IsS147.set_1 | apply IsS147.set_2 | refine IsS147.far ?_ NB434_428.out _ | refine IsS147.far ?_ NB434_429.out _ | refine IsS147.far ?_ NB434_430.out _) | exact HI434.out))) : g434 ≠ gb441)); have n16_ := A_ ((by rw [hg]; exact Nat.ne_of_gt (IsS147.lt (show IsS147 w _ g434 t431 t439 t440 from by repeat (first | (with_reducible first | exact HI434.out | apply IsS147.alloc | apply IsS147.drewN | apply IsS147.drew | apply IsS147.set_1 | apply IsS147.set_2 | refine IsS147.far ?_ NB434_428.out _ | refine IsS147.far ?_ NB434_429.out _ | refine IsS147.far ?_ NB434_430.out _) | exact HI434.out))) : gb441 ≠ g434)); clear HO437; clear BK428; clear BK429; clear BK430; clear HI434; clear HB; have HO437 := n0_; have BK428 := n1_; have BK429 := n2_; have BK430 := n3_; have HI434 := n4_; have HB := n5_; have BK441 := n6_; have GW441 := n7_; have GE441 := n8_; have NB428_441 := n9_; have NB441_428 := n10_; have NB429_441 := n11_; have NB441_429 := n12_; have NB430_441 := n13_; have NB441_430 := n14_; have NB434_441 := n15_; have NB441_434 := n16_; clear n0_ n1_ n2_ n3_ n4_ n5_ n6_ n7_ n8_ n9_ n10_ n11_ n12_ n13_ n14_ n15_ n16_; clear hb hbox hg; obtain ⟨Ao12, co12, eo12⟩ := Kd.R_slice HO437.out; subst eo12; have hnb13 := NB441_428.out; have hnc13 := NB428_441.out; have hnb14 := NB441_429.out; have hnc14 := NB429_441.out; have hnb15 := NB441_430.out; have hnc15 := NB430_441.out; have hnb16 := NB441_434.out; have hnc16 := NB434_441.out; obtain ⟨hcz17_0, hcz17_1, hfz17_0, hfz17_1⟩ := cz2_ BK441) | ((with_reducible refine gate_callee (f := 72) rfl ?_); refine goesL_ (some 13) rfl rfl Try.func72 (by kernel_rfl) rfl #[.pointer (some ⟨g434, 0, none⟩)] rfl al_ ?_; (with_reducible refine (spec_l4Draw.calls k g434 t431 t439 t440 t442 t443 t444 t445 t446 w _ ?side1 ?side2 A4.out).mono ?_); (case side1 => repeat (first | (with_reducible first | exact HI434.out | apply IsS147.alloc | apply IsS147.drewN | apply IsS147.drew | apply IsS147.set_1 | apply IsS147.set_2 | refine IsS147.far ?_ NB434_428.out _ | refine IsS147.far ?_ NB434_429.out _ | refine IsS147.far ?_ NB434_430.out _ | refine IsS147.far ?_ NB434_441.out _) | exact HI434.out)); (case side2 => repeat (first | (with_reducible first | exact HB.out | apply below_alloc | apply pw_below_drewN | apply below_drew1 | refine below_set ?_ (IsS147.ge HI434.out) | refine below_set ?_ GW428.out | refine below_set ?_ GW429.out | refine below_set ?_ GW430.out | refine below_set ?_ GE441.out) | exact HB.out)); rintro e w18 ⟨rfl, hi, hb, hk⟩; refine ⟨_, rfl, ?_⟩; replace BK428 := A_ (KeepBut.blk hk (g' := gb428) (o := .cells #[.slice none 0 0, .int .i64 0] 44 (0, 0)) (bk_ BK428) NB428_434.out (by simp)); replace BK429 := A_ (KeepBut.blk hk (g' := gb429) (o := .cells #[.int .i64 0, .int .i64 0, .int .i64 0] 47 (0, 0)) (bk_ BK429) NB429_434.out (by simp)); replace BK430 := A_ (KeepBut.blk hk (g' := gb430) (o := .cells #[.int .i64 0, .slice none 0 0] 49 (0, 0)) (bk_ BK430) NB430_434.out (by simp)); replace HO437 := A_ (Kd.R_mono (Kd.R_keep (IsS147.apart (show IsS147 w _ g434 t431 t439 t440 from by repeat (first | (with_reducible first | exact HI434.out | apply IsS147.alloc | apply IsS147.drewN | apply IsS147.drew | apply IsS147.set_1 | apply IsS147.set_2 | refine IsS147.far ?_ NB434_428.out _ | refine IsS147.far ?_ NB434_429.out _ | refine IsS147.far ?_ NB434_430.out _ | refine IsS147.far ?_ NB434_441.out _) | exact HI434.out)) (by (with_reducible repeat (first | apply Kd.R_alloc | apply Kd.R_drewN | apply Kd.R_drew)); exact (Kd.R_mono (Kd.R_far (p := ⟨gb441, 1, none⟩) (Kd.R_far (p := ⟨gb441, 0, none⟩) (Kd.R_types HO437.out BK441.out (by decide)) (fun _ hk => hk.2) (.slice Ao12 t435.length co12)) (fun _ hk => hk.2) (.int .i64 t438)) (fun _ h_ => h_.1))) (by decide)) hk (fun _ h => h.2)) (fun _ h => h.1)); replace BK441 := A_ (KeepBut.blk hk (g' := gb441) (o := .cells #[.slice Ao12 t435.length co12, .int .i64 t438] 44 (0, 0)) (bp_ BK441) NB441_434.out (by simp)); replace HI434 := A_ hi; replace HB := A_ hb; (try clear hb); (try clear hb2); (try clear hk); (try clear hi)) | ((with_reducible refine gate_dst (N := 7) rfl ?_); refine box_event rfl (N := 7) rfl (cs := #[.int .i64 0, .int .i64 0, .int .i64 0]) (t := 47) hr_ ?_; intro gb447 hg w19 hbox hb; have n0_ := A_ (Kd.R_below (rb_ HO437.out) hb); have n1_ := bb_ BK428 hb; have n2_ := bb_ BK429 hb; have n3_ := bb_ BK430 hb; have n4_ := A_ (IsS147.below (by repeat (first | (with_reducible first | exact HI434.out | apply IsS147.alloc | apply IsS147.drewN | apply IsS147.drew | apply IsS147.set_1 | apply IsS147.set_2 | refine IsS147.far ?_ NB434_428.out _ | refine IsS147.far ?_ NB434_429.out _ | refine IsS147.far ?_ NB434_430.out _ | refine IsS147.far ?_ NB434_441.out _) | exact HI434.out)) hb); have n5_ := bb_ BK441 hb; have n6_ := A_ (below_step (by repeat (first | (with_reducible first | exact HB.out | apply below_alloc | apply pw_below_drewN | apply below_drew1 | refine below_set ?_ (IsS147.ge HI434.out) | refine below_set ?_ GW428.out | refine below_set ?_ GW429.out | refine below_set ?_ GW430.out | refine below_set ?_ GE441.out) | exact HB.out)) hb); have n7_ := A_ hbox; have n8_ := A_ ((by rw [hg]; exact (below_size (by repeat (first | (with_reducible first | exact HB.out | apply below_alloc | apply pw_below_drewN | apply below_drew1 | refine below_set ?_ (IsS147.ge HI434.out) | refine below_set ?_ GW428.out | refine below_set ?_ GW429.out | refine below_set ?_ GW430.out | refine below_set ?_ GE441.out) | exact HB.out))) : w.heap.size ≤ gb447)); have n9_ := A_ ((by rw [hg]; exact (below_size (by repeat (first | (with_reducible first | exact HB.out | apply below_alloc | apply pw_below_drewN | apply below_drew1 | refine below_set ?_ (IsS147.ge HI434.out) | refine below_set ?_ GW428.out | refine below_set ?_ GW429.out | refine below_set ?_ GW430.out | refine below_set ?_ GE441.out) | exact HB.out))) : w.heap.size ≤ gb447)); have n10_ := ng_ BK428 hg; have n11_ := ns_ (ng_ BK428 hg); have n12_ := ng_ BK429 hg; have n13_ := ns_ (ng_ BK429 hg); have n14_ := ng_ BK430 hg; have n15_ := ns_ (ng_ BK430 hg); have n16_ := ng_ BK441 hg; have n17_ := ns_ (ng_ BK441 hg); have n18_ := A_ ((by rw [hg]; exact Nat.ne_of_lt (IsS147.lt (show IsS147 w _ g434 t431 t445 t446 from by repeat (first | (with_reducible first | exact HI434.out | apply IsS147.alloc | apply IsS147.drewN | apply IsS147.drew | apply IsS147.set_1 | apply IsS147.set_2 | refine IsS147.far ?_ NB434_428.out _ | refine IsS147.far ?_ NB434_429.out _ | refine IsS147.far ?_ NB434_430.out _ | refine IsS147.far ?_ NB434_441.out _) | exact HI434.out))) : g434 ≠ gb447)); have n19_ := A_ ((by rw [hg]; exact Nat.ne_of_gt (IsS147.lt (show IsS147 w _ g434 t431 t445 t446 from by repeat (first | (with_reducible first | exact HI434.out | apply IsS147.alloc | apply IsS147.drewN | apply IsS147.drew | apply IsS147.set_1 | apply IsS147.set_2 | refine IsS147.far ?_ NB434_428.out _ | refine IsS147.far ?_ NB434_429.out _ | refine IsS147.far ?_ NB434_430.out _ | refine IsS147.far ?_ NB434_441.out _) | exact HI434.out))) : gb447 ≠ g434)); clear HO437; clear BK428; clear BK429; clear BK430; clear HI434; clear BK441; clear HB; have HO437 := n0_; have BK428 := n1_; have BK429 := n2_; have BK430 := n3_; have HI434 := n4_; have BK441 := n5_; have HB := n6_; have BK447 := n7_; have GW447 := n8_; have GE447 := n9_; have NB428_447 := n10_; have NB447_428 := n11_; have NB429_447 := n12_; have NB447_429 := n13_; have NB430_447 := n14_; have NB447_430 := n15_; have NB441_447 := n16_; have NB447_441 := n17_; have NB434_447 := n18_; have NB447_434 := n19_; clear n0_ n1_ n2_ n3_ n4_ n5_ n6_ n7_ n8_ n9_ n10_ n11_ n12_ n13_ n14_ n15_ n16_ n17_ n18_ n19_; clear hb hbox hg; have hnb20 := NB447_428.out; have hnc20 := NB428_447.out; have hnb21 := NB447_429.out; have hnc21 := NB429_447.out; have hnb22 := NB447_430.out; have hnc22 := NB430_447.out; have hnb23 := NB447_441.out; have hnc23 := NB441_447.out; have hnb24 := NB447_434.out; have hnc24 := NB434_447.out; obtain ⟨hcz25_0, hcz25_1, hcz25_2, hfz25_0, hfz25_1, hfz25_2⟩ := cz3_ BK447))
 have n0_ : Aside0 (Kd.R (Kd.int .i64) 3 (((w19.setCell ⟨gb447, 0, none⟩ (.int .i64 t442)).setCell ⟨gb447, 1, none⟩ (.int .i64 t443)).setCell ⟨gb447, 2, none⟩ (.int .i64 t444)) w.heap.size (fun _ => True) (.slice Ao12 t435.length co12) t435) := ⟨by (with_reducible repeat (first | apply Kd.R_alloc | apply Kd.R_drewN | apply Kd.R_drew)); exact Kd.R_mono (Kd.R_far (p := ⟨gb447, 2, none⟩) (Kd.R_far (p := ⟨gb447, 1, none⟩) (Kd.R_far (p := ⟨gb447, 0, none⟩) (Kd.R_types HO437.out BK447.out (by decide)) (fun _ hk => hk.2) (.int .i64 t442)) (fun _ hk => hk.2) (.int .i64 t443)) (fun _ hk => hk.2) (.int .i64 t444)) (fun _ hk => trivial)⟩
 have n1_ : Aside0 ((((w19.setCell ⟨gb447, 0, none⟩ (.int .i64 t442)).setCell ⟨gb447, 1, none⟩ (.int .i64 t443)).setCell ⟨gb447, 2, none⟩ (.int .i64 t444)).heap[gb428]? = some (.cells #[.slice none 0 0, .int .i64 0] 44 (0, 0))) := ⟨bk_ BK428⟩
 have n2_ : Aside0 ((((w19.setCell ⟨gb447, 0, none⟩ (.int .i64 t442)).setCell ⟨gb447, 1, none⟩ (.int .i64 t443)).setCell ⟨gb447, 2, none⟩ (.int .i64 t444)).heap[gb429]? = some (.cells #[.int .i64 0, .int .i64 0, .int .i64 0] 47 (0, 0))) := ⟨bk_ BK429⟩
 have n3_ : Aside0 ((((w19.setCell ⟨gb447, 0, none⟩ (.int .i64 t442)).setCell ⟨gb447, 1, none⟩ (.int .i64 t443)).setCell ⟨gb447, 2, none⟩ (.int .i64 t444)).heap[gb430]? = some (.cells #[.int .i64 0, .slice none 0 0] 49 (0, 0))) := ⟨bk_ BK430⟩
 have n4_ : Aside0 ((((w19.setCell ⟨gb447, 0, none⟩ (.int .i64 t442)).setCell ⟨gb447, 1, none⟩ (.int .i64 t443)).setCell ⟨gb447, 2, none⟩ (.int .i64 t444)).heap[gb441]? = some (.cells #[.slice Ao12 t435.length co12, .int .i64 t438] 44 (0, 0))) := ⟨bk_ BK441⟩
 have n5_ : Aside0 ((((w19.setCell ⟨gb447, 0, none⟩ (.int .i64 t442)).setCell ⟨gb447, 1, none⟩ (.int .i64 t443)).setCell ⟨gb447, 2, none⟩ (.int .i64 t444)).heap[gb447]? = some (.cells #[.int .i64 t442, .int .i64 t443, .int .i64 t444] 47 (0, 0))) := ⟨bp_ BK447⟩
 have n6_ : Aside0 (IsS147 w (((w19.setCell ⟨gb447, 0, none⟩ (.int .i64 t442)).setCell ⟨gb447, 1, none⟩ (.int .i64 t443)).setCell ⟨gb447, 2, none⟩ (.int .i64 t444)) g434 t431 t445 t446) := ⟨by repeat (first | (with_reducible first | exact HI434.out | apply IsS147.alloc | apply IsS147.drewN | apply IsS147.drew | apply IsS147.set_1 | apply IsS147.set_2 | refine IsS147.far ?_ NB434_428.out _ | refine IsS147.far ?_ NB434_429.out _ | refine IsS147.far ?_ NB434_430.out _ | refine IsS147.far ?_ NB434_441.out _ | refine IsS147.far ?_ NB434_447.out _) | exact HI434.out)⟩
 have n7_ : Aside0 (Below w.heap.size w (((w19.setCell ⟨gb447, 0, none⟩ (.int .i64 t442)).setCell ⟨gb447, 1, none⟩ (.int .i64 t443)).setCell ⟨gb447, 2, none⟩ (.int .i64 t444))) := ⟨by repeat (first | (with_reducible first | exact HB.out | apply below_alloc | apply pw_below_drewN | apply below_drew1 | refine below_set ?_ (IsS147.ge HI434.out) | refine below_set ?_ GW428.out | refine below_set ?_ GW429.out | refine below_set ?_ GW430.out | refine below_set ?_ GE441.out | refine below_set ?_ GE447.out) | exact HB.out)⟩
 (try clear HO437)
 (try clear BK428)
 (try clear BK429)
 (try clear BK430)
 (try clear BK441)
 (try clear BK447)
 (try clear HI434)
 (try clear HB)
 generalize (((w19.setCell ⟨gb447, 0, none⟩ (.int .i64 t442)).setCell ⟨gb447, 1, none⟩ (.int .i64 t443)).setCell ⟨gb447, 2, none⟩ (.int .i64 t444)) = w26 at n0_ n1_ n2_ n3_ n4_ n5_ n6_ n7_ ⊢
 have HO437 := n0_
 have BK428 := n1_
 have BK429 := n2_
 have BK430 := n3_
 have BK441 := n4_
 have BK447 := n5_
 have HI434 := n6_
 have HB := n7_
 clear n0_ n1_ n2_ n3_ n4_ n5_ n6_ n7_
 replace HO437 := A_ (Kd.R_drew HO437.out)
 replace BK428 := A_ (blk_drew BK428.out)
 replace BK429 := A_ (blk_drew BK429.out)
 replace BK430 := A_ (blk_drew BK430.out)
 replace BK441 := A_ (blk_drew BK441.out)
 replace BK447 := A_ (blk_drew BK447.out)
 replace HI434 := A_ (IsS147.drew HI434.out)
 replace HB := A_ (below_drew1 HB.out)
 refine start_ (n := 9) (S := fun w' => w'.cell? ⟨gb441, 0, none⟩ = some (.slice Ao12 t435.length co12) ∧ w'.cell? ⟨gb441, 1, none⟩ = some (.int .i64 t438) ∧ w'.cell? ⟨gb447, 0, none⟩ = some (.int .i64 t442) ∧ w'.cell? ⟨gb447, 1, none⟩ = some (.int .i64 t443) ∧ w'.cell? ⟨gb447, 2, none⟩ = some (.int .i64 t444)) (ds := []) (bt_ 0 9) (by kernel_rfl) rfl rfl ⟨(blk_cell BK441.out 0).trans rfl, (blk_cell BK441.out 1).trans rfl, (blk_cell BK447.out 0).trans rfl, (blk_cell BK447.out 1).trans rfl, (blk_cell BK447.out 2).trans rfl⟩ (fun hHeld => ?_); refine with_tabW spec_DrawAllowed.tab4 spec_DrawAllowed.bits4 (fun HT_ HW_ => ?_)
 generalize w26.drew = w27 at HO437 BK428 BK429 BK430 BK441 BK447 HI434 HB hHeld ⊢
 refine pu_ 2 16 (bt_ 4 9) ?_
 refine tk5_ 0 14 (bt_ 5 9) hHeld ?_
 refine tk5_ 1 15 (bt_ 7 9) hHeld ?_
 refine tk5_ 3 17 (bt_ 15 9) hHeld ?_
 refine tk5_ 4 18 (bt_ 31 9) hHeld ?_
 refine one_ (i := 5) (N := some 19) (bt_ 63 9) rfl rfl (one_of HT_.out (by kernel_rfl)) (by decide) (fun K hK => ?_)
 refine goes_ Try.func73 (by kernel_rfl) rfl #[.pointer (some ⟨g434, 0, none⟩), .agg #[.slice Ao12 t435.length co12, .int .i64 t438], .agg #[.int .i64 t442, .int .i64 t443, .int .i64 t444]] (by rfl) rfl rfl al_ ?_
 with_reducible refine (spec_l4DrawRes.calls k g434 t431 t445 t446 _ _ t435 t438 t442 t443 t444 t448 t449 t452 t453 w _ ?side1 ?side2 ?side3 ?side4 ?side5 A5.out).mono ?_
 (case side1 => repeat (first | (with_reducible first | exact HI434.out | apply IsS147.alloc | apply IsS147.drewN | apply IsS147.drew | apply IsS147.set_1 | apply IsS147.set_2 | refine IsS147.far ?_ NB434_428.out _ | refine IsS147.far ?_ NB434_429.out _ | refine IsS147.far ?_ NB434_430.out _ | refine IsS147.far ?_ NB434_441.out _ | refine IsS147.far ?_ NB434_447.out _) | exact HI434.out))
 (case side2 => repeat (first | (with_reducible first | exact HB.out | apply below_alloc | apply pw_below_drewN | apply below_drew1 | refine below_set ?_ (IsS147.ge HI434.out) | refine below_set ?_ GW428.out | refine below_set ?_ GW429.out | refine below_set ?_ GW430.out | refine below_set ?_ GE441.out | refine below_set ?_ GE447.out) | exact HB.out))
 (case side3 => repeat (first | exact (Kd.R_reads' HO437.out).2.2 | (with_reducible refine Kd.C_alloc ?_ _) | (with_reducible refine Kd.C_drewN ?_ _) | (with_reducible refine Kd.C_drew ?_)))
 (case side4 => exact (Kd.R_reads' HO437.out).2.1)
 (case side5 => exact far_slice (IsS147.own_ne HI434.out HO437.out (by decide)))
 rintro e w28 ⟨v450, rfl, ho0, hi, hb, hk⟩
 refine ⟨_, rfl, ?_⟩
 have HO451 := A_ (Kd.R_lower (Kd.R_new' ho0 (Kd.R_lt (rb_ HO437.out))) (below_size (by repeat (first | (with_reducible first | exact HB.out | apply below_alloc | apply pw_below_drewN | apply below_drew1 | refine below_set ?_ (IsS147.ge HI434.out) | refine below_set ?_ GW428.out | refine below_set ?_ GW429.out | refine below_set ?_ GW430.out | refine below_set ?_ GE441.out | refine below_set ?_ GE447.out) | exact HB.out))))
 replace BK428 := A_ (KeepBut.blk hk (g' := gb428) (o := .cells #[.slice none 0 0, .int .i64 0] 44 (0, 0)) (bk_ BK428) NB428_434.out (by simp))
 replace BK429 := A_ (KeepBut.blk hk (g' := gb429) (o := .cells #[.int .i64 0, .int .i64 0, .int .i64 0] 47 (0, 0)) (bk_ BK429) NB429_434.out (by simp))
 replace BK430 := A_ (KeepBut.blk hk (g' := gb430) (o := .cells #[.int .i64 0, .slice none 0 0] 49 (0, 0)) (bk_ BK430) NB430_434.out (by simp))
 replace HO437 := A_ (Kd.R_mono (Kd.R_told (Kd.R_oldK (IsS147.apart (show IsS147 w _ g434 t431 t445 t446 from by repeat (first | (with_reducible first | exact HI434.out | apply IsS147.alloc | apply IsS147.drewN | apply IsS147.drew | apply IsS147.set_1 | apply IsS147.set_2 | refine IsS147.far ?_ NB434_428.out _ | refine IsS147.far ?_ NB434_429.out _ | refine IsS147.far ?_ NB434_430.out _ | refine IsS147.far ?_ NB434_441.out _ | refine IsS147.far ?_ NB434_447.out _) | exact HI434.out)) (rb_ HO437.out) (by decide)) hk) (Kd.R_base ho0)) (fun _ h_ => h_.1))
 replace BK441 := A_ (KeepBut.blk hk (g' := gb441) (o := .cells #[.slice Ao12 t435.length co12, .int .i64 t438] 44 (0, 0)) (bk_ BK441) NB441_434.out (by simp))
 replace BK447 := A_ (KeepBut.blk hk (g' := gb447) (o := .cells #[.int .i64 t442, .int .i64 t443, .int .i64 t444] 47 (0, 0)) (bk_ BK447) NB447_434.out (by simp))
 replace HI434 := A_ hi
 replace HB := A_ hb
 (try clear hb)
 (try clear hb2)
 (try clear hk)
 (try clear hi)
 (try clear ho0)
 obtain ⟨Ao35, co35, eo35⟩ := Kd.R_slice HO451.out
 (first | subst eo35 | (injection eo35 with f1_ f2_ f3_; have f4_ := f1_.symm; have f5_ := f3_.symm; clear f1_ f2_ f3_; subst f4_; subst f5_))
 refine hK.out _ _ ⟨(blk_cell BK441.out 0).trans rfl, (blk_cell BK441.out 1).trans rfl, (blk_cell BK447.out 0).trans rfl, (blk_cell BK447.out 1).trans rfl, (blk_cell BK447.out 2).trans rfl⟩ (fun hHeld => ?_)
 clear hK K
 refine norm_ (a' := ?_) ?_ ?_
 rotate_left
 ·
  show Act.put _ (some 19) _ = _
  simp only [Act.put, List.setIfInBounds_toArray, List.set_cons_zero, List.set_cons_succ, i64_w, i32_w]
  rfl
 refine one_ (i := 6) (N := none) (bt_ 127 9) rfl rfl (one_of HT_.out (by kernel_rfl)) (by decide) (fun K hK => ?_)
 have hs29 : w28.cell? ⟨gb428, 0, none⟩ = some (.slice none 0 0) := (blk_cell BK428.out 0).trans rfl
 have hfs29 := blk_frozen BK428.out 0
 have hns29_1 := NB429_428.out
 have hns29_2 := NB430_428.out
 have hns29_3 := NB441_428.out
 have hns29_4 := NB447_428.out
 have hms29_1 := NB428_429.out
 have hms29_2 := NB428_430.out
 have hms29_3 := NB428_441.out
 have hms29_4 := NB428_447.out
 have hs30 : w28.cell? ⟨gb428, 1, none⟩ = some (.int .i64 0) := (blk_cell BK428.out 1).trans rfl
 have hfs30 := blk_frozen BK428.out 1
 have hns30_1 := NB429_428.out
 have hns30_2 := NB430_428.out
 have hns30_3 := NB441_428.out
 have hns30_4 := NB447_428.out
 have hms30_1 := NB428_429.out
 have hms30_2 := NB428_430.out
 have hms30_3 := NB428_441.out
 have hms30_4 := NB428_447.out
 refine skip_ (w1 := ?_) (by rfl) rfl ?_ ?_
 rotate_left
 ·
  go_simp
  rfl
 refine hK.out _ _ ⟨((cell_far (p := ⟨gb428, _, none⟩) NB441_428.out _).trans (((cell_far (p := ⟨gb428, _, none⟩) NB441_428.out _).trans (hHeld.1)))), ((cell_far (p := ⟨gb428, _, none⟩) NB441_428.out _).trans (((cell_far (p := ⟨gb428, _, none⟩) NB441_428.out _).trans (hHeld.2.1)))), ((cell_far (p := ⟨gb428, _, none⟩) NB447_428.out _).trans (((cell_far (p := ⟨gb428, _, none⟩) NB447_428.out _).trans (hHeld.2.2.1)))), ((cell_far (p := ⟨gb428, _, none⟩) NB447_428.out _).trans (((cell_far (p := ⟨gb428, _, none⟩) NB447_428.out _).trans (hHeld.2.2.2.1)))), ((cell_far (p := ⟨gb428, _, none⟩) NB447_428.out _).trans (((cell_far (p := ⟨gb428, _, none⟩) NB447_428.out _).trans (hHeld.2.2.2.2))))⟩ (fun hHeld => ?_)
 clear hK K
 refine one_ (i := 7) (N := none) (bt_ 255 9) rfl rfl (one_of HT_.out (by kernel_rfl)) (by decide) (fun K hK => ?_)
 have hs31 : w28.cell? ⟨gb429, 0, none⟩ = some (.int .i64 0) := (blk_cell BK429.out 0).trans rfl
 have hfs31 := blk_frozen BK429.out 0
 have hns31_0 := NB428_429.out
 have hns31_2 := NB430_429.out
 have hns31_3 := NB441_429.out
 have hns31_4 := NB447_429.out
 have hms31_0 := NB429_428.out
 have hms31_2 := NB429_430.out
 have hms31_3 := NB429_441.out
 have hms31_4 := NB429_447.out
 have hs32 : w28.cell? ⟨gb429, 1, none⟩ = some (.int .i64 0) := (blk_cell BK429.out 1).trans rfl
 have hfs32 := blk_frozen BK429.out 1
 have hns32_0 := NB428_429.out
 have hns32_2 := NB430_429.out
 have hns32_3 := NB441_429.out
 have hns32_4 := NB447_429.out
 have hms32_0 := NB429_428.out
 have hms32_2 := NB429_430.out
 have hms32_3 := NB429_441.out
 have hms32_4 := NB429_447.out
 have hs33 : w28.cell? ⟨gb429, 2, none⟩ = some (.int .i64 0) := (blk_cell BK429.out 2).trans rfl
 have hfs33 := blk_frozen BK429.out 2
 have hns33_0 := NB428_429.out
 have hns33_2 := NB430_429.out
 have hns33_3 := NB441_429.out
 have hns33_4 := NB447_429.out
 have hms33_0 := NB429_428.out
 have hms33_2 := NB429_430.out
 have hms33_3 := NB429_441.out
 have hms33_4 := NB429_447.out
 refine skip_ (w1 := ?_) (by rfl) rfl ?_ ?_
 rotate_left
 ·
  go_simp
  rfl
 refine hK.out _ _ ⟨((cell_far (p := ⟨gb429, _, none⟩) NB441_429.out _).trans (((cell_far (p := ⟨gb429, _, none⟩) NB441_429.out _).trans (((cell_far (p := ⟨gb429, _, none⟩) NB441_429.out _).trans (hHeld.1)))))), ((cell_far (p := ⟨gb429, _, none⟩) NB441_429.out _).trans (((cell_far (p := ⟨gb429, _, none⟩) NB441_429.out _).trans (((cell_far (p := ⟨gb429, _, none⟩) NB441_429.out _).trans (hHeld.2.1)))))), ((cell_far (p := ⟨gb429, _, none⟩) NB447_429.out _).trans (((cell_far (p := ⟨gb429, _, none⟩) NB447_429.out _).trans (((cell_far (p := ⟨gb429, _, none⟩) NB447_429.out _).trans (hHeld.2.2.1)))))), ((cell_far (p := ⟨gb429, _, none⟩) NB447_429.out _).trans (((cell_far (p := ⟨gb429, _, none⟩) NB447_429.out _).trans (((cell_far (p := ⟨gb429, _, none⟩) NB447_429.out _).trans (hHeld.2.2.2.1)))))), ((cell_far (p := ⟨gb429, _, none⟩) NB447_429.out _).trans (((cell_far (p := ⟨gb429, _, none⟩) NB447_429.out _).trans (((cell_far (p := ⟨gb429, _, none⟩) NB447_429.out _).trans (hHeld.2.2.2.2))))))⟩ (fun hHeld => ?_)
 clear hK K
 refine one_ (i := 8) (N := none) (bt_ 511 9) rfl rfl (one_of HT_.out (by kernel_rfl)) (by decide) (fun K hK => ?_)
 have hs34 : w28.cell? ⟨gb430, 0, none⟩ = some (.int .i64 0) := (blk_cell BK430.out 0).trans rfl
 have hfs34 := blk_frozen BK430.out 0
 have hns34_0 := NB428_430.out
 have hns34_1 := NB429_430.out
 have hns34_3 := NB441_430.out
 have hns34_4 := NB447_430.out
 have hms34_0 := NB430_428.out
 have hms34_1 := NB430_429.out
 have hms34_3 := NB430_441.out
 have hms34_4 := NB430_447.out
 have hs36 : w28.cell? ⟨gb430, 1, none⟩ = some (.slice none 0 0) := (blk_cell BK430.out 1).trans rfl
 have hfs36 := blk_frozen BK430.out 1
 have hns36_0 := NB428_430.out
 have hns36_1 := NB429_430.out
 have hns36_3 := NB441_430.out
 have hns36_4 := NB447_430.out
 have hms36_0 := NB430_428.out
 have hms36_1 := NB430_429.out
 have hms36_3 := NB430_441.out
 have hms36_4 := NB430_447.out
 refine skip_ (w1 := ?_) (by rfl) rfl ?_ ?_
 rotate_left
 ·
  go_simp
  rfl
 refine hK.out _ _ ⟨((cell_far (p := ⟨gb430, _, none⟩) NB441_430.out _).trans (((cell_far (p := ⟨gb430, _, none⟩) NB441_430.out _).trans (hHeld.1)))), ((cell_far (p := ⟨gb430, _, none⟩) NB441_430.out _).trans (((cell_far (p := ⟨gb430, _, none⟩) NB441_430.out _).trans (hHeld.2.1)))), ((cell_far (p := ⟨gb430, _, none⟩) NB447_430.out _).trans (((cell_far (p := ⟨gb430, _, none⟩) NB447_430.out _).trans (hHeld.2.2.1)))), ((cell_far (p := ⟨gb430, _, none⟩) NB447_430.out _).trans (((cell_far (p := ⟨gb430, _, none⟩) NB447_430.out _).trans (hHeld.2.2.2.1)))), ((cell_far (p := ⟨gb430, _, none⟩) NB447_430.out _).trans (((cell_far (p := ⟨gb430, _, none⟩) NB447_430.out _).trans (hHeld.2.2.2.2))))⟩ (fun hHeld => ?_)
 clear hK K
 refine done_ (done_of HT_.out (by kernel_rfl)) ?_
 try go_wp2
 refine bodyPost_ret (results_list (rs := [.cell 2 44, .cell 3 47, .cell 4 49]) rfl (by simp) (.cell gb428 44 #[.slice Ao12 t435.length co12, .int .i64 t438] (0, 0) _ rfl (bp_ BK428) Try.underlying44 rfl (by kernel_rfl) (.cell gb429 47 #[.int .i64 t442, .int .i64 t443, .int .i64 t444] (0, 0) _ rfl (bp_ BK429) Try.underlying47 rfl (by kernel_rfl) (.cell gb430 49 #[.int .i64 t448, .slice Ao35 t449.length co35] (0, 0) _ rfl (bp_ BK430) Try.underlying49 rfl (by kernel_rfl) .nil)))) rfl ?_
 exact ⟨_, _, rs_, by (with_reducible repeat (first | apply Kd.R_alloc | apply Kd.R_drewN | apply Kd.R_drew)); exact Kd.R_mono (Kd.R_far (p := ⟨gb430, 1, none⟩) (Kd.R_far (p := ⟨gb430, 0, none⟩) (Kd.R_far (p := ⟨gb429, 2, none⟩) (Kd.R_far (p := ⟨gb429, 1, none⟩) (Kd.R_far (p := ⟨gb429, 0, none⟩) (Kd.R_far (p := ⟨gb428, 1, none⟩) (Kd.R_far (p := ⟨gb428, 0, none⟩) (Kd.R_types (Kd.R_types (Kd.R_types HO437.out BK428.out (by decide)) BK429.out (by decide)) BK430.out (by decide)) (fun _ hk => hk.1.1.2) (.slice Ao12 t435.length co12)) (fun _ hk => hk.1.1.2) (.int .i64 t438)) (fun _ hk => hk.1.2) (.int .i64 t442)) (fun _ hk => hk.1.2) (.int .i64 t443)) (fun _ hk => hk.1.2) (.int .i64 t444)) (fun _ hk => hk.2) (.int .i64 t448)) (fun _ hk => hk.2) (.slice Ao35 t449.length co35)) (fun _ hk => hk.1.1.1.2), by (with_reducible repeat (first | apply Kd.R_alloc | apply Kd.R_drewN | apply Kd.R_drew)); exact Kd.R_mono (Kd.R_far (p := ⟨gb430, 1, none⟩) (Kd.R_far (p := ⟨gb430, 0, none⟩) (Kd.R_far (p := ⟨gb429, 2, none⟩) (Kd.R_far (p := ⟨gb429, 1, none⟩) (Kd.R_far (p := ⟨gb429, 0, none⟩) (Kd.R_far (p := ⟨gb428, 1, none⟩) (Kd.R_far (p := ⟨gb428, 0, none⟩) (Kd.R_types (Kd.R_types (Kd.R_types HO451.out BK428.out (by decide)) BK429.out (by decide)) BK430.out (by decide)) (fun _ hk => hk.1.1.2) (.slice Ao12 t435.length co12)) (fun _ hk => hk.1.1.2) (.int .i64 t438)) (fun _ hk => hk.1.2) (.int .i64 t442)) (fun _ hk => hk.1.2) (.int .i64 t443)) (fun _ hk => hk.1.2) (.int .i64 t444)) (fun _ hk => hk.2) (.int .i64 t448)) (fun _ hk => hk.2) (.slice Ao35 t449.length co35)) (fun _ hk => hk.1.1.1.2), by repeat (first | (with_reducible first | exact HB.out | apply below_alloc | apply pw_below_drewN | apply below_drew1 | refine below_set ?_ (IsS147.ge HI434.out) | refine below_set ?_ GW428.out | refine below_set ?_ GW429.out | refine below_set ?_ GW430.out | refine below_set ?_ GE441.out | refine below_set ?_ GE447.out) | exact HB.out)⟩

end Go.Proofs.Ytmkhghbalnadlaa.PFnAllowed
