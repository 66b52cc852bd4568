/- Contracts of functions of the program: each says that the call does what a plain Lean function tells. Made by programs of this session and of the kit. No condition beyond the hypotheses that each theorem names. -/
import Derived.Test.YtblpbhhomocfbaaPFnExactPushx7
namespace Go.Proofs.Ytblpbhhomocfbaa.PFnExactPush
open Go.RowKit Go.Proofs.YtblpbhhomocfbaaW.PrintWords Go.Proofs.YtblpbhhomocfbaaW.PrintLast Go.Proofs.YtblpbhhomocfbaaW.PrintMore
attribute [local go_sem] max2_int min2_int max_two min_two max_three min_three max_four min_four   -- for this text's walks alone
set_option linter.unusedVariables false
set_option linter.unusedSimpArgs false

/-! ### laws_FnExactPush: function 8 -/
def laws_FnExactPush.j0 : Nat → Bool → List (S80) → Int → Bool → List (S169) → List (S65) → Int → Int → Int → Int → List (S88) → Int → Bool → List (S136) → List (S67) → List (S88) → Int → Bool → List (S136) → List (S67) → Option (Bool)
 | 0, _, _, _, _, _, _, _, _, _, _, _, _, _, _, _, _, _, _, _, _ => none
 | k + 1, x48, x293000, x293001, x293002, x293003, x293004, x294000, x294001, x294002, x294003, x322000, x322001, x322002, x322003, x322004, x350000, x350001, x350002, x350003, x350004 => if x48 = true then (none) else ((laws_markThread.f k x350000 x350001 x350002 x350003 x350004 1).bind fun bt368 => ((laws_heldThread.f k bt368.2.1 x350001 x350002 bt368.2.2.1 bt368.2.2.2 1).bind fun t372 => (if t372 < 0 then (none) else (if t372 = bt368.1 then ((laws_toThread.f k x293000 x293001 x293002 x293003 x293004).bind fun bt373 => ((laws_toHelp.f x294000 x294001 x294002 x294003).bind fun bt384 => ((impl_Push.f bt373.1 bt373.2.1 bt373.2.2.1 bt373.2.2.2.1 bt373.2.2.2.2 bt384.1 bt384.2.1 bt384.2.2.1 bt384.2.2.2).bind fun bt388 => ((laws_eqThread.f k bt388.1 bt388.2.1 bt388.2.2.1 bt388.2.2.2.1 bt388.2.2.2.2 x322000 x322001 x322002 x322003 x322004).bind fun t400 => (if t400 = true then ((laws_heldThread.f k bt368.2.1 x350001 x350002 bt368.2.2.1 bt368.2.2.2 1).bind fun t401 => (if t401 < 0 then (none) else (if t401 = bt368.1 then (some true) else (none)))) else (none)))))) else (none)))))
def laws_FnExactPush.f (k : Nat) (l0_0 : List (S80)) (a0_1 : Int) (a0_2 : Bool) (l0_3 : List (S169)) (l0_4 : List (S65)) (a1_0 : Int) (a1_1 : Int) (a1_2 : Int) (a1_3 : Int) : Option (Bool) := (laws_szThread.f l0_0 a0_1 a0_2 l0_3 l0_4 1048576).bind fun t294 => (if t294 < 0 then (some true) else ((laws_toThread.f k l0_0 a0_1 a0_2 l0_3 l0_4).bind fun bt295 => ((laws_toHelp.f a1_0 a1_1 a1_2 a1_3).bind fun bt306 => ((spec_Push.f bt295.1 bt295.2.1 bt295.2.2.1 bt295.2.2.2.1 bt295.2.2.2.2 bt306.1 bt306.2.1 bt306.2.2.1 bt306.2.2.2).bind fun bt310 => ((laws_toThread.f k l0_0 a0_1 a0_2 l0_3 l0_4).bind fun bt322 => ((laws_toHelp.f a1_0 a1_1 a1_2 a1_3).bind fun bt334 => ((impl_Push.f bt322.1 bt322.2.1 bt322.2.2.1 bt322.2.2.2.1 bt322.2.2.2.2 bt334.1 bt334.2.1 bt334.2.2.1 bt334.2.2.2).bind fun bt338 => ((laws_eqThread.f k bt338.1 bt338.2.1 bt338.2.2.1 bt338.2.2.2.1 bt338.2.2.2.2 bt310.1 bt310.2.1 bt310.2.2.1 bt310.2.2.2.1 bt310.2.2.2.2).bind fun t350 => (if t350 = true then ((laws_toThread.f k l0_0 a0_1 a0_2 l0_3 l0_4).bind fun bt351 => ((laws_eqThread.f k bt322.1 bt322.2.1 bt322.2.2.1 bt322.2.2.2.1 bt322.2.2.2.2 bt351.1 bt351.2.1 bt351.2.2.1 bt351.2.2.2.1 bt351.2.2.2.2).bind fun t362 => (if t362 = true then ((laws_markThread.f k bt322.1 bt322.2.1 bt322.2.2.1 bt322.2.2.2.1 bt322.2.2.2.2 1).bind fun bt363 => (if bt363.1 < 0 then (laws_FnExactPush.j0 k true l0_0 a0_1 a0_2 l0_3 l0_4 a1_0 a1_1 a1_2 a1_3 bt310.1 bt310.2.1 bt310.2.2.1 bt310.2.2.2.1 bt310.2.2.2.2 bt338.1 bt338.2.1 bt338.2.2.1 bt338.2.2.2.1 bt338.2.2.2.2) else ((laws_eqThread.f k bt338.1 bt338.2.1 bt338.2.2.1 bt338.2.2.2.1 bt338.2.2.2.2 bt310.1 bt310.2.1 bt310.2.2.1 bt310.2.2.2.1 bt310.2.2.2.2).bind fun t367 => (laws_FnExactPush.j0 k (!t367) l0_0 a0_1 a0_2 l0_3 l0_4 a1_0 a1_1 a1_2 a1_3 bt310.1 bt310.2.1 bt310.2.2.1 bt310.2.2.2.1 bt310.2.2.2.2 bt338.1 bt338.2.1 bt338.2.2.1 bt338.2.2.2.1 bt338.2.2.2.2)))) else (none)))) else (none))))))))))
theorem laws_FnExactPush.mono_l : ∀ k, (∀ y0 y1 y2 y3 y4 y5 y6 y7 y8 y9 y10 y11 y12 y13 y14 y15 y16 y17 y18 y19, LeO (laws_FnExactPush.j0 k y0 y1 y2 y3 y4 y5 y6 y7 y8 y9 y10 y11 y12 y13 y14 y15 y16 y17 y18 y19) (laws_FnExactPush.j0 (k + 1) y0 y1 y2 y3 y4 y5 y6 y7 y8 y9 y10 y11 y12 y13 y14 y15 y16 y17 y18 y19))
 | 0 => fun _ _ _ _ _ _ _ _ _ _ _ _ _ _ _ _ _ _ _ _ r h => by simp [laws_FnExactPush.j0] at h
 | k + 1 => by
  have ih0 := laws_FnExactPush.mono_l k
  ·
   intro y0 y1 y2 y3 y4 y5 y6 y7 y8 y9 y10 y11 y12 y13 y14 y15 y16 y17 y18 y19
   unfold laws_FnExactPush.j0
   repeat' first
   | (with_reducible exact ih0 _ _ _ _ _ _ _ _ _ _ _ _ _ _ _ _ _ _ _ _)
   | (with_reducible exact laws_eqThread.mono _ _ _ _ _ _ _ _ _ _ _)
   | (with_reducible exact laws_heldThread.mono _ _ _ _ _ _ _)
   | (with_reducible exact laws_markThread.mono _ _ _ _ _ _ _)
   | (with_reducible exact laws_toThread.mono _ _ _ _ _ _)
   | (with_reducible exact LeO.refl _)
   | (with_reducible exact LeO.none _)
   | (with_reducible refine LeO.ite ?_ ?_)
   | (with_reducible refine LeO.bind ?_ (fun _ => ?_))
   | exact ih0 _ _ _ _ _ _ _ _ _ _ _ _ _ _ _ _ _ _ _ _
   | exact laws_eqThread.mono _ _ _ _ _ _ _ _ _ _ _
   | exact laws_heldThread.mono _ _ _ _ _ _ _
   | exact laws_markThread.mono _ _ _ _ _ _ _
   | exact laws_toThread.mono _ _ _ _ _ _
   | exact LeO.none _
   | refine LeO.ite ?_ ?_
   | refine LeO.bind ?_ (fun _ => ?_)
theorem laws_FnExactPush.mono : ∀ a0 a1 a2 a3 a4 a5 a6 a7 a8 k, LeO (laws_FnExactPush.f k a0 a1 a2 a3 a4 a5 a6 a7 a8) (laws_FnExactPush.f (k + 1) a0 a1 a2 a3 a4 a5 a6 a7 a8) := by
 intro a0 a1 a2 a3 a4 a5 a6 a7 a8 k
 have ih0 := laws_FnExactPush.mono_l k
 unfold laws_FnExactPush.f
 repeat' first
   | (with_reducible exact ih0 _ _ _ _ _ _ _ _ _ _ _ _ _ _ _ _ _ _ _ _)
   | (with_reducible exact laws_eqThread.mono _ _ _ _ _ _ _ _ _ _ _)
   | (with_reducible exact laws_heldThread.mono _ _ _ _ _ _ _)
   | (with_reducible exact laws_markThread.mono _ _ _ _ _ _ _)
   | (with_reducible exact laws_toThread.mono _ _ _ _ _ _)
   | (with_reducible exact LeO.refl _)
   | (with_reducible exact LeO.none _)
   | (with_reducible refine LeO.ite ?_ ?_)
   | (with_reducible refine LeO.bind ?_ (fun _ => ?_))
   | exact ih0 _ _ _ _ _ _ _ _ _ _ _ _ _ _ _ _ _ _ _ _
   | exact laws_eqThread.mono _ _ _ _ _ _ _ _ _ _ _
   | exact laws_heldThread.mono _ _ _ _ _ _ _
   | exact laws_markThread.mono _ _ _ _ _ _ _
   | exact laws_toThread.mono _ _ _ _ _ _
   | exact LeO.none _
   | refine LeO.ite ?_ ?_
   | refine LeO.bind ?_ (fun _ => ?_)
set_option maxHeartbeats 8000000 in
set_option maxRecDepth 100000 in
theorem laws_FnExactPush.calls (k : Nat) (A0_0 : Option Addr) (c0_0 : Nat) (l0_0 : List (S80)) (a0_1 : Int) (a0_2 : Bool) (A0_3 : Option Addr) (c0_3 : Nat) (l0_3 : List (S169)) (A0_4 : Option Addr) (c0_4 : Nat) (l0_4 : List (S65)) (a1_0 : Int) (a1_1 : Int) (a1_2 : Int) (a1_3 : Int) (r : Bool) (w : World) (hr0_0 : Kd.C k80 w A0_0 l0_0.length l0_0) (hc0_0 : l0_0.length ≤ c0_0) (hr0_3 : Kd.C k169 w A0_3 l0_3.length l0_3) (hc0_3 : l0_3.length ≤ c0_3) (hr0_4 : Kd.C k65 w A0_4 l0_4.length l0_4) (hc0_4 : l0_4.length ≤ c0_4) (h : laws_FnExactPush.f k l0_0 a0_1 a0_2 l0_3 l0_4 a1_0 a1_1 a1_2 a1_3 = some r) :
    Calls Try.prog 8 #[.agg #[.slice A0_0 l0_0.length c0_0, .int .i64 a0_1, .bool a0_2, .slice A0_3 l0_3.length c0_3, .slice A0_4 l0_4.length c0_4], .agg #[.int .i64 a1_0, .int .i64 a1_1, .int .i64 a1_2, .int .i64 a1_3]] w fun e w' => e = .returned (.bool r) ∧ Below w.heap.size w w' := by
 have hu59 := Try.underlying59
 have hu65 := Try.underlying65
 have hu36 := Try.underlying36
 have HR0_0 := Aside0.mk hr0_0
 have HC0_0 := Aside0.mk hc0_0
 clear hr0_0 hc0_0
 have HR0_3 := Aside0.mk hr0_3
 have HC0_3 := Aside0.mk hc0_3
 clear hr0_3 hc0_3
 have HR0_4 := Aside0.mk hr0_4
 have HC0_4 := Aside0.mk hc0_4
 clear hr0_4 hc0_4
 have HB := Aside0.mk (Below.refl w.heap.size w)
 have H : ((laws_szThread.f l0_0 a0_1 a0_2 l0_3 l0_4 1048576).bind fun t294 => (if t294 < 0 then (some true) else ((laws_toThread.f k l0_0 a0_1 a0_2 l0_3 l0_4).bind fun bt295 => ((laws_toHelp.f a1_0 a1_1 a1_2 a1_3).bind fun bt306 => ((spec_Push.f bt295.1 bt295.2.1 bt295.2.2.1 bt295.2.2.2.1 bt295.2.2.2.2 bt306.1 bt306.2.1 bt306.2.2.1 bt306.2.2.2).bind fun bt310 => ((laws_toThread.f k l0_0 a0_1 a0_2 l0_3 l0_4).bind fun bt322 => ((laws_toHelp.f a1_0 a1_1 a1_2 a1_3).bind fun bt334 => ((impl_Push.f bt322.1 bt322.2.1 bt322.2.2.1 bt322.2.2.2.1 bt322.2.2.2.2 bt334.1 bt334.2.1 bt334.2.2.1 bt334.2.2.2).bind fun bt338 => ((laws_eqThread.f k bt338.1 bt338.2.1 bt338.2.2.1 bt338.2.2.2.1 bt338.2.2.2.2 bt310.1 bt310.2.1 bt310.2.2.1 bt310.2.2.2.1 bt310.2.2.2.2).bind fun t350 => (if t350 = true then ((laws_toThread.f k l0_0 a0_1 a0_2 l0_3 l0_4).bind fun bt351 => ((laws_eqThread.f k bt322.1 bt322.2.1 bt322.2.2.1 bt322.2.2.2.1 bt322.2.2.2.2 bt351.1 bt351.2.1 bt351.2.2.1 bt351.2.2.2.1 bt351.2.2.2.2).bind fun t362 => (if t362 = true then ((laws_markThread.f k bt322.1 bt322.2.1 bt322.2.2.1 bt322.2.2.2.1 bt322.2.2.2.2 1).bind fun bt363 => (if bt363.1 < 0 then (laws_FnExactPush.j0 k true l0_0 a0_1 a0_2 l0_3 l0_4 a1_0 a1_1 a1_2 a1_3 bt310.1 bt310.2.1 bt310.2.2.1 bt310.2.2.2.1 bt310.2.2.2.2 bt338.1 bt338.2.1 bt338.2.2.1 bt338.2.2.2.1 bt338.2.2.2.2) else ((laws_eqThread.f k bt338.1 bt338.2.1 bt338.2.2.1 bt338.2.2.2.1 bt338.2.2.2.2 bt310.1 bt310.2.1 bt310.2.2.1 bt310.2.2.2.1 bt310.2.2.2.2).bind fun t367 => (laws_FnExactPush.j0 k (!t367) l0_0 a0_1 a0_2 l0_3 l0_4 a1_0 a1_1 a1_2 a1_3 bt310.1 bt310.2.1 bt310.2.2.1 bt310.2.2.2.1 bt310.2.2.2.2 bt338.1 bt338.2.1 bt338.2.2.1 bt338.2.2.2.1 bt338.2.2.2.2)))) else (none)))) else (none))))))))))) = some r := h
 clear h
 replace H := Option.bind_eq_some_iff.mp H
 obtain ⟨t294, A30, H⟩ := H
 replace H : (if t294 < 0 then (some true) else ((laws_toThread.f k l0_0 a0_1 a0_2 l0_3 l0_4).bind fun bt295 => ((laws_toHelp.f a1_0 a1_1 a1_2 a1_3).bind fun bt306 => ((spec_Push.f bt295.1 bt295.2.1 bt295.2.2.1 bt295.2.2.2.1 bt295.2.2.2.2 bt306.1 bt306.2.1 bt306.2.2.1 bt306.2.2.2).bind fun bt310 => ((laws_toThread.f k l0_0 a0_1 a0_2 l0_3 l0_4).bind fun bt322 => ((laws_toHelp.f a1_0 a1_1 a1_2 a1_3).bind fun bt334 => ((impl_Push.f bt322.1 bt322.2.1 bt322.2.2.1 bt322.2.2.2.1 bt322.2.2.2.2 bt334.1 bt334.2.1 bt334.2.2.1 bt334.2.2.2).bind fun bt338 => ((laws_eqThread.f k bt338.1 bt338.2.1 bt338.2.2.1 bt338.2.2.2.1 bt338.2.2.2.2 bt310.1 bt310.2.1 bt310.2.2.1 bt310.2.2.2.1 bt310.2.2.2.2).bind fun t350 => (if t350 = true then ((laws_toThread.f k l0_0 a0_1 a0_2 l0_3 l0_4).bind fun bt351 => ((laws_eqThread.f k bt322.1 bt322.2.1 bt322.2.2.1 bt322.2.2.2.1 bt322.2.2.2.2 bt351.1 bt351.2.1 bt351.2.2.1 bt351.2.2.2.1 bt351.2.2.2.2).bind fun t362 => (if t362 = true then ((laws_markThread.f k bt322.1 bt322.2.1 bt322.2.2.1 bt322.2.2.2.1 bt322.2.2.2.2 1).bind fun bt363 => (if bt363.1 < 0 then (laws_FnExactPush.j0 k true l0_0 a0_1 a0_2 l0_3 l0_4 a1_0 a1_1 a1_2 a1_3 bt310.1 bt310.2.1 bt310.2.2.1 bt310.2.2.2.1 bt310.2.2.2.2 bt338.1 bt338.2.1 bt338.2.2.1 bt338.2.2.2.1 bt338.2.2.2.2) else ((laws_eqThread.f k bt338.1 bt338.2.1 bt338.2.2.1 bt338.2.2.2.1 bt338.2.2.2.2 bt310.1 bt310.2.1 bt310.2.2.1 bt310.2.2.2.1 bt310.2.2.2.2).bind fun t367 => (laws_FnExactPush.j0 k (!t367) l0_0 a0_1 a0_2 l0_3 l0_4 a1_0 a1_1 a1_2 a1_3 bt310.1 bt310.2.1 bt310.2.2.1 bt310.2.2.2.1 bt310.2.2.2.2 bt338.1 bt338.2.1 bt338.2.2.1 bt338.2.2.2.1 bt338.2.2.2.2)))) else (none)))) else (none)))))))))) = some r := H
 have A3 := Aside0.mk A30
 clear A30
 by_cases c4 : t294 < 0
 ·
  rw [if_pos c4] at H
  have c4b0 : decide (t294 < 0) = true := decide_eq_true c4
  clear c4
  obtain rfl := Option.some.inj H
  go_enter Try.func8, Try.ntmps8
  go_wp2_with (first | ((with_reducible refine gate_dst (N := 2) rfl ?_); refine box_event ?hg (N := 2) ?hd (cs := #[.slice A0_0 l0_0.length c0_0, .int .i64 a0_1, .bool a0_2, .slice A0_3 l0_3.length c0_3, .slice A0_4 l0_4.length c0_4]) (t := 59) ?hr ?_; (case hd => rfl); (case hg => rfl); (case hr => first | (go_simp; done) | (go_simp; rfl)); intro gb292 hg w5 hbox hb; have n0_ := Aside0.mk (below_step z13_ hb); have n1_ := Aside0.mk (hbox); have n2_ := Aside0.mk ((by rw [hg]; exact (below_size z13_) : w.heap.size ≤ gb292)); have n3_ := Aside0.mk ((by rw [hg]; exact (below_size z13_) : w.heap.size ≤ gb292)); clear HB; have HB := n0_; have BK292 := n1_; have GW292 := n2_; have GE292 := n3_; clear n0_ n1_ n2_ n3_; clear hb hbox hg) | ((with_reducible refine gate_dst (N := 3) rfl ?_); refine box_event ?hg (N := 3) ?hd (cs := #[.int .i64 a1_0, .int .i64 a1_1, .int .i64 a1_2, .int .i64 a1_3]) (t := 65) ?hr ?_; (case hd => rfl); (case hg => rfl); (case hr => first | (go_simp; done) | (go_simp; rfl)); intro gb293 hg w6 hbox hb; have n0_ := Aside0.mk (blk_below (g := gb292) (o := .cells #[.slice A0_0 l0_0.length c0_0, .int .i64 a0_1, .bool a0_2, .slice A0_3 l0_3.length c0_3, .slice A0_4 l0_4.length c0_4] 59 (0, 0)) (bk_ BK292.out) hb); have n1_ := Aside0.mk (below_step z12_ hb); have n2_ := Aside0.mk (hbox); have n3_ := Aside0.mk ((by rw [hg]; exact (below_size z12_) : w.heap.size ≤ gb293)); have n4_ := Aside0.mk ((by rw [hg]; exact (below_size z12_) : w.heap.size ≤ gb293)); have n5_ := Aside0.mk ((z6_ : gb292 ≠ gb293)); have n6_ := Aside0.mk ((z7_ : gb293 ≠ gb292)); clear BK292 HB; have BK292 := n0_; have HB := n1_; have BK293 := n2_; have GW293 := n3_; have GE293 := n4_; have NB292_293 := n5_; have NB293_292 := n6_; clear n0_ n1_ n2_ n3_ n4_ n5_ n6_ hb hbox hg; have hnb7 := NB292_293.out; have hnc7 := NB293_292.out; have hcz8_0 : w6.cell? ⟨gb292, 0, none⟩ = some (.slice A0_0 l0_0.length c0_0) := (blk_cell BK292.out 0).trans rfl; have hcz8_1 : w6.cell? ⟨gb292, 1, none⟩ = some (.int .i64 a0_1) := (blk_cell BK292.out 1).trans rfl; have hcz8_2 : w6.cell? ⟨gb292, 2, none⟩ = some (.bool a0_2) := (blk_cell BK292.out 2).trans rfl; have hcz8_3 : w6.cell? ⟨gb292, 3, none⟩ = some (.slice A0_3 l0_3.length c0_3) := (blk_cell BK292.out 3).trans rfl; have hcz8_4 : w6.cell? ⟨gb292, 4, none⟩ = some (.slice A0_4 l0_4.length c0_4) := (blk_cell BK292.out 4).trans rfl; have hfz8_0 := blk_frozen BK292.out 0; have hfz8_1 := blk_frozen BK292.out 1; have hfz8_2 := blk_frozen BK292.out 2; have hfz8_3 := blk_frozen BK292.out 3; have hfz8_4 := blk_frozen BK292.out 4) | ((with_reducible refine gate_callee (f := 37) rfl ?_); refine goesL_ (some 15) rfl rfl Try.func37 (by kernel_rfl) rfl #[.agg #[.slice A0_0 l0_0.length c0_0, .int .i64 a0_1, .bool a0_2, .slice A0_3 l0_3.length c0_3, .slice A0_4 l0_4.length c0_4], .int .i64 1048576] rfl z4_ ?_; (with_reducible refine (laws_szThread.calls _ _ l0_0 a0_1 a0_2 _ _ l0_3 _ _ l0_4 1048576 t294 _ ?side1 ?side2 ?side3 ?side4 ?side5 ?side6 A3.out).mono ?_); (case side1 => exact cb_ (Kd.C_below HR0_0.out HB.out)); (case side2 => exact HC0_0.out); (case side3 => exact cb_ (Kd.C_below HR0_3.out HB.out)); (case side4 => exact HC0_3.out); (case side5 => exact cb_ (Kd.C_below HR0_4.out HB.out)); (case side6 => exact HC0_4.out); rintro e w9 ⟨rfl, hb⟩; refine ⟨_, rfl, ?_⟩; have n0_ := Aside0.mk (blk_below (g := gb292) (o := .cells #[.slice A0_0 l0_0.length c0_0, .int .i64 a0_1, .bool a0_2, .slice A0_3 l0_3.length c0_3, .slice A0_4 l0_4.length c0_4] 59 (0, 0)) (bk_ BK292.out) hb); have n1_ := Aside0.mk (blk_below (g := gb293) (o := .cells #[.int .i64 a1_0, .int .i64 a1_1, .int .i64 a1_2, .int .i64 a1_3] 65 (0, 0)) (bk_ BK293.out) hb); have n2_ := Aside0.mk (below_step z3_ hb); clear BK292 BK293 HB; have BK292 := n0_; have BK293 := n1_; have HB := n2_; clear n0_ n1_ n2_; (try clear hb); (try clear hb2); (try clear hk); (try clear hi)))
  go_ret
  exact ⟨by first | rfl | (simp [errW_none, errW_some] <;> rfl) | (simp [*, errW_none, errW_some] <;> rfl), z3_⟩
 ·
  rw [if_neg c4] at H
  have c4b0 : decide (t294 < 0) = false := decide_eq_false c4
  clear c4
  replace H := Option.bind_eq_some_iff.mp H
  obtain ⟨⟨t295, t298, t299, t300, t303⟩, A100, H⟩ := H
  replace H : ((laws_toHelp.f a1_0 a1_1 a1_2 a1_3).bind fun bt306 => ((spec_Push.f t295 t298 t299 t300 t303 bt306.1 bt306.2.1 bt306.2.2.1 bt306.2.2.2).bind fun bt310 => ((laws_toThread.f k l0_0 a0_1 a0_2 l0_3 l0_4).bind fun bt322 => ((laws_toHelp.f a1_0 a1_1 a1_2 a1_3).bind fun bt334 => ((impl_Push.f bt322.1 bt322.2.1 bt322.2.2.1 bt322.2.2.2.1 bt322.2.2.2.2 bt334.1 bt334.2.1 bt334.2.2.1 bt334.2.2.2).bind fun bt338 => ((laws_eqThread.f k bt338.1 bt338.2.1 bt338.2.2.1 bt338.2.2.2.1 bt338.2.2.2.2 bt310.1 bt310.2.1 bt310.2.2.1 bt310.2.2.2.1 bt310.2.2.2.2).bind fun t350 => (if t350 = true then ((laws_toThread.f k l0_0 a0_1 a0_2 l0_3 l0_4).bind fun bt351 => ((laws_eqThread.f k bt322.1 bt322.2.1 bt322.2.2.1 bt322.2.2.2.1 bt322.2.2.2.2 bt351.1 bt351.2.1 bt351.2.2.1 bt351.2.2.2.1 bt351.2.2.2.2).bind fun t362 => (if t362 = true then ((laws_markThread.f k bt322.1 bt322.2.1 bt322.2.2.1 bt322.2.2.2.1 bt322.2.2.2.2 1).bind fun bt363 => (if bt363.1 < 0 then (laws_FnExactPush.j0 k true l0_0 a0_1 a0_2 l0_3 l0_4 a1_0 a1_1 a1_2 a1_3 bt310.1 bt310.2.1 bt310.2.2.1 bt310.2.2.2.1 bt310.2.2.2.2 bt338.1 bt338.2.1 bt338.2.2.1 bt338.2.2.2.1 bt338.2.2.2.2) else ((laws_eqThread.f k bt338.1 bt338.2.1 bt338.2.2.1 bt338.2.2.2.1 bt338.2.2.2.2 bt310.1 bt310.2.1 bt310.2.2.1 bt310.2.2.2.1 bt310.2.2.2.2).bind fun t367 => (laws_FnExactPush.j0 k (!t367) l0_0 a0_1 a0_2 l0_3 l0_4 a1_0 a1_1 a1_2 a1_3 bt310.1 bt310.2.1 bt310.2.2.1 bt310.2.2.2.1 bt310.2.2.2.2 bt338.1 bt338.2.1 bt338.2.2.1 bt338.2.2.2.1 bt338.2.2.2.2)))) else (none)))) else (none)))))))) = some r := H
  have A10 := Aside0.mk A100
  clear A100
  replace H := Option.bind_eq_some_iff.mp H
  obtain ⟨⟨t306, t307, t308, t309⟩, A110, H⟩ := H
  replace H : ((spec_Push.f t295 t298 t299 t300 t303 t306 t307 t308 t309).bind fun bt310 => ((laws_toThread.f k l0_0 a0_1 a0_2 l0_3 l0_4).bind fun bt322 => ((laws_toHelp.f a1_0 a1_1 a1_2 a1_3).bind fun bt334 => ((impl_Push.f bt322.1 bt322.2.1 bt322.2.2.1 bt322.2.2.2.1 bt322.2.2.2.2 bt334.1 bt334.2.1 bt334.2.2.1 bt334.2.2.2).bind fun bt338 => ((laws_eqThread.f k bt338.1 bt338.2.1 bt338.2.2.1 bt338.2.2.2.1 bt338.2.2.2.2 bt310.1 bt310.2.1 bt310.2.2.1 bt310.2.2.2.1 bt310.2.2.2.2).bind fun t350 => (if t350 = true then ((laws_toThread.f k l0_0 a0_1 a0_2 l0_3 l0_4).bind fun bt351 => ((laws_eqThread.f k bt322.1 bt322.2.1 bt322.2.2.1 bt322.2.2.2.1 bt322.2.2.2.2 bt351.1 bt351.2.1 bt351.2.2.1 bt351.2.2.2.1 bt351.2.2.2.2).bind fun t362 => (if t362 = true then ((laws_markThread.f k bt322.1 bt322.2.1 bt322.2.2.1 bt322.2.2.2.1 bt322.2.2.2.2 1).bind fun bt363 => (if bt363.1 < 0 then (laws_FnExactPush.j0 k true l0_0 a0_1 a0_2 l0_3 l0_4 a1_0 a1_1 a1_2 a1_3 bt310.1 bt310.2.1 bt310.2.2.1 bt310.2.2.2.1 bt310.2.2.2.2 bt338.1 bt338.2.1 bt338.2.2.1 bt338.2.2.2.1 bt338.2.2.2.2) else ((laws_eqThread.f k bt338.1 bt338.2.1 bt338.2.2.1 bt338.2.2.2.1 bt338.2.2.2.2 bt310.1 bt310.2.1 bt310.2.2.1 bt310.2.2.2.1 bt310.2.2.2.2).bind fun t367 => (laws_FnExactPush.j0 k (!t367) l0_0 a0_1 a0_2 l0_3 l0_4 a1_0 a1_1 a1_2 a1_3 bt310.1 bt310.2.1 bt310.2.2.1 bt310.2.2.2.1 bt310.2.2.2.2 bt338.1 bt338.2.1 bt338.2.2.1 bt338.2.2.2.1 bt338.2.2.2.2)))) else (none)))) else (none))))))) = some r := H
  have A11 := Aside0.mk A110
  clear A110
  replace H := Option.bind_eq_some_iff.mp H
  obtain ⟨⟨t310, t313, t314, t315, t318⟩, A120, H⟩ := H
  replace H : ((laws_toThread.f k l0_0 a0_1 a0_2 l0_3 l0_4).bind fun bt322 => ((laws_toHelp.f a1_0 a1_1 a1_2 a1_3).bind fun bt334 => ((impl_Push.f bt322.1 bt322.2.1 bt322.2.2.1 bt322.2.2.2.1 bt322.2.2.2.2 bt334.1 bt334.2.1 bt334.2.2.1 bt334.2.2.2).bind fun bt338 => ((laws_eqThread.f k bt338.1 bt338.2.1 bt338.2.2.1 bt338.2.2.2.1 bt338.2.2.2.2 t310 t313 t314 t315 t318).bind fun t350 => (if t350 = true then ((laws_toThread.f k l0_0 a0_1 a0_2 l0_3 l0_4).bind fun bt351 => ((laws_eqThread.f k bt322.1 bt322.2.1 bt322.2.2.1 bt322.2.2.2.1 bt322.2.2.2.2 bt351.1 bt351.2.1 bt351.2.2.1 bt351.2.2.2.1 bt351.2.2.2.2).bind fun t362 => (if t362 = true then ((laws_markThread.f k bt322.1 bt322.2.1 bt322.2.2.1 bt322.2.2.2.1 bt322.2.2.2.2 1).bind fun bt363 => (if bt363.1 < 0 then (laws_FnExactPush.j0 k true l0_0 a0_1 a0_2 l0_3 l0_4 a1_0 a1_1 a1_2 a1_3 t310 t313 t314 t315 t318 bt338.1 bt338.2.1 bt338.2.2.1 bt338.2.2.2.1 bt338.2.2.2.2) else ((laws_eqThread.f k bt338.1 bt338.2.1 bt338.2.2.1 bt338.2.2.2.1 bt338.2.2.2.2 t310 t313 t314 t315 t318).bind fun t367 => (laws_FnExactPush.j0 k (!t367) l0_0 a0_1 a0_2 l0_3 l0_4 a1_0 a1_1 a1_2 a1_3 t310 t313 t314 t315 t318 bt338.1 bt338.2.1 bt338.2.2.1 bt338.2.2.2.1 bt338.2.2.2.2)))) else (none)))) else (none)))))) = some r := H
  have A12 := Aside0.mk A120
  clear A120
  replace H := Option.bind_eq_some_iff.mp H
  obtain ⟨⟨t322, t325, t326, t327, t330⟩, A130, H⟩ := H
  replace H : ((laws_toHelp.f a1_0 a1_1 a1_2 a1_3).bind fun bt334 => ((impl_Push.f t322 t325 t326 t327 t330 bt334.1 bt334.2.1 bt334.2.2.1 bt334.2.2.2).bind fun bt338 => ((laws_eqThread.f k bt338.1 bt338.2.1 bt338.2.2.1 bt338.2.2.2.1 bt338.2.2.2.2 t310 t313 t314 t315 t318).bind fun t350 => (if t350 = true then ((laws_toThread.f k l0_0 a0_1 a0_2 l0_3 l0_4).bind fun bt351 => ((laws_eqThread.f k t322 t325 t326 t327 t330 bt351.1 bt351.2.1 bt351.2.2.1 bt351.2.2.2.1 bt351.2.2.2.2).bind fun t362 => (if t362 = true then ((laws_markThread.f k t322 t325 t326 t327 t330 1).bind fun bt363 => (if bt363.1 < 0 then (laws_FnExactPush.j0 k true l0_0 a0_1 a0_2 l0_3 l0_4 a1_0 a1_1 a1_2 a1_3 t310 t313 t314 t315 t318 bt338.1 bt338.2.1 bt338.2.2.1 bt338.2.2.2.1 bt338.2.2.2.2) else ((laws_eqThread.f k bt338.1 bt338.2.1 bt338.2.2.1 bt338.2.2.2.1 bt338.2.2.2.2 t310 t313 t314 t315 t318).bind fun t367 => (laws_FnExactPush.j0 k (!t367) l0_0 a0_1 a0_2 l0_3 l0_4 a1_0 a1_1 a1_2 a1_3 t310 t313 t314 t315 t318 bt338.1 bt338.2.1 bt338.2.2.1 bt338.2.2.2.1 bt338.2.2.2.2)))) else (none)))) else (none))))) = some r := H
  have A13 := Aside0.mk A130
  clear A130
  replace H := Option.bind_eq_some_iff.mp H
  obtain ⟨⟨t334, t335, t336, t337⟩, A140, H⟩ := H
  replace H : ((impl_Push.f t322 t325 t326 t327 t330 t334 t335 t336 t337).bind fun bt338 => ((laws_eqThread.f k bt338.1 bt338.2.1 bt338.2.2.1 bt338.2.2.2.1 bt338.2.2.2.2 t310 t313 t314 t315 t318).bind fun t350 => (if t350 = true then ((laws_toThread.f k l0_0 a0_1 a0_2 l0_3 l0_4).bind fun bt351 => ((laws_eqThread.f k t322 t325 t326 t327 t330 bt351.1 bt351.2.1 bt351.2.2.1 bt351.2.2.2.1 bt351.2.2.2.2).bind fun t362 => (if t362 = true then ((laws_markThread.f k t322 t325 t326 t327 t330 1).bind fun bt363 => (if bt363.1 < 0 then (laws_FnExactPush.j0 k true l0_0 a0_1 a0_2 l0_3 l0_4 a1_0 a1_1 a1_2 a1_3 t310 t313 t314 t315 t318 bt338.1 bt338.2.1 bt338.2.2.1 bt338.2.2.2.1 bt338.2.2.2.2) else ((laws_eqThread.f k bt338.1 bt338.2.1 bt338.2.2.1 bt338.2.2.2.1 bt338.2.2.2.2 t310 t313 t314 t315 t318).bind fun t367 => (laws_FnExactPush.j0 k (!t367) l0_0 a0_1 a0_2 l0_3 l0_4 a1_0 a1_1 a1_2 a1_3 t310 t313 t314 t315 t318 bt338.1 bt338.2.1 bt338.2.2.1 bt338.2.2.2.1 bt338.2.2.2.2)))) else (none)))) else (none)))) = some r := H
  have A14 := Aside0.mk A140
  clear A140
  replace H := Option.bind_eq_some_iff.mp H
  obtain ⟨⟨t338, t341, t342, t343, t346⟩, A150, H⟩ := H
  replace H : ((laws_eqThread.f k t338 t341 t342 t343 t346 t310 t313 t314 t315 t318).bind fun t350 => (if t350 = true then ((laws_toThread.f k l0_0 a0_1 a0_2 l0_3 l0_4).bind fun bt351 => ((laws_eqThread.f k t322 t325 t326 t327 t330 bt351.1 bt351.2.1 bt351.2.2.1 bt351.2.2.2.1 bt351.2.2.2.2).bind fun t362 => (if t362 = true then ((laws_markThread.f k t322 t325 t326 t327 t330 1).bind fun bt363 => (if bt363.1 < 0 then (laws_FnExactPush.j0 k true l0_0 a0_1 a0_2 l0_3 l0_4 a1_0 a1_1 a1_2 a1_3 t310 t313 t314 t315 t318 t338 t341 t342 t343 t346) else ((laws_eqThread.f k t338 t341 t342 t343 t346 t310 t313 t314 t315 t318).bind fun t367 => (laws_FnExactPush.j0 k (!t367) l0_0 a0_1 a0_2 l0_3 l0_4 a1_0 a1_1 a1_2 a1_3 t310 t313 t314 t315 t318 t338 t341 t342 t343 t346)))) else (none)))) else (none))) = some r := H
  have A15 := Aside0.mk A150
  clear A150
  replace H := Option.bind_eq_some_iff.mp H
  obtain ⟨t350, A160, H⟩ := H
  replace H : (if t350 = true then ((laws_toThread.f k l0_0 a0_1 a0_2 l0_3 l0_4).bind fun bt351 => ((laws_eqThread.f k t322 t325 t326 t327 t330 bt351.1 bt351.2.1 bt351.2.2.1 bt351.2.2.2.1 bt351.2.2.2.2).bind fun t362 => (if t362 = true then ((laws_markThread.f k t322 t325 t326 t327 t330 1).bind fun bt363 => (if bt363.1 < 0 then (laws_FnExactPush.j0 k true l0_0 a0_1 a0_2 l0_3 l0_4 a1_0 a1_1 a1_2 a1_3 t310 t313 t314 t315 t318 t338 t341 t342 t343 t346) else ((laws_eqThread.f k t338 t341 t342 t343 t346 t310 t313 t314 t315 t318).bind fun t367 => (laws_FnExactPush.j0 k (!t367) l0_0 a0_1 a0_2 l0_3 l0_4 a1_0 a1_1 a1_2 a1_3 t310 t313 t314 t315 t318 t338 t341 t342 t343 t346)))) else (none)))) else (none)) = some r := H
  have A16 := Aside0.mk A160
  clear A160
  by_cases c17 : t350 = true
  ·
   subst c17
   have H1 : ((laws_toThread.f k l0_0 a0_1 a0_2 l0_3 l0_4).bind fun bt351 => ((laws_eqThread.f k t322 t325 t326 t327 t330 bt351.1 bt351.2.1 bt351.2.2.1 bt351.2.2.2.1 bt351.2.2.2.2).bind fun t362 => (if t362 = true then ((laws_markThread.f k t322 t325 t326 t327 t330 1).bind fun bt363 => (if bt363.1 < 0 then (laws_FnExactPush.j0 k true l0_0 a0_1 a0_2 l0_3 l0_4 a1_0 a1_1 a1_2 a1_3 t310 t313 t314 t315 t318 t338 t341 t342 t343 t346) else ((laws_eqThread.f k t338 t341 t342 t343 t346 t310 t313 t314 t315 t318).bind fun t367 => (laws_FnExactPush.j0 k (!t367) l0_0 a0_1 a0_2 l0_3 l0_4 a1_0 a1_1 a1_2 a1_3 t310 t313 t314 t315 t318 t338 t341 t342 t343 t346)))) else (none)))) = some r := by rw [if_pos rfl] at H; exact H
   clear H
   have H := H1
   clear H1
   replace H := Option.bind_eq_some_iff.mp H
   obtain ⟨⟨t351, t354, t355, t356, t359⟩, A180, H⟩ := H
   replace H : ((laws_eqThread.f k t322 t325 t326 t327 t330 t351 t354 t355 t356 t359).bind fun t362 => (if t362 = true then ((laws_markThread.f k t322 t325 t326 t327 t330 1).bind fun bt363 => (if bt363.1 < 0 then (laws_FnExactPush.j0 k true l0_0 a0_1 a0_2 l0_3 l0_4 a1_0 a1_1 a1_2 a1_3 t310 t313 t314 t315 t318 t338 t341 t342 t343 t346) else ((laws_eqThread.f k t338 t341 t342 t343 t346 t310 t313 t314 t315 t318).bind fun t367 => (laws_FnExactPush.j0 k (!t367) l0_0 a0_1 a0_2 l0_3 l0_4 a1_0 a1_1 a1_2 a1_3 t310 t313 t314 t315 t318 t338 t341 t342 t343 t346)))) else (none))) = some r := H
   have A18 := Aside0.mk A180
   clear A180
   replace H := Option.bind_eq_some_iff.mp H
   obtain ⟨t362, A190, H⟩ := H
   replace H : (if t362 = true then ((laws_markThread.f k t322 t325 t326 t327 t330 1).bind fun bt363 => (if bt363.1 < 0 then (laws_FnExactPush.j0 k true l0_0 a0_1 a0_2 l0_3 l0_4 a1_0 a1_1 a1_2 a1_3 t310 t313 t314 t315 t318 t338 t341 t342 t343 t346) else ((laws_eqThread.f k t338 t341 t342 t343 t346 t310 t313 t314 t315 t318).bind fun t367 => (laws_FnExactPush.j0 k (!t367) l0_0 a0_1 a0_2 l0_3 l0_4 a1_0 a1_1 a1_2 a1_3 t310 t313 t314 t315 t318 t338 t341 t342 t343 t346)))) else (none)) = some r := H
   have A19 := Aside0.mk A190
   clear A190
   by_cases c20 : t362 = true
   ·
    subst c20
    have H1 : ((laws_markThread.f k t322 t325 t326 t327 t330 1).bind fun bt363 => (if bt363.1 < 0 then (laws_FnExactPush.j0 k true l0_0 a0_1 a0_2 l0_3 l0_4 a1_0 a1_1 a1_2 a1_3 t310 t313 t314 t315 t318 t338 t341 t342 t343 t346) else ((laws_eqThread.f k t338 t341 t342 t343 t346 t310 t313 t314 t315 t318).bind fun t367 => (laws_FnExactPush.j0 k (!t367) l0_0 a0_1 a0_2 l0_3 l0_4 a1_0 a1_1 a1_2 a1_3 t310 t313 t314 t315 t318 t338 t341 t342 t343 t346)))) = some r := by rw [if_pos rfl] at H; exact H
    clear H
    have H := H1
    clear H1
    replace H := Option.bind_eq_some_iff.mp H
    obtain ⟨⟨t363, t364, t365, t366⟩, A210, H⟩ := H
    replace H : (if t363 < 0 then (laws_FnExactPush.j0 k true l0_0 a0_1 a0_2 l0_3 l0_4 a1_0 a1_1 a1_2 a1_3 t310 t313 t314 t315 t318 t338 t341 t342 t343 t346) else ((laws_eqThread.f k t338 t341 t342 t343 t346 t310 t313 t314 t315 t318).bind fun t367 => (laws_FnExactPush.j0 k (!t367) l0_0 a0_1 a0_2 l0_3 l0_4 a1_0 a1_1 a1_2 a1_3 t310 t313 t314 t315 t318 t338 t341 t342 t343 t346))) = some r := H
    have A21 := Aside0.mk A210
    clear A210
    have HC22 := Aside0.mk H
    clear H
    go_enter Try.func8, Try.ntmps8
    try go_wp2_with (first | ((with_reducible refine gate_dst (N := 2) rfl ?_); refine box_event ?hg (N := 2) ?hd (cs := #[.slice A0_0 l0_0.length c0_0, .int .i64 a0_1, .bool a0_2, .slice A0_3 l0_3.length c0_3, .slice A0_4 l0_4.length c0_4]) (t := 59) ?hr ?_; (case hd => rfl); (case hg => rfl); (case hr => first | (go_simp; done) | (go_simp; rfl)); intro gb292 hg w23 hbox hb; have n0_ := Aside0.mk (below_step z13_ hb); have n1_ := Aside0.mk (hbox); have n2_ := Aside0.mk ((by rw [hg]; exact (below_size z13_) : w.heap.size ≤ gb292)); have n3_ := Aside0.mk ((by rw [hg]; exact (below_size z13_) : w.heap.size ≤ gb292)); clear HB; have HB := n0_; have BK292 := n1_; have GW292 := n2_; have GE292 := n3_; clear n0_ n1_ n2_ n3_; clear hb hbox hg) | ((with_reducible refine gate_dst (N := 3) rfl ?_); refine box_event ?hg (N := 3) ?hd (cs := #[.int .i64 a1_0, .int .i64 a1_1, .int .i64 a1_2, .int .i64 a1_3]) (t := 65) ?hr ?_; (case hd => rfl); (case hg => rfl); (case hr => first | (go_simp; done) | (go_simp; rfl)); intro gb293 hg w24 hbox hb; have n0_ := Aside0.mk (blk_below (g := gb292) (o := .cells #[.slice A0_0 l0_0.length c0_0, .int .i64 a0_1, .bool a0_2, .slice A0_3 l0_3.length c0_3, .slice A0_4 l0_4.length c0_4] 59 (0, 0)) (bk_ BK292.out) hb); have n1_ := Aside0.mk (below_step z12_ hb); have n2_ := Aside0.mk (hbox); have n3_ := Aside0.mk ((by rw [hg]; exact (below_size z12_) : w.heap.size ≤ gb293)); have n4_ := Aside0.mk ((by rw [hg]; exact (below_size z12_) : w.heap.size ≤ gb293)); have n5_ := Aside0.mk ((z6_ : gb292 ≠ gb293)); have n6_ := Aside0.mk ((z7_ : gb293 ≠ gb292)); clear BK292 HB; have BK292 := n0_; have HB := n1_; have BK293 := n2_; have GW293 := n3_; have GE293 := n4_; have NB292_293 := n5_; have NB293_292 := n6_; clear n0_ n1_ n2_ n3_ n4_ n5_ n6_ hb hbox hg; have hnb25 := NB292_293.out; have hnc25 := NB293_292.out; have hcz26_0 : w24.cell? ⟨gb292, 0, none⟩ = some (.slice A0_0 l0_0.length c0_0) := (blk_cell BK292.out 0).trans rfl; have hcz26_1 : w24.cell? ⟨gb292, 1, none⟩ = some (.int .i64 a0_1) := (blk_cell BK292.out 1).trans rfl; have hcz26_2 : w24.cell? ⟨gb292, 2, none⟩ = some (.bool a0_2) := (blk_cell BK292.out 2).trans rfl; have hcz26_3 : w24.cell? ⟨gb292, 3, none⟩ = some (.slice A0_3 l0_3.length c0_3) := (blk_cell BK292.out 3).trans rfl; have hcz26_4 : w24.cell? ⟨gb292, 4, none⟩ = some (.slice A0_4 l0_4.length c0_4) := (blk_cell BK292.out 4).trans rfl; have hfz26_0 := blk_frozen BK292.out 0; have hfz26_1 := blk_frozen BK292.out 1; have hfz26_2 := blk_frozen BK292.out 2; have hfz26_3 := blk_frozen BK292.out 3; have hfz26_4 := blk_frozen BK292.out 4) | ((with_reducible refine gate_callee (f := 37) rfl ?_); refine goesL_ (some 15) rfl rfl Try.func37 (by kernel_rfl) rfl #[.agg #[.slice A0_0 l0_0.length c0_0, .int .i64 a0_1, .bool a0_2, .slice A0_3 l0_3.length c0_3, .slice A0_4 l0_4.length c0_4], .int .i64 1048576] rfl z4_ ?_; (with_reducible refine (laws_szThread.calls _ _ l0_0 a0_1 a0_2 _ _ l0_3 _ _ l0_4 1048576 t294 _ ?side1 ?side2 ?side3 ?side4 ?side5 ?side6 A3.out).mono ?_); (case side1 => exact cb_ (Kd.C_below HR0_0.out HB.out)); (case side2 => exact HC0_0.out); (case side3 => exact cb_ (Kd.C_below HR0_3.out HB.out)); (case side4 => exact HC0_3.out); (case side5 => exact cb_ (Kd.C_below HR0_4.out HB.out)); (case side6 => exact HC0_4.out); rintro e w27 ⟨rfl, hb⟩; refine ⟨_, rfl, ?_⟩; have n0_ := Aside0.mk (blk_below (g := gb292) (o := .cells #[.slice A0_0 l0_0.length c0_0, .int .i64 a0_1, .bool a0_2, .slice A0_3 l0_3.length c0_3, .slice A0_4 l0_4.length c0_4] 59 (0, 0)) (bk_ BK292.out) hb); have n1_ := Aside0.mk (blk_below (g := gb293) (o := .cells #[.int .i64 a1_0, .int .i64 a1_1, .int .i64 a1_2, .int .i64 a1_3] 65 (0, 0)) (bk_ BK293.out) hb); have n2_ := Aside0.mk (below_step z3_ hb); clear BK292 BK293 HB; have BK292 := n0_; have BK293 := n1_; have HB := n2_; clear n0_ n1_ n2_; (try clear hb); (try clear hb2); (try clear hk); (try clear hi)))
    have n0_ := Aside0.mk (blk_drew BK292.out)
    have n1_ := Aside0.mk (blk_drew BK293.out)
    have n2_ := Aside0.mk (below_drew1 HB.out)
    clear BK292 BK293 HB
    have BK292 := n0_
    have BK293 := n1_
    have HB := n2_
    clear n0_ n1_ n2_
    refine start_ (n := 7) (S := fun w' => w'.cell? ⟨gb292, 0, none⟩ = some (.slice A0_0 l0_0.length c0_0) ∧ w'.cell? ⟨gb292, 1, none⟩ = some (.int .i64 a0_1) ∧ w'.cell? ⟨gb292, 2, none⟩ = some (.bool a0_2) ∧ w'.cell? ⟨gb292, 3, none⟩ = some (.slice A0_3 l0_3.length c0_3) ∧ w'.cell? ⟨gb292, 4, none⟩ = some (.slice A0_4 l0_4.length c0_4) ∧ w'.cell? ⟨gb293, 0, none⟩ = some (.int .i64 a1_0) ∧ w'.cell? ⟨gb293, 1, none⟩ = some (.int .i64 a1_1) ∧ w'.cell? ⟨gb293, 2, none⟩ = some (.int .i64 a1_2) ∧ w'.cell? ⟨gb293, 3, none⟩ = some (.int .i64 a1_3)) (ds := []) #[false, false, false, false, false, false, false] (by kernel_rfl) rfl rfl ⟨(blk_cell BK292.out 0).trans rfl, (blk_cell BK292.out 1).trans rfl, (blk_cell BK292.out 2).trans rfl, (blk_cell BK292.out 3).trans rfl, (blk_cell BK292.out 4).trans rfl, (blk_cell BK293.out 0).trans rfl, (blk_cell BK293.out 1).trans rfl, (blk_cell BK293.out 2).trans rfl, (blk_cell BK293.out 3).trans rfl⟩ (fun hHeld => ?_)
    generalize w27.drew = w28 at BK292 BK293 HB hHeld ⊢
    refine take_ (i := 0) (N := some 18) (v := ?_) (a' := ?_) #[true, false, false, false, false, false, false] rfl rfl (by kernel_rfl) (fun _ _ _ h => h) (Or.inl ⟨by rfl, ?_⟩) hHeld ?_ ?_
    rotate_left
    ·
     rintro w' ⟨s0, s1, s2, s3, s4, s5, s6, s7, s8⟩
     go_simp
     with_reducible rfl
    rotate_left
    ·
     simp only [Act.put, List.setIfInBounds_toArray, List.set_cons_zero, List.set_cons_succ, i64_w, i32_w]
     rfl
    refine take_ (i := 2) (N := some 20) (v := ?_) (a' := ?_) #[true, false, true, false, false, false, false] rfl rfl (by kernel_rfl) (fun _ _ _ h => h) (Or.inl ⟨by rfl, ?_⟩) hHeld ?_ ?_
    rotate_left
    ·
     rintro w' ⟨s0, s1, s2, s3, s4, s5, s6, s7, s8⟩
     go_simp
     with_reducible rfl
    rotate_left
    ·
     simp only [Act.put, List.setIfInBounds_toArray, List.set_cons_zero, List.set_cons_succ, i64_w, i32_w]
     rfl
    refine join_ (σ := Value × Value × Value × Value × Value × Value × Nat) 1 #[true, true, true, true, true, true, false] (fun s_ => [(19, .agg #[s_.1, .int .i64 t298, .bool t299, s_.2.1, s_.2.2.1]), (21, .agg #[.int .i64 t306, .int .i64 t307, .int .i64 t308, .int .i64 t309]), (22, .agg #[s_.2.2.2.1, .int .i64 t313, .bool t314, s_.2.2.2.2.1, s_.2.2.2.2.2.1]), (6, .pointer (some ⟨s_.2.2.2.2.2.2, 0, none⟩))]) (fun s_ w' => (w'.cell? ⟨gb292, 0, none⟩ = some (.slice A0_0 l0_0.length c0_0) ∧ w'.cell? ⟨gb292, 1, none⟩ = some (.int .i64 a0_1) ∧ w'.cell? ⟨gb292, 2, none⟩ = some (.bool a0_2) ∧ w'.cell? ⟨gb292, 3, none⟩ = some (.slice A0_3 l0_3.length c0_3) ∧ w'.cell? ⟨gb292, 4, none⟩ = some (.slice A0_4 l0_4.length c0_4) ∧ w'.cell? ⟨gb293, 0, none⟩ = some (.int .i64 a1_0) ∧ w'.cell? ⟨gb293, 1, none⟩ = some (.int .i64 a1_1) ∧ w'.cell? ⟨gb293, 2, none⟩ = some (.int .i64 a1_2) ∧ w'.cell? ⟨gb293, 3, none⟩ = some (.int .i64 a1_3)) ∧ (Kd.R k88 88 w' w.heap.size (fun k_ => some k_ ≠ (s_.2.2.2.1 : Value).ownBlock) s_.1 t295) ∧ (Kd.R k136 136 w' w.heap.size (fun k_ => some k_ ≠ (s_.2.2.2.2.1 : Value).ownBlock) s_.2.1 t300) ∧ (Kd.R k67 67 w' w.heap.size (fun k_ => some k_ ≠ (s_.2.2.2.2.2.1 : Value).ownBlock) s_.2.2.1 t303) ∧ (Kd.R k88 88 w' w.heap.size (fun k_ => some k_ ≠ (s_.1 : Value).ownBlock) s_.2.2.2.1 t310) ∧ (Kd.R k136 136 w' w.heap.size (fun k_ => some k_ ≠ (s_.2.1 : Value).ownBlock) s_.2.2.2.2.1 t315) ∧ (Kd.R k67 67 w' w.heap.size (fun k_ => some k_ ≠ (s_.2.2.1 : Value).ownBlock) s_.2.2.2.2.2.1 t318) ∧ (w'.heap[gb292]? = some (.cells #[.slice A0_0 l0_0.length c0_0, .int .i64 a0_1, .bool a0_2, .slice A0_3 l0_3.length c0_3, .slice A0_4 l0_4.length c0_4] 59 (0, 0))) ∧ (w'.heap[gb293]? = some (.cells #[.int .i64 a1_0, .int .i64 a1_1, .int .i64 a1_2, .int .i64 a1_3] 65 (0, 0))) ∧ (w'.heap[s_.2.2.2.2.2.2]? = some (.cells #[.slice none 0 0, .int .i64 0, .bool false, .slice none 0 0, .slice none 0 0] 36 (0, 0))) ∧ (w.heap.size ≤ s_.2.2.2.2.2.2) ∧ (w.heap.size ≤ s_.2.2.2.2.2.2) ∧ (gb292 ≠ s_.2.2.2.2.2.2) ∧ (s_.2.2.2.2.2.2 ≠ gb292) ∧ (gb293 ≠ s_.2.2.2.2.2.2) ∧ (s_.2.2.2.2.2.2 ≠ gb293) ∧ (Below w.heap.size w w')) ?_ ?_
    rotate_left
    ·
     intro hCont
     refine two_ (i := 1) (j := 5) (Ni := some 19) (Nj := some 6) #[true, true, true, false, false, false, false] #[true, false, true, false, false, true, false] rfl rfl rfl rfl (by kernel_rfl) (by decide) (by decide) (fun K hK => ?_) (fun K hK => ?_)
     ·
      skip
      refine goes_ Try.func39 (by kernel_rfl) rfl #[.agg #[.slice A0_0 l0_0.length c0_0, .int .i64 a0_1, .bool a0_2, .slice A0_3 l0_3.length c0_3, .slice A0_4 l0_4.length c0_4]] (by rfl) rfl rfl z4_ ?_
      with_reducible refine (laws_toThread.calls k _ _ l0_0 a0_1 a0_2 _ _ l0_3 _ _ l0_4 t295 t298 t299 t300 t303 _ ?side1 ?side2 ?side3 ?side4 ?side5 ?side6 A10.out).mono ?_
      (case side1 => exact cb_ (Kd.C_below HR0_0.out HB.out))
      (case side2 => exact HC0_0.out)
      (case side3 => exact cb_ (Kd.C_below HR0_3.out HB.out))
      (case side4 => exact HC0_3.out)
      (case side5 => exact cb_ (Kd.C_below HR0_4.out HB.out))
      (case side6 => exact HC0_4.out)
      rintro e w29 ⟨v296, v301, v304, rfl, ho0, ho1, ho2, hb⟩
      refine ⟨_, rfl, ?_⟩
      have n0_ := Aside0.mk (Kd.R_lower ho0 (below_size z3_))
      have n1_ := Aside0.mk (Kd.R_lower ho1 (below_size z3_))
      have n2_ := Aside0.mk (Kd.R_lower ho2 (below_size z3_))
      have n3_ := Aside0.mk (blk_below (g := gb292) (o := .cells #[.slice A0_0 l0_0.length c0_0, .int .i64 a0_1, .bool a0_2, .slice A0_3 l0_3.length c0_3, .slice A0_4 l0_4.length c0_4] 59 (0, 0)) (bk_ BK292.out) hb)
      have n4_ := Aside0.mk (blk_below (g := gb293) (o := .cells #[.int .i64 a1_0, .int .i64 a1_1, .int .i64 a1_2, .int .i64 a1_3] 65 (0, 0)) (bk_ BK293.out) hb)
      have n5_ := Aside0.mk (below_step z3_ hb)
      clear BK292 BK293 HB
      have HO297 := n0_
      have HO302 := n1_
      have HO305 := n2_
      have BK292 := n3_
      have BK293 := n4_
      have HB := n5_
      clear n0_ n1_ n2_ n3_ n4_ n5_
      (try clear hb)
      (try clear hb2)
      (try clear hk)
      (try clear hi)
      (try clear ho0)
      (try clear ho1)
      (try clear ho2)
      refine hK.out _ _ ⟨(blk_cell BK292.out 0).trans rfl, (blk_cell BK292.out 1).trans rfl, (blk_cell BK292.out 2).trans rfl, (blk_cell BK292.out 3).trans rfl, (blk_cell BK292.out 4).trans rfl, (blk_cell BK293.out 0).trans rfl, (blk_cell BK293.out 1).trans rfl, (blk_cell BK293.out 2).trans rfl, (blk_cell BK293.out 3).trans rfl⟩ (fun hHeld => ?_)
      clear hK K
      refine norm_ (a' := ?_) ?_ ?_
      rotate_left
      ·
       show Act.put _ (some 19) _ = _
       simp only [Act.put, List.setIfInBounds_toArray, List.set_cons_zero, List.set_cons_succ, i64_w, i32_w]
       rfl
      refine two_ (i := 3) (j := 5) (Ni := some 21) (Nj := some 6) #[true, true, true, true, false, false, false] #[true, true, true, false, false, true, false] rfl rfl rfl rfl (by kernel_rfl) (by decide) (by decide) (fun K hK => ?_) (fun K hK => ?_)
      ·
       skip
       refine goes_ Try.func42 (by kernel_rfl) rfl #[.agg #[.int .i64 a1_0, .int .i64 a1_1, .int .i64 a1_2, .int .i64 a1_3]] (by rfl) rfl rfl z4_ ?_
       with_reducible refine (laws_toHelp.calls a1_0 a1_1 a1_2 a1_3 t306 t307 t308 t309 _ A11.out).mono ?_
       rintro e w30 ⟨rfl, hb⟩
       refine ⟨_, rfl, ?_⟩
       have n0_ := Aside0.mk (Kd.R_below (rb_ HO297.out) hb)
       have n1_ := Aside0.mk (Kd.R_below (rb_ HO302.out) hb)
       have n2_ := Aside0.mk (Kd.R_below (rb_ HO305.out) hb)
       have n3_ := Aside0.mk (blk_below (g := gb292) (o := .cells #[.slice A0_0 l0_0.length c0_0, .int .i64 a0_1, .bool a0_2, .slice A0_3 l0_3.length c0_3, .slice A0_4 l0_4.length c0_4] 59 (0, 0)) (bk_ BK292.out) hb)
       have n4_ := Aside0.mk (blk_below (g := gb293) (o := .cells #[.int .i64 a1_0, .int .i64 a1_1, .int .i64 a1_2, .int .i64 a1_3] 65 (0, 0)) (bk_ BK293.out) hb)
       have n5_ := Aside0.mk (below_step z3_ hb)
       clear HO297 HO302 HO305 BK292 BK293 HB
       have HO297 := n0_
       have HO302 := n1_
       have HO305 := n2_
       have BK292 := n3_
       have BK293 := n4_
       have HB := n5_
       clear n0_ n1_ n2_ n3_ n4_ n5_
       (try clear hb)
       (try clear hb2)
       (try clear hk)
       (try clear hi)
       obtain ⟨Ao31, co31, eo31⟩ := Kd.R_slice HO297.out
       (first | subst eo31 | (injection eo31 with f1_ f2_ f3_; have f4_ := f1_.symm; have f5_ := f3_.symm; clear f1_ f2_ f3_; subst f4_; subst f5_))
       obtain ⟨Ao32, co32, eo32⟩ := Kd.R_slice HO302.out
       (first | subst eo32 | (injection eo32 with f1_ f2_ f3_; have f4_ := f1_.symm; have f5_ := f3_.symm; clear f1_ f2_ f3_; subst f4_; subst f5_))
       obtain ⟨Ao33, co33, eo33⟩ := Kd.R_slice HO305.out
       (first | subst eo33 | (injection eo33 with f1_ f2_ f3_; have f4_ := f1_.symm; have f5_ := f3_.symm; clear f1_ f2_ f3_; subst f4_; subst f5_))
       refine hK.out _ _ ⟨(blk_cell BK292.out 0).trans rfl, (blk_cell BK292.out 1).trans rfl, (blk_cell BK292.out 2).trans rfl, (blk_cell BK292.out 3).trans rfl, (blk_cell BK292.out 4).trans rfl, (blk_cell BK293.out 0).trans rfl, (blk_cell BK293.out 1).trans rfl, (blk_cell BK293.out 2).trans rfl, (blk_cell BK293.out 3).trans rfl⟩ (fun hHeld => ?_)
       clear hK K
       refine norm_ (a' := ?_) ?_ ?_
       rotate_left
       ·
        show Act.put _ (some 21) _ = _
        simp only [Act.put, List.setIfInBounds_toArray, List.set_cons_zero, List.set_cons_succ, i64_w, i32_w]
        rfl
       refine two_ (i := 4) (j := 5) (Ni := some 22) (Nj := some 6) #[true, true, true, true, true, false, false] #[true, true, true, true, false, true, false] rfl rfl rfl rfl (by kernel_rfl) (by decide) (by decide) (fun K hK => ?_) (fun K hK => ?_)
       ·
        skip
        refine goes_ Try.func41 (by kernel_rfl) rfl #[.agg #[.slice Ao31 t295.length co31, .int .i64 t298, .bool t299, .slice Ao32 t300.length co32, .slice Ao33 t303.length co33], .agg #[.int .i64 t306, .int .i64 t307, .int .i64 t308, .int .i64 t309]] (by rfl) rfl rfl z4_ ?_
        with_reducible refine (spec_Push.calls _ _ t295 t298 t299 _ _ t300 _ _ t303 t306 t307 t308 t309 t310 t313 t314 t315 t318 _ ?side1 ?side2 ?side3 ?side4 ?side5 ?side6 A12.out).mono ?_
        (case side1 => repeat (first | exact (Kd.R_reads' HO297.out).2.2 | (with_reducible refine Kd.C_alloc ?_ _) | (with_reducible refine Kd.C_drewN ?_ _) | (with_reducible refine Kd.C_drew ?_)))
        (case side2 => exact (Kd.R_reads' HO297.out).2.1)
        (case side3 => repeat (first | exact (Kd.R_reads' HO302.out).2.2 | (with_reducible refine Kd.C_alloc ?_ _) | (with_reducible refine Kd.C_drewN ?_ _) | (with_reducible refine Kd.C_drew ?_)))
        (case side4 => exact (Kd.R_reads' HO302.out).2.1)
        (case side5 => repeat (first | exact (Kd.R_reads' HO305.out).2.2 | (with_reducible refine Kd.C_alloc ?_ _) | (with_reducible refine Kd.C_drewN ?_ _) | (with_reducible refine Kd.C_drew ?_)))
        (case side6 => exact (Kd.R_reads' HO305.out).2.1)
        rintro e w34 ⟨v311, v316, v319, rfl, ho0, ho1, ho2, hb⟩
        refine ⟨_, rfl, ?_⟩
        have n0_ := Aside0.mk (Kd.R_elder' (rb_ HO297.out) (Kd.R_base ho0) hb)
        have n1_ := Aside0.mk (Kd.R_elder' (rb_ HO302.out) (Kd.R_base ho1) hb)
        have n2_ := Aside0.mk (Kd.R_elder' (rb_ HO305.out) (Kd.R_base ho2) hb)
        have n3_ := Aside0.mk (Kd.R_lower (Kd.R_new' ho0 (Kd.R_lt (rb_ HO297.out))) (below_size z3_))
        have n4_ := Aside0.mk (Kd.R_lower (Kd.R_new' ho1 (Kd.R_lt (rb_ HO302.out))) (below_size z3_))
        have n5_ := Aside0.mk (Kd.R_lower (Kd.R_new' ho2 (Kd.R_lt (rb_ HO305.out))) (below_size z3_))
        have n6_ := Aside0.mk (blk_below (g := gb292) (o := .cells #[.slice A0_0 l0_0.length c0_0, .int .i64 a0_1, .bool a0_2, .slice A0_3 l0_3.length c0_3, .slice A0_4 l0_4.length c0_4] 59 (0, 0)) (bk_ BK292.out) hb)
        have n7_ := Aside0.mk (blk_below (g := gb293) (o := .cells #[.int .i64 a1_0, .int .i64 a1_1, .int .i64 a1_2, .int .i64 a1_3] 65 (0, 0)) (bk_ BK293.out) hb)
        have n8_ := Aside0.mk (below_step z3_ hb)
        clear HO297 HO302 HO305 BK292 BK293 HB
        have HO297 := n0_
        have HO302 := n1_
        have HO305 := n2_
        have HO312 := n3_
        have HO317 := n4_
        have HO320 := n5_
        have BK292 := n6_
        have BK293 := n7_
        have HB := n8_
        clear n0_ n1_ n2_ n3_ n4_ n5_ n6_ n7_ n8_
        (try clear hb)
        (try clear hb2)
        (try clear hk)
        (try clear hi)
        (try clear ho0)
        (try clear ho1)
        (try clear ho2)
        refine hK.out _ _ ⟨(blk_cell BK292.out 0).trans rfl, (blk_cell BK292.out 1).trans rfl, (blk_cell BK292.out 2).trans rfl, (blk_cell BK292.out 3).trans rfl, (blk_cell BK292.out 4).trans rfl, (blk_cell BK293.out 0).trans rfl, (blk_cell BK293.out 1).trans rfl, (blk_cell BK293.out 2).trans rfl, (blk_cell BK293.out 3).trans rfl⟩ (fun hHeld => ?_)
        clear hK K
        refine norm_ (a' := ?_) ?_ ?_
        rotate_left
        ·
         show Act.put _ (some 22) _ = _
         simp only [Act.put, List.setIfInBounds_toArray, List.set_cons_zero, List.set_cons_succ, i64_w, i32_w]
         rfl
        refine one_ (i := 5) (N := some 6) #[true, true, true, true, true, true, false] rfl rfl (by kernel_rfl) (by decide) (fun K hK => ?_)
        refine box_step ?hg (N := 6) ?hd (cs := #[.slice none 0 0, .int .i64 0, .bool false, .slice none 0 0, .slice none 0 0]) (t := 36) ?hr ?_; (case hd => rfl); (case hg => rfl); (case hr => first | (go_simp; done) | (go_simp; rfl))
        intro gb321 hg w35 hbox hb
        have n0_ := Aside0.mk (Kd.R_below (rb_ HO297.out) hb)
        have n1_ := Aside0.mk (Kd.R_below (rb_ HO302.out) hb)
        have n2_ := Aside0.mk (Kd.R_below (rb_ HO305.out) hb)
        have n3_ := Aside0.mk (Kd.R_below (rb_ HO312.out) hb)
        have n4_ := Aside0.mk (Kd.R_below (rb_ HO317.out) hb)
        have n5_ := Aside0.mk (Kd.R_below (rb_ HO320.out) hb)
        have n6_ := Aside0.mk (blk_below (g := gb292) (o := .cells #[.slice A0_0 l0_0.length c0_0, .int .i64 a0_1, .bool a0_2, .slice A0_3 l0_3.length c0_3, .slice A0_4 l0_4.length c0_4] 59 (0, 0)) (bk_ BK292.out) hb)
        have n7_ := Aside0.mk (blk_below (g := gb293) (o := .cells #[.int .i64 a1_0, .int .i64 a1_1, .int .i64 a1_2, .int .i64 a1_3] 65 (0, 0)) (bk_ BK293.out) hb)
        have n8_ := Aside0.mk (below_step z3_ hb)
        have n9_ := Aside0.mk (hbox)
        have n10_ := Aside0.mk ((by rw [hg]; exact (below_size z3_) : w.heap.size ≤ gb321))
        have n11_ := Aside0.mk ((by rw [hg]; exact (below_size z3_) : w.heap.size ≤ gb321))
        have n12_ := Aside0.mk ((z6_ : gb292 ≠ gb321))
        have n13_ := Aside0.mk ((z7_ : gb321 ≠ gb292))
        have n14_ := Aside0.mk ((z8_ : gb293 ≠ gb321))
        have n15_ := Aside0.mk ((z9_ : gb321 ≠ gb293))
        clear HO297 HO302 HO305 HO312 HO317 HO320 BK292 BK293 HB
        have HO297 := n0_
        have HO302 := n1_
        have HO305 := n2_
        have HO312 := n3_
        have HO317 := n4_
        have HO320 := n5_
        have BK292 := n6_
        have BK293 := n7_
        have HB := n8_
        have BK321 := n9_
        have GW321 := n10_
        have GE321 := n11_
        have NB292_321 := n12_
        have NB321_292 := n13_
        have NB293_321 := n14_
        have NB321_293 := n15_
        clear n0_ n1_ n2_ n3_ n4_ n5_ n6_ n7_ n8_ n9_ n10_ n11_ n12_ n13_ n14_ n15_ hb hbox hg
        refine hK.out _ _ ⟨(blk_cell BK292.out 0).trans rfl, (blk_cell BK292.out 1).trans rfl, (blk_cell BK292.out 2).trans rfl, (blk_cell BK292.out 3).trans rfl, (blk_cell BK292.out 4).trans rfl, (blk_cell BK293.out 0).trans rfl, (blk_cell BK293.out 1).trans rfl, (blk_cell BK293.out 2).trans rfl, (blk_cell BK293.out 3).trans rfl⟩ (fun hHeld => ?_)
        clear hK K
        refine norm_ (a' := ?_) ?_ ?_
        rotate_left
        ·
         show Act.put _ (some 6) _ = _
         simp only [Act.put, List.setIfInBounds_toArray, List.set_cons_zero, List.set_cons_succ, i64_w, i32_w]
         rfl
        exact norm_ (by simp only [putAll, Act.put, List.setIfInBounds_toArray, List.set_cons_zero, List.set_cons_succ]) (hCont (.slice Ao31 t295.length co31, .slice Ao32 t300.length co32, .slice Ao33 t303.length co33, v311, v316, v319, gb321) _ ⟨hHeld, z53_, z54_, z55_, z56_, z57_, z58_, bk_ BK292.out, bk_ BK293.out, bk_ BK321.out, GW321.out, GE321.out, NB292_321.out, NB321_292.out, NB293_321.out, NB321_293.out, z2_⟩)
       ·
        skip
        refine box_step ?hg (N := 6) ?hd (cs := #[.slice none 0 0, .int .i64 0, .bool false, .slice none 0 0, .slice none 0 0]) (t := 36) ?hr ?_; (case hd => rfl); (case hg => rfl); (case hr => first | (go_simp; done) | (go_simp; rfl))
        intro gb321 hg w31 hbox hb
        have n0_ := Aside0.mk (Kd.R_below (rb_ HO297.out) hb)
        have n1_ := Aside0.mk (Kd.R_below (rb_ HO302.out) hb)
        have n2_ := Aside0.mk (Kd.R_below (rb_ HO305.out) hb)
        have n3_ := Aside0.mk (blk_below (g := gb292) (o := .cells #[.slice A0_0 l0_0.length c0_0, .int .i64 a0_1, .bool a0_2, .slice A0_3 l0_3.length c0_3, .slice A0_4 l0_4.length c0_4] 59 (0, 0)) (bk_ BK292.out) hb)
        have n4_ := Aside0.mk (blk_below (g := gb293) (o := .cells #[.int .i64 a1_0, .int .i64 a1_1, .int .i64 a1_2, .int .i64 a1_3] 65 (0, 0)) (bk_ BK293.out) hb)
        have n5_ := Aside0.mk (below_step z3_ hb)
        have n6_ := Aside0.mk (hbox)
        have n7_ := Aside0.mk ((by rw [hg]; exact (below_size z3_) : w.heap.size ≤ gb321))
        have n8_ := Aside0.mk ((by rw [hg]; exact (below_size z3_) : w.heap.size ≤ gb321))
        have n9_ := Aside0.mk ((z6_ : gb292 ≠ gb321))
        have n10_ := Aside0.mk ((z7_ : gb321 ≠ gb292))
        have n11_ := Aside0.mk ((z8_ : gb293 ≠ gb321))
        have n12_ := Aside0.mk ((z9_ : gb321 ≠ gb293))
        clear HO297 HO302 HO305 BK292 BK293 HB
        have HO297 := n0_
        have HO302 := n1_
        have HO305 := n2_
        have BK292 := n3_
        have BK293 := n4_
        have HB := n5_
        have BK321 := n6_
        have GW321 := n7_
        have GE321 := n8_
        have NB292_321 := n9_
        have NB321_292 := n10_
        have NB293_321 := n11_
        have NB321_293 := n12_
        clear n0_ n1_ n2_ n3_ n4_ n5_ n6_ n7_ n8_ n9_ n10_ n11_ n12_ hb hbox hg
        obtain ⟨Ao32, co32, eo32⟩ := Kd.R_slice HO297.out
        (first | subst eo32 | (injection eo32 with f1_ f2_ f3_; have f4_ := f1_.symm; have f5_ := f3_.symm; clear f1_ f2_ f3_; subst f4_; subst f5_))
        obtain ⟨Ao33, co33, eo33⟩ := Kd.R_slice HO302.out
        (first | subst eo33 | (injection eo33 with f1_ f2_ f3_; have f4_ := f1_.symm; have f5_ := f3_.symm; clear f1_ f2_ f3_; subst f4_; subst f5_))
        obtain ⟨Ao34, co34, eo34⟩ := Kd.R_slice HO305.out
        (first | subst eo34 | (injection eo34 with f1_ f2_ f3_; have f4_ := f1_.symm; have f5_ := f3_.symm; clear f1_ f2_ f3_; subst f4_; subst f5_))
        refine hK.out _ _ ⟨(blk_cell BK292.out 0).trans rfl, (blk_cell BK292.out 1).trans rfl, (blk_cell BK292.out 2).trans rfl, (blk_cell BK292.out 3).trans rfl, (blk_cell BK292.out 4).trans rfl, (blk_cell BK293.out 0).trans rfl, (blk_cell BK293.out 1).trans rfl, (blk_cell BK293.out 2).trans rfl, (blk_cell BK293.out 3).trans rfl⟩ (fun hHeld => ?_)
        clear hK K
        refine norm_ (a' := ?_) ?_ ?_
        rotate_left
        ·
         show Act.put _ (some 6) _ = _
         simp only [Act.put, List.setIfInBounds_toArray, List.set_cons_zero, List.set_cons_succ, i64_w, i32_w]
         rfl
        refine one_ (i := 4) (N := some 22) #[true, true, true, true, true, true, false] rfl rfl (by kernel_rfl) (by decide) (fun K hK => ?_)
        refine goes_ Try.func41 (by kernel_rfl) rfl #[.agg #[.slice Ao32 t295.length co32, .int .i64 t298, .bool t299, .slice Ao33 t300.length co33, .slice Ao34 t303.length co34], .agg #[.int .i64 t306, .int .i64 t307, .int .i64 t308, .int .i64 t309]] (by rfl) rfl rfl z4_ ?_
        with_reducible refine (spec_Push.calls _ _ t295 t298 t299 _ _ t300 _ _ t303 t306 t307 t308 t309 t310 t313 t314 t315 t318 _ ?side1 ?side2 ?side3 ?side4 ?side5 ?side6 A12.out).mono ?_
        (case side1 => repeat (first | exact (Kd.R_reads' HO297.out).2.2 | (with_reducible refine Kd.C_alloc ?_ _) | (with_reducible refine Kd.C_drewN ?_ _) | (with_reducible refine Kd.C_drew ?_)))
        (case side2 => exact (Kd.R_reads' HO297.out).2.1)
        (case side3 => repeat (first | exact (Kd.R_reads' HO302.out).2.2 | (with_reducible refine Kd.C_alloc ?_ _) | (with_reducible refine Kd.C_drewN ?_ _) | (with_reducible refine Kd.C_drew ?_)))
        (case side4 => exact (Kd.R_reads' HO302.out).2.1)
        (case side5 => repeat (first | exact (Kd.R_reads' HO305.out).2.2 | (with_reducible refine Kd.C_alloc ?_ _) | (with_reducible refine Kd.C_drewN ?_ _) | (with_reducible refine Kd.C_drew ?_)))
        (case side6 => exact (Kd.R_reads' HO305.out).2.1)
        rintro e w35 ⟨v311, v316, v319, rfl, ho0, ho1, ho2, hb⟩
        refine ⟨_, rfl, ?_⟩
        have n0_ := Aside0.mk (Kd.R_elder' (rb_ HO297.out) (Kd.R_base ho0) hb)
        have n1_ := Aside0.mk (Kd.R_elder' (rb_ HO302.out) (Kd.R_base ho1) hb)
        have n2_ := Aside0.mk (Kd.R_elder' (rb_ HO305.out) (Kd.R_base ho2) hb)
        have n3_ := Aside0.mk (Kd.R_lower (Kd.R_new' ho0 (Kd.R_lt (rb_ HO297.out))) (below_size z2_))
        have n4_ := Aside0.mk (Kd.R_lower (Kd.R_new' ho1 (Kd.R_lt (rb_ HO302.out))) (below_size z2_))
        have n5_ := Aside0.mk (Kd.R_lower (Kd.R_new' ho2 (Kd.R_lt (rb_ HO305.out))) (below_size z2_))
        have n6_ := Aside0.mk (blk_below (g := gb292) (o := .cells #[.slice A0_0 l0_0.length c0_0, .int .i64 a0_1, .bool a0_2, .slice A0_3 l0_3.length c0_3, .slice A0_4 l0_4.length c0_4] 59 (0, 0)) (bk_ BK292.out) hb)
        have n7_ := Aside0.mk (blk_below (g := gb293) (o := .cells #[.int .i64 a1_0, .int .i64 a1_1, .int .i64 a1_2, .int .i64 a1_3] 65 (0, 0)) (bk_ BK293.out) hb)
        have n8_ := Aside0.mk (blk_below (g := gb321) (o := .cells #[.slice none 0 0, .int .i64 0, .bool false, .slice none 0 0, .slice none 0 0] 36 (0, 0)) (bk_ BK321.out) hb)
        have n9_ := Aside0.mk (below_step z2_ hb)
        clear HO297 HO302 HO305 BK292 BK293 BK321 HB
        have HO297 := n0_
        have HO302 := n1_
        have HO305 := n2_
        have HO312 := n3_
        have HO317 := n4_
        have HO320 := n5_
        have BK292 := n6_
        have BK293 := n7_
        have BK321 := n8_
        have HB := n9_
        clear n0_ n1_ n2_ n3_ n4_ n5_ n6_ n7_ n8_ n9_
        (try clear hb)
        (try clear hb2)
        (try clear hk)
        (try clear hi)
        (try clear ho0)
        (try clear ho1)
        (try clear ho2)
        refine hK.out _ _ ⟨(blk_cell BK292.out 0).trans rfl, (blk_cell BK292.out 1).trans rfl, (blk_cell BK292.out 2).trans rfl, (blk_cell BK292.out 3).trans rfl, (blk_cell BK292.out 4).trans rfl, (blk_cell BK293.out 0).trans rfl, (blk_cell BK293.out 1).trans rfl, (blk_cell BK293.out 2).trans rfl, (blk_cell BK293.out 3).trans rfl⟩ (fun hHeld => ?_)
        clear hK K
        refine norm_ (a' := ?_) ?_ ?_
        rotate_left
        ·
         show Act.put _ (some 22) _ = _
         simp only [Act.put, List.setIfInBounds_toArray, List.set_cons_zero, List.set_cons_succ, i64_w, i32_w]
         rfl
        exact norm_ (by simp only [putAll, Act.put, List.setIfInBounds_toArray, List.set_cons_zero, List.set_cons_succ]) (hCont (.slice Ao32 t295.length co32, .slice Ao33 t300.length co33, .slice Ao34 t303.length co34, v311, v316, v319, gb321) _ ⟨hHeld, z53_, z54_, z55_, z56_, z57_, z58_, bk_ BK292.out, bk_ BK293.out, bk_ BK321.out, GW321.out, GE321.out, NB292_321.out, NB321_292.out, NB293_321.out, NB321_293.out, z2_⟩)
      ·
       skip
       refine box_step ?hg (N := 6) ?hd (cs := #[.slice none 0 0, .int .i64 0, .bool false, .slice none 0 0, .slice none 0 0]) (t := 36) ?hr ?_; (case hd => rfl); (case hg => rfl); (case hr => first | (go_simp; done) | (go_simp; rfl))
       intro gb321 hg w30 hbox hb
       have n0_ := Aside0.mk (Kd.R_below (rb_ HO297.out) hb)
       have n1_ := Aside0.mk (Kd.R_below (rb_ HO302.out) hb)
       have n2_ := Aside0.mk (Kd.R_below (rb_ HO305.out) hb)
       have n3_ := Aside0.mk (blk_below (g := gb292) (o := .cells #[.slice A0_0 l0_0.length c0_0, .int .i64 a0_1, .bool a0_2, .slice A0_3 l0_3.length c0_3, .slice A0_4 l0_4.length c0_4] 59 (0, 0)) (bk_ BK292.out) hb)
       have n4_ := Aside0.mk (blk_below (g := gb293) (o := .cells #[.int .i64 a1_0, .int .i64 a1_1, .int .i64 a1_2, .int .i64 a1_3] 65 (0, 0)) (bk_ BK293.out) hb)
       have n5_ := Aside0.mk (below_step z3_ hb)
       have n6_ := Aside0.mk (hbox)
       have n7_ := Aside0.mk ((by rw [hg]; exact (below_size z3_) : w.heap.size ≤ gb321))
       have n8_ := Aside0.mk ((by rw [hg]; exact (below_size z3_) : w.heap.size ≤ gb321))
       have n9_ := Aside0.mk ((z6_ : gb292 ≠ gb321))
       have n10_ := Aside0.mk ((z7_ : gb321 ≠ gb292))
       have n11_ := Aside0.mk ((z8_ : gb293 ≠ gb321))
       have n12_ := Aside0.mk ((z9_ : gb321 ≠ gb293))
       clear HO297 HO302 HO305 BK292 BK293 HB
       have HO297 := n0_
       have HO302 := n1_
       have HO305 := n2_
       have BK292 := n3_
       have BK293 := n4_
       have HB := n5_
       have BK321 := n6_
       have GW321 := n7_
       have GE321 := n8_
       have NB292_321 := n9_
       have NB321_292 := n10_
       have NB293_321 := n11_
       have NB321_293 := n12_
       clear n0_ n1_ n2_ n3_ n4_ n5_ n6_ n7_ n8_ n9_ n10_ n11_ n12_ hb hbox hg
       refine hK.out _ _ ⟨(blk_cell BK292.out 0).trans rfl, (blk_cell BK292.out 1).trans rfl, (blk_cell BK292.out 2).trans rfl, (blk_cell BK292.out 3).trans rfl, (blk_cell BK292.out 4).trans rfl, (blk_cell BK293.out 0).trans rfl, (blk_cell BK293.out 1).trans rfl, (blk_cell BK293.out 2).trans rfl, (blk_cell BK293.out 3).trans rfl⟩ (fun hHeld => ?_)
       clear hK K
       refine norm_ (a' := ?_) ?_ ?_
       rotate_left
       ·
        show Act.put _ (some 6) _ = _
        simp only [Act.put, List.setIfInBounds_toArray, List.set_cons_zero, List.set_cons_succ, i64_w, i32_w]
        rfl
       refine one_ (i := 3) (N := some 21) #[true, true, true, true, false, true, false] rfl rfl (by kernel_rfl) (by decide) (fun K hK => ?_)
       refine goes_ Try.func42 (by kernel_rfl) rfl #[.agg #[.int .i64 a1_0, .int .i64 a1_1, .int .i64 a1_2, .int .i64 a1_3]] (by rfl) rfl rfl z4_ ?_
       with_reducible refine (laws_toHelp.calls a1_0 a1_1 a1_2 a1_3 t306 t307 t308 t309 _ A11.out).mono ?_
       rintro e w31 ⟨rfl, hb⟩
       refine ⟨_, rfl, ?_⟩
       have n0_ := Aside0.mk (Kd.R_below (rb_ HO297.out) hb)
       have n1_ := Aside0.mk (Kd.R_below (rb_ HO302.out) hb)
       have n2_ := Aside0.mk (Kd.R_below (rb_ HO305.out) hb)
       have n3_ := Aside0.mk (blk_below (g := gb292) (o := .cells #[.slice A0_0 l0_0.length c0_0, .int .i64 a0_1, .bool a0_2, .slice A0_3 l0_3.length c0_3, .slice A0_4 l0_4.length c0_4] 59 (0, 0)) (bk_ BK292.out) hb)
       have n4_ := Aside0.mk (blk_below (g := gb293) (o := .cells #[.int .i64 a1_0, .int .i64 a1_1, .int .i64 a1_2, .int .i64 a1_3] 65 (0, 0)) (bk_ BK293.out) hb)
       have n5_ := Aside0.mk (blk_below (g := gb321) (o := .cells #[.slice none 0 0, .int .i64 0, .bool false, .slice none 0 0, .slice none 0 0] 36 (0, 0)) (bk_ BK321.out) hb)
       have n6_ := Aside0.mk (below_step z2_ hb)
       clear HO297 HO302 HO305 BK292 BK293 BK321 HB
       have HO297 := n0_
       have HO302 := n1_
       have HO305 := n2_
       have BK292 := n3_
       have BK293 := n4_
       have BK321 := n5_
       have HB := n6_
       clear n0_ n1_ n2_ n3_ n4_ n5_ n6_
       (try clear hb)
       (try clear hb2)
       (try clear hk)
       (try clear hi)
       obtain ⟨Ao32, co32, eo32⟩ := Kd.R_slice HO297.out
       (first | subst eo32 | (injection eo32 with f1_ f2_ f3_; have f4_ := f1_.symm; have f5_ := f3_.symm; clear f1_ f2_ f3_; subst f4_; subst f5_))
       obtain ⟨Ao33, co33, eo33⟩ := Kd.R_slice HO302.out
       (first | subst eo33 | (injection eo33 with f1_ f2_ f3_; have f4_ := f1_.symm; have f5_ := f3_.symm; clear f1_ f2_ f3_; subst f4_; subst f5_))
       obtain ⟨Ao34, co34, eo34⟩ := Kd.R_slice HO305.out
       (first | subst eo34 | (injection eo34 with f1_ f2_ f3_; have f4_ := f1_.symm; have f5_ := f3_.symm; clear f1_ f2_ f3_; subst f4_; subst f5_))
       refine hK.out _ _ ⟨(blk_cell BK292.out 0).trans rfl, (blk_cell BK292.out 1).trans rfl, (blk_cell BK292.out 2).trans rfl, (blk_cell BK292.out 3).trans rfl, (blk_cell BK292.out 4).trans rfl, (blk_cell BK293.out 0).trans rfl, (blk_cell BK293.out 1).trans rfl, (blk_cell BK293.out 2).trans rfl, (blk_cell BK293.out 3).trans rfl⟩ (fun hHeld => ?_)
       clear hK K
       refine norm_ (a' := ?_) ?_ ?_
       rotate_left
       ·
        show Act.put _ (some 21) _ = _
        simp only [Act.put, List.setIfInBounds_toArray, List.set_cons_zero, List.set_cons_succ, i64_w, i32_w]
        rfl
       refine one_ (i := 4) (N := some 22) #[true, true, true, true, true, true, false] rfl rfl (by kernel_rfl) (by decide) (fun K hK => ?_)
       refine goes_ Try.func41 (by kernel_rfl) rfl #[.agg #[.slice Ao32 t295.length co32, .int .i64 t298, .bool t299, .slice Ao33 t300.length co33, .slice Ao34 t303.length co34], .agg #[.int .i64 t306, .int .i64 t307, .int .i64 t308, .int .i64 t309]] (by rfl) rfl rfl z4_ ?_
       with_reducible refine (spec_Push.calls _ _ t295 t298 t299 _ _ t300 _ _ t303 t306 t307 t308 t309 t310 t313 t314 t315 t318 _ ?side1 ?side2 ?side3 ?side4 ?side5 ?side6 A12.out).mono ?_
       (case side1 => repeat (first | exact (Kd.R_reads' HO297.out).2.2 | (with_reducible refine Kd.C_alloc ?_ _) | (with_reducible refine Kd.C_drewN ?_ _) | (with_reducible refine Kd.C_drew ?_)))
       (case side2 => exact (Kd.R_reads' HO297.out).2.1)
       (case side3 => repeat (first | exact (Kd.R_reads' HO302.out).2.2 | (with_reducible refine Kd.C_alloc ?_ _) | (with_reducible refine Kd.C_drewN ?_ _) | (with_reducible refine Kd.C_drew ?_)))
       (case side4 => exact (Kd.R_reads' HO302.out).2.1)
       (case side5 => repeat (first | exact (Kd.R_reads' HO305.out).2.2 | (with_reducible refine Kd.C_alloc ?_ _) | (with_reducible refine Kd.C_drewN ?_ _) | (with_reducible refine Kd.C_drew ?_)))
       (case side6 => exact (Kd.R_reads' HO305.out).2.1)
       rintro e w35 ⟨v311, v316, v319, rfl, ho0, ho1, ho2, hb⟩
       refine ⟨_, rfl, ?_⟩
       have n0_ := Aside0.mk (Kd.R_elder' (rb_ HO297.out) (Kd.R_base ho0) hb)
       have n1_ := Aside0.mk (Kd.R_elder' (rb_ HO302.out) (Kd.R_base ho1) hb)
       have n2_ := Aside0.mk (Kd.R_elder' (rb_ HO305.out) (Kd.R_base ho2) hb)
       have n3_ := Aside0.mk (Kd.R_lower (Kd.R_new' ho0 (Kd.R_lt (rb_ HO297.out))) (below_size z2_))
       have n4_ := Aside0.mk (Kd.R_lower (Kd.R_new' ho1 (Kd.R_lt (rb_ HO302.out))) (below_size z2_))
       have n5_ := Aside0.mk (Kd.R_lower (Kd.R_new' ho2 (Kd.R_lt (rb_ HO305.out))) (below_size z2_))
       have n6_ := Aside0.mk (blk_below (g := gb292) (o := .cells #[.slice A0_0 l0_0.length c0_0, .int .i64 a0_1, .bool a0_2, .slice A0_3 l0_3.length c0_3, .slice A0_4 l0_4.length c0_4] 59 (0, 0)) (bk_ BK292.out) hb)
       have n7_ := Aside0.mk (blk_below (g := gb293) (o := .cells #[.int .i64 a1_0, .int .i64 a1_1, .int .i64 a1_2, .int .i64 a1_3] 65 (0, 0)) (bk_ BK293.out) hb)
       have n8_ := Aside0.mk (blk_below (g := gb321) (o := .cells #[.slice none 0 0, .int .i64 0, .bool false, .slice none 0 0, .slice none 0 0] 36 (0, 0)) (bk_ BK321.out) hb)
       have n9_ := Aside0.mk (below_step z2_ hb)
       clear HO297 HO302 HO305 BK292 BK293 BK321 HB
       have HO297 := n0_
       have HO302 := n1_
       have HO305 := n2_
       have HO312 := n3_
       have HO317 := n4_
       have HO320 := n5_
       have BK292 := n6_
       have BK293 := n7_
       have BK321 := n8_
       have HB := n9_
       clear n0_ n1_ n2_ n3_ n4_ n5_ n6_ n7_ n8_ n9_
       (try clear hb)
       (try clear hb2)
       (try clear hk)
       (try clear hi)
       (try clear ho0)
       (try clear ho1)
       (try clear ho2)
       refine hK.out _ _ ⟨(blk_cell BK292.out 0).trans rfl, (blk_cell BK292.out 1).trans rfl, (blk_cell BK292.out 2).trans rfl, (blk_cell BK292.out 3).trans rfl, (blk_cell BK292.out 4).trans rfl, (blk_cell BK293.out 0).trans rfl, (blk_cell BK293.out 1).trans rfl, (blk_cell BK293.out 2).trans rfl, (blk_cell BK293.out 3).trans rfl⟩ (fun hHeld => ?_)
       clear hK K
       refine norm_ (a' := ?_) ?_ ?_
       rotate_left
       ·
        show Act.put _ (some 22) _ = _
        simp only [Act.put, List.setIfInBounds_toArray, List.set_cons_zero, List.set_cons_succ, i64_w, i32_w]
        rfl
       exact norm_ (by simp only [putAll, Act.put, List.setIfInBounds_toArray, List.set_cons_zero, List.set_cons_succ]) (hCont (.slice Ao32 t295.length co32, .slice Ao33 t300.length co33, .slice Ao34 t303.length co34, v311, v316, v319, gb321) _ ⟨hHeld, z53_, z54_, z55_, z56_, z57_, z58_, bk_ BK292.out, bk_ BK293.out, bk_ BK321.out, GW321.out, GE321.out, NB292_321.out, NB321_292.out, NB293_321.out, NB321_293.out, z2_⟩)
     ·
      skip
      refine box_step ?hg (N := 6) ?hd (cs := #[.slice none 0 0, .int .i64 0, .bool false, .slice none 0 0, .slice none 0 0]) (t := 36) ?hr ?_; (case hd => rfl); (case hg => rfl); (case hr => first | (go_simp; done) | (go_simp; rfl))
      intro gb321 hg w29 hbox hb
      have n0_ := Aside0.mk (blk_below (g := gb292) (o := .cells #[.slice A0_0 l0_0.length c0_0, .int .i64 a0_1, .bool a0_2, .slice A0_3 l0_3.length c0_3, .slice A0_4 l0_4.length c0_4] 59 (0, 0)) (bk_ BK292.out) hb)
      have n1_ := Aside0.mk (blk_below (g := gb293) (o := .cells #[.int .i64 a1_0, .int .i64 a1_1, .int .i64 a1_2, .int .i64 a1_3] 65 (0, 0)) (bk_ BK293.out) hb)
      have n2_ := Aside0.mk (below_step z3_ hb)
      have n3_ := Aside0.mk (hbox)
      have n4_ := Aside0.mk ((by rw [hg]; exact (below_size z3_) : w.heap.size ≤ gb321))
      have n5_ := Aside0.mk ((by rw [hg]; exact (below_size z3_) : w.heap.size ≤ gb321))
      have n6_ := Aside0.mk ((z6_ : gb292 ≠ gb321))
      have n7_ := Aside0.mk ((z7_ : gb321 ≠ gb292))
      have n8_ := Aside0.mk ((z8_ : gb293 ≠ gb321))
      have n9_ := Aside0.mk ((z9_ : gb321 ≠ gb293))
      clear BK292 BK293 HB
      have BK292 := n0_
      have BK293 := n1_
      have HB := n2_
      have BK321 := n3_
      have GW321 := n4_
      have GE321 := n5_
      have NB292_321 := n6_
      have NB321_292 := n7_
      have NB293_321 := n8_
      have NB321_293 := n9_
      clear n0_ n1_ n2_ n3_ n4_ n5_ n6_ n7_ n8_ n9_ hb hbox hg
      refine hK.out _ _ ⟨(blk_cell BK292.out 0).trans rfl, (blk_cell BK292.out 1).trans rfl, (blk_cell BK292.out 2).trans rfl, (blk_cell BK292.out 3).trans rfl, (blk_cell BK292.out 4).trans rfl, (blk_cell BK293.out 0).trans rfl, (blk_cell BK293.out 1).trans rfl, (blk_cell BK293.out 2).trans rfl, (blk_cell BK293.out 3).trans rfl⟩ (fun hHeld => ?_)
      clear hK K
      refine norm_ (a' := ?_) ?_ ?_
      rotate_left
      ·
       show Act.put _ (some 6) _ = _
       simp only [Act.put, List.setIfInBounds_toArray, List.set_cons_zero, List.set_cons_succ, i64_w, i32_w]
       rfl
      refine one_ (i := 1) (N := some 19) #[true, true, true, false, false, true, false] rfl rfl (by kernel_rfl) (by decide) (fun K hK => ?_)
      refine goes_ Try.func39 (by kernel_rfl) rfl #[.agg #[.slice A0_0 l0_0.length c0_0, .int .i64 a0_1, .bool a0_2, .slice A0_3 l0_3.length c0_3, .slice A0_4 l0_4.length c0_4]] (by rfl) rfl rfl z4_ ?_
      with_reducible refine (laws_toThread.calls k _ _ l0_0 a0_1 a0_2 _ _ l0_3 _ _ l0_4 t295 t298 t299 t300 t303 _ ?side1 ?side2 ?side3 ?side4 ?side5 ?side6 A10.out).mono ?_
      (case side1 => exact cb_ (Kd.C_below HR0_0.out HB.out))
      (case side2 => exact HC0_0.out)
      (case side3 => exact cb_ (Kd.C_below HR0_3.out HB.out))
      (case side4 => exact HC0_3.out)
      (case side5 => exact cb_ (Kd.C_below HR0_4.out HB.out))
      (case side6 => exact HC0_4.out)
      rintro e w30 ⟨v296, v301, v304, rfl, ho0, ho1, ho2, hb⟩
      refine ⟨_, rfl, ?_⟩
      have n0_ := Aside0.mk (Kd.R_lower ho0 (below_size z2_))
      have n1_ := Aside0.mk (Kd.R_lower ho1 (below_size z2_))
      have n2_ := Aside0.mk (Kd.R_lower ho2 (below_size z2_))
      have n3_ := Aside0.mk (blk_below (g := gb292) (o := .cells #[.slice A0_0 l0_0.length c0_0, .int .i64 a0_1, .bool a0_2, .slice A0_3 l0_3.length c0_3, .slice A0_4 l0_4.length c0_4] 59 (0, 0)) (bk_ BK292.out) hb)
      have n4_ := Aside0.mk (blk_below (g := gb293) (o := .cells #[.int .i64 a1_0, .int .i64 a1_1, .int .i64 a1_2, .int .i64 a1_3] 65 (0, 0)) (bk_ BK293.out) hb)
      have n5_ := Aside0.mk (blk_below (g := gb321) (o := .cells #[.slice none 0 0, .int .i64 0, .bool false, .slice none 0 0, .slice none 0 0] 36 (0, 0)) (bk_ BK321.out) hb)
      have n6_ := Aside0.mk (below_step z2_ hb)
      clear BK292 BK293 BK321 HB
      have HO297 := n0_
      have HO302 := n1_
      have HO305 := n2_
      have BK292 := n3_
      have BK293 := n4_
      have BK321 := n5_
      have HB := n6_
      clear n0_ n1_ n2_ n3_ n4_ n5_ n6_
      (try clear hb)
      (try clear hb2)
      (try clear hk)
      (try clear hi)
      (try clear ho0)
      (try clear ho1)
      (try clear ho2)
      refine hK.out _ _ ⟨(blk_cell BK292.out 0).trans rfl, (blk_cell BK292.out 1).trans rfl, (blk_cell BK292.out 2).trans rfl, (blk_cell BK292.out 3).trans rfl, (blk_cell BK292.out 4).trans rfl, (blk_cell BK293.out 0).trans rfl, (blk_cell BK293.out 1).trans rfl, (blk_cell BK293.out 2).trans rfl, (blk_cell BK293.out 3).trans rfl⟩ (fun hHeld => ?_)
      clear hK K
      refine norm_ (a' := ?_) ?_ ?_
      rotate_left
      ·
       show Act.put _ (some 19) _ = _
       simp only [Act.put, List.setIfInBounds_toArray, List.set_cons_zero, List.set_cons_succ, i64_w, i32_w]
       rfl
      refine one_ (i := 3) (N := some 21) #[true, true, true, true, false, true, false] rfl rfl (by kernel_rfl) (by decide) (fun K hK => ?_)
      refine goes_ Try.func42 (by kernel_rfl) rfl #[.agg #[.int .i64 a1_0, .int .i64 a1_1, .int .i64 a1_2, .int .i64 a1_3]] (by rfl) rfl rfl z4_ ?_
      with_reducible refine (laws_toHelp.calls a1_0 a1_1 a1_2 a1_3 t306 t307 t308 t309 _ A11.out).mono ?_
      rintro e w31 ⟨rfl, hb⟩
      refine ⟨_, rfl, ?_⟩
      have n0_ := Aside0.mk (Kd.R_below (rb_ HO297.out) hb)
      have n1_ := Aside0.mk (Kd.R_below (rb_ HO302.out) hb)
      have n2_ := Aside0.mk (Kd.R_below (rb_ HO305.out) hb)
      have n3_ := Aside0.mk (blk_below (g := gb292) (o := .cells #[.slice A0_0 l0_0.length c0_0, .int .i64 a0_1, .bool a0_2, .slice A0_3 l0_3.length c0_3, .slice A0_4 l0_4.length c0_4] 59 (0, 0)) (bk_ BK292.out) hb)
      have n4_ := Aside0.mk (blk_below (g := gb293) (o := .cells #[.int .i64 a1_0, .int .i64 a1_1, .int .i64 a1_2, .int .i64 a1_3] 65 (0, 0)) (bk_ BK293.out) hb)
      have n5_ := Aside0.mk (blk_below (g := gb321) (o := .cells #[.slice none 0 0, .int .i64 0, .bool false, .slice none 0 0, .slice none 0 0] 36 (0, 0)) (bk_ BK321.out) hb)
      have n6_ := Aside0.mk (below_step z2_ hb)
      clear HO297 HO302 HO305 BK292 BK293 BK321 HB
      have HO297 := n0_
      have HO302 := n1_
      have HO305 := n2_
      have BK292 := n3_
      have BK293 := n4_
      have BK321 := n5_
      have HB := n6_
      clear n0_ n1_ n2_ n3_ n4_ n5_ n6_
      (try clear hb)
      (try clear hb2)
      (try clear hk)
      (try clear hi)
      obtain ⟨Ao32, co32, eo32⟩ := Kd.R_slice HO297.out
      (first | subst eo32 | (injection eo32 with f1_ f2_ f3_; have f4_ := f1_.symm; have f5_ := f3_.symm; clear f1_ f2_ f3_; subst f4_; subst f5_))
      obtain ⟨Ao33, co33, eo33⟩ := Kd.R_slice HO302.out
      (first | subst eo33 | (injection eo33 with f1_ f2_ f3_; have f4_ := f1_.symm; have f5_ := f3_.symm; clear f1_ f2_ f3_; subst f4_; subst f5_))
      obtain ⟨Ao34, co34, eo34⟩ := Kd.R_slice HO305.out
      (first | subst eo34 | (injection eo34 with f1_ f2_ f3_; have f4_ := f1_.symm; have f5_ := f3_.symm; clear f1_ f2_ f3_; subst f4_; subst f5_))
      refine hK.out _ _ ⟨(blk_cell BK292.out 0).trans rfl, (blk_cell BK292.out 1).trans rfl, (blk_cell BK292.out 2).trans rfl, (blk_cell BK292.out 3).trans rfl, (blk_cell BK292.out 4).trans rfl, (blk_cell BK293.out 0).trans rfl, (blk_cell BK293.out 1).trans rfl, (blk_cell BK293.out 2).trans rfl, (blk_cell BK293.out 3).trans rfl⟩ (fun hHeld => ?_)
      clear hK K
      refine norm_ (a' := ?_) ?_ ?_
      rotate_left
      ·
       show Act.put _ (some 21) _ = _
       simp only [Act.put, List.setIfInBounds_toArray, List.set_cons_zero, List.set_cons_succ, i64_w, i32_w]
       rfl
      refine one_ (i := 4) (N := some 22) #[true, true, true, true, true, true, false] rfl rfl (by kernel_rfl) (by decide) (fun K hK => ?_)
      refine goes_ Try.func41 (by kernel_rfl) rfl #[.agg #[.slice Ao32 t295.length co32, .int .i64 t298, .bool t299, .slice Ao33 t300.length co33, .slice Ao34 t303.length co34], .agg #[.int .i64 t306, .int .i64 t307, .int .i64 t308, .int .i64 t309]] (by rfl) rfl rfl z4_ ?_
      with_reducible refine (spec_Push.calls _ _ t295 t298 t299 _ _ t300 _ _ t303 t306 t307 t308 t309 t310 t313 t314 t315 t318 _ ?side1 ?side2 ?side3 ?side4 ?side5 ?side6 A12.out).mono ?_
      (case side1 => repeat (first | exact (Kd.R_reads' HO297.out).2.2 | (with_reducible refine Kd.C_alloc ?_ _) | (with_reducible refine Kd.C_drewN ?_ _) | (with_reducible refine Kd.C_drew ?_)))
      (case side2 => exact (Kd.R_reads' HO297.out).2.1)
      (case side3 => repeat (first | exact (Kd.R_reads' HO302.out).2.2 | (with_reducible refine Kd.C_alloc ?_ _) | (with_reducible refine Kd.C_drewN ?_ _) | (with_reducible refine Kd.C_drew ?_)))
      (case side4 => exact (Kd.R_reads' HO302.out).2.1)
      (case side5 => repeat (first | exact (Kd.R_reads' HO305.out).2.2 | (with_reducible refine Kd.C_alloc ?_ _) | (with_reducible refine Kd.C_drewN ?_ _) | (with_reducible refine Kd.C_drew ?_)))
      (case side6 => exact (Kd.R_reads' HO305.out).2.1)
      rintro e w35 ⟨v311, v316, v319, rfl, ho0, ho1, ho2, hb⟩
      refine ⟨_, rfl, ?_⟩
      have n0_ := Aside0.mk (Kd.R_elder' (rb_ HO297.out) (Kd.R_base ho0) hb)
      have n1_ := Aside0.mk (Kd.R_elder' (rb_ HO302.out) (Kd.R_base ho1) hb)
      have n2_ := Aside0.mk (Kd.R_elder' (rb_ HO305.out) (Kd.R_base ho2) hb)
      have n3_ := Aside0.mk (Kd.R_lower (Kd.R_new' ho0 (Kd.R_lt (rb_ HO297.out))) (below_size z2_))
      have n4_ := Aside0.mk (Kd.R_lower (Kd.R_new' ho1 (Kd.R_lt (rb_ HO302.out))) (below_size z2_))
      have n5_ := Aside0.mk (Kd.R_lower (Kd.R_new' ho2 (Kd.R_lt (rb_ HO305.out))) (below_size z2_))
      have n6_ := Aside0.mk (blk_below (g := gb292) (o := .cells #[.slice A0_0 l0_0.length c0_0, .int .i64 a0_1, .bool a0_2, .slice A0_3 l0_3.length c0_3, .slice A0_4 l0_4.length c0_4] 59 (0, 0)) (bk_ BK292.out) hb)
      have n7_ := Aside0.mk (blk_below (g := gb293) (o := .cells #[.int .i64 a1_0, .int .i64 a1_1, .int .i64 a1_2, .int .i64 a1_3] 65 (0, 0)) (bk_ BK293.out) hb)
      have n8_ := Aside0.mk (blk_below (g := gb321) (o := .cells #[.slice none 0 0, .int .i64 0, .bool false, .slice none 0 0, .slice none 0 0] 36 (0, 0)) (bk_ BK321.out) hb)
      have n9_ := Aside0.mk (below_step z2_ hb)
      clear HO297 HO302 HO305 BK292 BK293 BK321 HB
      have HO297 := n0_
      have HO302 := n1_
      have HO305 := n2_
      have HO312 := n3_
      have HO317 := n4_
      have HO320 := n5_
      have BK292 := n6_
      have BK293 := n7_
      have BK321 := n8_
      have HB := n9_
      clear n0_ n1_ n2_ n3_ n4_ n5_ n6_ n7_ n8_ n9_
      (try clear hb)
      (try clear hb2)
      (try clear hk)
      (try clear hi)
      (try clear ho0)
      (try clear ho1)
      (try clear ho2)
      refine hK.out _ _ ⟨(blk_cell BK292.out 0).trans rfl, (blk_cell BK292.out 1).trans rfl, (blk_cell BK292.out 2).trans rfl, (blk_cell BK292.out 3).trans rfl, (blk_cell BK292.out 4).trans rfl, (blk_cell BK293.out 0).trans rfl, (blk_cell BK293.out 1).trans rfl, (blk_cell BK293.out 2).trans rfl, (blk_cell BK293.out 3).trans rfl⟩ (fun hHeld => ?_)
      clear hK K
      refine norm_ (a' := ?_) ?_ ?_
      rotate_left
      ·
       show Act.put _ (some 22) _ = _
       simp only [Act.put, List.setIfInBounds_toArray, List.set_cons_zero, List.set_cons_succ, i64_w, i32_w]
       rfl
      exact norm_ (by simp only [putAll, Act.put, List.setIfInBounds_toArray, List.set_cons_zero, List.set_cons_succ]) (hCont (.slice Ao32 t295.length co32, .slice Ao33 t300.length co33, .slice Ao34 t303.length co34, v311, v316, v319, gb321) _ ⟨hHeld, z53_, z54_, z55_, z56_, z57_, z58_, bk_ BK292.out, bk_ BK293.out, bk_ BK321.out, GW321.out, GE321.out, NB292_321.out, NB321_292.out, NB293_321.out, NB321_293.out, z2_⟩)
    rintro ⟨v296, v301, v304, v311, v316, v319, gb321⟩ w36 ⟨hS_, h0_, h1_, h2_, h3_, h4_, h5_, h6_, h7_, h8_, h9_, h10_, h11_, h12_, h13_, h14_, h15_⟩
    have n0_ : Aside0 (Kd.R k88 88 w36 w.heap.size (fun k_ => some k_ ≠ (v311 : Value).ownBlock) v296 t295) := ⟨h0_⟩
    have n1_ : Aside0 (Kd.R k136 136 w36 w.heap.size (fun k_ => some k_ ≠ (v316 : Value).ownBlock) v301 t300) := ⟨h1_⟩
    have n2_ : Aside0 (Kd.R k67 67 w36 w.heap.size (fun k_ => some k_ ≠ (v319 : Value).ownBlock) v304 t303) := ⟨h2_⟩
    have n3_ : Aside0 (Kd.R k88 88 w36 w.heap.size (fun k_ => some k_ ≠ (v296 : Value).ownBlock) v311 t310) := ⟨h3_⟩
    have n4_ : Aside0 (Kd.R k136 136 w36 w.heap.size (fun k_ => some k_ ≠ (v301 : Value).ownBlock) v316 t315) := ⟨h4_⟩
    have n5_ : Aside0 (Kd.R k67 67 w36 w.heap.size (fun k_ => some k_ ≠ (v304 : Value).ownBlock) v319 t318) := ⟨h5_⟩
    have n6_ : Aside0 (w36.heap[gb292]? = some (.cells #[.slice A0_0 l0_0.length c0_0, .int .i64 a0_1, .bool a0_2, .slice A0_3 l0_3.length c0_3, .slice A0_4 l0_4.length c0_4] 59 (0, 0))) := ⟨h6_⟩
    have n7_ : Aside0 (w36.heap[gb293]? = some (.cells #[.int .i64 a1_0, .int .i64 a1_1, .int .i64 a1_2, .int .i64 a1_3] 65 (0, 0))) := ⟨h7_⟩
    have n8_ : Aside0 (w36.heap[gb321]? = some (.cells #[.slice none 0 0, .int .i64 0, .bool false, .slice none 0 0, .slice none 0 0] 36 (0, 0))) := ⟨h8_⟩
    have n9_ : Aside0 (w.heap.size ≤ gb321) := ⟨h9_⟩
    have n10_ : Aside0 (w.heap.size ≤ gb321) := ⟨h10_⟩
    have n11_ : Aside0 (gb292 ≠ gb321) := ⟨h11_⟩
    have n12_ : Aside0 (gb321 ≠ gb292) := ⟨h12_⟩
    have n13_ : Aside0 (gb293 ≠ gb321) := ⟨h13_⟩
    have n14_ : Aside0 (gb321 ≠ gb293) := ⟨h14_⟩
    have n15_ : Aside0 (Below w.heap.size w w36) := ⟨h15_⟩
    clear BK292 BK293 HB h0_ h1_ h2_ h3_ h4_ h5_ h6_ h7_ h8_ h9_ h10_ h11_ h12_ h13_ h14_ h15_
    have HO297 := n0_
    have HO302 := n1_
    have HO305 := n2_
    have HO312 := n3_
    have HO317 := n4_
    have HO320 := n5_
    have BK292 := n6_
    have BK293 := n7_
    have BK321 := n8_
    have GW321 := n9_
    have GE321 := n10_
    have NB292_321 := n11_
    have NB321_292 := n12_
    have NB293_321 := n13_
    have NB321_293 := n14_
    have HB := n15_
    clear n0_ n1_ n2_ n3_ n4_ n5_ n6_ n7_ n8_ n9_ n10_ n11_ n12_ n13_ n14_ n15_
    have hHeld : w36.cell? ⟨gb292, 0, none⟩ = some (.slice A0_0 l0_0.length c0_0) ∧ w36.cell? ⟨gb292, 1, none⟩ = some (.int .i64 a0_1) ∧ w36.cell? ⟨gb292, 2, none⟩ = some (.bool a0_2) ∧ w36.cell? ⟨gb292, 3, none⟩ = some (.slice A0_3 l0_3.length c0_3) ∧ w36.cell? ⟨gb292, 4, none⟩ = some (.slice A0_4 l0_4.length c0_4) ∧ w36.cell? ⟨gb293, 0, none⟩ = some (.int .i64 a1_0) ∧ w36.cell? ⟨gb293, 1, none⟩ = some (.int .i64 a1_1) ∧ w36.cell? ⟨gb293, 2, none⟩ = some (.int .i64 a1_2) ∧ w36.cell? ⟨gb293, 3, none⟩ = some (.int .i64 a1_3) := hS_
    obtain ⟨Ao37, co37, eo37⟩ := Kd.R_slice HO312.out
    (first | subst eo37 | (injection eo37 with f1_ f2_ f3_; have f4_ := f1_.symm; have f5_ := f3_.symm; clear f1_ f2_ f3_; subst f4_; subst f5_))
    obtain ⟨Ao41, co41, eo41⟩ := Kd.R_slice HO317.out
    (first | subst eo41 | (injection eo41 with f1_ f2_ f3_; have f4_ := f1_.symm; have f5_ := f3_.symm; clear f1_ f2_ f3_; subst f4_; subst f5_))
    obtain ⟨Ao43, co43, eo43⟩ := Kd.R_slice HO320.out
    (first | subst eo43 | (injection eo43 with f1_ f2_ f3_; have f4_ := f1_.symm; have f5_ := f3_.symm; clear f1_ f2_ f3_; subst f4_; subst f5_))
    refine norm_ (a' := ?_) ?_ ?_
    rotate_left
    ·
     simp only [putAll, Act.put, List.setIfInBounds_toArray, List.set_cons_zero, List.set_cons_succ]
     rfl
    refine one_ (i := 6) (N := none) #[true, true, true, true, true, true, true] rfl rfl (by kernel_rfl) (by decide) (fun K hK => ?_)
    have hs38 : w36.cell? ⟨gb321, 0, none⟩ = some (.slice none 0 0) := (blk_cell BK321.out 0).trans rfl
    have hfs38 := blk_frozen BK321.out 0
    have hns38_0 := NB292_321.out
    have hns38_1 := NB293_321.out
    have hms38_0 := NB321_292.out
    have hms38_1 := NB321_293.out
    have hs39 : w36.cell? ⟨gb321, 1, none⟩ = some (.int .i64 0) := (blk_cell BK321.out 1).trans rfl
    have hfs39 := blk_frozen BK321.out 1
    have hns39_0 := NB292_321.out
    have hns39_1 := NB293_321.out
    have hms39_0 := NB321_292.out
    have hms39_1 := NB321_293.out
    have hs40 : w36.cell? ⟨gb321, 2, none⟩ = some (.bool false) := (blk_cell BK321.out 2).trans rfl
    have hfs40 := blk_frozen BK321.out 2
    have hns40_0 := NB292_321.out
    have hns40_1 := NB293_321.out
    have hms40_0 := NB321_292.out
    have hms40_1 := NB321_293.out
    have hs42 : w36.cell? ⟨gb321, 3, none⟩ = some (.slice none 0 0) := (blk_cell BK321.out 3).trans rfl
    have hfs42 := blk_frozen BK321.out 3
    have hns42_0 := NB292_321.out
    have hns42_1 := NB293_321.out
    have hms42_0 := NB321_292.out
    have hms42_1 := NB321_293.out
    have hs44 : w36.cell? ⟨gb321, 4, none⟩ = some (.slice none 0 0) := (blk_cell BK321.out 4).trans rfl
    have hfs44 := blk_frozen BK321.out 4
    have hns44_0 := NB292_321.out
    have hns44_1 := NB293_321.out
    have hms44_0 := NB321_292.out
    have hms44_1 := NB321_293.out
    refine skip_ (w1 := ?_) (by rfl) rfl ?_ ?_
    rotate_left
    ·
     go_simp
     rfl
    refine hK.out _ _ ⟨((cell_far (p := ⟨gb321, _, none⟩) NB292_321.out _).trans (((cell_far (p := ⟨gb321, _, none⟩) NB292_321.out _).trans (((cell_far (p := ⟨gb321, _, none⟩) NB292_321.out _).trans (((cell_far (p := ⟨gb321, _, none⟩) NB292_321.out _).trans (((cell_far (p := ⟨gb321, _, none⟩) NB292_321.out _).trans (hHeld.1)))))))))), ((cell_far (p := ⟨gb321, _, none⟩) NB292_321.out _).trans (((cell_far (p := ⟨gb321, _, none⟩) NB292_321.out _).trans (((cell_far (p := ⟨gb321, _, none⟩) NB292_321.out _).trans (((cell_far (p := ⟨gb321, _, none⟩) NB292_321.out _).trans (((cell_far (p := ⟨gb321, _, none⟩) NB292_321.out _).trans (hHeld.2.1)))))))))), ((cell_far (p := ⟨gb321, _, none⟩) NB292_321.out _).trans (((cell_far (p := ⟨gb321, _, none⟩) NB292_321.out _).trans (((cell_far (p := ⟨gb321, _, none⟩) NB292_321.out _).trans (((cell_far (p := ⟨gb321, _, none⟩) NB292_321.out _).trans (((cell_far (p := ⟨gb321, _, none⟩) NB292_321.out _).trans (hHeld.2.2.1)))))))))), ((cell_far (p := ⟨gb321, _, none⟩) NB292_321.out _).trans (((cell_far (p := ⟨gb321, _, none⟩) NB292_321.out _).trans (((cell_far (p := ⟨gb321, _, none⟩) NB292_321.out _).trans (((cell_far (p := ⟨gb321, _, none⟩) NB292_321.out _).trans (((cell_far (p := ⟨gb321, _, none⟩) NB292_321.out _).trans (hHeld.2.2.2.1)))))))))), ((cell_far (p := ⟨gb321, _, none⟩) NB292_321.out _).trans (((cell_far (p := ⟨gb321, _, none⟩) NB292_321.out _).trans (((cell_far (p := ⟨gb321, _, none⟩) NB292_321.out _).trans (((cell_far (p := ⟨gb321, _, none⟩) NB292_321.out _).trans (((cell_far (p := ⟨gb321, _, none⟩) NB292_321.out _).trans (hHeld.2.2.2.2.1)))))))))), ((cell_far (p := ⟨gb321, _, none⟩) NB293_321.out _).trans (((cell_far (p := ⟨gb321, _, none⟩) NB293_321.out _).trans (((cell_far (p := ⟨gb321, _, none⟩) NB293_321.out _).trans (((cell_far (p := ⟨gb321, _, none⟩) NB293_321.out _).trans (((cell_far (p := ⟨gb321, _, none⟩) NB293_321.out _).trans (hHeld.2.2.2.2.2.1)))))))))), ((cell_far (p := ⟨gb321, _, none⟩) NB293_321.out _).trans (((cell_far (p := ⟨gb321, _, none⟩) NB293_321.out _).trans (((cell_far (p := ⟨gb321, _, none⟩) NB293_321.out _).trans (((cell_far (p := ⟨gb321, _, none⟩) NB293_321.out _).trans (((cell_far (p := ⟨gb321, _, none⟩) NB293_321.out _).trans (hHeld.2.2.2.2.2.2.1)))))))))), ((cell_far (p := ⟨gb321, _, none⟩) NB293_321.out _).trans (((cell_far (p := ⟨gb321, _, none⟩) NB293_321.out _).trans (((cell_far (p := ⟨gb321, _, none⟩) NB293_321.out _).trans (((cell_far (p := ⟨gb321, _, none⟩) NB293_321.out _).trans (((cell_far (p := ⟨gb321, _, none⟩) NB293_321.out _).trans (hHeld.2.2.2.2.2.2.2.1)))))))))), ((cell_far (p := ⟨gb321, _, none⟩) NB293_321.out _).trans (((cell_far (p := ⟨gb321, _, none⟩) NB293_321.out _).trans (((cell_far (p := ⟨gb321, _, none⟩) NB293_321.out _).trans (((cell_far (p := ⟨gb321, _, none⟩) NB293_321.out _).trans (((cell_far (p := ⟨gb321, _, none⟩) NB293_321.out _).trans (hHeld.2.2.2.2.2.2.2.2))))))))))⟩ (fun hHeld => ?_)
    clear hK K
    refine done_ (by kernel_rfl) ?_
    have hnb45 := NB292_321.out
    have hnc45 := NB321_292.out
    have hcz46_0 : w36.cell? ⟨gb292, 0, none⟩ = some (.slice A0_0 l0_0.length c0_0) := (blk_cell BK292.out 0).trans rfl
    have hcz46_1 : w36.cell? ⟨gb292, 1, none⟩ = some (.int .i64 a0_1) := (blk_cell BK292.out 1).trans rfl
    have hcz46_2 : w36.cell? ⟨gb292, 2, none⟩ = some (.bool a0_2) := (blk_cell BK292.out 2).trans rfl
    have hcz46_3 : w36.cell? ⟨gb292, 3, none⟩ = some (.slice A0_3 l0_3.length c0_3) := (blk_cell BK292.out 3).trans rfl
    have hcz46_4 : w36.cell? ⟨gb292, 4, none⟩ = some (.slice A0_4 l0_4.length c0_4) := (blk_cell BK292.out 4).trans rfl
    have hfz46_0 := blk_frozen BK292.out 0
    have hfz46_1 := blk_frozen BK292.out 1
    have hfz46_2 := blk_frozen BK292.out 2
    have hfz46_3 := blk_frozen BK292.out 3
    have hfz46_4 := blk_frozen BK292.out 4
    try go_wp2_with (first | ((with_reducible refine gate_callee (f := 39) rfl ?_); refine goesL_ (some 24) rfl rfl Try.func39 (by kernel_rfl) rfl #[.agg #[.slice A0_0 l0_0.length c0_0, .int .i64 a0_1, .bool a0_2, .slice A0_3 l0_3.length c0_3, .slice A0_4 l0_4.length c0_4]] rfl z4_ ?_; (with_reducible refine (laws_toThread.calls k _ _ l0_0 a0_1 a0_2 _ _ l0_3 _ _ l0_4 t322 t325 t326 t327 t330 _ ?side1 ?side2 ?side3 ?side4 ?side5 ?side6 A13.out).mono ?_); (case side1 => exact Kd.C_below HR0_0.out z2_); (case side2 => exact HC0_0.out); (case side3 => exact Kd.C_below HR0_3.out z2_); (case side4 => exact HC0_3.out); (case side5 => exact Kd.C_below HR0_4.out z2_); (case side6 => exact HC0_4.out); rintro e w47 ⟨v323, v328, v331, rfl, ho0, ho1, ho2, hb⟩; refine ⟨_, rfl, ?_⟩; have n0_ := Aside0.mk (Kd.R_elder' z24_ (Kd.R_base ho0) hb); have n1_ := Aside0.mk (Kd.R_elder' z25_ (Kd.R_base ho1) hb); have n2_ := Aside0.mk (Kd.R_elder' z26_ (Kd.R_base ho2) hb); have n3_ := Aside0.mk (Kd.R_elder' z27_ (Kd.R_base ho0) hb); have n4_ := Aside0.mk (Kd.R_elder' z28_ (Kd.R_base ho1) hb); have n5_ := Aside0.mk (Kd.R_elder' z29_ (Kd.R_base ho2) hb); have n6_ := Aside0.mk (Kd.R_lower (Kd.R_new' (Kd.R_new' ho0 (Kd.R_lt z24_)) (Kd.R_lt z27_)) (below_size z2_)); have n7_ := Aside0.mk (Kd.R_lower (Kd.R_new' (Kd.R_new' ho1 (Kd.R_lt z25_)) (Kd.R_lt z28_)) (below_size z2_)); have n8_ := Aside0.mk (Kd.R_lower (Kd.R_new' (Kd.R_new' ho2 (Kd.R_lt z26_)) (Kd.R_lt z29_)) (below_size z2_)); have n9_ := Aside0.mk (blk_below (g := gb292) (o := .cells #[.slice A0_0 l0_0.length c0_0, .int .i64 a0_1, .bool a0_2, .slice A0_3 l0_3.length c0_3, .slice A0_4 l0_4.length c0_4] 59 (0, 0)) (by (with_reducible repeat (first | refine blk_drewN ?_ _ | refine blk_drew ?_ | refine blk_alloc ?_ _)); refine blk_far ?_ NB292_321.out _; (with_reducible repeat (first | refine blk_drewN ?_ _ | refine blk_drew ?_ | refine blk_alloc ?_ _)); refine blk_far ?_ NB292_321.out _; (with_reducible repeat (first | refine blk_drewN ?_ _ | refine blk_drew ?_ | refine blk_alloc ?_ _)); refine blk_far ?_ NB292_321.out _; (with_reducible repeat (first | refine blk_drewN ?_ _ | refine blk_drew ?_ | refine blk_alloc ?_ _)); refine blk_far ?_ NB292_321.out _; (with_reducible repeat (first | refine blk_drewN ?_ _ | refine blk_drew ?_ | refine blk_alloc ?_ _)); refine blk_far ?_ NB292_321.out _; (with_reducible repeat (first | refine blk_drewN ?_ _ | refine blk_drew ?_ | refine blk_alloc ?_ _)); exact BK292.out) hb); have n10_ := Aside0.mk (blk_below (g := gb293) (o := .cells #[.int .i64 a1_0, .int .i64 a1_1, .int .i64 a1_2, .int .i64 a1_3] 65 (0, 0)) (by (with_reducible repeat (first | refine blk_drewN ?_ _ | refine blk_drew ?_ | refine blk_alloc ?_ _)); refine blk_far ?_ NB293_321.out _; (with_reducible repeat (first | refine blk_drewN ?_ _ | refine blk_drew ?_ | refine blk_alloc ?_ _)); refine blk_far ?_ NB293_321.out _; (with_reducible repeat (first | refine blk_drewN ?_ _ | refine blk_drew ?_ | refine blk_alloc ?_ _)); refine blk_far ?_ NB293_321.out _; (with_reducible repeat (first | refine blk_drewN ?_ _ | refine blk_drew ?_ | refine blk_alloc ?_ _)); refine blk_far ?_ NB293_321.out _; (with_reducible repeat (first | refine blk_drewN ?_ _ | refine blk_drew ?_ | refine blk_alloc ?_ _)); refine blk_far ?_ NB293_321.out _; (with_reducible repeat (first | refine blk_drewN ?_ _ | refine blk_drew ?_ | refine blk_alloc ?_ _)); exact BK293.out) hb); have n11_ := Aside0.mk (blk_below (g := gb321) (o := .cells #[.slice Ao37 t310.length co37, .int .i64 t313, .bool t314, .slice Ao41 t315.length co41, .slice Ao43 t318.length co43] 36 (0, 0)) (by (with_reducible repeat (first | refine blk_drewN ?_ _ | refine blk_drew ?_ | refine blk_alloc ?_ _)); refine blk_put (cs := #[.slice Ao37 t310.length co37, .int .i64 t313, .bool t314, .slice Ao41 t315.length co41, .slice none 0 0]) ?_ 4 _ rfl; (with_reducible repeat (first | refine blk_drewN ?_ _ | refine blk_drew ?_ | refine blk_alloc ?_ _)); refine blk_put (cs := #[.slice Ao37 t310.length co37, .int .i64 t313, .bool t314, .slice none 0 0, .slice none 0 0]) ?_ 3 _ rfl; (with_reducible repeat (first | refine blk_drewN ?_ _ | refine blk_drew ?_ | refine blk_alloc ?_ _)); refine blk_put (cs := #[.slice Ao37 t310.length co37, .int .i64 t313, .bool false, .slice none 0 0, .slice none 0 0]) ?_ 2 _ rfl; (with_reducible repeat (first | refine blk_drewN ?_ _ | refine blk_drew ?_ | refine blk_alloc ?_ _)); refine blk_put (cs := #[.slice Ao37 t310.length co37, .int .i64 0, .bool false, .slice none 0 0, .slice none 0 0]) ?_ 1 _ rfl; (with_reducible repeat (first | refine blk_drewN ?_ _ | refine blk_drew ?_ | refine blk_alloc ?_ _)); refine blk_put (cs := #[.slice none 0 0, .int .i64 0, .bool false, .slice none 0 0, .slice none 0 0]) ?_ 0 _ rfl; (with_reducible repeat (first | refine blk_drewN ?_ _ | refine blk_drew ?_ | refine blk_alloc ?_ _)); exact BK321.out) hb); have n12_ := Aside0.mk (below_step z2_ hb); clear HO297 HO302 HO305 HO312 HO317 HO320 BK292 BK293 BK321 HB; have HO297 := n0_; have HO302 := n1_; have HO305 := n2_; have HO312 := n3_; have HO317 := n4_; have HO320 := n5_; have HO324 := n6_; have HO329 := n7_; have HO332 := n8_; have BK292 := n9_; have BK293 := n10_; have BK321 := n11_; have HB := n12_; clear n0_ n1_ n2_ n3_ n4_ n5_ n6_ n7_ n8_ n9_ n10_ n11_ n12_; (try clear hb); (try clear hb2); (try clear hk); (try clear hi); (try clear ho0); (try clear ho1); (try clear ho2)) | ((with_reducible refine gate_dst (N := 7) rfl ?_); refine box_event ?hg (N := 7) ?hd (cs := #[.slice none 0 0, .int .i64 0, .bool false, .slice none 0 0, .slice none 0 0]) (t := 36) ?hr ?_; (case hd => rfl); (case hg => rfl); (case hr => first | (go_simp; done) | (go_simp; rfl)); intro gb333 hg w48 hbox hb; have n0_ := Aside0.mk (Kd.R_below (rb_ HO297.out) hb); have n1_ := Aside0.mk (Kd.R_below (rb_ HO302.out) hb); have n2_ := Aside0.mk (Kd.R_below (rb_ HO305.out) hb); have n3_ := Aside0.mk (Kd.R_below (rb_ HO312.out) hb); have n4_ := Aside0.mk (Kd.R_below (rb_ HO317.out) hb); have n5_ := Aside0.mk (Kd.R_below (rb_ HO320.out) hb); have n6_ := Aside0.mk (Kd.R_below (rb_ HO324.out) hb); have n7_ := Aside0.mk (Kd.R_below (rb_ HO329.out) hb); have n8_ := Aside0.mk (Kd.R_below (rb_ HO332.out) hb); have n9_ := Aside0.mk (blk_below (g := gb292) (o := .cells #[.slice A0_0 l0_0.length c0_0, .int .i64 a0_1, .bool a0_2, .slice A0_3 l0_3.length c0_3, .slice A0_4 l0_4.length c0_4] 59 (0, 0)) (bk_ BK292.out) hb); have n10_ := Aside0.mk (blk_below (g := gb293) (o := .cells #[.int .i64 a1_0, .int .i64 a1_1, .int .i64 a1_2, .int .i64 a1_3] 65 (0, 0)) (bk_ BK293.out) hb); have n11_ := Aside0.mk (blk_below (g := gb321) (o := .cells #[.slice Ao37 t310.length co37, .int .i64 t313, .bool t314, .slice Ao41 t315.length co41, .slice Ao43 t318.length co43] 36 (0, 0)) (bk_ BK321.out) hb); have n12_ := Aside0.mk (below_step z2_ hb); have n13_ := Aside0.mk (hbox); have n14_ := Aside0.mk ((by rw [hg]; exact (below_size z2_) : w.heap.size ≤ gb333)); have n15_ := Aside0.mk ((by rw [hg]; exact (below_size z2_) : w.heap.size ≤ gb333)); have n16_ := Aside0.mk ((z6_ : gb292 ≠ gb333)); have n17_ := Aside0.mk ((z7_ : gb333 ≠ gb292)); have n18_ := Aside0.mk ((z8_ : gb293 ≠ gb333)); have n19_ := Aside0.mk ((z9_ : gb333 ≠ gb293)); have n20_ := Aside0.mk ((z10_ : gb321 ≠ gb333)); have n21_ := Aside0.mk ((z11_ : gb333 ≠ gb321)); clear HO297 HO302 HO305 HO312 HO317 HO320 HO324 HO329 HO332 BK292 BK293 BK321 HB; have HO297 := n0_; have HO302 := n1_; have HO305 := n2_; have HO312 := n3_; have HO317 := n4_; have HO320 := n5_; have HO324 := n6_; have HO329 := n7_; have HO332 := n8_; have BK292 := n9_; have BK293 := n10_; have BK321 := n11_; have HB := n12_; have BK333 := n13_; have GW333 := n14_; have GE333 := n15_; have NB292_333 := n16_; have NB333_292 := n17_; have NB293_333 := n18_; have NB333_293 := n19_; have NB321_333 := n20_; have NB333_321 := n21_; clear n0_ n1_ n2_ n3_ n4_ n5_ n6_ n7_ n8_ n9_ n10_ n11_ n12_ n13_ n14_ n15_ n16_ n17_ n18_ n19_ n20_ n21_ hb hbox hg; obtain ⟨Ao49, co49, eo49⟩ := Kd.R_slice HO324.out; subst eo49; have hnb50 := NB333_292.out; have hnc50 := NB292_333.out; have hnb51 := NB333_293.out; have hnc51 := NB293_333.out; have hnb52 := NB333_321.out; have hnc52 := NB321_333.out; have hcz53_0 : w48.cell? ⟨gb333, 0, none⟩ = some (.slice none 0 0) := (blk_cell BK333.out 0).trans rfl; have hcz53_1 : w48.cell? ⟨gb333, 1, none⟩ = some (.int .i64 0) := (blk_cell BK333.out 1).trans rfl; have hcz53_2 : w48.cell? ⟨gb333, 2, none⟩ = some (.bool false) := (blk_cell BK333.out 2).trans rfl; have hcz53_3 : w48.cell? ⟨gb333, 3, none⟩ = some (.slice none 0 0) := (blk_cell BK333.out 3).trans rfl; have hcz53_4 : w48.cell? ⟨gb333, 4, none⟩ = some (.slice none 0 0) := (blk_cell BK333.out 4).trans rfl; have hfz53_0 := blk_frozen BK333.out 0; have hfz53_1 := blk_frozen BK333.out 1; have hfz53_2 := blk_frozen BK333.out 2; have hfz53_3 := blk_frozen BK333.out 3; have hfz53_4 := blk_frozen BK333.out 4; obtain ⟨Ao54, co54, eo54⟩ := Kd.R_slice HO329.out; subst eo54; obtain ⟨Ao55, co55, eo55⟩ := Kd.R_slice HO332.out; subst eo55))
    have n0_ : Aside0 (Kd.R k88 88 (((((w48.setCell ⟨gb333, 0, none⟩ (.slice Ao49 t322.length co49)).setCell ⟨gb333, 1, none⟩ (.int .i64 t325)).setCell ⟨gb333, 2, none⟩ (.bool t326)).setCell ⟨gb333, 3, none⟩ (.slice Ao54 t327.length co54)).setCell ⟨gb333, 4, none⟩ (.slice Ao55 t330.length co55)) w.heap.size (fun k_ => some k_ ≠ (.slice Ao37 t310.length co37 : Value).ownBlock ∧ some k_ ≠ (.slice Ao49 t322.length co49 : Value).ownBlock) v296 t295) := ⟨by (with_reducible repeat (first | apply Kd.R_alloc | apply Kd.R_drewN | apply Kd.R_drew)); exact Kd.R_mono (Kd.R_far (p := ⟨gb333, 4, none⟩) (Kd.R_far (p := ⟨gb333, 3, none⟩) (Kd.R_far (p := ⟨gb333, 2, none⟩) (Kd.R_far (p := ⟨gb333, 1, none⟩) (Kd.R_far (p := ⟨gb333, 0, none⟩) (Kd.R_types HO297.out BK333.out (by decide)) (fun _ hk => hk.2) (.slice Ao49 t322.length co49)) (fun _ hk => hk.2) (.int .i64 t325)) (fun _ hk => hk.2) (.bool t326)) (fun _ hk => hk.2) (.slice Ao54 t327.length co54)) (fun _ hk => hk.2) (.slice Ao55 t330.length co55)) (fun _ hk => ⟨hk.1.1, hk.1.2⟩)⟩
    have n1_ : Aside0 (Kd.R k136 136 (((((w48.setCell ⟨gb333, 0, none⟩ (.slice Ao49 t322.length co49)).setCell ⟨gb333, 1, none⟩ (.int .i64 t325)).setCell ⟨gb333, 2, none⟩ (.bool t326)).setCell ⟨gb333, 3, none⟩ (.slice Ao54 t327.length co54)).setCell ⟨gb333, 4, none⟩ (.slice Ao55 t330.length co55)) w.heap.size (fun k_ => some k_ ≠ (.slice Ao41 t315.length co41 : Value).ownBlock ∧ some k_ ≠ (.slice Ao54 t327.length co54 : Value).ownBlock) v301 t300) := ⟨by (with_reducible repeat (first | apply Kd.R_alloc | apply Kd.R_drewN | apply Kd.R_drew)); exact Kd.R_mono (Kd.R_far (p := ⟨gb333, 4, none⟩) (Kd.R_far (p := ⟨gb333, 3, none⟩) (Kd.R_far (p := ⟨gb333, 2, none⟩) (Kd.R_far (p := ⟨gb333, 1, none⟩) (Kd.R_far (p := ⟨gb333, 0, none⟩) (Kd.R_types HO302.out BK333.out (by decide)) (fun _ hk => hk.2) (.slice Ao49 t322.length co49)) (fun _ hk => hk.2) (.int .i64 t325)) (fun _ hk => hk.2) (.bool t326)) (fun _ hk => hk.2) (.slice Ao54 t327.length co54)) (fun _ hk => hk.2) (.slice Ao55 t330.length co55)) (fun _ hk => ⟨hk.1.1, hk.1.2⟩)⟩
    have n2_ : Aside0 (Kd.R k67 67 (((((w48.setCell ⟨gb333, 0, none⟩ (.slice Ao49 t322.length co49)).setCell ⟨gb333, 1, none⟩ (.int .i64 t325)).setCell ⟨gb333, 2, none⟩ (.bool t326)).setCell ⟨gb333, 3, none⟩ (.slice Ao54 t327.length co54)).setCell ⟨gb333, 4, none⟩ (.slice Ao55 t330.length co55)) w.heap.size (fun k_ => some k_ ≠ (.slice Ao43 t318.length co43 : Value).ownBlock ∧ some k_ ≠ (.slice Ao55 t330.length co55 : Value).ownBlock) v304 t303) := ⟨by (with_reducible repeat (first | apply Kd.R_alloc | apply Kd.R_drewN | apply Kd.R_drew)); exact Kd.R_mono (Kd.R_far (p := ⟨gb333, 4, none⟩) (Kd.R_far (p := ⟨gb333, 3, none⟩) (Kd.R_far (p := ⟨gb333, 2, none⟩) (Kd.R_far (p := ⟨gb333, 1, none⟩) (Kd.R_far (p := ⟨gb333, 0, none⟩) (Kd.R_types HO305.out BK333.out (by decide)) (fun _ hk => hk.2) (.slice Ao49 t322.length co49)) (fun _ hk => hk.2) (.int .i64 t325)) (fun _ hk => hk.2) (.bool t326)) (fun _ hk => hk.2) (.slice Ao54 t327.length co54)) (fun _ hk => hk.2) (.slice Ao55 t330.length co55)) (fun _ hk => ⟨hk.1.1, hk.1.2⟩)⟩
    have n3_ : Aside0 (Kd.R k88 88 (((((w48.setCell ⟨gb333, 0, none⟩ (.slice Ao49 t322.length co49)).setCell ⟨gb333, 1, none⟩ (.int .i64 t325)).setCell ⟨gb333, 2, none⟩ (.bool t326)).setCell ⟨gb333, 3, none⟩ (.slice Ao54 t327.length co54)).setCell ⟨gb333, 4, none⟩ (.slice Ao55 t330.length co55)) w.heap.size (fun k_ => some k_ ≠ (v296 : Value).ownBlock ∧ some k_ ≠ (.slice Ao49 t322.length co49 : Value).ownBlock) (.slice Ao37 t310.length co37) t310) := ⟨by (with_reducible repeat (first | apply Kd.R_alloc | apply Kd.R_drewN | apply Kd.R_drew)); exact Kd.R_mono (Kd.R_far (p := ⟨gb333, 4, none⟩) (Kd.R_far (p := ⟨gb333, 3, none⟩) (Kd.R_far (p := ⟨gb333, 2, none⟩) (Kd.R_far (p := ⟨gb333, 1, none⟩) (Kd.R_far (p := ⟨gb333, 0, none⟩) (Kd.R_types HO312.out BK333.out (by decide)) (fun _ hk => hk.2) (.slice Ao49 t322.length co49)) (fun _ hk => hk.2) (.int .i64 t325)) (fun _ hk => hk.2) (.bool t326)) (fun _ hk => hk.2) (.slice Ao54 t327.length co54)) (fun _ hk => hk.2) (.slice Ao55 t330.length co55)) (fun _ hk => ⟨hk.1.1, hk.1.2⟩)⟩
    have n4_ : Aside0 (Kd.R k136 136 (((((w48.setCell ⟨gb333, 0, none⟩ (.slice Ao49 t322.length co49)).setCell ⟨gb333, 1, none⟩ (.int .i64 t325)).setCell ⟨gb333, 2, none⟩ (.bool t326)).setCell ⟨gb333, 3, none⟩ (.slice Ao54 t327.length co54)).setCell ⟨gb333, 4, none⟩ (.slice Ao55 t330.length co55)) w.heap.size (fun k_ => some k_ ≠ (v301 : Value).ownBlock ∧ some k_ ≠ (.slice Ao54 t327.length co54 : Value).ownBlock) (.slice Ao41 t315.length co41) t315) := ⟨by (with_reducible repeat (first | apply Kd.R_alloc | apply Kd.R_drewN | apply Kd.R_drew)); exact Kd.R_mono (Kd.R_far (p := ⟨gb333, 4, none⟩) (Kd.R_far (p := ⟨gb333, 3, none⟩) (Kd.R_far (p := ⟨gb333, 2, none⟩) (Kd.R_far (p := ⟨gb333, 1, none⟩) (Kd.R_far (p := ⟨gb333, 0, none⟩) (Kd.R_types HO317.out BK333.out (by decide)) (fun _ hk => hk.2) (.slice Ao49 t322.length co49)) (fun _ hk => hk.2) (.int .i64 t325)) (fun _ hk => hk.2) (.bool t326)) (fun _ hk => hk.2) (.slice Ao54 t327.length co54)) (fun _ hk => hk.2) (.slice Ao55 t330.length co55)) (fun _ hk => ⟨hk.1.1, hk.1.2⟩)⟩
    have n5_ : Aside0 (Kd.R k67 67 (((((w48.setCell ⟨gb333, 0, none⟩ (.slice Ao49 t322.length co49)).setCell ⟨gb333, 1, none⟩ (.int .i64 t325)).setCell ⟨gb333, 2, none⟩ (.bool t326)).setCell ⟨gb333, 3, none⟩ (.slice Ao54 t327.length co54)).setCell ⟨gb333, 4, none⟩ (.slice Ao55 t330.length co55)) w.heap.size (fun k_ => some k_ ≠ (v304 : Value).ownBlock ∧ some k_ ≠ (.slice Ao55 t330.length co55 : Value).ownBlock) (.slice Ao43 t318.length co43) t318) := ⟨by (with_reducible repeat (first | apply Kd.R_alloc | apply Kd.R_drewN | apply Kd.R_drew)); exact Kd.R_mono (Kd.R_far (p := ⟨gb333, 4, none⟩) (Kd.R_far (p := ⟨gb333, 3, none⟩) (Kd.R_far (p := ⟨gb333, 2, none⟩) (Kd.R_far (p := ⟨gb333, 1, none⟩) (Kd.R_far (p := ⟨gb333, 0, none⟩) (Kd.R_types HO320.out BK333.out (by decide)) (fun _ hk => hk.2) (.slice Ao49 t322.length co49)) (fun _ hk => hk.2) (.int .i64 t325)) (fun _ hk => hk.2) (.bool t326)) (fun _ hk => hk.2) (.slice Ao54 t327.length co54)) (fun _ hk => hk.2) (.slice Ao55 t330.length co55)) (fun _ hk => ⟨hk.1.1, hk.1.2⟩)⟩
    have n6_ : Aside0 (Kd.R k88 88 (((((w48.setCell ⟨gb333, 0, none⟩ (.slice Ao49 t322.length co49)).setCell ⟨gb333, 1, none⟩ (.int .i64 t325)).setCell ⟨gb333, 2, none⟩ (.bool t326)).setCell ⟨gb333, 3, none⟩ (.slice Ao54 t327.length co54)).setCell ⟨gb333, 4, none⟩ (.slice Ao55 t330.length co55)) w.heap.size (fun k_ => some k_ ≠ (v296 : Value).ownBlock ∧ some k_ ≠ (.slice Ao37 t310.length co37 : Value).ownBlock) (.slice Ao49 t322.length co49) t322) := ⟨by (with_reducible repeat (first | apply Kd.R_alloc | apply Kd.R_drewN | apply Kd.R_drew)); exact Kd.R_mono (Kd.R_far (p := ⟨gb333, 4, none⟩) (Kd.R_far (p := ⟨gb333, 3, none⟩) (Kd.R_far (p := ⟨gb333, 2, none⟩) (Kd.R_far (p := ⟨gb333, 1, none⟩) (Kd.R_far (p := ⟨gb333, 0, none⟩) (Kd.R_types HO324.out BK333.out (by decide)) (fun _ hk => hk.2) (.slice Ao49 t322.length co49)) (fun _ hk => hk.2) (.int .i64 t325)) (fun _ hk => hk.2) (.bool t326)) (fun _ hk => hk.2) (.slice Ao54 t327.length co54)) (fun _ hk => hk.2) (.slice Ao55 t330.length co55)) (fun _ hk => ⟨hk.1.1.2, hk.1.2⟩)⟩
    have n7_ : Aside0 (Kd.R k136 136 (((((w48.setCell ⟨gb333, 0, none⟩ (.slice Ao49 t322.length co49)).setCell ⟨gb333, 1, none⟩ (.int .i64 t325)).setCell ⟨gb333, 2, none⟩ (.bool t326)).setCell ⟨gb333, 3, none⟩ (.slice Ao54 t327.length co54)).setCell ⟨gb333, 4, none⟩ (.slice Ao55 t330.length co55)) w.heap.size (fun k_ => some k_ ≠ (v301 : Value).ownBlock ∧ some k_ ≠ (.slice Ao41 t315.length co41 : Value).ownBlock) (.slice Ao54 t327.length co54) t327) := ⟨by (with_reducible repeat (first | apply Kd.R_alloc | apply Kd.R_drewN | apply Kd.R_drew)); exact Kd.R_mono (Kd.R_far (p := ⟨gb333, 4, none⟩) (Kd.R_far (p := ⟨gb333, 3, none⟩) (Kd.R_far (p := ⟨gb333, 2, none⟩) (Kd.R_far (p := ⟨gb333, 1, none⟩) (Kd.R_far (p := ⟨gb333, 0, none⟩) (Kd.R_types HO329.out BK333.out (by decide)) (fun _ hk => hk.2) (.slice Ao49 t322.length co49)) (fun _ hk => hk.2) (.int .i64 t325)) (fun _ hk => hk.2) (.bool t326)) (fun _ hk => hk.2) (.slice Ao54 t327.length co54)) (fun _ hk => hk.2) (.slice Ao55 t330.length co55)) (fun _ hk => ⟨hk.1.1.2, hk.1.2⟩)⟩
    have n8_ : Aside0 (Kd.R k67 67 (((((w48.setCell ⟨gb333, 0, none⟩ (.slice Ao49 t322.length co49)).setCell ⟨gb333, 1, none⟩ (.int .i64 t325)).setCell ⟨gb333, 2, none⟩ (.bool t326)).setCell ⟨gb333, 3, none⟩ (.slice Ao54 t327.length co54)).setCell ⟨gb333, 4, none⟩ (.slice Ao55 t330.length co55)) w.heap.size (fun k_ => some k_ ≠ (v304 : Value).ownBlock ∧ some k_ ≠ (.slice Ao43 t318.length co43 : Value).ownBlock) (.slice Ao55 t330.length co55) t330) := ⟨by (with_reducible repeat (first | apply Kd.R_alloc | apply Kd.R_drewN | apply Kd.R_drew)); exact Kd.R_mono (Kd.R_far (p := ⟨gb333, 4, none⟩) (Kd.R_far (p := ⟨gb333, 3, none⟩) (Kd.R_far (p := ⟨gb333, 2, none⟩) (Kd.R_far (p := ⟨gb333, 1, none⟩) (Kd.R_far (p := ⟨gb333, 0, none⟩) (Kd.R_types HO332.out BK333.out (by decide)) (fun _ hk => hk.2) (.slice Ao49 t322.length co49)) (fun _ hk => hk.2) (.int .i64 t325)) (fun _ hk => hk.2) (.bool t326)) (fun _ hk => hk.2) (.slice Ao54 t327.length co54)) (fun _ hk => hk.2) (.slice Ao55 t330.length co55)) (fun _ hk => ⟨hk.1.1.2, hk.1.2⟩)⟩
    have n9_ : Aside0 ((((((w48.setCell ⟨gb333, 0, none⟩ (.slice Ao49 t322.length co49)).setCell ⟨gb333, 1, none⟩ (.int .i64 t325)).setCell ⟨gb333, 2, none⟩ (.bool t326)).setCell ⟨gb333, 3, none⟩ (.slice Ao54 t327.length co54)).setCell ⟨gb333, 4, none⟩ (.slice Ao55 t330.length co55)).heap[gb292]? = some (.cells #[.slice A0_0 l0_0.length c0_0, .int .i64 a0_1, .bool a0_2, .slice A0_3 l0_3.length c0_3, .slice A0_4 l0_4.length c0_4] 59 (0, 0))) := ⟨by (with_reducible repeat (first | refine blk_drewN ?_ _ | refine blk_drew ?_ | refine blk_alloc ?_ _)); refine blk_far ?_ NB292_333.out _; (with_reducible repeat (first | refine blk_drewN ?_ _ | refine blk_drew ?_ | refine blk_alloc ?_ _)); refine blk_far ?_ NB292_333.out _; (with_reducible repeat (first | refine blk_drewN ?_ _ | refine blk_drew ?_ | refine blk_alloc ?_ _)); refine blk_far ?_ NB292_333.out _; (with_reducible repeat (first | refine blk_drewN ?_ _ | refine blk_drew ?_ | refine blk_alloc ?_ _)); refine blk_far ?_ NB292_333.out _; (with_reducible repeat (first | refine blk_drewN ?_ _ | refine blk_drew ?_ | refine blk_alloc ?_ _)); refine blk_far ?_ NB292_333.out _; (with_reducible repeat (first | refine blk_drewN ?_ _ | refine blk_drew ?_ | refine blk_alloc ?_ _)); exact BK292.out⟩
    have n10_ : Aside0 ((((((w48.setCell ⟨gb333, 0, none⟩ (.slice Ao49 t322.length co49)).setCell ⟨gb333, 1, none⟩ (.int .i64 t325)).setCell ⟨gb333, 2, none⟩ (.bool t326)).setCell ⟨gb333, 3, none⟩ (.slice Ao54 t327.length co54)).setCell ⟨gb333, 4, none⟩ (.slice Ao55 t330.length co55)).heap[gb293]? = some (.cells #[.int .i64 a1_0, .int .i64 a1_1, .int .i64 a1_2, .int .i64 a1_3] 65 (0, 0))) := ⟨by (with_reducible repeat (first | refine blk_drewN ?_ _ | refine blk_drew ?_ | refine blk_alloc ?_ _)); refine blk_far ?_ NB293_333.out _; (with_reducible repeat (first | refine blk_drewN ?_ _ | refine blk_drew ?_ | refine blk_alloc ?_ _)); refine blk_far ?_ NB293_333.out _; (with_reducible repeat (first | refine blk_drewN ?_ _ | refine blk_drew ?_ | refine blk_alloc ?_ _)); refine blk_far ?_ NB293_333.out _; (with_reducible repeat (first | refine blk_drewN ?_ _ | refine blk_drew ?_ | refine blk_alloc ?_ _)); refine blk_far ?_ NB293_333.out _; (with_reducible repeat (first | refine blk_drewN ?_ _ | refine blk_drew ?_ | refine blk_alloc ?_ _)); refine blk_far ?_ NB293_333.out _; (with_reducible repeat (first | refine blk_drewN ?_ _ | refine blk_drew ?_ | refine blk_alloc ?_ _)); exact BK293.out⟩
    have n11_ : Aside0 ((((((w48.setCell ⟨gb333, 0, none⟩ (.slice Ao49 t322.length co49)).setCell ⟨gb333, 1, none⟩ (.int .i64 t325)).setCell ⟨gb333, 2, none⟩ (.bool t326)).setCell ⟨gb333, 3, none⟩ (.slice Ao54 t327.length co54)).setCell ⟨gb333, 4, none⟩ (.slice Ao55 t330.length co55)).heap[gb321]? = some (.cells #[.slice Ao37 t310.length co37, .int .i64 t313, .bool t314, .slice Ao41 t315.length co41, .slice Ao43 t318.length co43] 36 (0, 0))) := ⟨by (with_reducible repeat (first | refine blk_drewN ?_ _ | refine blk_drew ?_ | refine blk_alloc ?_ _)); refine blk_far ?_ NB321_333.out _; (with_reducible repeat (first | refine blk_drewN ?_ _ | refine blk_drew ?_ | refine blk_alloc ?_ _)); refine blk_far ?_ NB321_333.out _; (with_reducible repeat (first | refine blk_drewN ?_ _ | refine blk_drew ?_ | refine blk_alloc ?_ _)); refine blk_far ?_ NB321_333.out _; (with_reducible repeat (first | refine blk_drewN ?_ _ | refine blk_drew ?_ | refine blk_alloc ?_ _)); refine blk_far ?_ NB321_333.out _; (with_reducible repeat (first | refine blk_drewN ?_ _ | refine blk_drew ?_ | refine blk_alloc ?_ _)); refine blk_far ?_ NB321_333.out _; (with_reducible repeat (first | refine blk_drewN ?_ _ | refine blk_drew ?_ | refine blk_alloc ?_ _)); exact BK321.out⟩
    have n12_ : Aside0 ((((((w48.setCell ⟨gb333, 0, none⟩ (.slice Ao49 t322.length co49)).setCell ⟨gb333, 1, none⟩ (.int .i64 t325)).setCell ⟨gb333, 2, none⟩ (.bool t326)).setCell ⟨gb333, 3, none⟩ (.slice Ao54 t327.length co54)).setCell ⟨gb333, 4, none⟩ (.slice Ao55 t330.length co55)).heap[gb333]? = some (.cells #[.slice Ao49 t322.length co49, .int .i64 t325, .bool t326, .slice Ao54 t327.length co54, .slice Ao55 t330.length co55] 36 (0, 0))) := ⟨by (with_reducible repeat (first | refine blk_drewN ?_ _ | refine blk_drew ?_ | refine blk_alloc ?_ _)); refine blk_put (cs := #[.slice Ao49 t322.length co49, .int .i64 t325, .bool t326, .slice Ao54 t327.length co54, .slice none 0 0]) ?_ 4 _ rfl; (with_reducible repeat (first | refine blk_drewN ?_ _ | refine blk_drew ?_ | refine blk_alloc ?_ _)); refine blk_put (cs := #[.slice Ao49 t322.length co49, .int .i64 t325, .bool t326, .slice none 0 0, .slice none 0 0]) ?_ 3 _ rfl; (with_reducible repeat (first | refine blk_drewN ?_ _ | refine blk_drew ?_ | refine blk_alloc ?_ _)); refine blk_put (cs := #[.slice Ao49 t322.length co49, .int .i64 t325, .bool false, .slice none 0 0, .slice none 0 0]) ?_ 2 _ rfl; (with_reducible repeat (first | refine blk_drewN ?_ _ | refine blk_drew ?_ | refine blk_alloc ?_ _)); refine blk_put (cs := #[.slice Ao49 t322.length co49, .int .i64 0, .bool false, .slice none 0 0, .slice none 0 0]) ?_ 1 _ rfl; (with_reducible repeat (first | refine blk_drewN ?_ _ | refine blk_drew ?_ | refine blk_alloc ?_ _)); refine blk_put (cs := #[.slice none 0 0, .int .i64 0, .bool false, .slice none 0 0, .slice none 0 0]) ?_ 0 _ rfl; (with_reducible repeat (first | refine blk_drewN ?_ _ | refine blk_drew ?_ | refine blk_alloc ?_ _)); exact BK333.out⟩
    have n13_ : Aside0 (Below w.heap.size w (((((w48.setCell ⟨gb333, 0, none⟩ (.slice Ao49 t322.length co49)).setCell ⟨gb333, 1, none⟩ (.int .i64 t325)).setCell ⟨gb333, 2, none⟩ (.bool t326)).setCell ⟨gb333, 3, none⟩ (.slice Ao54 t327.length co54)).setCell ⟨gb333, 4, none⟩ (.slice Ao55 t330.length co55))) := ⟨z5_⟩
    (try clear HO297)
    (try clear HO302)
    (try clear HO305)
    (try clear HO312)
    (try clear HO317)
    (try clear HO320)
    (try clear HO324)
    (try clear HO329)
    (try clear HO332)
    (try clear BK292)
    (try clear BK293)
    (try clear BK321)
    (try clear BK333)
    (try clear HB)
    generalize (((((w48.setCell ⟨gb333, 0, none⟩ (.slice Ao49 t322.length co49)).setCell ⟨gb333, 1, none⟩ (.int .i64 t325)).setCell ⟨gb333, 2, none⟩ (.bool t326)).setCell ⟨gb333, 3, none⟩ (.slice Ao54 t327.length co54)).setCell ⟨gb333, 4, none⟩ (.slice Ao55 t330.length co55)) = w56 at n0_ n1_ n2_ n3_ n4_ n5_ n6_ n7_ n8_ n9_ n10_ n11_ n12_ n13_ ⊢
    have HO297 := n0_
    have HO302 := n1_
    have HO305 := n2_
    have HO312 := n3_
    have HO317 := n4_
    have HO320 := n5_
    have HO324 := n6_
    have HO329 := n7_
    have HO332 := n8_
    have BK292 := n9_
    have BK293 := n10_
    have BK321 := n11_
    have BK333 := n12_
    have HB := n13_
    clear n0_ n1_ n2_ n3_ n4_ n5_ n6_ n7_ n8_ n9_ n10_ n11_ n12_ n13_
    have n0_ := Aside0.mk (Kd.R_drew HO297.out)
    have n1_ := Aside0.mk (Kd.R_drew HO302.out)
    have n2_ := Aside0.mk (Kd.R_drew HO305.out)
    have n3_ := Aside0.mk (Kd.R_drew HO312.out)
    have n4_ := Aside0.mk (Kd.R_drew HO317.out)
    have n5_ := Aside0.mk (Kd.R_drew HO320.out)
    have n6_ := Aside0.mk (Kd.R_drew HO324.out)
    have n7_ := Aside0.mk (Kd.R_drew HO329.out)
    have n8_ := Aside0.mk (Kd.R_drew HO332.out)
    have n9_ := Aside0.mk (blk_drew BK292.out)
    have n10_ := Aside0.mk (blk_drew BK293.out)
    have n11_ := Aside0.mk (blk_drew BK321.out)
    have n12_ := Aside0.mk (blk_drew BK333.out)
    have n13_ := Aside0.mk (below_drew1 HB.out)
    clear HO297 HO302 HO305 HO312 HO317 HO320 HO324 HO329 HO332 BK292 BK293 BK321 BK333 HB
    have HO297 := n0_
    have HO302 := n1_
    have HO305 := n2_
    have HO312 := n3_
    have HO317 := n4_
    have HO320 := n5_
    have HO324 := n6_
    have HO329 := n7_
    have HO332 := n8_
    have BK292 := n9_
    have BK293 := n10_
    have BK321 := n11_
    have BK333 := n12_
    have HB := n13_
    clear n0_ n1_ n2_ n3_ n4_ n5_ n6_ n7_ n8_ n9_ n10_ n11_ n12_ n13_
    refine start_ (n := 6) (S := fun w' => w'.cell? ⟨gb333, 0, none⟩ = some (.slice Ao49 t322.length co49) ∧ w'.cell? ⟨gb333, 1, none⟩ = some (.int .i64 t325) ∧ w'.cell? ⟨gb333, 2, none⟩ = some (.bool t326) ∧ w'.cell? ⟨gb333, 3, none⟩ = some (.slice Ao54 t327.length co54) ∧ w'.cell? ⟨gb333, 4, none⟩ = some (.slice Ao55 t330.length co55) ∧ w'.cell? ⟨gb293, 0, none⟩ = some (.int .i64 a1_0) ∧ w'.cell? ⟨gb293, 1, none⟩ = some (.int .i64 a1_1) ∧ w'.cell? ⟨gb293, 2, none⟩ = some (.int .i64 a1_2) ∧ w'.cell? ⟨gb293, 3, none⟩ = some (.int .i64 a1_3)) (ds := []) #[false, false, false, false, false, false] (by kernel_rfl) rfl rfl ⟨(blk_cell BK333.out 0).trans rfl, (blk_cell BK333.out 1).trans rfl, (blk_cell BK333.out 2).trans rfl, (blk_cell BK333.out 3).trans rfl, (blk_cell BK333.out 4).trans rfl, (blk_cell BK293.out 0).trans rfl, (blk_cell BK293.out 1).trans rfl, (blk_cell BK293.out 2).trans rfl, (blk_cell BK293.out 3).trans rfl⟩ (fun hHeld => ?_)
    generalize w56.drew = w57 at HO297 HO302 HO305 HO312 HO317 HO320 HO324 HO329 HO332 BK292 BK293 BK321 BK333 HB hHeld ⊢
    refine take_ (i := 0) (N := some 25) (v := ?_) (a' := ?_) #[true, false, false, false, false, false] rfl rfl (by kernel_rfl) (fun _ _ _ h => h) (Or.inl ⟨by rfl, ?_⟩) hHeld ?_ ?_
    rotate_left
    ·
     rintro w' ⟨s0, s1, s2, s3, s4, s5, s6, s7, s8⟩
     go_simp
     with_reducible rfl
    rotate_left
    ·
     simp only [Act.put, List.setIfInBounds_toArray, List.set_cons_zero, List.set_cons_succ, i64_w, i32_w]
     rfl
    refine take_ (i := 1) (N := some 26) (v := ?_) (a' := ?_) #[true, true, false, false, false, false] rfl rfl (by kernel_rfl) (fun _ _ _ h => h) (Or.inl ⟨by rfl, ?_⟩) hHeld ?_ ?_
    rotate_left
    ·
     rintro w' ⟨s0, s1, s2, s3, s4, s5, s6, s7, s8⟩
     go_simp
     with_reducible rfl
    rotate_left
    ·
     simp only [Act.put, List.setIfInBounds_toArray, List.set_cons_zero, List.set_cons_succ, i64_w, i32_w]
     rfl
    refine join_ (σ := Value × Value × Value × Nat) 1 #[true, true, true, true, true, false] (fun s_ => [(27, .agg #[.int .i64 t334, .int .i64 t335, .int .i64 t336, .int .i64 t337]), (28, .agg #[s_.1, .int .i64 t341, .bool t342, s_.2.1, s_.2.2.1]), (8, .pointer (some ⟨s_.2.2.2, 0, none⟩))]) (fun s_ w' => (w'.cell? ⟨gb333, 0, none⟩ = some (.slice Ao49 t322.length co49) ∧ w'.cell? ⟨gb333, 1, none⟩ = some (.int .i64 t325) ∧ w'.cell? ⟨gb333, 2, none⟩ = some (.bool t326) ∧ w'.cell? ⟨gb333, 3, none⟩ = some (.slice Ao54 t327.length co54) ∧ w'.cell? ⟨gb333, 4, none⟩ = some (.slice Ao55 t330.length co55) ∧ w'.cell? ⟨gb293, 0, none⟩ = some (.int .i64 a1_0) ∧ w'.cell? ⟨gb293, 1, none⟩ = some (.int .i64 a1_1) ∧ w'.cell? ⟨gb293, 2, none⟩ = some (.int .i64 a1_2) ∧ w'.cell? ⟨gb293, 3, none⟩ = some (.int .i64 a1_3)) ∧ (Kd.R k88 88 w' w.heap.size (fun k_ => some k_ ≠ (.slice Ao37 t310.length co37 : Value).ownBlock ∧ some k_ ≠ (.slice Ao49 t322.length co49 : Value).ownBlock ∧ some k_ ≠ (s_.1 : Value).ownBlock) v296 t295) ∧ (Kd.R k136 136 w' w.heap.size (fun k_ => some k_ ≠ (.slice Ao41 t315.length co41 : Value).ownBlock ∧ some k_ ≠ (.slice Ao54 t327.length co54 : Value).ownBlock ∧ some k_ ≠ (s_.2.1 : Value).ownBlock) v301 t300) ∧ (Kd.R k67 67 w' w.heap.size (fun k_ => some k_ ≠ (.slice Ao43 t318.length co43 : Value).ownBlock ∧ some k_ ≠ (.slice Ao55 t330.length co55 : Value).ownBlock ∧ some k_ ≠ (s_.2.2.1 : Value).ownBlock) v304 t303) ∧ (Kd.R k88 88 w' w.heap.size (fun k_ => some k_ ≠ (v296 : Value).ownBlock ∧ some k_ ≠ (.slice Ao49 t322.length co49 : Value).ownBlock ∧ some k_ ≠ (s_.1 : Value).ownBlock) (.slice Ao37 t310.length co37) t310) ∧ (Kd.R k136 136 w' w.heap.size (fun k_ => some k_ ≠ (v301 : Value).ownBlock ∧ some k_ ≠ (.slice Ao54 t327.length co54 : Value).ownBlock ∧ some k_ ≠ (s_.2.1 : Value).ownBlock) (.slice Ao41 t315.length co41) t315) ∧ (Kd.R k67 67 w' w.heap.size (fun k_ => some k_ ≠ (v304 : Value).ownBlock ∧ some k_ ≠ (.slice Ao55 t330.length co55 : Value).ownBlock ∧ some k_ ≠ (s_.2.2.1 : Value).ownBlock) (.slice Ao43 t318.length co43) t318) ∧ (Kd.R k88 88 w' w.heap.size (fun k_ => some k_ ≠ (v296 : Value).ownBlock ∧ some k_ ≠ (.slice Ao37 t310.length co37 : Value).ownBlock ∧ some k_ ≠ (s_.1 : Value).ownBlock) (.slice Ao49 t322.length co49) t322) ∧ (Kd.R k136 136 w' w.heap.size (fun k_ => some k_ ≠ (v301 : Value).ownBlock ∧ some k_ ≠ (.slice Ao41 t315.length co41 : Value).ownBlock ∧ some k_ ≠ (s_.2.1 : Value).ownBlock) (.slice Ao54 t327.length co54) t327) ∧ (Kd.R k67 67 w' w.heap.size (fun k_ => some k_ ≠ (v304 : Value).ownBlock ∧ some k_ ≠ (.slice Ao43 t318.length co43 : Value).ownBlock ∧ some k_ ≠ (s_.2.2.1 : Value).ownBlock) (.slice Ao55 t330.length co55) t330) ∧ (Kd.R k88 88 w' w.heap.size (fun k_ => some k_ ≠ (v296 : Value).ownBlock ∧ some k_ ≠ (.slice Ao37 t310.length co37 : Value).ownBlock ∧ some k_ ≠ (.slice Ao49 t322.length co49 : Value).ownBlock) s_.1 t338) ∧ (Kd.R k136 136 w' w.heap.size (fun k_ => some k_ ≠ (v301 : Value).ownBlock ∧ some k_ ≠ (.slice Ao41 t315.length co41 : Value).ownBlock ∧ some k_ ≠ (.slice Ao54 t327.length co54 : Value).ownBlock) s_.2.1 t343) ∧ (Kd.R k67 67 w' w.heap.size (fun k_ => some k_ ≠ (v304 : Value).ownBlock ∧ some k_ ≠ (.slice Ao43 t318.length co43 : Value).ownBlock ∧ some k_ ≠ (.slice Ao55 t330.length co55 : Value).ownBlock) s_.2.2.1 t346) ∧ (w'.heap[gb292]? = some (.cells #[.slice A0_0 l0_0.length c0_0, .int .i64 a0_1, .bool a0_2, .slice A0_3 l0_3.length c0_3, .slice A0_4 l0_4.length c0_4] 59 (0, 0))) ∧ (w'.heap[gb293]? = some (.cells #[.int .i64 a1_0, .int .i64 a1_1, .int .i64 a1_2, .int .i64 a1_3] 65 (0, 0))) ∧ (w'.heap[gb321]? = some (.cells #[.slice Ao37 t310.length co37, .int .i64 t313, .bool t314, .slice Ao41 t315.length co41, .slice Ao43 t318.length co43] 36 (0, 0))) ∧ (w'.heap[gb333]? = some (.cells #[.slice Ao49 t322.length co49, .int .i64 t325, .bool t326, .slice Ao54 t327.length co54, .slice Ao55 t330.length co55] 36 (0, 0))) ∧ (w'.heap[s_.2.2.2]? = some (.cells #[.slice none 0 0, .int .i64 0, .bool false, .slice none 0 0, .slice none 0 0] 36 (0, 0))) ∧ (w.heap.size ≤ s_.2.2.2) ∧ (w.heap.size ≤ s_.2.2.2) ∧ (gb292 ≠ s_.2.2.2) ∧ (s_.2.2.2 ≠ gb292) ∧ (gb293 ≠ s_.2.2.2) ∧ (s_.2.2.2 ≠ gb293) ∧ (gb321 ≠ s_.2.2.2) ∧ (s_.2.2.2 ≠ gb321) ∧ (gb333 ≠ s_.2.2.2) ∧ (s_.2.2.2 ≠ gb333) ∧ (Below w.heap.size w w')) ?_ ?_
    rotate_left
    ·
     intro hCont
     refine two_ (i := 2) (j := 4) (Ni := some 27) (Nj := some 8) #[true, true, true, false, false, false] #[true, true, false, false, true, false] rfl rfl rfl rfl (by kernel_rfl) (by decide) (by decide) (fun K hK => ?_) (fun K hK => ?_)
     ·
      skip
      refine goes_ Try.func42 (by kernel_rfl) rfl #[.agg #[.int .i64 a1_0, .int .i64 a1_1, .int .i64 a1_2, .int .i64 a1_3]] (by rfl) rfl rfl z4_ ?_
      with_reducible refine (laws_toHelp.calls a1_0 a1_1 a1_2 a1_3 t334 t335 t336 t337 _ A14.out).mono ?_
      rintro e w58 ⟨rfl, hb⟩
      refine ⟨_, rfl, ?_⟩
      have n0_ := Aside0.mk (Kd.R_below (rb_ HO297.out) hb)
      have n1_ := Aside0.mk (Kd.R_below (rb_ HO302.out) hb)
      have n2_ := Aside0.mk (Kd.R_below (rb_ HO305.out) hb)
      have n3_ := Aside0.mk (Kd.R_below (rb_ HO312.out) hb)
      have n4_ := Aside0.mk (Kd.R_below (rb_ HO317.out) hb)
      have n5_ := Aside0.mk (Kd.R_below (rb_ HO320.out) hb)
      have n6_ := Aside0.mk (Kd.R_below (rb_ HO324.out) hb)
      have n7_ := Aside0.mk (Kd.R_below (rb_ HO329.out) hb)
      have n8_ := Aside0.mk (Kd.R_below (rb_ HO332.out) hb)
      have n9_ := Aside0.mk (blk_below (g := gb292) (o := .cells #[.slice A0_0 l0_0.length c0_0, .int .i64 a0_1, .bool a0_2, .slice A0_3 l0_3.length c0_3, .slice A0_4 l0_4.length c0_4] 59 (0, 0)) (bk_ BK292.out) hb)
      have n10_ := Aside0.mk (blk_below (g := gb293) (o := .cells #[.int .i64 a1_0, .int .i64 a1_1, .int .i64 a1_2, .int .i64 a1_3] 65 (0, 0)) (bk_ BK293.out) hb)
      have n11_ := Aside0.mk (blk_below (g := gb321) (o := .cells #[.slice Ao37 t310.length co37, .int .i64 t313, .bool t314, .slice Ao41 t315.length co41, .slice Ao43 t318.length co43] 36 (0, 0)) (bk_ BK321.out) hb)
      have n12_ := Aside0.mk (blk_below (g := gb333) (o := .cells #[.slice Ao49 t322.length co49, .int .i64 t325, .bool t326, .slice Ao54 t327.length co54, .slice Ao55 t330.length co55] 36 (0, 0)) (bk_ BK333.out) hb)
      have n13_ := Aside0.mk (below_step z5_ hb)
      clear HO297 HO302 HO305 HO312 HO317 HO320 HO324 HO329 HO332 BK292 BK293 BK321 BK333 HB
      have HO297 := n0_
      have HO302 := n1_
      have HO305 := n2_
      have HO312 := n3_
      have HO317 := n4_
      have HO320 := n5_
      have HO324 := n6_
      have HO329 := n7_
      have HO332 := n8_
      have BK292 := n9_
      have BK293 := n10_
      have BK321 := n11_
      have BK333 := n12_
      have HB := n13_
      clear n0_ n1_ n2_ n3_ n4_ n5_ n6_ n7_ n8_ n9_ n10_ n11_ n12_ n13_
      (try clear hb)
      (try clear hb2)
      (try clear hk)
      (try clear hi)
      refine hK.out _ _ ⟨(blk_cell BK333.out 0).trans rfl, (blk_cell BK333.out 1).trans rfl, (blk_cell BK333.out 2).trans rfl, (blk_cell BK333.out 3).trans rfl, (blk_cell BK333.out 4).trans rfl, (blk_cell BK293.out 0).trans rfl, (blk_cell BK293.out 1).trans rfl, (blk_cell BK293.out 2).trans rfl, (blk_cell BK293.out 3).trans rfl⟩ (fun hHeld => ?_)
      clear hK K
      refine norm_ (a' := ?_) ?_ ?_
      rotate_left
      ·
       show Act.put _ (some 27) _ = _
       simp only [Act.put, List.setIfInBounds_toArray, List.set_cons_zero, List.set_cons_succ, i64_w, i32_w]
       rfl
      refine two_ (i := 3) (j := 4) (Ni := some 28) (Nj := some 8) #[true, true, true, true, false, false] #[true, true, true, false, true, false] rfl rfl rfl rfl (by kernel_rfl) (by decide) (by decide) (fun K hK => ?_) (fun K hK => ?_)
      ·
       skip
       refine goes_ Try.func43 (by kernel_rfl) rfl #[.agg #[.slice Ao49 t322.length co49, .int .i64 t325, .bool t326, .slice Ao54 t327.length co54, .slice Ao55 t330.length co55], .agg #[.int .i64 t334, .int .i64 t335, .int .i64 t336, .int .i64 t337]] (by rfl) rfl rfl z4_ ?_
       with_reducible refine (impl_Push.calls _ _ t322 t325 t326 _ _ t327 _ _ t330 t334 t335 t336 t337 t338 t341 t342 t343 t346 _ ?side1 ?side2 ?side3 ?side4 ?side5 ?side6 A15.out).mono ?_
       (case side1 => repeat (first | exact (Kd.R_reads' HO324.out).2.2 | (with_reducible refine Kd.C_alloc ?_ _) | (with_reducible refine Kd.C_drewN ?_ _) | (with_reducible refine Kd.C_drew ?_)))
       (case side2 => exact (Kd.R_reads' HO324.out).2.1)
       (case side3 => repeat (first | exact (Kd.R_reads' HO329.out).2.2 | (with_reducible refine Kd.C_alloc ?_ _) | (with_reducible refine Kd.C_drewN ?_ _) | (with_reducible refine Kd.C_drew ?_)))
       (case side4 => exact (Kd.R_reads' HO329.out).2.1)
       (case side5 => repeat (first | exact (Kd.R_reads' HO332.out).2.2 | (with_reducible refine Kd.C_alloc ?_ _) | (with_reducible refine Kd.C_drewN ?_ _) | (with_reducible refine Kd.C_drew ?_)))
       (case side6 => exact (Kd.R_reads' HO332.out).2.1)
       rintro e w59 ⟨v339, v344, v347, rfl, ho0, ho1, ho2, hb⟩
       refine ⟨_, rfl, ?_⟩
       have n0_ := Aside0.mk (Kd.R_elder' (rb_ HO297.out) (Kd.R_base ho0) hb)
       have n1_ := Aside0.mk (Kd.R_elder' (rb_ HO302.out) (Kd.R_base ho1) hb)
       have n2_ := Aside0.mk (Kd.R_elder' (rb_ HO305.out) (Kd.R_base ho2) hb)
       have n3_ := Aside0.mk (Kd.R_elder' (rb_ HO312.out) (Kd.R_base ho0) hb)
       have n4_ := Aside0.mk (Kd.R_elder' (rb_ HO317.out) (Kd.R_base ho1) hb)
       have n5_ := Aside0.mk (Kd.R_elder' (rb_ HO320.out) (Kd.R_base ho2) hb)
       have n6_ := Aside0.mk (Kd.R_elder' (rb_ HO324.out) (Kd.R_base ho0) hb)
       have n7_ := Aside0.mk (Kd.R_elder' (rb_ HO329.out) (Kd.R_base ho1) hb)
       have n8_ := Aside0.mk (Kd.R_elder' (rb_ HO332.out) (Kd.R_base ho2) hb)
       have n9_ := Aside0.mk (Kd.R_lower (Kd.R_new' (Kd.R_new' (Kd.R_new' ho0 (Kd.R_lt (rb_ HO297.out))) (Kd.R_lt (rb_ HO312.out))) (Kd.R_lt (rb_ HO324.out))) (below_size z5_))
       have n10_ := Aside0.mk (Kd.R_lower (Kd.R_new' (Kd.R_new' (Kd.R_new' ho1 (Kd.R_lt (rb_ HO302.out))) (Kd.R_lt (rb_ HO317.out))) (Kd.R_lt (rb_ HO329.out))) (below_size z5_))
       have n11_ := Aside0.mk (Kd.R_lower (Kd.R_new' (Kd.R_new' (Kd.R_new' ho2 (Kd.R_lt (rb_ HO305.out))) (Kd.R_lt (rb_ HO320.out))) (Kd.R_lt (rb_ HO332.out))) (below_size z5_))
       have n12_ := Aside0.mk (blk_below (g := gb292) (o := .cells #[.slice A0_0 l0_0.length c0_0, .int .i64 a0_1, .bool a0_2, .slice A0_3 l0_3.length c0_3, .slice A0_4 l0_4.length c0_4] 59 (0, 0)) (bk_ BK292.out) hb)
       have n13_ := Aside0.mk (blk_below (g := gb293) (o := .cells #[.int .i64 a1_0, .int .i64 a1_1, .int .i64 a1_2, .int .i64 a1_3] 65 (0, 0)) (bk_ BK293.out) hb)
       have n14_ := Aside0.mk (blk_below (g := gb321) (o := .cells #[.slice Ao37 t310.length co37, .int .i64 t313, .bool t314, .slice Ao41 t315.length co41, .slice Ao43 t318.length co43] 36 (0, 0)) (bk_ BK321.out) hb)
       have n15_ := Aside0.mk (blk_below (g := gb333) (o := .cells #[.slice Ao49 t322.length co49, .int .i64 t325, .bool t326, .slice Ao54 t327.length co54, .slice Ao55 t330.length co55] 36 (0, 0)) (bk_ BK333.out) hb)
       have n16_ := Aside0.mk (below_step z5_ hb)
       clear HO297 HO302 HO305 HO312 HO317 HO320 HO324 HO329 HO332 BK292 BK293 BK321 BK333 HB
       have HO297 := n0_
       have HO302 := n1_
       have HO305 := n2_
       have HO312 := n3_
       have HO317 := n4_
       have HO320 := n5_
       have HO324 := n6_
       have HO329 := n7_
       have HO332 := n8_
       have HO340 := n9_
       have HO345 := n10_
       have HO348 := n11_
       have BK292 := n12_
       have BK293 := n13_
       have BK321 := n14_
       have BK333 := n15_
       have HB := n16_
       clear n0_ n1_ n2_ n3_ n4_ n5_ n6_ n7_ n8_ n9_ n10_ n11_ n12_ n13_ n14_ n15_ n16_
       (try clear hb)
       (try clear hb2)
       (try clear hk)
       (try clear hi)
       (try clear ho0)
       (try clear ho1)
       (try clear ho2)
       refine hK.out _ _ ⟨(blk_cell BK333.out 0).trans rfl, (blk_cell BK333.out 1).trans rfl, (blk_cell BK333.out 2).trans rfl, (blk_cell BK333.out 3).trans rfl, (blk_cell BK333.out 4).trans rfl, (blk_cell BK293.out 0).trans rfl, (blk_cell BK293.out 1).trans rfl, (blk_cell BK293.out 2).trans rfl, (blk_cell BK293.out 3).trans rfl⟩ (fun hHeld => ?_)
       clear hK K
       refine norm_ (a' := ?_) ?_ ?_
       rotate_left
       ·
        show Act.put _ (some 28) _ = _
        simp only [Act.put, List.setIfInBounds_toArray, List.set_cons_zero, List.set_cons_succ, i64_w, i32_w]
        rfl
       refine one_ (i := 4) (N := some 8) #[true, true, true, true, true, false] rfl rfl (by kernel_rfl) (by decide) (fun K hK => ?_)
       refine box_step ?hg (N := 8) ?hd (cs := #[.slice none 0 0, .int .i64 0, .bool false, .slice none 0 0, .slice none 0 0]) (t := 36) ?hr ?_; (case hd => rfl); (case hg => rfl); (case hr => first | (go_simp; done) | (go_simp; rfl))
       intro gb349 hg w60 hbox hb
       have n0_ := Aside0.mk (Kd.R_below (rb_ HO297.out) hb)
       have n1_ := Aside0.mk (Kd.R_below (rb_ HO302.out) hb)
       have n2_ := Aside0.mk (Kd.R_below (rb_ HO305.out) hb)
       have n3_ := Aside0.mk (Kd.R_below (rb_ HO312.out) hb)
       have n4_ := Aside0.mk (Kd.R_below (rb_ HO317.out) hb)
       have n5_ := Aside0.mk (Kd.R_below (rb_ HO320.out) hb)
       have n6_ := Aside0.mk (Kd.R_below (rb_ HO324.out) hb)
       have n7_ := Aside0.mk (Kd.R_below (rb_ HO329.out) hb)
       have n8_ := Aside0.mk (Kd.R_below (rb_ HO332.out) hb)
       have n9_ := Aside0.mk (Kd.R_below (rb_ HO340.out) hb)
       have n10_ := Aside0.mk (Kd.R_below (rb_ HO345.out) hb)
       have n11_ := Aside0.mk (Kd.R_below (rb_ HO348.out) hb)
       have n12_ := Aside0.mk (blk_below (g := gb292) (o := .cells #[.slice A0_0 l0_0.length c0_0, .int .i64 a0_1, .bool a0_2, .slice A0_3 l0_3.length c0_3, .slice A0_4 l0_4.length c0_4] 59 (0, 0)) (bk_ BK292.out) hb)
       have n13_ := Aside0.mk (blk_below (g := gb293) (o := .cells #[.int .i64 a1_0, .int .i64 a1_1, .int .i64 a1_2, .int .i64 a1_3] 65 (0, 0)) (bk_ BK293.out) hb)
       have n14_ := Aside0.mk (blk_below (g := gb321) (o := .cells #[.slice Ao37 t310.length co37, .int .i64 t313, .bool t314, .slice Ao41 t315.length co41, .slice Ao43 t318.length co43] 36 (0, 0)) (bk_ BK321.out) hb)
       have n15_ := Aside0.mk (blk_below (g := gb333) (o := .cells #[.slice Ao49 t322.length co49, .int .i64 t325, .bool t326, .slice Ao54 t327.length co54, .slice Ao55 t330.length co55] 36 (0, 0)) (bk_ BK333.out) hb)
       have n16_ := Aside0.mk (below_step z5_ hb)
       have n17_ := Aside0.mk (hbox)
       have n18_ := Aside0.mk ((by rw [hg]; exact (below_size z5_) : w.heap.size ≤ gb349))
       have n19_ := Aside0.mk ((by rw [hg]; exact (below_size z5_) : w.heap.size ≤ gb349))
       have n20_ := Aside0.mk ((z6_ : gb292 ≠ gb349))
       have n21_ := Aside0.mk ((z7_ : gb349 ≠ gb292))
       have n22_ := Aside0.mk ((z8_ : gb293 ≠ gb349))
       have n23_ := Aside0.mk ((z9_ : gb349 ≠ gb293))
       have n24_ := Aside0.mk ((z10_ : gb321 ≠ gb349))
       have n25_ := Aside0.mk ((z11_ : gb349 ≠ gb321))
       have n26_ := Aside0.mk ((z51_ : gb333 ≠ gb349))
       have n27_ := Aside0.mk ((z52_ : gb349 ≠ gb333))
       clear HO297 HO302 HO305 HO312 HO317 HO320 HO324 HO329 HO332 HO340 HO345 HO348 BK292 BK293 BK321 BK333 HB
       have HO297 := n0_
       have HO302 := n1_
       have HO305 := n2_
       have HO312 := n3_
       have HO317 := n4_
       have HO320 := n5_
       have HO324 := n6_
       have HO329 := n7_
       have HO332 := n8_
       have HO340 := n9_
       have HO345 := n10_
       have HO348 := n11_
       have BK292 := n12_
       have BK293 := n13_
       have BK321 := n14_
       have BK333 := n15_
       have HB := n16_
       have BK349 := n17_
       have GW349 := n18_
       have GE349 := n19_
       have NB292_349 := n20_
       have NB349_292 := n21_
       have NB293_349 := n22_
       have NB349_293 := n23_
       have NB321_349 := n24_
       have NB349_321 := n25_
       have NB333_349 := n26_
       have NB349_333 := n27_
       clear n0_ n1_ n2_ n3_ n4_ n5_ n6_ n7_ n8_ n9_ n10_ n11_ n12_ n13_ n14_ n15_ n16_ n17_ n18_ n19_ n20_ n21_ n22_ n23_ n24_ n25_ n26_ n27_ hb hbox hg
       refine hK.out _ _ ⟨(blk_cell BK333.out 0).trans rfl, (blk_cell BK333.out 1).trans rfl, (blk_cell BK333.out 2).trans rfl, (blk_cell BK333.out 3).trans rfl, (blk_cell BK333.out 4).trans rfl, (blk_cell BK293.out 0).trans rfl, (blk_cell BK293.out 1).trans rfl, (blk_cell BK293.out 2).trans rfl, (blk_cell BK293.out 3).trans rfl⟩ (fun hHeld => ?_)
       clear hK K
       refine norm_ (a' := ?_) ?_ ?_
       rotate_left
       ·
        show Act.put _ (some 8) _ = _
        simp only [Act.put, List.setIfInBounds_toArray, List.set_cons_zero, List.set_cons_succ, i64_w, i32_w]
        rfl
       exact norm_ (by simp only [putAll, Act.put, List.setIfInBounds_toArray, List.set_cons_zero, List.set_cons_succ]) (hCont (v339, v344, v347, gb349) _ ⟨hHeld, (by (with_reducible repeat (first | apply Kd.R_alloc | apply Kd.R_drewN | apply Kd.R_drew)); exact Kd.R_mono HO297.out (fun _ hk => ⟨hk.1.1, ⟨hk.1.2, hk.2⟩⟩)), (by (with_reducible repeat (first | apply Kd.R_alloc | apply Kd.R_drewN | apply Kd.R_drew)); exact Kd.R_mono HO302.out (fun _ hk => ⟨hk.1.1, ⟨hk.1.2, hk.2⟩⟩)), (by (with_reducible repeat (first | apply Kd.R_alloc | apply Kd.R_drewN | apply Kd.R_drew)); exact Kd.R_mono HO305.out (fun _ hk => ⟨hk.1.1, ⟨hk.1.2, hk.2⟩⟩)), (by (with_reducible repeat (first | apply Kd.R_alloc | apply Kd.R_drewN | apply Kd.R_drew)); exact Kd.R_mono HO312.out (fun _ hk => ⟨hk.1.1, ⟨hk.1.2, hk.2⟩⟩)), (by (with_reducible repeat (first | apply Kd.R_alloc | apply Kd.R_drewN | apply Kd.R_drew)); exact Kd.R_mono HO317.out (fun _ hk => ⟨hk.1.1, ⟨hk.1.2, hk.2⟩⟩)), (by (with_reducible repeat (first | apply Kd.R_alloc | apply Kd.R_drewN | apply Kd.R_drew)); exact Kd.R_mono HO320.out (fun _ hk => ⟨hk.1.1, ⟨hk.1.2, hk.2⟩⟩)), (by (with_reducible repeat (first | apply Kd.R_alloc | apply Kd.R_drewN | apply Kd.R_drew)); exact Kd.R_mono HO324.out (fun _ hk => ⟨hk.1.1, ⟨hk.1.2, hk.2⟩⟩)), (by (with_reducible repeat (first | apply Kd.R_alloc | apply Kd.R_drewN | apply Kd.R_drew)); exact Kd.R_mono HO329.out (fun _ hk => ⟨hk.1.1, ⟨hk.1.2, hk.2⟩⟩)), (by (with_reducible repeat (first | apply Kd.R_alloc | apply Kd.R_drewN | apply Kd.R_drew)); exact Kd.R_mono HO332.out (fun _ hk => ⟨hk.1.1, ⟨hk.1.2, hk.2⟩⟩)), (by (with_reducible repeat (first | apply Kd.R_alloc | apply Kd.R_drewN | apply Kd.R_drew)); exact Kd.R_mono HO340.out (fun _ hk => ⟨hk.1.1.2, ⟨hk.1.2, hk.2⟩⟩)), (by (with_reducible repeat (first | apply Kd.R_alloc | apply Kd.R_drewN | apply Kd.R_drew)); exact Kd.R_mono HO345.out (fun _ hk => ⟨hk.1.1.2, ⟨hk.1.2, hk.2⟩⟩)), (by (with_reducible repeat (first | apply Kd.R_alloc | apply Kd.R_drewN | apply Kd.R_drew)); exact Kd.R_mono HO348.out (fun _ hk => ⟨hk.1.1.2, ⟨hk.1.2, hk.2⟩⟩)), bk_ BK292.out, bk_ BK293.out, bk_ BK321.out, bk_ BK333.out, bk_ BK349.out, GW349.out, GE349.out, NB292_349.out, NB349_292.out, NB293_349.out, NB349_293.out, NB321_349.out, NB349_321.out, NB333_349.out, NB349_333.out, z0_⟩)
      ·
       skip
       refine box_step ?hg (N := 8) ?hd (cs := #[.slice none 0 0, .int .i64 0, .bool false, .slice none 0 0, .slice none 0 0]) (t := 36) ?hr ?_; (case hd => rfl); (case hg => rfl); (case hr => first | (go_simp; done) | (go_simp; rfl))
       intro gb349 hg w59 hbox hb
       have n0_ := Aside0.mk (Kd.R_below (rb_ HO297.out) hb)
       have n1_ := Aside0.mk (Kd.R_below (rb_ HO302.out) hb)
       have n2_ := Aside0.mk (Kd.R_below (rb_ HO305.out) hb)
       have n3_ := Aside0.mk (Kd.R_below (rb_ HO312.out) hb)
       have n4_ := Aside0.mk (Kd.R_below (rb_ HO317.out) hb)
       have n5_ := Aside0.mk (Kd.R_below (rb_ HO320.out) hb)
       have n6_ := Aside0.mk (Kd.R_below (rb_ HO324.out) hb)
       have n7_ := Aside0.mk (Kd.R_below (rb_ HO329.out) hb)
       have n8_ := Aside0.mk (Kd.R_below (rb_ HO332.out) hb)
       have n9_ := Aside0.mk (blk_below (g := gb292) (o := .cells #[.slice A0_0 l0_0.length c0_0, .int .i64 a0_1, .bool a0_2, .slice A0_3 l0_3.length c0_3, .slice A0_4 l0_4.length c0_4] 59 (0, 0)) (bk_ BK292.out) hb)
       have n10_ := Aside0.mk (blk_below (g := gb293) (o := .cells #[.int .i64 a1_0, .int .i64 a1_1, .int .i64 a1_2, .int .i64 a1_3] 65 (0, 0)) (bk_ BK293.out) hb)
       have n11_ := Aside0.mk (blk_below (g := gb321) (o := .cells #[.slice Ao37 t310.length co37, .int .i64 t313, .bool t314, .slice Ao41 t315.length co41, .slice Ao43 t318.length co43] 36 (0, 0)) (bk_ BK321.out) hb)
       have n12_ := Aside0.mk (blk_below (g := gb333) (o := .cells #[.slice Ao49 t322.length co49, .int .i64 t325, .bool t326, .slice Ao54 t327.length co54, .slice Ao55 t330.length co55] 36 (0, 0)) (bk_ BK333.out) hb)
       have n13_ := Aside0.mk (below_step z5_ hb)
       have n14_ := Aside0.mk (hbox)
       have n15_ := Aside0.mk ((by rw [hg]; exact (below_size z5_) : w.heap.size ≤ gb349))
       have n16_ := Aside0.mk ((by rw [hg]; exact (below_size z5_) : w.heap.size ≤ gb349))
       have n17_ := Aside0.mk ((z6_ : gb292 ≠ gb349))
       have n18_ := Aside0.mk ((z7_ : gb349 ≠ gb292))
       have n19_ := Aside0.mk ((z8_ : gb293 ≠ gb349))
       have n20_ := Aside0.mk ((z9_ : gb349 ≠ gb293))
       have n21_ := Aside0.mk ((z10_ : gb321 ≠ gb349))
       have n22_ := Aside0.mk ((z11_ : gb349 ≠ gb321))
       have n23_ := Aside0.mk ((z51_ : gb333 ≠ gb349))
       have n24_ := Aside0.mk ((z52_ : gb349 ≠ gb333))
       clear HO297 HO302 HO305 HO312 HO317 HO320 HO324 HO329 HO332 BK292 BK293 BK321 BK333 HB
       have HO297 := n0_
       have HO302 := n1_
       have HO305 := n2_
       have HO312 := n3_
       have HO317 := n4_
       have HO320 := n5_
       have HO324 := n6_
       have HO329 := n7_
       have HO332 := n8_
       have BK292 := n9_
       have BK293 := n10_
       have BK321 := n11_
       have BK333 := n12_
       have HB := n13_
       have BK349 := n14_
       have GW349 := n15_
       have GE349 := n16_
       have NB292_349 := n17_
       have NB349_292 := n18_
       have NB293_349 := n19_
       have NB349_293 := n20_
       have NB321_349 := n21_
       have NB349_321 := n22_
       have NB333_349 := n23_
       have NB349_333 := n24_
       clear n0_ n1_ n2_ n3_ n4_ n5_ n6_ n7_ n8_ n9_ n10_ n11_ n12_ n13_ n14_ n15_ n16_ n17_ n18_ n19_ n20_ n21_ n22_ n23_ n24_ hb hbox hg
       refine hK.out _ _ ⟨(blk_cell BK333.out 0).trans rfl, (blk_cell BK333.out 1).trans rfl, (blk_cell BK333.out 2).trans rfl, (blk_cell BK333.out 3).trans rfl, (blk_cell BK333.out 4).trans rfl, (blk_cell BK293.out 0).trans rfl, (blk_cell BK293.out 1).trans rfl, (blk_cell BK293.out 2).trans rfl, (blk_cell BK293.out 3).trans rfl⟩ (fun hHeld => ?_)
       clear hK K
       refine norm_ (a' := ?_) ?_ ?_
       rotate_left
       ·
        show Act.put _ (some 8) _ = _
        simp only [Act.put, List.setIfInBounds_toArray, List.set_cons_zero, List.set_cons_succ, i64_w, i32_w]
        rfl
       refine one_ (i := 3) (N := some 28) #[true, true, true, true, true, false] rfl rfl (by kernel_rfl) (by decide) (fun K hK => ?_)
       refine goes_ Try.func43 (by kernel_rfl) rfl #[.agg #[.slice Ao49 t322.length co49, .int .i64 t325, .bool t326, .slice Ao54 t327.length co54, .slice Ao55 t330.length co55], .agg #[.int .i64 t334, .int .i64 t335, .int .i64 t336, .int .i64 t337]] (by rfl) rfl rfl z4_ ?_
       with_reducible refine (impl_Push.calls _ _ t322 t325 t326 _ _ t327 _ _ t330 t334 t335 t336 t337 t338 t341 t342 t343 t346 _ ?side1 ?side2 ?side3 ?side4 ?side5 ?side6 A15.out).mono ?_
       (case side1 => repeat (first | exact (Kd.R_reads' HO324.out).2.2 | (with_reducible refine Kd.C_alloc ?_ _) | (with_reducible refine Kd.C_drewN ?_ _) | (with_reducible refine Kd.C_drew ?_)))
       (case side2 => exact (Kd.R_reads' HO324.out).2.1)
       (case side3 => repeat (first | exact (Kd.R_reads' HO329.out).2.2 | (with_reducible refine Kd.C_alloc ?_ _) | (with_reducible refine Kd.C_drewN ?_ _) | (with_reducible refine Kd.C_drew ?_)))
       (case side4 => exact (Kd.R_reads' HO329.out).2.1)
       (case side5 => repeat (first | exact (Kd.R_reads' HO332.out).2.2 | (with_reducible refine Kd.C_alloc ?_ _) | (with_reducible refine Kd.C_drewN ?_ _) | (with_reducible refine Kd.C_drew ?_)))
       (case side6 => exact (Kd.R_reads' HO332.out).2.1)
       rintro e w60 ⟨v339, v344, v347, rfl, ho0, ho1, ho2, hb⟩
       refine ⟨_, rfl, ?_⟩
       have n0_ := Aside0.mk (Kd.R_elder' (rb_ HO297.out) (Kd.R_base ho0) hb)
       have n1_ := Aside0.mk (Kd.R_elder' (rb_ HO302.out) (Kd.R_base ho1) hb)
       have n2_ := Aside0.mk (Kd.R_elder' (rb_ HO305.out) (Kd.R_base ho2) hb)
       have n3_ := Aside0.mk (Kd.R_elder' (rb_ HO312.out) (Kd.R_base ho0) hb)
       have n4_ := Aside0.mk (Kd.R_elder' (rb_ HO317.out) (Kd.R_base ho1) hb)
       have n5_ := Aside0.mk (Kd.R_elder' (rb_ HO320.out) (Kd.R_base ho2) hb)
       have n6_ := Aside0.mk (Kd.R_elder' (rb_ HO324.out) (Kd.R_base ho0) hb)
       have n7_ := Aside0.mk (Kd.R_elder' (rb_ HO329.out) (Kd.R_base ho1) hb)
       have n8_ := Aside0.mk (Kd.R_elder' (rb_ HO332.out) (Kd.R_base ho2) hb)
       have n9_ := Aside0.mk (Kd.R_lower (Kd.R_new' (Kd.R_new' (Kd.R_new' ho0 (Kd.R_lt (rb_ HO297.out))) (Kd.R_lt (rb_ HO312.out))) (Kd.R_lt (rb_ HO324.out))) (below_size z0_))
       have n10_ := Aside0.mk (Kd.R_lower (Kd.R_new' (Kd.R_new' (Kd.R_new' ho1 (Kd.R_lt (rb_ HO302.out))) (Kd.R_lt (rb_ HO317.out))) (Kd.R_lt (rb_ HO329.out))) (below_size z0_))
       have n11_ := Aside0.mk (Kd.R_lower (Kd.R_new' (Kd.R_new' (Kd.R_new' ho2 (Kd.R_lt (rb_ HO305.out))) (Kd.R_lt (rb_ HO320.out))) (Kd.R_lt (rb_ HO332.out))) (below_size z0_))
       have n12_ := Aside0.mk (blk_below (g := gb292) (o := .cells #[.slice A0_0 l0_0.length c0_0, .int .i64 a0_1, .bool a0_2, .slice A0_3 l0_3.length c0_3, .slice A0_4 l0_4.length c0_4] 59 (0, 0)) (bk_ BK292.out) hb)
       have n13_ := Aside0.mk (blk_below (g := gb293) (o := .cells #[.int .i64 a1_0, .int .i64 a1_1, .int .i64 a1_2, .int .i64 a1_3] 65 (0, 0)) (bk_ BK293.out) hb)
       have n14_ := Aside0.mk (blk_below (g := gb321) (o := .cells #[.slice Ao37 t310.length co37, .int .i64 t313, .bool t314, .slice Ao41 t315.length co41, .slice Ao43 t318.length co43] 36 (0, 0)) (bk_ BK321.out) hb)
       have n15_ := Aside0.mk (blk_below (g := gb333) (o := .cells #[.slice Ao49 t322.length co49, .int .i64 t325, .bool t326, .slice Ao54 t327.length co54, .slice Ao55 t330.length co55] 36 (0, 0)) (bk_ BK333.out) hb)
       have n16_ := Aside0.mk (blk_below (g := gb349) (o := .cells #[.slice none 0 0, .int .i64 0, .bool false, .slice none 0 0, .slice none 0 0] 36 (0, 0)) (bk_ BK349.out) hb)
       have n17_ := Aside0.mk (below_step z0_ hb)
       clear HO297 HO302 HO305 HO312 HO317 HO320 HO324 HO329 HO332 BK292 BK293 BK321 BK333 BK349 HB
       have HO297 := n0_
       have HO302 := n1_
       have HO305 := n2_
       have HO312 := n3_
       have HO317 := n4_
       have HO320 := n5_
       have HO324 := n6_
       have HO329 := n7_
       have HO332 := n8_
       have HO340 := n9_
       have HO345 := n10_
       have HO348 := n11_
       have BK292 := n12_
       have BK293 := n13_
       have BK321 := n14_
       have BK333 := n15_
       have BK349 := n16_
       have HB := n17_
       clear n0_ n1_ n2_ n3_ n4_ n5_ n6_ n7_ n8_ n9_ n10_ n11_ n12_ n13_ n14_ n15_ n16_ n17_
       (try clear hb)
       (try clear hb2)
       (try clear hk)
       (try clear hi)
       (try clear ho0)
       (try clear ho1)
       (try clear ho2)
       refine hK.out _ _ ⟨(blk_cell BK333.out 0).trans rfl, (blk_cell BK333.out 1).trans rfl, (blk_cell BK333.out 2).trans rfl, (blk_cell BK333.out 3).trans rfl, (blk_cell BK333.out 4).trans rfl, (blk_cell BK293.out 0).trans rfl, (blk_cell BK293.out 1).trans rfl, (blk_cell BK293.out 2).trans rfl, (blk_cell BK293.out 3).trans rfl⟩ (fun hHeld => ?_)
       clear hK K
       refine norm_ (a' := ?_) ?_ ?_
       rotate_left
       ·
        show Act.put _ (some 28) _ = _
        simp only [Act.put, List.setIfInBounds_toArray, List.set_cons_zero, List.set_cons_succ, i64_w, i32_w]
        rfl
       exact norm_ (by simp only [putAll, Act.put, List.setIfInBounds_toArray, List.set_cons_zero, List.set_cons_succ]) (hCont (v339, v344, v347, gb349) _ ⟨hHeld, (by (with_reducible repeat (first | apply Kd.R_alloc | apply Kd.R_drewN | apply Kd.R_drew)); exact Kd.R_mono HO297.out (fun _ hk => ⟨hk.1.1, ⟨hk.1.2, hk.2⟩⟩)), (by (with_reducible repeat (first | apply Kd.R_alloc | apply Kd.R_drewN | apply Kd.R_drew)); exact Kd.R_mono HO302.out (fun _ hk => ⟨hk.1.1, ⟨hk.1.2, hk.2⟩⟩)), (by (with_reducible repeat (first | apply Kd.R_alloc | apply Kd.R_drewN | apply Kd.R_drew)); exact Kd.R_mono HO305.out (fun _ hk => ⟨hk.1.1, ⟨hk.1.2, hk.2⟩⟩)), (by (with_reducible repeat (first | apply Kd.R_alloc | apply Kd.R_drewN | apply Kd.R_drew)); exact Kd.R_mono HO312.out (fun _ hk => ⟨hk.1.1, ⟨hk.1.2, hk.2⟩⟩)), (by (with_reducible repeat (first | apply Kd.R_alloc | apply Kd.R_drewN | apply Kd.R_drew)); exact Kd.R_mono HO317.out (fun _ hk => ⟨hk.1.1, ⟨hk.1.2, hk.2⟩⟩)), (by (with_reducible repeat (first | apply Kd.R_alloc | apply Kd.R_drewN | apply Kd.R_drew)); exact Kd.R_mono HO320.out (fun _ hk => ⟨hk.1.1, ⟨hk.1.2, hk.2⟩⟩)), (by (with_reducible repeat (first | apply Kd.R_alloc | apply Kd.R_drewN | apply Kd.R_drew)); exact Kd.R_mono HO324.out (fun _ hk => ⟨hk.1.1, ⟨hk.1.2, hk.2⟩⟩)), (by (with_reducible repeat (first | apply Kd.R_alloc | apply Kd.R_drewN | apply Kd.R_drew)); exact Kd.R_mono HO329.out (fun _ hk => ⟨hk.1.1, ⟨hk.1.2, hk.2⟩⟩)), (by (with_reducible repeat (first | apply Kd.R_alloc | apply Kd.R_drewN | apply Kd.R_drew)); exact Kd.R_mono HO332.out (fun _ hk => ⟨hk.1.1, ⟨hk.1.2, hk.2⟩⟩)), (by (with_reducible repeat (first | apply Kd.R_alloc | apply Kd.R_drewN | apply Kd.R_drew)); exact Kd.R_mono HO340.out (fun _ hk => ⟨hk.1.1.2, ⟨hk.1.2, hk.2⟩⟩)), (by (with_reducible repeat (first | apply Kd.R_alloc | apply Kd.R_drewN | apply Kd.R_drew)); exact Kd.R_mono HO345.out (fun _ hk => ⟨hk.1.1.2, ⟨hk.1.2, hk.2⟩⟩)), (by (with_reducible repeat (first | apply Kd.R_alloc | apply Kd.R_drewN | apply Kd.R_drew)); exact Kd.R_mono HO348.out (fun _ hk => ⟨hk.1.1.2, ⟨hk.1.2, hk.2⟩⟩)), bk_ BK292.out, bk_ BK293.out, bk_ BK321.out, bk_ BK333.out, bk_ BK349.out, GW349.out, GE349.out, NB292_349.out, NB349_292.out, NB293_349.out, NB349_293.out, NB321_349.out, NB349_321.out, NB333_349.out, NB349_333.out, z0_⟩)
     ·
      skip
      refine box_step ?hg (N := 8) ?hd (cs := #[.slice none 0 0, .int .i64 0, .bool false, .slice none 0 0, .slice none 0 0]) (t := 36) ?hr ?_; (case hd => rfl); (case hg => rfl); (case hr => first | (go_simp; done) | (go_simp; rfl))
      intro gb349 hg w58 hbox hb
      have n0_ := Aside0.mk (Kd.R_below (rb_ HO297.out) hb)
      have n1_ := Aside0.mk (Kd.R_below (rb_ HO302.out) hb)
      have n2_ := Aside0.mk (Kd.R_below (rb_ HO305.out) hb)
      have n3_ := Aside0.mk (Kd.R_below (rb_ HO312.out) hb)
      have n4_ := Aside0.mk (Kd.R_below (rb_ HO317.out) hb)
      have n5_ := Aside0.mk (Kd.R_below (rb_ HO320.out) hb)
      have n6_ := Aside0.mk (Kd.R_below (rb_ HO324.out) hb)
      have n7_ := Aside0.mk (Kd.R_below (rb_ HO329.out) hb)
      have n8_ := Aside0.mk (Kd.R_below (rb_ HO332.out) hb)
      have n9_ := Aside0.mk (blk_below (g := gb292) (o := .cells #[.slice A0_0 l0_0.length c0_0, .int .i64 a0_1, .bool a0_2, .slice A0_3 l0_3.length c0_3, .slice A0_4 l0_4.length c0_4] 59 (0, 0)) (bk_ BK292.out) hb)
      have n10_ := Aside0.mk (blk_below (g := gb293) (o := .cells #[.int .i64 a1_0, .int .i64 a1_1, .int .i64 a1_2, .int .i64 a1_3] 65 (0, 0)) (bk_ BK293.out) hb)
      have n11_ := Aside0.mk (blk_below (g := gb321) (o := .cells #[.slice Ao37 t310.length co37, .int .i64 t313, .bool t314, .slice Ao41 t315.length co41, .slice Ao43 t318.length co43] 36 (0, 0)) (bk_ BK321.out) hb)
      have n12_ := Aside0.mk (blk_below (g := gb333) (o := .cells #[.slice Ao49 t322.length co49, .int .i64 t325, .bool t326, .slice Ao54 t327.length co54, .slice Ao55 t330.length co55] 36 (0, 0)) (bk_ BK333.out) hb)
      have n13_ := Aside0.mk (below_step z5_ hb)
      have n14_ := Aside0.mk (hbox)
      have n15_ := Aside0.mk ((by rw [hg]; exact (below_size z5_) : w.heap.size ≤ gb349))
      have n16_ := Aside0.mk ((by rw [hg]; exact (below_size z5_) : w.heap.size ≤ gb349))
      have n17_ := Aside0.mk ((z6_ : gb292 ≠ gb349))
      have n18_ := Aside0.mk ((z7_ : gb349 ≠ gb292))
      have n19_ := Aside0.mk ((z8_ : gb293 ≠ gb349))
      have n20_ := Aside0.mk ((z9_ : gb349 ≠ gb293))
      have n21_ := Aside0.mk ((z10_ : gb321 ≠ gb349))
      have n22_ := Aside0.mk ((z11_ : gb349 ≠ gb321))
      have n23_ := Aside0.mk ((z51_ : gb333 ≠ gb349))
      have n24_ := Aside0.mk ((z52_ : gb349 ≠ gb333))
      clear HO297 HO302 HO305 HO312 HO317 HO320 HO324 HO329 HO332 BK292 BK293 BK321 BK333 HB
      have HO297 := n0_
      have HO302 := n1_
      have HO305 := n2_
      have HO312 := n3_
      have HO317 := n4_
      have HO320 := n5_
      have HO324 := n6_
      have HO329 := n7_
      have HO332 := n8_
      have BK292 := n9_
      have BK293 := n10_
      have BK321 := n11_
      have BK333 := n12_
      have HB := n13_
      have BK349 := n14_
      have GW349 := n15_
      have GE349 := n16_
      have NB292_349 := n17_
      have NB349_292 := n18_
      have NB293_349 := n19_
      have NB349_293 := n20_
      have NB321_349 := n21_
      have NB349_321 := n22_
      have NB333_349 := n23_
      have NB349_333 := n24_
      clear n0_ n1_ n2_ n3_ n4_ n5_ n6_ n7_ n8_ n9_ n10_ n11_ n12_ n13_ n14_ n15_ n16_ n17_ n18_ n19_ n20_ n21_ n22_ n23_ n24_ hb hbox hg
      refine hK.out _ _ ⟨(blk_cell BK333.out 0).trans rfl, (blk_cell BK333.out 1).trans rfl, (blk_cell BK333.out 2).trans rfl, (blk_cell BK333.out 3).trans rfl, (blk_cell BK333.out 4).trans rfl, (blk_cell BK293.out 0).trans rfl, (blk_cell BK293.out 1).trans rfl, (blk_cell BK293.out 2).trans rfl, (blk_cell BK293.out 3).trans rfl⟩ (fun hHeld => ?_)
      clear hK K
      refine norm_ (a' := ?_) ?_ ?_
      rotate_left
      ·
       show Act.put _ (some 8) _ = _
       simp only [Act.put, List.setIfInBounds_toArray, List.set_cons_zero, List.set_cons_succ, i64_w, i32_w]
       rfl
      refine one_ (i := 2) (N := some 27) #[true, true, true, false, true, false] rfl rfl (by kernel_rfl) (by decide) (fun K hK => ?_)
      refine goes_ Try.func42 (by kernel_rfl) rfl #[.agg #[.int .i64 a1_0, .int .i64 a1_1, .int .i64 a1_2, .int .i64 a1_3]] (by rfl) rfl rfl z4_ ?_
      with_reducible refine (laws_toHelp.calls a1_0 a1_1 a1_2 a1_3 t334 t335 t336 t337 _ A14.out).mono ?_
      rintro e w59 ⟨rfl, hb⟩
      refine ⟨_, rfl, ?_⟩
      have n0_ := Aside0.mk (Kd.R_below (rb_ HO297.out) hb)
      have n1_ := Aside0.mk (Kd.R_below (rb_ HO302.out) hb)
      have n2_ := Aside0.mk (Kd.R_below (rb_ HO305.out) hb)
      have n3_ := Aside0.mk (Kd.R_below (rb_ HO312.out) hb)
      have n4_ := Aside0.mk (Kd.R_below (rb_ HO317.out) hb)
      have n5_ := Aside0.mk (Kd.R_below (rb_ HO320.out) hb)
      have n6_ := Aside0.mk (Kd.R_below (rb_ HO324.out) hb)
      have n7_ := Aside0.mk (Kd.R_below (rb_ HO329.out) hb)
      have n8_ := Aside0.mk (Kd.R_below (rb_ HO332.out) hb)
      have n9_ := Aside0.mk (blk_below (g := gb292) (o := .cells #[.slice A0_0 l0_0.length c0_0, .int .i64 a0_1, .bool a0_2, .slice A0_3 l0_3.length c0_3, .slice A0_4 l0_4.length c0_4] 59 (0, 0)) (bk_ BK292.out) hb)
      have n10_ := Aside0.mk (blk_below (g := gb293) (o := .cells #[.int .i64 a1_0, .int .i64 a1_1, .int .i64 a1_2, .int .i64 a1_3] 65 (0, 0)) (bk_ BK293.out) hb)
      have n11_ := Aside0.mk (blk_below (g := gb321) (o := .cells #[.slice Ao37 t310.length co37, .int .i64 t313, .bool t314, .slice Ao41 t315.length co41, .slice Ao43 t318.length co43] 36 (0, 0)) (bk_ BK321.out) hb)
      have n12_ := Aside0.mk (blk_below (g := gb333) (o := .cells #[.slice Ao49 t322.length co49, .int .i64 t325, .bool t326, .slice Ao54 t327.length co54, .slice Ao55 t330.length co55] 36 (0, 0)) (bk_ BK333.out) hb)
      have n13_ := Aside0.mk (blk_below (g := gb349) (o := .cells #[.slice none 0 0, .int .i64 0, .bool false, .slice none 0 0, .slice none 0 0] 36 (0, 0)) (bk_ BK349.out) hb)
      have n14_ := Aside0.mk (below_step z0_ hb)
      clear HO297 HO302 HO305 HO312 HO317 HO320 HO324 HO329 HO332 BK292 BK293 BK321 BK333 BK349 HB
      have HO297 := n0_
      have HO302 := n1_
      have HO305 := n2_
      have HO312 := n3_
      have HO317 := n4_
      have HO320 := n5_
      have HO324 := n6_
      have HO329 := n7_
      have HO332 := n8_
      have BK292 := n9_
      have BK293 := n10_
      have BK321 := n11_
      have BK333 := n12_
      have BK349 := n13_
      have HB := n14_
      clear n0_ n1_ n2_ n3_ n4_ n5_ n6_ n7_ n8_ n9_ n10_ n11_ n12_ n13_ n14_
      (try clear hb)
      (try clear hb2)
      (try clear hk)
      (try clear hi)
      refine hK.out _ _ ⟨(blk_cell BK333.out 0).trans rfl, (blk_cell BK333.out 1).trans rfl, (blk_cell BK333.out 2).trans rfl, (blk_cell BK333.out 3).trans rfl, (blk_cell BK333.out 4).trans rfl, (blk_cell BK293.out 0).trans rfl, (blk_cell BK293.out 1).trans rfl, (blk_cell BK293.out 2).trans rfl, (blk_cell BK293.out 3).trans rfl⟩ (fun hHeld => ?_)
      clear hK K
      refine norm_ (a' := ?_) ?_ ?_
      rotate_left
      ·
       show Act.put _ (some 27) _ = _
       simp only [Act.put, List.setIfInBounds_toArray, List.set_cons_zero, List.set_cons_succ, i64_w, i32_w]
       rfl
      refine one_ (i := 3) (N := some 28) #[true, true, true, true, true, false] rfl rfl (by kernel_rfl) (by decide) (fun K hK => ?_)
      refine goes_ Try.func43 (by kernel_rfl) rfl #[.agg #[.slice Ao49 t322.length co49, .int .i64 t325, .bool t326, .slice Ao54 t327.length co54, .slice Ao55 t330.length co55], .agg #[.int .i64 t334, .int .i64 t335, .int .i64 t336, .int .i64 t337]] (by rfl) rfl rfl z4_ ?_
      with_reducible refine (impl_Push.calls _ _ t322 t325 t326 _ _ t327 _ _ t330 t334 t335 t336 t337 t338 t341 t342 t343 t346 _ ?side1 ?side2 ?side3 ?side4 ?side5 ?side6 A15.out).mono ?_
      (case side1 => repeat (first | exact (Kd.R_reads' HO324.out).2.2 | (with_reducible refine Kd.C_alloc ?_ _) | (with_reducible refine Kd.C_drewN ?_ _) | (with_reducible refine Kd.C_drew ?_)))
      (case side2 => exact (Kd.R_reads' HO324.out).2.1)
      (case side3 => repeat (first | exact (Kd.R_reads' HO329.out).2.2 | (with_reducible refine Kd.C_alloc ?_ _) | (with_reducible refine Kd.C_drewN ?_ _) | (with_reducible refine Kd.C_drew ?_)))
      (case side4 => exact (Kd.R_reads' HO329.out).2.1)
      (case side5 => repeat (first | exact (Kd.R_reads' HO332.out).2.2 | (with_reducible refine Kd.C_alloc ?_ _) | (with_reducible refine Kd.C_drewN ?_ _) | (with_reducible refine Kd.C_drew ?_)))
      (case side6 => exact (Kd.R_reads' HO332.out).2.1)
      rintro e w60 ⟨v339, v344, v347, rfl, ho0, ho1, ho2, hb⟩
      refine ⟨_, rfl, ?_⟩
      have n0_ := Aside0.mk (Kd.R_elder' (rb_ HO297.out) (Kd.R_base ho0) hb)
      have n1_ := Aside0.mk (Kd.R_elder' (rb_ HO302.out) (Kd.R_base ho1) hb)
      have n2_ := Aside0.mk (Kd.R_elder' (rb_ HO305.out) (Kd.R_base ho2) hb)
      have n3_ := Aside0.mk (Kd.R_elder' (rb_ HO312.out) (Kd.R_base ho0) hb)
      have n4_ := Aside0.mk (Kd.R_elder' (rb_ HO317.out) (Kd.R_base ho1) hb)
      have n5_ := Aside0.mk (Kd.R_elder' (rb_ HO320.out) (Kd.R_base ho2) hb)
      have n6_ := Aside0.mk (Kd.R_elder' (rb_ HO324.out) (Kd.R_base ho0) hb)
      have n7_ := Aside0.mk (Kd.R_elder' (rb_ HO329.out) (Kd.R_base ho1) hb)
      have n8_ := Aside0.mk (Kd.R_elder' (rb_ HO332.out) (Kd.R_base ho2) hb)
      have n9_ := Aside0.mk (Kd.R_lower (Kd.R_new' (Kd.R_new' (Kd.R_new' ho0 (Kd.R_lt (rb_ HO297.out))) (Kd.R_lt (rb_ HO312.out))) (Kd.R_lt (rb_ HO324.out))) (below_size z0_))
      have n10_ := Aside0.mk (Kd.R_lower (Kd.R_new' (Kd.R_new' (Kd.R_new' ho1 (Kd.R_lt (rb_ HO302.out))) (Kd.R_lt (rb_ HO317.out))) (Kd.R_lt (rb_ HO329.out))) (below_size z0_))
      have n11_ := Aside0.mk (Kd.R_lower (Kd.R_new' (Kd.R_new' (Kd.R_new' ho2 (Kd.R_lt (rb_ HO305.out))) (Kd.R_lt (rb_ HO320.out))) (Kd.R_lt (rb_ HO332.out))) (below_size z0_))
      have n12_ := Aside0.mk (blk_below (g := gb292) (o := .cells #[.slice A0_0 l0_0.length c0_0, .int .i64 a0_1, .bool a0_2, .slice A0_3 l0_3.length c0_3, .slice A0_4 l0_4.length c0_4] 59 (0, 0)) (bk_ BK292.out) hb)
      have n13_ := Aside0.mk (blk_below (g := gb293) (o := .cells #[.int .i64 a1_0, .int .i64 a1_1, .int .i64 a1_2, .int .i64 a1_3] 65 (0, 0)) (bk_ BK293.out) hb)
      have n14_ := Aside0.mk (blk_below (g := gb321) (o := .cells #[.slice Ao37 t310.length co37, .int .i64 t313, .bool t314, .slice Ao41 t315.length co41, .slice Ao43 t318.length co43] 36 (0, 0)) (bk_ BK321.out) hb)
      have n15_ := Aside0.mk (blk_below (g := gb333) (o := .cells #[.slice Ao49 t322.length co49, .int .i64 t325, .bool t326, .slice Ao54 t327.length co54, .slice Ao55 t330.length co55] 36 (0, 0)) (bk_ BK333.out) hb)
      have n16_ := Aside0.mk (blk_below (g := gb349) (o := .cells #[.slice none 0 0, .int .i64 0, .bool false, .slice none 0 0, .slice none 0 0] 36 (0, 0)) (bk_ BK349.out) hb)
      have n17_ := Aside0.mk (below_step z0_ hb)
      clear HO297 HO302 HO305 HO312 HO317 HO320 HO324 HO329 HO332 BK292 BK293 BK321 BK333 BK349 HB
      have HO297 := n0_
      have HO302 := n1_
      have HO305 := n2_
      have HO312 := n3_
      have HO317 := n4_
      have HO320 := n5_
      have HO324 := n6_
      have HO329 := n7_
      have HO332 := n8_
      have HO340 := n9_
      have HO345 := n10_
      have HO348 := n11_
      have BK292 := n12_
      have BK293 := n13_
      have BK321 := n14_
      have BK333 := n15_
      have BK349 := n16_
      have HB := n17_
      clear n0_ n1_ n2_ n3_ n4_ n5_ n6_ n7_ n8_ n9_ n10_ n11_ n12_ n13_ n14_ n15_ n16_ n17_
      (try clear hb)
      (try clear hb2)
      (try clear hk)
      (try clear hi)
      (try clear ho0)
      (try clear ho1)
      (try clear ho2)
      refine hK.out _ _ ⟨(blk_cell BK333.out 0).trans rfl, (blk_cell BK333.out 1).trans rfl, (blk_cell BK333.out 2).trans rfl, (blk_cell BK333.out 3).trans rfl, (blk_cell BK333.out 4).trans rfl, (blk_cell BK293.out 0).trans rfl, (blk_cell BK293.out 1).trans rfl, (blk_cell BK293.out 2).trans rfl, (blk_cell BK293.out 3).trans rfl⟩ (fun hHeld => ?_)
      clear hK K
      refine norm_ (a' := ?_) ?_ ?_
      rotate_left
      ·
       show Act.put _ (some 28) _ = _
       simp only [Act.put, List.setIfInBounds_toArray, List.set_cons_zero, List.set_cons_succ, i64_w, i32_w]
       rfl
      exact norm_ (by simp only [putAll, Act.put, List.setIfInBounds_toArray, List.set_cons_zero, List.set_cons_succ]) (hCont (v339, v344, v347, gb349) _ ⟨hHeld, (by (with_reducible repeat (first | apply Kd.R_alloc | apply Kd.R_drewN | apply Kd.R_drew)); exact Kd.R_mono HO297.out (fun _ hk => ⟨hk.1.1, ⟨hk.1.2, hk.2⟩⟩)), (by (with_reducible repeat (first | apply Kd.R_alloc | apply Kd.R_drewN | apply Kd.R_drew)); exact Kd.R_mono HO302.out (fun _ hk => ⟨hk.1.1, ⟨hk.1.2, hk.2⟩⟩)), (by (with_reducible repeat (first | apply Kd.R_alloc | apply Kd.R_drewN | apply Kd.R_drew)); exact Kd.R_mono HO305.out (fun _ hk => ⟨hk.1.1, ⟨hk.1.2, hk.2⟩⟩)), (by (with_reducible repeat (first | apply Kd.R_alloc | apply Kd.R_drewN | apply Kd.R_drew)); exact Kd.R_mono HO312.out (fun _ hk => ⟨hk.1.1, ⟨hk.1.2, hk.2⟩⟩)), (by (with_reducible repeat (first | apply Kd.R_alloc | apply Kd.R_drewN | apply Kd.R_drew)); exact Kd.R_mono HO317.out (fun _ hk => ⟨hk.1.1, ⟨hk.1.2, hk.2⟩⟩)), (by (with_reducible repeat (first | apply Kd.R_alloc | apply Kd.R_drewN | apply Kd.R_drew)); exact Kd.R_mono HO320.out (fun _ hk => ⟨hk.1.1, ⟨hk.1.2, hk.2⟩⟩)), (by (with_reducible repeat (first | apply Kd.R_alloc | apply Kd.R_drewN | apply Kd.R_drew)); exact Kd.R_mono HO324.out (fun _ hk => ⟨hk.1.1, ⟨hk.1.2, hk.2⟩⟩)), (by (with_reducible repeat (first | apply Kd.R_alloc | apply Kd.R_drewN | apply Kd.R_drew)); exact Kd.R_mono HO329.out (fun _ hk => ⟨hk.1.1, ⟨hk.1.2, hk.2⟩⟩)), (by (with_reducible repeat (first | apply Kd.R_alloc | apply Kd.R_drewN | apply Kd.R_drew)); exact Kd.R_mono HO332.out (fun _ hk => ⟨hk.1.1, ⟨hk.1.2, hk.2⟩⟩)), (by (with_reducible repeat (first | apply Kd.R_alloc | apply Kd.R_drewN | apply Kd.R_drew)); exact Kd.R_mono HO340.out (fun _ hk => ⟨hk.1.1.2, ⟨hk.1.2, hk.2⟩⟩)), (by (with_reducible repeat (first | apply Kd.R_alloc | apply Kd.R_drewN | apply Kd.R_drew)); exact Kd.R_mono HO345.out (fun _ hk => ⟨hk.1.1.2, ⟨hk.1.2, hk.2⟩⟩)), (by (with_reducible repeat (first | apply Kd.R_alloc | apply Kd.R_drewN | apply Kd.R_drew)); exact Kd.R_mono HO348.out (fun _ hk => ⟨hk.1.1.2, ⟨hk.1.2, hk.2⟩⟩)), bk_ BK292.out, bk_ BK293.out, bk_ BK321.out, bk_ BK333.out, bk_ BK349.out, GW349.out, GE349.out, NB292_349.out, NB349_292.out, NB293_349.out, NB349_293.out, NB321_349.out, NB349_321.out, NB333_349.out, NB349_333.out, z0_⟩)
    rintro ⟨v339, v344, v347, gb349⟩ w61 ⟨hS_, h0_, h1_, h2_, h3_, h4_, h5_, h6_, h7_, h8_, h9_, h10_, h11_, h12_, h13_, h14_, h15_, h16_, h17_, h18_, h19_, h20_, h21_, h22_, h23_, h24_, h25_, h26_, h27_⟩
    have n0_ : Aside0 (Kd.R k88 88 w61 w.heap.size (fun k_ => some k_ ≠ (.slice Ao37 t310.length co37 : Value).ownBlock ∧ some k_ ≠ (.slice Ao49 t322.length co49 : Value).ownBlock ∧ some k_ ≠ (v339 : Value).ownBlock) v296 t295) := ⟨h0_⟩
    have n1_ : Aside0 (Kd.R k136 136 w61 w.heap.size (fun k_ => some k_ ≠ (.slice Ao41 t315.length co41 : Value).ownBlock ∧ some k_ ≠ (.slice Ao54 t327.length co54 : Value).ownBlock ∧ some k_ ≠ (v344 : Value).ownBlock) v301 t300) := ⟨h1_⟩
    have n2_ : Aside0 (Kd.R k67 67 w61 w.heap.size (fun k_ => some k_ ≠ (.slice Ao43 t318.length co43 : Value).ownBlock ∧ some k_ ≠ (.slice Ao55 t330.length co55 : Value).ownBlock ∧ some k_ ≠ (v347 : Value).ownBlock) v304 t303) := ⟨h2_⟩
    have n3_ : Aside0 (Kd.R k88 88 w61 w.heap.size (fun k_ => some k_ ≠ (v296 : Value).ownBlock ∧ some k_ ≠ (.slice Ao49 t322.length co49 : Value).ownBlock ∧ some k_ ≠ (v339 : Value).ownBlock) (.slice Ao37 t310.length co37) t310) := ⟨h3_⟩
    have n4_ : Aside0 (Kd.R k136 136 w61 w.heap.size (fun k_ => some k_ ≠ (v301 : Value).ownBlock ∧ some k_ ≠ (.slice Ao54 t327.length co54 : Value).ownBlock ∧ some k_ ≠ (v344 : Value).ownBlock) (.slice Ao41 t315.length co41) t315) := ⟨h4_⟩
    have n5_ : Aside0 (Kd.R k67 67 w61 w.heap.size (fun k_ => some k_ ≠ (v304 : Value).ownBlock ∧ some k_ ≠ (.slice Ao55 t330.length co55 : Value).ownBlock ∧ some k_ ≠ (v347 : Value).ownBlock) (.slice Ao43 t318.length co43) t318) := ⟨h5_⟩
    have n6_ : Aside0 (Kd.R k88 88 w61 w.heap.size (fun k_ => some k_ ≠ (v296 : Value).ownBlock ∧ some k_ ≠ (.slice Ao37 t310.length co37 : Value).ownBlock ∧ some k_ ≠ (v339 : Value).ownBlock) (.slice Ao49 t322.length co49) t322) := ⟨h6_⟩
    have n7_ : Aside0 (Kd.R k136 136 w61 w.heap.size (fun k_ => some k_ ≠ (v301 : Value).ownBlock ∧ some k_ ≠ (.slice Ao41 t315.length co41 : Value).ownBlock ∧ some k_ ≠ (v344 : Value).ownBlock) (.slice Ao54 t327.length co54) t327) := ⟨h7_⟩
    have n8_ : Aside0 (Kd.R k67 67 w61 w.heap.size (fun k_ => some k_ ≠ (v304 : Value).ownBlock ∧ some k_ ≠ (.slice Ao43 t318.length co43 : Value).ownBlock ∧ some k_ ≠ (v347 : Value).ownBlock) (.slice Ao55 t330.length co55) t330) := ⟨h8_⟩
    have n9_ : Aside0 (Kd.R k88 88 w61 w.heap.size (fun k_ => some k_ ≠ (v296 : Value).ownBlock ∧ some k_ ≠ (.slice Ao37 t310.length co37 : Value).ownBlock ∧ some k_ ≠ (.slice Ao49 t322.length co49 : Value).ownBlock) v339 t338) := ⟨h9_⟩
    have n10_ : Aside0 (Kd.R k136 136 w61 w.heap.size (fun k_ => some k_ ≠ (v301 : Value).ownBlock ∧ some k_ ≠ (.slice Ao41 t315.length co41 : Value).ownBlock ∧ some k_ ≠ (.slice Ao54 t327.length co54 : Value).ownBlock) v344 t343) := ⟨h10_⟩
    have n11_ : Aside0 (Kd.R k67 67 w61 w.heap.size (fun k_ => some k_ ≠ (v304 : Value).ownBlock ∧ some k_ ≠ (.slice Ao43 t318.length co43 : Value).ownBlock ∧ some k_ ≠ (.slice Ao55 t330.length co55 : Value).ownBlock) v347 t346) := ⟨h11_⟩
    have n12_ : Aside0 (w61.heap[gb292]? = some (.cells #[.slice A0_0 l0_0.length c0_0, .int .i64 a0_1, .bool a0_2, .slice A0_3 l0_3.length c0_3, .slice A0_4 l0_4.length c0_4] 59 (0, 0))) := ⟨h12_⟩
    have n13_ : Aside0 (w61.heap[gb293]? = some (.cells #[.int .i64 a1_0, .int .i64 a1_1, .int .i64 a1_2, .int .i64 a1_3] 65 (0, 0))) := ⟨h13_⟩
    have n14_ : Aside0 (w61.heap[gb321]? = some (.cells #[.slice Ao37 t310.length co37, .int .i64 t313, .bool t314, .slice Ao41 t315.length co41, .slice Ao43 t318.length co43] 36 (0, 0))) := ⟨h14_⟩
    have n15_ : Aside0 (w61.heap[gb333]? = some (.cells #[.slice Ao49 t322.length co49, .int .i64 t325, .bool t326, .slice Ao54 t327.length co54, .slice Ao55 t330.length co55] 36 (0, 0))) := ⟨h15_⟩
    have n16_ : Aside0 (w61.heap[gb349]? = some (.cells #[.slice none 0 0, .int .i64 0, .bool false, .slice none 0 0, .slice none 0 0] 36 (0, 0))) := ⟨h16_⟩
    have n17_ : Aside0 (w.heap.size ≤ gb349) := ⟨h17_⟩
    have n18_ : Aside0 (w.heap.size ≤ gb349) := ⟨h18_⟩
    have n19_ : Aside0 (gb292 ≠ gb349) := ⟨h19_⟩
    have n20_ : Aside0 (gb349 ≠ gb292) := ⟨h20_⟩
    have n21_ : Aside0 (gb293 ≠ gb349) := ⟨h21_⟩
    have n22_ : Aside0 (gb349 ≠ gb293) := ⟨h22_⟩
    have n23_ : Aside0 (gb321 ≠ gb349) := ⟨h23_⟩
    have n24_ : Aside0 (gb349 ≠ gb321) := ⟨h24_⟩
    have n25_ : Aside0 (gb333 ≠ gb349) := ⟨h25_⟩
    have n26_ : Aside0 (gb349 ≠ gb333) := ⟨h26_⟩
    have n27_ : Aside0 (Below w.heap.size w w61) := ⟨h27_⟩
    clear HO297 HO302 HO305 HO312 HO317 HO320 HO324 HO329 HO332 BK292 BK293 BK321 BK333 HB h0_ h1_ h2_ h3_ h4_ h5_ h6_ h7_ h8_ h9_ h10_ h11_ h12_ h13_ h14_ h15_ h16_ h17_ h18_ h19_ h20_ h21_ h22_ h23_ h24_ h25_ h26_ h27_
    have HO297 := n0_
    have HO302 := n1_
    have HO305 := n2_
    have HO312 := n3_
    have HO317 := n4_
    have HO320 := n5_
    have HO324 := n6_
    have HO329 := n7_
    have HO332 := n8_
    have HO340 := n9_
    have HO345 := n10_
    have HO348 := n11_
    have BK292 := n12_
    have BK293 := n13_
    have BK321 := n14_
    have BK333 := n15_
    have BK349 := n16_
    have GW349 := n17_
    have GE349 := n18_
    have NB292_349 := n19_
    have NB349_292 := n20_
    have NB293_349 := n21_
    have NB349_293 := n22_
    have NB321_349 := n23_
    have NB349_321 := n24_
    have NB333_349 := n25_
    have NB349_333 := n26_
    have HB := n27_
    clear n0_ n1_ n2_ n3_ n4_ n5_ n6_ n7_ n8_ n9_ n10_ n11_ n12_ n13_ n14_ n15_ n16_ n17_ n18_ n19_ n20_ n21_ n22_ n23_ n24_ n25_ n26_ n27_
    have hHeld : w61.cell? ⟨gb333, 0, none⟩ = some (.slice Ao49 t322.length co49) ∧ w61.cell? ⟨gb333, 1, none⟩ = some (.int .i64 t325) ∧ w61.cell? ⟨gb333, 2, none⟩ = some (.bool t326) ∧ w61.cell? ⟨gb333, 3, none⟩ = some (.slice Ao54 t327.length co54) ∧ w61.cell? ⟨gb333, 4, none⟩ = some (.slice Ao55 t330.length co55) ∧ w61.cell? ⟨gb293, 0, none⟩ = some (.int .i64 a1_0) ∧ w61.cell? ⟨gb293, 1, none⟩ = some (.int .i64 a1_1) ∧ w61.cell? ⟨gb293, 2, none⟩ = some (.int .i64 a1_2) ∧ w61.cell? ⟨gb293, 3, none⟩ = some (.int .i64 a1_3) := hS_
    obtain ⟨Ao62, co62, eo62⟩ := Kd.R_slice HO340.out
    (first | subst eo62 | (injection eo62 with f1_ f2_ f3_; have f4_ := f1_.symm; have f5_ := f3_.symm; clear f1_ f2_ f3_; subst f4_; subst f5_))
    obtain ⟨Ao66, co66, eo66⟩ := Kd.R_slice HO345.out
    (first | subst eo66 | (injection eo66 with f1_ f2_ f3_; have f4_ := f1_.symm; have f5_ := f3_.symm; clear f1_ f2_ f3_; subst f4_; subst f5_))
    obtain ⟨Ao68, co68, eo68⟩ := Kd.R_slice HO348.out
    (first | subst eo68 | (injection eo68 with f1_ f2_ f3_; have f4_ := f1_.symm; have f5_ := f3_.symm; clear f1_ f2_ f3_; subst f4_; subst f5_))
    refine norm_ (a' := ?_) ?_ ?_
    rotate_left
    ·
     simp only [putAll, Act.put, List.setIfInBounds_toArray, List.set_cons_zero, List.set_cons_succ]
     rfl
    refine one_ (i := 5) (N := none) #[true, true, true, true, true, true] rfl rfl (by kernel_rfl) (by decide) (fun K hK => ?_)
    have hs63 : w61.cell? ⟨gb349, 0, none⟩ = some (.slice none 0 0) := (blk_cell BK349.out 0).trans rfl
    have hfs63 := blk_frozen BK349.out 0
    have hns63_0 := NB292_349.out
    have hns63_1 := NB293_349.out
    have hns63_2 := NB321_349.out
    have hns63_3 := NB333_349.out
    have hms63_0 := NB349_292.out
    have hms63_1 := NB349_293.out
    have hms63_2 := NB349_321.out
    have hms63_3 := NB349_333.out
    have hs64 : w61.cell? ⟨gb349, 1, none⟩ = some (.int .i64 0) := (blk_cell BK349.out 1).trans rfl
    have hfs64 := blk_frozen BK349.out 1
    have hns64_0 := NB292_349.out
    have hns64_1 := NB293_349.out
    have hns64_2 := NB321_349.out
    have hns64_3 := NB333_349.out
    have hms64_0 := NB349_292.out
    have hms64_1 := NB349_293.out
    have hms64_2 := NB349_321.out
    have hms64_3 := NB349_333.out
    have hs65 : w61.cell? ⟨gb349, 2, none⟩ = some (.bool false) := (blk_cell BK349.out 2).trans rfl
    have hfs65 := blk_frozen BK349.out 2
    have hns65_0 := NB292_349.out
    have hns65_1 := NB293_349.out
    have hns65_2 := NB321_349.out
    have hns65_3 := NB333_349.out
    have hms65_0 := NB349_292.out
    have hms65_1 := NB349_293.out
    have hms65_2 := NB349_321.out
    have hms65_3 := NB349_333.out
    have hs67 : w61.cell? ⟨gb349, 3, none⟩ = some (.slice none 0 0) := (blk_cell BK349.out 3).trans rfl
    have hfs67 := blk_frozen BK349.out 3
    have hns67_0 := NB292_349.out
    have hns67_1 := NB293_349.out
    have hns67_2 := NB321_349.out
    have hns67_3 := NB333_349.out
    have hms67_0 := NB349_292.out
    have hms67_1 := NB349_293.out
    have hms67_2 := NB349_321.out
    have hms67_3 := NB349_333.out
    have hs69 : w61.cell? ⟨gb349, 4, none⟩ = some (.slice none 0 0) := (blk_cell BK349.out 4).trans rfl
    have hfs69 := blk_frozen BK349.out 4
    have hns69_0 := NB292_349.out
    have hns69_1 := NB293_349.out
    have hns69_2 := NB321_349.out
    have hns69_3 := NB333_349.out
    have hms69_0 := NB349_292.out
    have hms69_1 := NB349_293.out
    have hms69_2 := NB349_321.out
    have hms69_3 := NB349_333.out
    refine skip_ (w1 := ?_) (by rfl) rfl ?_ ?_
    rotate_left
    ·
     go_simp
     rfl
    refine hK.out _ _ ⟨((cell_far (p := ⟨gb349, _, none⟩) NB333_349.out _).trans (((cell_far (p := ⟨gb349, _, none⟩) NB333_349.out _).trans (((cell_far (p := ⟨gb349, _, none⟩) NB333_349.out _).trans (((cell_far (p := ⟨gb349, _, none⟩) NB333_349.out _).trans (((cell_far (p := ⟨gb349, _, none⟩) NB333_349.out _).trans (hHeld.1)))))))))), ((cell_far (p := ⟨gb349, _, none⟩) NB333_349.out _).trans (((cell_far (p := ⟨gb349, _, none⟩) NB333_349.out _).trans (((cell_far (p := ⟨gb349, _, none⟩) NB333_349.out _).trans (((cell_far (p := ⟨gb349, _, none⟩) NB333_349.out _).trans (((cell_far (p := ⟨gb349, _, none⟩) NB333_349.out _).trans (hHeld.2.1)))))))))), ((cell_far (p := ⟨gb349, _, none⟩) NB333_349.out _).trans (((cell_far (p := ⟨gb349, _, none⟩) NB333_349.out _).trans (((cell_far (p := ⟨gb349, _, none⟩) NB333_349.out _).trans (((cell_far (p := ⟨gb349, _, none⟩) NB333_349.out _).trans (((cell_far (p := ⟨gb349, _, none⟩) NB333_349.out _).trans (hHeld.2.2.1)))))))))), ((cell_far (p := ⟨gb349, _, none⟩) NB333_349.out _).trans (((cell_far (p := ⟨gb349, _, none⟩) NB333_349.out _).trans (((cell_far (p := ⟨gb349, _, none⟩) NB333_349.out _).trans (((cell_far (p := ⟨gb349, _, none⟩) NB333_349.out _).trans (((cell_far (p := ⟨gb349, _, none⟩) NB333_349.out _).trans (hHeld.2.2.2.1)))))))))), ((cell_far (p := ⟨gb349, _, none⟩) NB333_349.out _).trans (((cell_far (p := ⟨gb349, _, none⟩) NB333_349.out _).trans (((cell_far (p := ⟨gb349, _, none⟩) NB333_349.out _).trans (((cell_far (p := ⟨gb349, _, none⟩) NB333_349.out _).trans (((cell_far (p := ⟨gb349, _, none⟩) NB333_349.out _).trans (hHeld.2.2.2.2.1)))))))))), ((cell_far (p := ⟨gb349, _, none⟩) NB293_349.out _).trans (((cell_far (p := ⟨gb349, _, none⟩) NB293_349.out _).trans (((cell_far (p := ⟨gb349, _, none⟩) NB293_349.out _).trans (((cell_far (p := ⟨gb349, _, none⟩) NB293_349.out _).trans (((cell_far (p := ⟨gb349, _, none⟩) NB293_349.out _).trans (hHeld.2.2.2.2.2.1)))))))))), ((cell_far (p := ⟨gb349, _, none⟩) NB293_349.out _).trans (((cell_far (p := ⟨gb349, _, none⟩) NB293_349.out _).trans (((cell_far (p := ⟨gb349, _, none⟩) NB293_349.out _).trans (((cell_far (p := ⟨gb349, _, none⟩) NB293_349.out _).trans (((cell_far (p := ⟨gb349, _, none⟩) NB293_349.out _).trans (hHeld.2.2.2.2.2.2.1)))))))))), ((cell_far (p := ⟨gb349, _, none⟩) NB293_349.out _).trans (((cell_far (p := ⟨gb349, _, none⟩) NB293_349.out _).trans (((cell_far (p := ⟨gb349, _, none⟩) NB293_349.out _).trans (((cell_far (p := ⟨gb349, _, none⟩) NB293_349.out _).trans (((cell_far (p := ⟨gb349, _, none⟩) NB293_349.out _).trans (hHeld.2.2.2.2.2.2.2.1)))))))))), ((cell_far (p := ⟨gb349, _, none⟩) NB293_349.out _).trans (((cell_far (p := ⟨gb349, _, none⟩) NB293_349.out _).trans (((cell_far (p := ⟨gb349, _, none⟩) NB293_349.out _).trans (((cell_far (p := ⟨gb349, _, none⟩) NB293_349.out _).trans (((cell_far (p := ⟨gb349, _, none⟩) NB293_349.out _).trans (hHeld.2.2.2.2.2.2.2.2))))))))))⟩ (fun hHeld => ?_)
    clear hK K
    refine done_ (by kernel_rfl) ?_
    have hnb70 := NB349_292.out
    have hnc70 := NB292_349.out
    have hnb71 := NB349_293.out
    have hnc71 := NB293_349.out
    have hnb72 := NB349_321.out
    have hnc72 := NB321_349.out
    have hnb73 := NB349_333.out
    have hnc73 := NB333_349.out
    have hcz74_0 : w61.cell? ⟨gb349, 0, none⟩ = some (.slice none 0 0) := (blk_cell BK349.out 0).trans rfl
    have hcz74_1 : w61.cell? ⟨gb349, 1, none⟩ = some (.int .i64 0) := (blk_cell BK349.out 1).trans rfl
    have hcz74_2 : w61.cell? ⟨gb349, 2, none⟩ = some (.bool false) := (blk_cell BK349.out 2).trans rfl
    have hcz74_3 : w61.cell? ⟨gb349, 3, none⟩ = some (.slice none 0 0) := (blk_cell BK349.out 3).trans rfl
    have hcz74_4 : w61.cell? ⟨gb349, 4, none⟩ = some (.slice none 0 0) := (blk_cell BK349.out 4).trans rfl
    have hfz74_0 := blk_frozen BK349.out 0
    have hfz74_1 := blk_frozen BK349.out 1
    have hfz74_2 := blk_frozen BK349.out 2
    have hfz74_3 := blk_frozen BK349.out 3
    have hfz74_4 := blk_frozen BK349.out 4
    have hnb75 := NB321_293.out
    have hnc75 := NB293_321.out
    have hcz76_0 : w61.cell? ⟨gb321, 0, none⟩ = some (.slice Ao37 t310.length co37) := (blk_cell BK321.out 0).trans rfl
    have hcz76_1 : w61.cell? ⟨gb321, 1, none⟩ = some (.int .i64 t313) := (blk_cell BK321.out 1).trans rfl
    have hcz76_2 : w61.cell? ⟨gb321, 2, none⟩ = some (.bool t314) := (blk_cell BK321.out 2).trans rfl
    have hcz76_3 : w61.cell? ⟨gb321, 3, none⟩ = some (.slice Ao41 t315.length co41) := (blk_cell BK321.out 3).trans rfl
    have hcz76_4 : w61.cell? ⟨gb321, 4, none⟩ = some (.slice Ao43 t318.length co43) := (blk_cell BK321.out 4).trans rfl
    have hfz76_0 := blk_frozen BK321.out 0
    have hfz76_1 := blk_frozen BK321.out 1
    have hfz76_2 := blk_frozen BK321.out 2
    have hfz76_3 := blk_frozen BK321.out 3
    have hfz76_4 := blk_frozen BK321.out 4
    try go_wp2_with (first | ((with_reducible refine gate_callee (f := 24) rfl ?_); refine goesL_ (some 31) rfl rfl Try.func24 (by kernel_rfl) rfl #[.agg #[.slice Ao62 t338.length co62, .int .i64 t341, .bool t342, .slice Ao66 t343.length co66, .slice Ao68 t346.length co68], .agg #[.slice Ao37 t310.length co37, .int .i64 t313, .bool t314, .slice Ao41 t315.length co41, .slice Ao43 t318.length co43]] rfl z4_ ?_; (with_reducible refine (laws_eqThread.calls k _ _ t338 t341 t342 _ _ t343 _ _ t346 _ _ t310 t313 t314 _ _ t315 _ _ t318 true _ ?side1 ?side2 ?side3 ?side4 ?side5 ?side6 ?side7 ?side8 ?side9 ?side10 ?side11 ?side12 A16.out).mono ?_); (case side1 => refine (Kd.R_reads' (e := 88) (base := w.heap.size) (ok := fun k_ => (some k_ ≠ (v296 : Value).ownBlock ∧ (some k_ ≠ (.slice Ao37 t310.length co37 : Value).ownBlock ∧ some k_ ≠ (.slice Ao49 t322.length co49 : Value).ownBlock))) (n := t338.length) (c := co62) ?_).2.2; exact z30_); (case side2 => exact (Kd.R_reads' HO340.out).2.1); (case side3 => refine (Kd.R_reads' (e := 136) (base := w.heap.size) (ok := fun k_ => (some k_ ≠ (v301 : Value).ownBlock ∧ (some k_ ≠ (.slice Ao41 t315.length co41 : Value).ownBlock ∧ some k_ ≠ (.slice Ao54 t327.length co54 : Value).ownBlock))) (n := t343.length) (c := co66) ?_).2.2; exact z31_); (case side4 => exact (Kd.R_reads' HO345.out).2.1); (case side5 => refine (Kd.R_reads' (e := 67) (base := w.heap.size) (ok := fun k_ => (some k_ ≠ (v304 : Value).ownBlock ∧ (some k_ ≠ (.slice Ao43 t318.length co43 : Value).ownBlock ∧ some k_ ≠ (.slice Ao55 t330.length co55 : Value).ownBlock))) (n := t346.length) (c := co68) ?_).2.2; exact z32_); (case side6 => exact (Kd.R_reads' HO348.out).2.1); (case side7 => refine (Kd.R_reads' (e := 88) (base := w.heap.size) (ok := fun k_ => (some k_ ≠ (v296 : Value).ownBlock ∧ (some k_ ≠ (.slice Ao49 t322.length co49 : Value).ownBlock ∧ some k_ ≠ (.slice Ao62 t338.length co62 : Value).ownBlock))) (n := t310.length) (c := co37) ?_).2.2; exact z33_); (case side8 => exact (Kd.R_reads' HO312.out).2.1); (case side9 => refine (Kd.R_reads' (e := 136) (base := w.heap.size) (ok := fun k_ => (some k_ ≠ (v301 : Value).ownBlock ∧ (some k_ ≠ (.slice Ao54 t327.length co54 : Value).ownBlock ∧ some k_ ≠ (.slice Ao66 t343.length co66 : Value).ownBlock))) (n := t315.length) (c := co41) ?_).2.2; exact z34_); (case side10 => exact (Kd.R_reads' HO317.out).2.1); (case side11 => refine (Kd.R_reads' (e := 67) (base := w.heap.size) (ok := fun k_ => (some k_ ≠ (v304 : Value).ownBlock ∧ (some k_ ≠ (.slice Ao55 t330.length co55 : Value).ownBlock ∧ some k_ ≠ (.slice Ao68 t346.length co68 : Value).ownBlock))) (n := t318.length) (c := co43) ?_).2.2; exact z35_); (case side12 => exact (Kd.R_reads' HO320.out).2.1); rintro e w77 ⟨rfl, hb⟩; refine ⟨_, rfl, ?_⟩; have n0_ := Aside0.mk (Kd.R_below (by (with_reducible repeat (first | apply Kd.R_alloc | apply Kd.R_drewN | apply Kd.R_drew)); exact (Kd.R_mono (Kd.R_far (p := ⟨gb349, 4, none⟩) (Kd.R_far (p := ⟨gb349, 3, none⟩) (Kd.R_far (p := ⟨gb349, 2, none⟩) (Kd.R_far (p := ⟨gb349, 1, none⟩) (Kd.R_far (p := ⟨gb349, 0, none⟩) (Kd.R_types HO297.out BK349.out (by decide)) (fun _ hk => hk.2) (.slice Ao62 t338.length co62)) (fun _ hk => hk.2) (.int .i64 t341)) (fun _ hk => hk.2) (.bool t342)) (fun _ hk => hk.2) (.slice Ao66 t343.length co66)) (fun _ hk => hk.2) (.slice Ao68 t346.length co68)) (fun _ h_ => h_.1))) hb); have n1_ := Aside0.mk (Kd.R_below (by (with_reducible repeat (first | apply Kd.R_alloc | apply Kd.R_drewN | apply Kd.R_drew)); exact (Kd.R_mono (Kd.R_far (p := ⟨gb349, 4, none⟩) (Kd.R_far (p := ⟨gb349, 3, none⟩) (Kd.R_far (p := ⟨gb349, 2, none⟩) (Kd.R_far (p := ⟨gb349, 1, none⟩) (Kd.R_far (p := ⟨gb349, 0, none⟩) (Kd.R_types HO302.out BK349.out (by decide)) (fun _ hk => hk.2) (.slice Ao62 t338.length co62)) (fun _ hk => hk.2) (.int .i64 t341)) (fun _ hk => hk.2) (.bool t342)) (fun _ hk => hk.2) (.slice Ao66 t343.length co66)) (fun _ hk => hk.2) (.slice Ao68 t346.length co68)) (fun _ h_ => h_.1))) hb); have n2_ := Aside0.mk (Kd.R_below (by (with_reducible repeat (first | apply Kd.R_alloc | apply Kd.R_drewN | apply Kd.R_drew)); exact (Kd.R_mono (Kd.R_far (p := ⟨gb349, 4, none⟩) (Kd.R_far (p := ⟨gb349, 3, none⟩) (Kd.R_far (p := ⟨gb349, 2, none⟩) (Kd.R_far (p := ⟨gb349, 1, none⟩) (Kd.R_far (p := ⟨gb349, 0, none⟩) (Kd.R_types HO305.out BK349.out (by decide)) (fun _ hk => hk.2) (.slice Ao62 t338.length co62)) (fun _ hk => hk.2) (.int .i64 t341)) (fun _ hk => hk.2) (.bool t342)) (fun _ hk => hk.2) (.slice Ao66 t343.length co66)) (fun _ hk => hk.2) (.slice Ao68 t346.length co68)) (fun _ h_ => h_.1))) hb); have n3_ := Aside0.mk (Kd.R_below z33_ hb); have n4_ := Aside0.mk (Kd.R_below z34_ hb); have n5_ := Aside0.mk (Kd.R_below z35_ hb); have n6_ := Aside0.mk (Kd.R_below (by (with_reducible repeat (first | apply Kd.R_alloc | apply Kd.R_drewN | apply Kd.R_drew)); exact (Kd.R_mono (Kd.R_far (p := ⟨gb349, 4, none⟩) (Kd.R_far (p := ⟨gb349, 3, none⟩) (Kd.R_far (p := ⟨gb349, 2, none⟩) (Kd.R_far (p := ⟨gb349, 1, none⟩) (Kd.R_far (p := ⟨gb349, 0, none⟩) (Kd.R_types HO324.out BK349.out (by decide)) (fun _ hk => hk.2) (.slice Ao62 t338.length co62)) (fun _ hk => hk.2) (.int .i64 t341)) (fun _ hk => hk.2) (.bool t342)) (fun _ hk => hk.2) (.slice Ao66 t343.length co66)) (fun _ hk => hk.2) (.slice Ao68 t346.length co68)) (fun _ h_ => h_.1))) hb); have n7_ := Aside0.mk (Kd.R_below (by (with_reducible repeat (first | apply Kd.R_alloc | apply Kd.R_drewN | apply Kd.R_drew)); exact (Kd.R_mono (Kd.R_far (p := ⟨gb349, 4, none⟩) (Kd.R_far (p := ⟨gb349, 3, none⟩) (Kd.R_far (p := ⟨gb349, 2, none⟩) (Kd.R_far (p := ⟨gb349, 1, none⟩) (Kd.R_far (p := ⟨gb349, 0, none⟩) (Kd.R_types HO329.out BK349.out (by decide)) (fun _ hk => hk.2) (.slice Ao62 t338.length co62)) (fun _ hk => hk.2) (.int .i64 t341)) (fun _ hk => hk.2) (.bool t342)) (fun _ hk => hk.2) (.slice Ao66 t343.length co66)) (fun _ hk => hk.2) (.slice Ao68 t346.length co68)) (fun _ h_ => h_.1))) hb); have n8_ := Aside0.mk (Kd.R_below (by (with_reducible repeat (first | apply Kd.R_alloc | apply Kd.R_drewN | apply Kd.R_drew)); exact (Kd.R_mono (Kd.R_far (p := ⟨gb349, 4, none⟩) (Kd.R_far (p := ⟨gb349, 3, none⟩) (Kd.R_far (p := ⟨gb349, 2, none⟩) (Kd.R_far (p := ⟨gb349, 1, none⟩) (Kd.R_far (p := ⟨gb349, 0, none⟩) (Kd.R_types HO332.out BK349.out (by decide)) (fun _ hk => hk.2) (.slice Ao62 t338.length co62)) (fun _ hk => hk.2) (.int .i64 t341)) (fun _ hk => hk.2) (.bool t342)) (fun _ hk => hk.2) (.slice Ao66 t343.length co66)) (fun _ hk => hk.2) (.slice Ao68 t346.length co68)) (fun _ h_ => h_.1))) hb); have n9_ := Aside0.mk (Kd.R_below z30_ hb); have n10_ := Aside0.mk (Kd.R_below z31_ hb); have n11_ := Aside0.mk (Kd.R_below z32_ hb); have n12_ := Aside0.mk (blk_below (g := gb292) (o := .cells #[.slice A0_0 l0_0.length c0_0, .int .i64 a0_1, .bool a0_2, .slice A0_3 l0_3.length c0_3, .slice A0_4 l0_4.length c0_4] 59 (0, 0)) (by (with_reducible repeat (first | refine blk_drewN ?_ _ | refine blk_drew ?_ | refine blk_alloc ?_ _)); refine blk_far ?_ NB292_349.out _; (with_reducible repeat (first | refine blk_drewN ?_ _ | refine blk_drew ?_ | refine blk_alloc ?_ _)); refine blk_far ?_ NB292_349.out _; (with_reducible repeat (first | refine blk_drewN ?_ _ | refine blk_drew ?_ | refine blk_alloc ?_ _)); refine blk_far ?_ NB292_349.out _; (with_reducible repeat (first | refine blk_drewN ?_ _ | refine blk_drew ?_ | refine blk_alloc ?_ _)); refine blk_far ?_ NB292_349.out _; (with_reducible repeat (first | refine blk_drewN ?_ _ | refine blk_drew ?_ | refine blk_alloc ?_ _)); refine blk_far ?_ NB292_349.out _; (with_reducible repeat (first | refine blk_drewN ?_ _ | refine blk_drew ?_ | refine blk_alloc ?_ _)); exact BK292.out) hb); have n13_ := Aside0.mk (blk_below (g := gb293) (o := .cells #[.int .i64 a1_0, .int .i64 a1_1, .int .i64 a1_2, .int .i64 a1_3] 65 (0, 0)) (by (with_reducible repeat (first | refine blk_drewN ?_ _ | refine blk_drew ?_ | refine blk_alloc ?_ _)); refine blk_far ?_ NB293_349.out _; (with_reducible repeat (first | refine blk_drewN ?_ _ | refine blk_drew ?_ | refine blk_alloc ?_ _)); refine blk_far ?_ NB293_349.out _; (with_reducible repeat (first | refine blk_drewN ?_ _ | refine blk_drew ?_ | refine blk_alloc ?_ _)); refine blk_far ?_ NB293_349.out _; (with_reducible repeat (first | refine blk_drewN ?_ _ | refine blk_drew ?_ | refine blk_alloc ?_ _)); refine blk_far ?_ NB293_349.out _; (with_reducible repeat (first | refine blk_drewN ?_ _ | refine blk_drew ?_ | refine blk_alloc ?_ _)); refine blk_far ?_ NB293_349.out _; (with_reducible repeat (first | refine blk_drewN ?_ _ | refine blk_drew ?_ | refine blk_alloc ?_ _)); exact BK293.out) hb); have n14_ := Aside0.mk (blk_below (g := gb321) (o := .cells #[.slice Ao37 t310.length co37, .int .i64 t313, .bool t314, .slice Ao41 t315.length co41, .slice Ao43 t318.length co43] 36 (0, 0)) (by (with_reducible repeat (first | refine blk_drewN ?_ _ | refine blk_drew ?_ | refine blk_alloc ?_ _)); refine blk_far ?_ NB321_349.out _; (with_reducible repeat (first | refine blk_drewN ?_ _ | refine blk_drew ?_ | refine blk_alloc ?_ _)); refine blk_far ?_ NB321_349.out _; (with_reducible repeat (first | refine blk_drewN ?_ _ | refine blk_drew ?_ | refine blk_alloc ?_ _)); refine blk_far ?_ NB321_349.out _; (with_reducible repeat (first | refine blk_drewN ?_ _ | refine blk_drew ?_ | refine blk_alloc ?_ _)); refine blk_far ?_ NB321_349.out _; (with_reducible repeat (first | refine blk_drewN ?_ _ | refine blk_drew ?_ | refine blk_alloc ?_ _)); refine blk_far ?_ NB321_349.out _; (with_reducible repeat (first | refine blk_drewN ?_ _ | refine blk_drew ?_ | refine blk_alloc ?_ _)); exact BK321.out) hb); have n15_ := Aside0.mk (blk_below (g := gb333) (o := .cells #[.slice Ao49 t322.length co49, .int .i64 t325, .bool t326, .slice Ao54 t327.length co54, .slice Ao55 t330.length co55] 36 (0, 0)) (by (with_reducible repeat (first | refine blk_drewN ?_ _ | refine blk_drew ?_ | refine blk_alloc ?_ _)); refine blk_far ?_ NB333_349.out _; (with_reducible repeat (first | refine blk_drewN ?_ _ | refine blk_drew ?_ | refine blk_alloc ?_ _)); refine blk_far ?_ NB333_349.out _; (with_reducible repeat (first | refine blk_drewN ?_ _ | refine blk_drew ?_ | refine blk_alloc ?_ _)); refine blk_far ?_ NB333_349.out _; (with_reducible repeat (first | refine blk_drewN ?_ _ | refine blk_drew ?_ | refine blk_alloc ?_ _)); refine blk_far ?_ NB333_349.out _; (with_reducible repeat (first | refine blk_drewN ?_ _ | refine blk_drew ?_ | refine blk_alloc ?_ _)); refine blk_far ?_ NB333_349.out _; (with_reducible repeat (first | refine blk_drewN ?_ _ | refine blk_drew ?_ | refine blk_alloc ?_ _)); exact BK333.out) hb); have n16_ := Aside0.mk (blk_below (g := gb349) (o := .cells #[.slice Ao62 t338.length co62, .int .i64 t341, .bool t342, .slice Ao66 t343.length co66, .slice Ao68 t346.length co68] 36 (0, 0)) (by (with_reducible repeat (first | refine blk_drewN ?_ _ | refine blk_drew ?_ | refine blk_alloc ?_ _)); refine blk_put (cs := #[.slice Ao62 t338.length co62, .int .i64 t341, .bool t342, .slice Ao66 t343.length co66, .slice none 0 0]) ?_ 4 _ rfl; (with_reducible repeat (first | refine blk_drewN ?_ _ | refine blk_drew ?_ | refine blk_alloc ?_ _)); refine blk_put (cs := #[.slice Ao62 t338.length co62, .int .i64 t341, .bool t342, .slice none 0 0, .slice none 0 0]) ?_ 3 _ rfl; (with_reducible repeat (first | refine blk_drewN ?_ _ | refine blk_drew ?_ | refine blk_alloc ?_ _)); refine blk_put (cs := #[.slice Ao62 t338.length co62, .int .i64 t341, .bool false, .slice none 0 0, .slice none 0 0]) ?_ 2 _ rfl; (with_reducible repeat (first | refine blk_drewN ?_ _ | refine blk_drew ?_ | refine blk_alloc ?_ _)); refine blk_put (cs := #[.slice Ao62 t338.length co62, .int .i64 0, .bool false, .slice none 0 0, .slice none 0 0]) ?_ 1 _ rfl; (with_reducible repeat (first | refine blk_drewN ?_ _ | refine blk_drew ?_ | refine blk_alloc ?_ _)); refine blk_put (cs := #[.slice none 0 0, .int .i64 0, .bool false, .slice none 0 0, .slice none 0 0]) ?_ 0 _ rfl; (with_reducible repeat (first | refine blk_drewN ?_ _ | refine blk_drew ?_ | refine blk_alloc ?_ _)); exact BK349.out) hb); have n17_ := Aside0.mk (below_step z0_ hb); clear HO297 HO302 HO305 HO312 HO317 HO320 HO324 HO329 HO332 HO340 HO345 HO348 BK292 BK293 BK321 BK333 BK349 HB; have HO297 := n0_; have HO302 := n1_; have HO305 := n2_; have HO312 := n3_; have HO317 := n4_; have HO320 := n5_; have HO324 := n6_; have HO329 := n7_; have HO332 := n8_; have HO340 := n9_; have HO345 := n10_; have HO348 := n11_; have BK292 := n12_; have BK293 := n13_; have BK321 := n14_; have BK333 := n15_; have BK349 := n16_; have HB := n17_; clear n0_ n1_ n2_ n3_ n4_ n5_ n6_ n7_ n8_ n9_ n10_ n11_ n12_ n13_ n14_ n15_ n16_ n17_; (try clear hb); (try clear hb2); (try clear hk); (try clear hi)))
    have n0_ := Aside0.mk (Kd.R_drew HO297.out)
    have n1_ := Aside0.mk (Kd.R_drew HO302.out)
    have n2_ := Aside0.mk (Kd.R_drew HO305.out)
    have n3_ := Aside0.mk (Kd.R_drew HO312.out)
    have n4_ := Aside0.mk (Kd.R_drew HO317.out)
    have n5_ := Aside0.mk (Kd.R_drew HO320.out)
    have n6_ := Aside0.mk (Kd.R_drew HO324.out)
    have n7_ := Aside0.mk (Kd.R_drew HO329.out)
    have n8_ := Aside0.mk (Kd.R_drew HO332.out)
    have n9_ := Aside0.mk (Kd.R_drew HO340.out)
    have n10_ := Aside0.mk (Kd.R_drew HO345.out)
    have n11_ := Aside0.mk (Kd.R_drew HO348.out)
    have n12_ := Aside0.mk (blk_drew BK292.out)
    have n13_ := Aside0.mk (blk_drew BK293.out)
    have n14_ := Aside0.mk (blk_drew BK321.out)
    have n15_ := Aside0.mk (blk_drew BK333.out)
    have n16_ := Aside0.mk (blk_drew BK349.out)
    have n17_ := Aside0.mk (below_drew1 HB.out)
    clear HO297 HO302 HO305 HO312 HO317 HO320 HO324 HO329 HO332 HO340 HO345 HO348 BK292 BK293 BK321 BK333 BK349 HB
    have HO297 := n0_
    have HO302 := n1_
    have HO305 := n2_
    have HO312 := n3_
    have HO317 := n4_
    have HO320 := n5_
    have HO324 := n6_
    have HO329 := n7_
    have HO332 := n8_
    have HO340 := n9_
    have HO345 := n10_
    have HO348 := n11_
    have BK292 := n12_
    have BK293 := n13_
    have BK321 := n14_
    have BK333 := n15_
    have BK349 := n16_
    have HB := n17_
    clear n0_ n1_ n2_ n3_ n4_ n5_ n6_ n7_ n8_ n9_ n10_ n11_ n12_ n13_ n14_ n15_ n16_ n17_
    refine start_ (n := 5) (S := fun w' => w'.cell? ⟨gb333, 0, none⟩ = some (.slice Ao49 t322.length co49) ∧ w'.cell? ⟨gb333, 1, none⟩ = some (.int .i64 t325) ∧ w'.cell? ⟨gb333, 2, none⟩ = some (.bool t326) ∧ w'.cell? ⟨gb333, 3, none⟩ = some (.slice Ao54 t327.length co54) ∧ w'.cell? ⟨gb333, 4, none⟩ = some (.slice Ao55 t330.length co55) ∧ w'.cell? ⟨gb292, 0, none⟩ = some (.slice A0_0 l0_0.length c0_0) ∧ w'.cell? ⟨gb292, 1, none⟩ = some (.int .i64 a0_1) ∧ w'.cell? ⟨gb292, 2, none⟩ = some (.bool a0_2) ∧ w'.cell? ⟨gb292, 3, none⟩ = some (.slice A0_3 l0_3.length c0_3) ∧ w'.cell? ⟨gb292, 4, none⟩ = some (.slice A0_4 l0_4.length c0_4)) (ds := []) #[false, false, false, false, false] (by kernel_rfl) rfl rfl ⟨(blk_cell BK333.out 0).trans rfl, (blk_cell BK333.out 1).trans rfl, (blk_cell BK333.out 2).trans rfl, (blk_cell BK333.out 3).trans rfl, (blk_cell BK333.out 4).trans rfl, (blk_cell BK292.out 0).trans rfl, (blk_cell BK292.out 1).trans rfl, (blk_cell BK292.out 2).trans rfl, (blk_cell BK292.out 3).trans rfl, (blk_cell BK292.out 4).trans rfl⟩ (fun hHeld => ?_)
    generalize w77.drew = w78 at HO297 HO302 HO305 HO312 HO317 HO320 HO324 HO329 HO332 HO340 HO345 HO348 BK292 BK293 BK321 BK333 BK349 HB hHeld ⊢
    refine take_ (i := 0) (N := some 33) (v := ?_) (a' := ?_) #[true, false, false, false, false] rfl rfl (by kernel_rfl) (fun _ _ _ h => h) (Or.inl ⟨by rfl, ?_⟩) hHeld ?_ ?_
    rotate_left
    ·
     rintro w' ⟨s0, s1, s2, s3, s4, s5, s6, s7, s8, s9⟩
     go_simp
     with_reducible rfl
    rotate_left
    ·
     simp only [Act.put, List.setIfInBounds_toArray, List.set_cons_zero, List.set_cons_succ, i64_w, i32_w]
     rfl
    refine take_ (i := 1) (N := some 34) (v := ?_) (a' := ?_) #[true, true, false, false, false] rfl rfl (by kernel_rfl) (fun _ _ _ h => h) (Or.inl ⟨by rfl, ?_⟩) hHeld ?_ ?_
    rotate_left
    ·
     rintro w' ⟨s0, s1, s2, s3, s4, s5, s6, s7, s8, s9⟩
     go_simp
     with_reducible rfl
    rotate_left
    ·
     simp only [Act.put, List.setIfInBounds_toArray, List.set_cons_zero, List.set_cons_succ, i64_w, i32_w]
     rfl
    refine one_ (i := 2) (N := some 35) #[true, true, true, false, false] rfl rfl (by kernel_rfl) (by decide) (fun K hK => ?_)
    refine goes_ Try.func39 (by kernel_rfl) rfl #[.agg #[.slice A0_0 l0_0.length c0_0, .int .i64 a0_1, .bool a0_2, .slice A0_3 l0_3.length c0_3, .slice A0_4 l0_4.length c0_4]] (by rfl) rfl rfl z4_ ?_
    with_reducible refine (laws_toThread.calls k _ _ l0_0 a0_1 a0_2 _ _ l0_3 _ _ l0_4 t351 t354 t355 t356 t359 _ ?side1 ?side2 ?side3 ?side4 ?side5 ?side6 A18.out).mono ?_
    (case side1 => exact cb_ (Kd.C_below HR0_0.out HB.out))
    (case side2 => exact HC0_0.out)
    (case side3 => exact cb_ (Kd.C_below HR0_3.out HB.out))
    (case side4 => exact HC0_3.out)
    (case side5 => exact cb_ (Kd.C_below HR0_4.out HB.out))
    (case side6 => exact HC0_4.out)
    rintro e w79 ⟨v352, v357, v360, rfl, ho0, ho1, ho2, hb⟩
    refine ⟨_, rfl, ?_⟩
    have n0_ := Aside0.mk (Kd.R_elder' (rb_ HO297.out) (Kd.R_base ho0) hb)
    have n1_ := Aside0.mk (Kd.R_elder' (rb_ HO302.out) (Kd.R_base ho1) hb)
    have n2_ := Aside0.mk (Kd.R_elder' (rb_ HO305.out) (Kd.R_base ho2) hb)
    have n3_ := Aside0.mk (Kd.R_elder' (rb_ HO312.out) (Kd.R_base ho0) hb)
    have n4_ := Aside0.mk (Kd.R_elder' (rb_ HO317.out) (Kd.R_base ho1) hb)
    have n5_ := Aside0.mk (Kd.R_elder' (rb_ HO320.out) (Kd.R_base ho2) hb)
    have n6_ := Aside0.mk (Kd.R_elder' (rb_ HO324.out) (Kd.R_base ho0) hb)
    have n7_ := Aside0.mk (Kd.R_elder' (rb_ HO329.out) (Kd.R_base ho1) hb)
    have n8_ := Aside0.mk (Kd.R_elder' (rb_ HO332.out) (Kd.R_base ho2) hb)
    have n9_ := Aside0.mk (Kd.R_elder' (rb_ HO340.out) (Kd.R_base ho0) hb)
    have n10_ := Aside0.mk (Kd.R_elder' (rb_ HO345.out) (Kd.R_base ho1) hb)
    have n11_ := Aside0.mk (Kd.R_elder' (rb_ HO348.out) (Kd.R_base ho2) hb)
    have n12_ := Aside0.mk (Kd.R_lower (Kd.R_new' (Kd.R_new' (Kd.R_new' (Kd.R_new' ho0 (Kd.R_lt (rb_ HO297.out))) (Kd.R_lt (rb_ HO312.out))) (Kd.R_lt (rb_ HO324.out))) (Kd.R_lt (rb_ HO340.out))) (below_size z0_))
    have n13_ := Aside0.mk (Kd.R_lower (Kd.R_new' (Kd.R_new' (Kd.R_new' (Kd.R_new' ho1 (Kd.R_lt (rb_ HO302.out))) (Kd.R_lt (rb_ HO317.out))) (Kd.R_lt (rb_ HO329.out))) (Kd.R_lt (rb_ HO345.out))) (below_size z0_))
    have n14_ := Aside0.mk (Kd.R_lower (Kd.R_new' (Kd.R_new' (Kd.R_new' (Kd.R_new' ho2 (Kd.R_lt (rb_ HO305.out))) (Kd.R_lt (rb_ HO320.out))) (Kd.R_lt (rb_ HO332.out))) (Kd.R_lt (rb_ HO348.out))) (below_size z0_))
    have n15_ := Aside0.mk (blk_below (g := gb292) (o := .cells #[.slice A0_0 l0_0.length c0_0, .int .i64 a0_1, .bool a0_2, .slice A0_3 l0_3.length c0_3, .slice A0_4 l0_4.length c0_4] 59 (0, 0)) (bk_ BK292.out) hb)
    have n16_ := Aside0.mk (blk_below (g := gb293) (o := .cells #[.int .i64 a1_0, .int .i64 a1_1, .int .i64 a1_2, .int .i64 a1_3] 65 (0, 0)) (bk_ BK293.out) hb)
    have n17_ := Aside0.mk (blk_below (g := gb321) (o := .cells #[.slice Ao37 t310.length co37, .int .i64 t313, .bool t314, .slice Ao41 t315.length co41, .slice Ao43 t318.length co43] 36 (0, 0)) (bk_ BK321.out) hb)
    have n18_ := Aside0.mk (blk_below (g := gb333) (o := .cells #[.slice Ao49 t322.length co49, .int .i64 t325, .bool t326, .slice Ao54 t327.length co54, .slice Ao55 t330.length co55] 36 (0, 0)) (bk_ BK333.out) hb)
    have n19_ := Aside0.mk (blk_below (g := gb349) (o := .cells #[.slice Ao62 t338.length co62, .int .i64 t341, .bool t342, .slice Ao66 t343.length co66, .slice Ao68 t346.length co68] 36 (0, 0)) (bk_ BK349.out) hb)
    have n20_ := Aside0.mk (below_step z0_ hb)
    clear HO297 HO302 HO305 HO312 HO317 HO320 HO324 HO329 HO332 HO340 HO345 HO348 BK292 BK293 BK321 BK333 BK349 HB
    have HO297 := n0_
    have HO302 := n1_
    have HO305 := n2_
    have HO312 := n3_
    have HO317 := n4_
    have HO320 := n5_
    have HO324 := n6_
    have HO329 := n7_
    have HO332 := n8_
    have HO340 := n9_
    have HO345 := n10_
    have HO348 := n11_
    have HO353 := n12_
    have HO358 := n13_
    have HO361 := n14_
    have BK292 := n15_
    have BK293 := n16_
    have BK321 := n17_
    have BK333 := n18_
    have BK349 := n19_
    have HB := n20_
    clear n0_ n1_ n2_ n3_ n4_ n5_ n6_ n7_ n8_ n9_ n10_ n11_ n12_ n13_ n14_ n15_ n16_ n17_ n18_ n19_ n20_
    (try clear hb)
    (try clear hb2)
    (try clear hk)
    (try clear hi)
    (try clear ho0)
    (try clear ho1)
    (try clear ho2)
    obtain ⟨Ao80, co80, eo80⟩ := Kd.R_slice HO353.out
    (first | subst eo80 | (injection eo80 with f1_ f2_ f3_; have f4_ := f1_.symm; have f5_ := f3_.symm; clear f1_ f2_ f3_; subst f4_; subst f5_))
    obtain ⟨Ao81, co81, eo81⟩ := Kd.R_slice HO358.out
    (first | subst eo81 | (injection eo81 with f1_ f2_ f3_; have f4_ := f1_.symm; have f5_ := f3_.symm; clear f1_ f2_ f3_; subst f4_; subst f5_))
    obtain ⟨Ao82, co82, eo82⟩ := Kd.R_slice HO361.out
    (first | subst eo82 | (injection eo82 with f1_ f2_ f3_; have f4_ := f1_.symm; have f5_ := f3_.symm; clear f1_ f2_ f3_; subst f4_; subst f5_))
    refine hK.out _ _ ⟨(blk_cell BK333.out 0).trans rfl, (blk_cell BK333.out 1).trans rfl, (blk_cell BK333.out 2).trans rfl, (blk_cell BK333.out 3).trans rfl, (blk_cell BK333.out 4).trans rfl, (blk_cell BK292.out 0).trans rfl, (blk_cell BK292.out 1).trans rfl, (blk_cell BK292.out 2).trans rfl, (blk_cell BK292.out 3).trans rfl, (blk_cell BK292.out 4).trans rfl⟩ (fun hHeld => ?_)
    clear hK K
    refine norm_ (a' := ?_) ?_ ?_
    rotate_left
    ·
     show Act.put _ (some 35) _ = _
     simp only [Act.put, List.setIfInBounds_toArray, List.set_cons_zero, List.set_cons_succ, i64_w, i32_w]
     rfl
    refine one_ (i := 3) (N := some 36) #[true, true, true, true, false] rfl rfl (by kernel_rfl) (by decide) (fun K hK => ?_)
    refine goes_ Try.func24 (by kernel_rfl) rfl #[.agg #[.slice Ao49 t322.length co49, .int .i64 t325, .bool t326, .slice Ao54 t327.length co54, .slice Ao55 t330.length co55], .agg #[.slice Ao80 t351.length co80, .int .i64 t354, .bool t355, .slice Ao81 t356.length co81, .slice Ao82 t359.length co82]] (by rfl) rfl rfl z4_ ?_
    with_reducible refine (laws_eqThread.calls k _ _ t322 t325 t326 _ _ t327 _ _ t330 _ _ t351 t354 t355 _ _ t356 _ _ t359 true _ ?side1 ?side2 ?side3 ?side4 ?side5 ?side6 ?side7 ?side8 ?side9 ?side10 ?side11 ?side12 A19.out).mono ?_
    (case side1 => repeat (first | exact (Kd.R_reads' HO324.out).2.2 | (with_reducible refine Kd.C_alloc ?_ _) | (with_reducible refine Kd.C_drewN ?_ _) | (with_reducible refine Kd.C_drew ?_)))
    (case side2 => exact (Kd.R_reads' HO324.out).2.1)
    (case side3 => repeat (first | exact (Kd.R_reads' HO329.out).2.2 | (with_reducible refine Kd.C_alloc ?_ _) | (with_reducible refine Kd.C_drewN ?_ _) | (with_reducible refine Kd.C_drew ?_)))
    (case side4 => exact (Kd.R_reads' HO329.out).2.1)
    (case side5 => repeat (first | exact (Kd.R_reads' HO332.out).2.2 | (with_reducible refine Kd.C_alloc ?_ _) | (with_reducible refine Kd.C_drewN ?_ _) | (with_reducible refine Kd.C_drew ?_)))
    (case side6 => exact (Kd.R_reads' HO332.out).2.1)
    (case side7 => repeat (first | exact (Kd.R_reads' HO353.out).2.2 | (with_reducible refine Kd.C_alloc ?_ _) | (with_reducible refine Kd.C_drewN ?_ _) | (with_reducible refine Kd.C_drew ?_)))
    (case side8 => exact (Kd.R_reads' HO353.out).2.1)
    (case side9 => repeat (first | exact (Kd.R_reads' HO358.out).2.2 | (with_reducible refine Kd.C_alloc ?_ _) | (with_reducible refine Kd.C_drewN ?_ _) | (with_reducible refine Kd.C_drew ?_)))
    (case side10 => exact (Kd.R_reads' HO358.out).2.1)
    (case side11 => repeat (first | exact (Kd.R_reads' HO361.out).2.2 | (with_reducible refine Kd.C_alloc ?_ _) | (with_reducible refine Kd.C_drewN ?_ _) | (with_reducible refine Kd.C_drew ?_)))
    (case side12 => exact (Kd.R_reads' HO361.out).2.1)
    rintro e w83 ⟨rfl, hb⟩
    refine ⟨_, rfl, ?_⟩
    have n0_ := Aside0.mk (Kd.R_below (rb_ HO297.out) hb)
    have n1_ := Aside0.mk (Kd.R_below (rb_ HO302.out) hb)
    have n2_ := Aside0.mk (Kd.R_below (rb_ HO305.out) hb)
    have n3_ := Aside0.mk (Kd.R_below (rb_ HO312.out) hb)
    have n4_ := Aside0.mk (Kd.R_below (rb_ HO317.out) hb)
    have n5_ := Aside0.mk (Kd.R_below (rb_ HO320.out) hb)
    have n6_ := Aside0.mk (Kd.R_below (rb_ HO324.out) hb)
    have n7_ := Aside0.mk (Kd.R_below (rb_ HO329.out) hb)
    have n8_ := Aside0.mk (Kd.R_below (rb_ HO332.out) hb)
    have n9_ := Aside0.mk (Kd.R_below (rb_ HO340.out) hb)
    have n10_ := Aside0.mk (Kd.R_below (rb_ HO345.out) hb)
    have n11_ := Aside0.mk (Kd.R_below (rb_ HO348.out) hb)
    have n12_ := Aside0.mk (Kd.R_below (rb_ HO353.out) hb)
    have n13_ := Aside0.mk (Kd.R_below (rb_ HO358.out) hb)
    have n14_ := Aside0.mk (Kd.R_below (rb_ HO361.out) hb)
    have n15_ := Aside0.mk (blk_below (g := gb292) (o := .cells #[.slice A0_0 l0_0.length c0_0, .int .i64 a0_1, .bool a0_2, .slice A0_3 l0_3.length c0_3, .slice A0_4 l0_4.length c0_4] 59 (0, 0)) (bk_ BK292.out) hb)
    have n16_ := Aside0.mk (blk_below (g := gb293) (o := .cells #[.int .i64 a1_0, .int .i64 a1_1, .int .i64 a1_2, .int .i64 a1_3] 65 (0, 0)) (bk_ BK293.out) hb)
    have n17_ := Aside0.mk (blk_below (g := gb321) (o := .cells #[.slice Ao37 t310.length co37, .int .i64 t313, .bool t314, .slice Ao41 t315.length co41, .slice Ao43 t318.length co43] 36 (0, 0)) (bk_ BK321.out) hb)
    have n18_ := Aside0.mk (blk_below (g := gb333) (o := .cells #[.slice Ao49 t322.length co49, .int .i64 t325, .bool t326, .slice Ao54 t327.length co54, .slice Ao55 t330.length co55] 36 (0, 0)) (bk_ BK333.out) hb)
    have n19_ := Aside0.mk (blk_below (g := gb349) (o := .cells #[.slice Ao62 t338.length co62, .int .i64 t341, .bool t342, .slice Ao66 t343.length co66, .slice Ao68 t346.length co68] 36 (0, 0)) (bk_ BK349.out) hb)
    have n20_ := Aside0.mk (below_step z0_ hb)
    clear HO297 HO302 HO305 HO312 HO317 HO320 HO324 HO329 HO332 HO340 HO345 HO348 HO353 HO358 HO361 BK292 BK293 BK321 BK333 BK349 HB
    have HO297 := n0_
    have HO302 := n1_
    have HO305 := n2_
    have HO312 := n3_
    have HO317 := n4_
    have HO320 := n5_
    have HO324 := n6_
    have HO329 := n7_
    have HO332 := n8_
    have HO340 := n9_
    have HO345 := n10_
    have HO348 := n11_
    have HO353 := n12_
    have HO358 := n13_
    have HO361 := n14_
    have BK292 := n15_
    have BK293 := n16_
    have BK321 := n17_
    have BK333 := n18_
    have BK349 := n19_
    have HB := n20_
    clear n0_ n1_ n2_ n3_ n4_ n5_ n6_ n7_ n8_ n9_ n10_ n11_ n12_ n13_ n14_ n15_ n16_ n17_ n18_ n19_ n20_
    (try clear hb)
    (try clear hb2)
    (try clear hk)
    (try clear hi)
    refine hK.out _ _ ⟨(blk_cell BK333.out 0).trans rfl, (blk_cell BK333.out 1).trans rfl, (blk_cell BK333.out 2).trans rfl, (blk_cell BK333.out 3).trans rfl, (blk_cell BK333.out 4).trans rfl, (blk_cell BK292.out 0).trans rfl, (blk_cell BK292.out 1).trans rfl, (blk_cell BK292.out 2).trans rfl, (blk_cell BK292.out 3).trans rfl, (blk_cell BK292.out 4).trans rfl⟩ (fun hHeld => ?_)
    clear hK K
    refine norm_ (a' := ?_) ?_ ?_
    rotate_left
    ·
     show Act.put _ (some 36) _ = _
     simp only [Act.put, List.setIfInBounds_toArray, List.set_cons_zero, List.set_cons_succ, i64_w, i32_w]
     rfl
    refine pure_ (i := 4) (N := some 37) (v := ?_) (a' := ?_) #[true, true, true, true, true] rfl rfl (by kernel_rfl) (fun _ _ _ h => h) (Or.inl ⟨by rfl, ?_⟩) ?_ ?_
    rotate_left
    ·
     intro w'
     go_simp
     with_reducible rfl
    rotate_left
    ·
     simp only [Act.put, List.setIfInBounds_toArray, List.set_cons_zero, List.set_cons_succ, i64_w, i32_w]
     rfl
    refine done_ (by kernel_rfl) ?_
    have hcz84_0 : w83.cell? ⟨gb333, 0, none⟩ = some (.slice Ao49 t322.length co49) := (blk_cell BK333.out 0).trans rfl
    have hcz84_1 : w83.cell? ⟨gb333, 1, none⟩ = some (.int .i64 t325) := (blk_cell BK333.out 1).trans rfl
    have hcz84_2 : w83.cell? ⟨gb333, 2, none⟩ = some (.bool t326) := (blk_cell BK333.out 2).trans rfl
    have hcz84_3 : w83.cell? ⟨gb333, 3, none⟩ = some (.slice Ao54 t327.length co54) := (blk_cell BK333.out 3).trans rfl
    have hcz84_4 : w83.cell? ⟨gb333, 4, none⟩ = some (.slice Ao55 t330.length co55) := (blk_cell BK333.out 4).trans rfl
    have hfz84_0 := blk_frozen BK333.out 0
    have hfz84_1 := blk_frozen BK333.out 1
    have hfz84_2 := blk_frozen BK333.out 2
    have hfz84_3 := blk_frozen BK333.out 3
    have hfz84_4 := blk_frozen BK333.out 4
    go_upto_region 14 with (first | ((with_reducible refine gate_callee (f := 27) rfl ?_); refine goesL_ (some 40) rfl rfl Try.func27 (by kernel_rfl) rfl #[.agg #[.slice Ao49 t322.length co49, .int .i64 t325, .bool t326, .slice Ao54 t327.length co54, .slice Ao55 t330.length co55], .int .i64 1] rfl z4_ ?_; (with_reducible refine (laws_markThread.calls k (fun k_ => some k_ = (.slice Ao49 t322.length co49 : Value).ownBlock) (.slice Ao49 t322.length co49) t322 t325 t326 (fun k_ => some k_ = (.slice Ao54 t327.length co54 : Value).ownBlock) (.slice Ao54 t327.length co54) t327 (fun k_ => some k_ = (.slice Ao55 t330.length co55 : Value).ownBlock) (.slice Ao55 t330.length co55) t330 1 t363 t364 t365 t366 w _ ?side1 ?side2 ?side3 ?side4 A21.out).mono ?_); (case side1 => repeat (first | (with_reducible first | exact HB.out | apply below_alloc | apply pw_below_drewN | apply below_drew1 | refine below_set ?_ GE292.out | refine below_set ?_ GE293.out | refine below_set ?_ GE321.out | refine below_set ?_ GE333.out | refine below_set ?_ GE349.out) | exact HB.out)); (case side2 => exact Kd.R_tight rfl HO324.out); (case side3 => exact Kd.R_tight rfl HO329.out); (case side4 => exact Kd.R_tight rfl HO332.out); rintro e w85 ⟨rfl, hy0, hy1, hy2, hb, hkp⟩; refine ⟨_, rfl, ?_⟩; have n0_ := Aside0.mk (blk_kept (bk_ BK292.out) hkp (fun hs_ => Or.elim hs_ (fun e_ => (fun e_ => (Kd.R_ne HO324.out BK292.out (by decide)) e_) e_) (fun e_ => Or.elim e_ (fun e_ => (fun e_ => (Kd.R_ne HO329.out BK292.out (by decide)) e_) e_) (fun e_ => (fun e_ => (Kd.R_ne HO332.out BK292.out (by decide)) e_) e_)))); have n1_ := Aside0.mk (blk_kept (bk_ BK293.out) hkp (fun hs_ => Or.elim hs_ (fun e_ => (fun e_ => (Kd.R_ne HO324.out BK293.out (by decide)) e_) e_) (fun e_ => Or.elim e_ (fun e_ => (fun e_ => (Kd.R_ne HO329.out BK293.out (by decide)) e_) e_) (fun e_ => (fun e_ => (Kd.R_ne HO332.out BK293.out (by decide)) e_) e_)))); have n2_ := Aside0.mk (Kd.R_mono (ok' := fun k_ => some k_ ≠ (.slice Ao37 t310.length co37 : Value).ownBlock ∧ some k_ ≠ (.slice Ao49 t322.length co49 : Value).ownBlock ∧ some k_ ≠ (.slice Ao62 t338.length co62 : Value).ownBlock ∧ some k_ ≠ (.slice Ao80 t351.length co80 : Value).ownBlock) (Kd.R_keptB ((Kd.R_apart' (Kd.R_apart' HO297.out (Kd.R_typed HO329.out) (by decide)) (Kd.R_typed HO332.out) (by decide))) hkp (fun k_ hk_ hs_ => Or.elim hs_ (fun e_ => (hk_.1.1.1.2.1) e_) (fun e_ => Or.elim e_ (fun e_ => (hk_.1.2) e_) (fun e_ => (hk_.2) e_)))) (fun k_ hk_ => ⟨hk_.1.1.1.1.1, hk_.1.1.1.1.2.1, hk_.1.1.1.1.2.2, hk_.1.1.1.2⟩)); have n3_ := Aside0.mk (Kd.R_mono (ok' := fun k_ => some k_ ≠ (.slice Ao41 t315.length co41 : Value).ownBlock ∧ some k_ ≠ (.slice Ao54 t327.length co54 : Value).ownBlock ∧ some k_ ≠ (.slice Ao66 t343.length co66 : Value).ownBlock ∧ some k_ ≠ (.slice Ao81 t356.length co81 : Value).ownBlock) (Kd.R_keptB ((Kd.R_apart' (Kd.R_apart' HO302.out (Kd.R_typed HO324.out) (by decide)) (Kd.R_typed HO332.out) (by decide))) hkp (fun k_ hk_ hs_ => Or.elim hs_ (fun e_ => (hk_.1.2) e_) (fun e_ => Or.elim e_ (fun e_ => (hk_.1.1.1.2.1) e_) (fun e_ => (hk_.2) e_)))) (fun k_ hk_ => ⟨hk_.1.1.1.1.1, hk_.1.1.1.1.2.1, hk_.1.1.1.1.2.2, hk_.1.1.1.2⟩)); have n4_ := Aside0.mk (Kd.R_mono (ok' := fun k_ => some k_ ≠ (.slice Ao43 t318.length co43 : Value).ownBlock ∧ some k_ ≠ (.slice Ao55 t330.length co55 : Value).ownBlock ∧ some k_ ≠ (.slice Ao68 t346.length co68 : Value).ownBlock ∧ some k_ ≠ (.slice Ao82 t359.length co82 : Value).ownBlock) (Kd.R_keptB ((Kd.R_apart' (Kd.R_apart' HO305.out (Kd.R_typed HO324.out) (by decide)) (Kd.R_typed HO329.out) (by decide))) hkp (fun k_ hk_ hs_ => Or.elim hs_ (fun e_ => (hk_.1.2) e_) (fun e_ => Or.elim e_ (fun e_ => (hk_.2) e_) (fun e_ => (hk_.1.1.1.2.1) e_)))) (fun k_ hk_ => ⟨hk_.1.1.1.1.1, hk_.1.1.1.1.2.1, hk_.1.1.1.1.2.2, hk_.1.1.1.2⟩)); have n5_ := Aside0.mk (Kd.R_mono (ok' := fun k_ => some k_ ≠ (v296 : Value).ownBlock ∧ some k_ ≠ (.slice Ao49 t322.length co49 : Value).ownBlock ∧ some k_ ≠ (.slice Ao62 t338.length co62 : Value).ownBlock ∧ some k_ ≠ (.slice Ao80 t351.length co80 : Value).ownBlock) (Kd.R_keptB ((Kd.R_apart' (Kd.R_apart' HO312.out (Kd.R_typed HO329.out) (by decide)) (Kd.R_typed HO332.out) (by decide))) hkp (fun k_ hk_ hs_ => Or.elim hs_ (fun e_ => (hk_.1.1.1.2.1) e_) (fun e_ => Or.elim e_ (fun e_ => (hk_.1.2) e_) (fun e_ => (hk_.2) e_)))) (fun k_ hk_ => ⟨hk_.1.1.1.1.1, hk_.1.1.1.1.2.1, hk_.1.1.1.1.2.2, hk_.1.1.1.2⟩)); have n6_ := Aside0.mk (Kd.R_mono (ok' := fun k_ => some k_ ≠ (v301 : Value).ownBlock ∧ some k_ ≠ (.slice Ao54 t327.length co54 : Value).ownBlock ∧ some k_ ≠ (.slice Ao66 t343.length co66 : Value).ownBlock ∧ some k_ ≠ (.slice Ao81 t356.length co81 : Value).ownBlock) (Kd.R_keptB ((Kd.R_apart' (Kd.R_apart' HO317.out (Kd.R_typed HO324.out) (by decide)) (Kd.R_typed HO332.out) (by decide))) hkp (fun k_ hk_ hs_ => Or.elim hs_ (fun e_ => (hk_.1.2) e_) (fun e_ => Or.elim e_ (fun e_ => (hk_.1.1.1.2.1) e_) (fun e_ => (hk_.2) e_)))) (fun k_ hk_ => ⟨hk_.1.1.1.1.1, hk_.1.1.1.1.2.1, hk_.1.1.1.1.2.2, hk_.1.1.1.2⟩)); have n7_ := Aside0.mk (Kd.R_mono (ok' := fun k_ => some k_ ≠ (v304 : Value).ownBlock ∧ some k_ ≠ (.slice Ao55 t330.length co55 : Value).ownBlock ∧ some k_ ≠ (.slice Ao68 t346.length co68 : Value).ownBlock ∧ some k_ ≠ (.slice Ao82 t359.length co82 : Value).ownBlock) (Kd.R_keptB ((Kd.R_apart' (Kd.R_apart' HO320.out (Kd.R_typed HO324.out) (by decide)) (Kd.R_typed HO329.out) (by decide))) hkp (fun k_ hk_ hs_ => Or.elim hs_ (fun e_ => (hk_.1.2) e_) (fun e_ => Or.elim e_ (fun e_ => (hk_.2) e_) (fun e_ => (hk_.1.1.1.2.1) e_)))) (fun k_ hk_ => ⟨hk_.1.1.1.1.1, hk_.1.1.1.1.2.1, hk_.1.1.1.1.2.2, hk_.1.1.1.2⟩)); have n8_ := Aside0.mk (blk_kept (bk_ BK321.out) hkp (fun hs_ => Or.elim hs_ (fun e_ => (fun e_ => (Kd.R_ne HO324.out BK321.out (by decide)) e_) e_) (fun e_ => Or.elim e_ (fun e_ => (fun e_ => (Kd.R_ne HO329.out BK321.out (by decide)) e_) e_) (fun e_ => (fun e_ => (Kd.R_ne HO332.out BK321.out (by decide)) e_) e_)))); have n9_ := Aside0.mk (Kd.R_reok rfl hy0 (fun k_ e_ => HO324.out.1 k_ e_)); have n10_ := Aside0.mk (Kd.R_reok rfl hy1 (fun k_ e_ => HO329.out.1 k_ e_)); have n11_ := Aside0.mk (Kd.R_reok rfl hy2 (fun k_ e_ => HO332.out.1 k_ e_)); have n12_ := Aside0.mk (blk_kept (bk_ BK333.out) hkp (fun hs_ => Or.elim hs_ (fun e_ => (fun e_ => (Kd.R_ne HO324.out BK333.out (by decide)) e_) e_) (fun e_ => Or.elim e_ (fun e_ => (fun e_ => (Kd.R_ne HO329.out BK333.out (by decide)) e_) e_) (fun e_ => (fun e_ => (Kd.R_ne HO332.out BK333.out (by decide)) e_) e_)))); have n13_ := Aside0.mk (Kd.R_mono (ok' := fun k_ => some k_ ≠ (v296 : Value).ownBlock ∧ some k_ ≠ (.slice Ao37 t310.length co37 : Value).ownBlock ∧ some k_ ≠ (.slice Ao49 t322.length co49 : Value).ownBlock ∧ some k_ ≠ (.slice Ao80 t351.length co80 : Value).ownBlock) (Kd.R_keptB ((Kd.R_apart' (Kd.R_apart' HO340.out (Kd.R_typed HO329.out) (by decide)) (Kd.R_typed HO332.out) (by decide))) hkp (fun k_ hk_ hs_ => Or.elim hs_ (fun e_ => (hk_.1.1.1.2.2) e_) (fun e_ => Or.elim e_ (fun e_ => (hk_.1.2) e_) (fun e_ => (hk_.2) e_)))) (fun k_ hk_ => ⟨hk_.1.1.1.1.1, hk_.1.1.1.1.2.1, hk_.1.1.1.1.2.2, hk_.1.1.1.2⟩)); have n14_ := Aside0.mk (Kd.R_mono (ok' := fun k_ => some k_ ≠ (v301 : Value).ownBlock ∧ some k_ ≠ (.slice Ao41 t315.length co41 : Value).ownBlock ∧ some k_ ≠ (.slice Ao54 t327.length co54 : Value).ownBlock ∧ some k_ ≠ (.slice Ao81 t356.length co81 : Value).ownBlock) (Kd.R_keptB ((Kd.R_apart' (Kd.R_apart' HO345.out (Kd.R_typed HO324.out) (by decide)) (Kd.R_typed HO332.out) (by decide))) hkp (fun k_ hk_ hs_ => Or.elim hs_ (fun e_ => (hk_.1.2) e_) (fun e_ => Or.elim e_ (fun e_ => (hk_.1.1.1.2.2) e_) (fun e_ => (hk_.2) e_)))) (fun k_ hk_ => ⟨hk_.1.1.1.1.1, hk_.1.1.1.1.2.1, hk_.1.1.1.1.2.2, hk_.1.1.1.2⟩)); have n15_ := Aside0.mk (Kd.R_mono (ok' := fun k_ => some k_ ≠ (v304 : Value).ownBlock ∧ some k_ ≠ (.slice Ao43 t318.length co43 : Value).ownBlock ∧ some k_ ≠ (.slice Ao55 t330.length co55 : Value).ownBlock ∧ some k_ ≠ (.slice Ao82 t359.length co82 : Value).ownBlock) (Kd.R_keptB ((Kd.R_apart' (Kd.R_apart' HO348.out (Kd.R_typed HO324.out) (by decide)) (Kd.R_typed HO329.out) (by decide))) hkp (fun k_ hk_ hs_ => Or.elim hs_ (fun e_ => (hk_.1.2) e_) (fun e_ => Or.elim e_ (fun e_ => (hk_.2) e_) (fun e_ => (hk_.1.1.1.2.2) e_)))) (fun k_ hk_ => ⟨hk_.1.1.1.1.1, hk_.1.1.1.1.2.1, hk_.1.1.1.1.2.2, hk_.1.1.1.2⟩)); have n16_ := Aside0.mk (blk_kept (bk_ BK349.out) hkp (fun hs_ => Or.elim hs_ (fun e_ => (fun e_ => (Kd.R_ne HO324.out BK349.out (by decide)) e_) e_) (fun e_ => Or.elim e_ (fun e_ => (fun e_ => (Kd.R_ne HO329.out BK349.out (by decide)) e_) e_) (fun e_ => (fun e_ => (Kd.R_ne HO332.out BK349.out (by decide)) e_) e_)))); have n17_ := Aside0.mk (Kd.R_mono (ok' := fun k_ => some k_ ≠ (v296 : Value).ownBlock ∧ some k_ ≠ (.slice Ao37 t310.length co37 : Value).ownBlock ∧ some k_ ≠ (.slice Ao49 t322.length co49 : Value).ownBlock ∧ some k_ ≠ (.slice Ao62 t338.length co62 : Value).ownBlock) (Kd.R_keptB ((Kd.R_apart' (Kd.R_apart' HO353.out (Kd.R_typed HO329.out) (by decide)) (Kd.R_typed HO332.out) (by decide))) hkp (fun k_ hk_ hs_ => Or.elim hs_ (fun e_ => (hk_.1.1.1.2) e_) (fun e_ => Or.elim e_ (fun e_ => (hk_.1.2) e_) (fun e_ => (hk_.2) e_)))) (fun k_ hk_ => ⟨hk_.1.1.1.1.1.1.2, hk_.1.1.1.1.1.2, hk_.1.1.1.1.2, hk_.1.1.1.2⟩)); have n18_ := Aside0.mk (Kd.R_mono (ok' := fun k_ => some k_ ≠ (v301 : Value).ownBlock ∧ some k_ ≠ (.slice Ao41 t315.length co41 : Value).ownBlock ∧ some k_ ≠ (.slice Ao54 t327.length co54 : Value).ownBlock ∧ some k_ ≠ (.slice Ao66 t343.length co66 : Value).ownBlock) (Kd.R_keptB ((Kd.R_apart' (Kd.R_apart' HO358.out (Kd.R_typed HO324.out) (by decide)) (Kd.R_typed HO332.out) (by decide))) hkp (fun k_ hk_ hs_ => Or.elim hs_ (fun e_ => (hk_.1.2) e_) (fun e_ => Or.elim e_ (fun e_ => (hk_.1.1.1.2) e_) (fun e_ => (hk_.2) e_)))) (fun k_ hk_ => ⟨hk_.1.1.1.1.1.1.2, hk_.1.1.1.1.1.2, hk_.1.1.1.1.2, hk_.1.1.1.2⟩)); have n19_ := Aside0.mk (Kd.R_mono (ok' := fun k_ => some k_ ≠ (v304 : Value).ownBlock ∧ some k_ ≠ (.slice Ao43 t318.length co43 : Value).ownBlock ∧ some k_ ≠ (.slice Ao55 t330.length co55 : Value).ownBlock ∧ some k_ ≠ (.slice Ao68 t346.length co68 : Value).ownBlock) (Kd.R_keptB ((Kd.R_apart' (Kd.R_apart' HO361.out (Kd.R_typed HO324.out) (by decide)) (Kd.R_typed HO329.out) (by decide))) hkp (fun k_ hk_ hs_ => Or.elim hs_ (fun e_ => (hk_.1.2) e_) (fun e_ => Or.elim e_ (fun e_ => (hk_.2) e_) (fun e_ => (hk_.1.1.1.2) e_)))) (fun k_ hk_ => ⟨hk_.1.1.1.1.1.1.2, hk_.1.1.1.1.1.2, hk_.1.1.1.1.2, hk_.1.1.1.2⟩)); have n20_ := Aside0.mk (hb); clear BK292 BK293 HO297 HO302 HO305 HO312 HO317 HO320 BK321 HO324 HO329 HO332 BK333 HO340 HO345 HO348 BK349 HO353 HO358 HO361 HB; have BK292 := n0_; have BK293 := n1_; have HO297 := n2_; have HO302 := n3_; have HO305 := n4_; have HO312 := n5_; have HO317 := n6_; have HO320 := n7_; have BK321 := n8_; have HO324 := n9_; have HO329 := n10_; have HO332 := n11_; have BK333 := n12_; have HO340 := n13_; have HO345 := n14_; have HO348 := n15_; have BK349 := n16_; have HO353 := n17_; have HO358 := n18_; have HO361 := n19_; have HB := n20_; clear n0_ n1_ n2_ n3_ n4_ n5_ n6_ n7_ n8_ n9_ n10_ n11_ n12_ n13_ n14_ n15_ n16_ n17_ n18_ n19_ n20_; (try clear hb); (try clear hkp); (try clear hy0); (try clear hy1); (try clear hy2)))
    (try simp only [Act.put, List.setIfInBounds_toArray, List.set_cons_zero, List.set_cons_succ])
    go_cut [48] (fun v48 wc => ∃ (kq : Nat) (x48_21 : Bool), v48 = .bool x48_21 ∧ Aside0 (laws_FnExactPush.j0 kq x48_21 l0_0 a0_1 a0_2 l0_3 l0_4 a1_0 a1_1 a1_2 a1_3 t310 t313 t314 t315 t318 t338 t341 t342 t343 t346 = some r) ∧ Aside0 (kq ≤ k) ∧ Aside0 (Kd.R k88 88 wc w.heap.size (fun k_ => some k_ ≠ ((.slice Ao49 t322.length co49) : Value).ownBlock ∧ some k_ ≠ ((.slice Ao62 t338.length co62) : Value).ownBlock) (.slice Ao37 t310.length co37) t310) ∧ Aside0 (Kd.R k136 136 wc w.heap.size (fun k_ => some k_ ≠ ((.slice Ao54 t327.length co54) : Value).ownBlock ∧ some k_ ≠ ((.slice Ao66 t343.length co66) : Value).ownBlock) (.slice Ao41 t315.length co41) t315) ∧ Aside0 (Kd.R k67 67 wc w.heap.size (fun k_ => some k_ ≠ ((.slice Ao55 t330.length co55) : Value).ownBlock ∧ some k_ ≠ ((.slice Ao68 t346.length co68) : Value).ownBlock) (.slice Ao43 t318.length co43) t318) ∧ Aside0 (Kd.R k88 88 wc w.heap.size (fun k_ => some k_ ≠ ((.slice Ao37 t310.length co37) : Value).ownBlock ∧ some k_ ≠ ((.slice Ao62 t338.length co62) : Value).ownBlock) (.slice Ao49 t322.length co49) t364) ∧ Aside0 (Kd.R k136 136 wc w.heap.size (fun k_ => some k_ ≠ ((.slice Ao41 t315.length co41) : Value).ownBlock ∧ some k_ ≠ ((.slice Ao66 t343.length co66) : Value).ownBlock) (.slice Ao54 t327.length co54) t365) ∧ Aside0 (Kd.R k67 67 wc w.heap.size (fun k_ => some k_ ≠ ((.slice Ao43 t318.length co43) : Value).ownBlock ∧ some k_ ≠ ((.slice Ao68 t346.length co68) : Value).ownBlock) (.slice Ao55 t330.length co55) t366) ∧ Aside0 (Kd.R k88 88 wc w.heap.size (fun k_ => some k_ ≠ ((.slice Ao37 t310.length co37) : Value).ownBlock ∧ some k_ ≠ ((.slice Ao49 t322.length co49) : Value).ownBlock) (.slice Ao62 t338.length co62) t338) ∧ Aside0 (Kd.R k136 136 wc w.heap.size (fun k_ => some k_ ≠ ((.slice Ao41 t315.length co41) : Value).ownBlock ∧ some k_ ≠ ((.slice Ao54 t327.length co54) : Value).ownBlock) (.slice Ao66 t343.length co66) t343) ∧ Aside0 (Kd.R k67 67 wc w.heap.size (fun k_ => some k_ ≠ ((.slice Ao43 t318.length co43) : Value).ownBlock ∧ some k_ ≠ ((.slice Ao55 t330.length co55) : Value).ownBlock) (.slice Ao68 t346.length co68) t346) ∧ Aside0 (wc.heap[gb292]? = some (.cells #[(.slice A0_0 l0_0.length c0_0), .int .i64 a0_1, .bool a0_2, (.slice A0_3 l0_3.length c0_3), (.slice A0_4 l0_4.length c0_4)] 59 (0, 0))) ∧ Aside0 (wc.heap[gb293]? = some (.cells #[.int .i64 a1_0, .int .i64 a1_1, .int .i64 a1_2, .int .i64 a1_3] 65 (0, 0))) ∧ Aside0 (wc.heap[gb321]? = some (.cells #[(.slice Ao37 t310.length co37), .int .i64 t313, .bool t314, (.slice Ao41 t315.length co41), (.slice Ao43 t318.length co43)] 36 (0, 0))) ∧ Aside0 (wc.heap[gb333]? = some (.cells #[(.slice Ao49 t322.length co49), .int .i64 t325, .bool t326, (.slice Ao54 t327.length co54), (.slice Ao55 t330.length co55)] 36 (0, 0))) ∧ Aside0 (wc.heap[gb349]? = some (.cells #[(.slice Ao62 t338.length co62), .int .i64 t341, .bool t342, (.slice Ao66 t343.length co66), (.slice Ao68 t346.length co68)] 36 (0, 0))) ∧ Aside0 (Below w.heap.size w wc))
    case first =>
     have H := HC22.out
     clear HC22
     by_cases c86 : t363 < 0
     ·
      rw [if_pos c86] at H
      have c86b0 : decide (t363 < 0) = true := decide_eq_true c86
      clear c86
      (first | rw [c86b0] | (simp only [i64_w, i32_w]; rw [c86b0]) | skip)
      have H' := Aside0.mk H
      clear H
      go_wp2
      go_meet
      case rel => exact ⟨_, (true), (by first | rfl | (simp; done) | (simp [*]; done)), H', ⟨by first | omega | exact Nat.le_refl _⟩, ⟨by (with_reducible repeat (first | apply Kd.R_alloc | apply Kd.R_drewN | apply Kd.R_drew)); exact Kd.R_mono HO312.out (fun _ hk => ⟨hk.2.1, hk.2.2.1⟩)⟩, ⟨by (with_reducible repeat (first | apply Kd.R_alloc | apply Kd.R_drewN | apply Kd.R_drew)); exact Kd.R_mono HO317.out (fun _ hk => ⟨hk.2.1, hk.2.2.1⟩)⟩, ⟨by (with_reducible repeat (first | apply Kd.R_alloc | apply Kd.R_drewN | apply Kd.R_drew)); exact Kd.R_mono HO320.out (fun _ hk => ⟨hk.2.1, hk.2.2.1⟩)⟩, ⟨by (with_reducible repeat (first | apply Kd.R_alloc | apply Kd.R_drewN | apply Kd.R_drew)); exact Kd.R_mono HO324.out (fun _ hk => ⟨hk.1.2.1, hk.1.2.2⟩)⟩, ⟨by (with_reducible repeat (first | apply Kd.R_alloc | apply Kd.R_drewN | apply Kd.R_drew)); exact Kd.R_mono HO329.out (fun _ hk => ⟨hk.1.2.1, hk.1.2.2⟩)⟩, ⟨by (with_reducible repeat (first | apply Kd.R_alloc | apply Kd.R_drewN | apply Kd.R_drew)); exact Kd.R_mono HO332.out (fun _ hk => ⟨hk.1.2.1, hk.1.2.2⟩)⟩, ⟨by (with_reducible repeat (first | apply Kd.R_alloc | apply Kd.R_drewN | apply Kd.R_drew)); exact Kd.R_mono HO340.out (fun _ hk => ⟨hk.2.1, hk.2.2.1⟩)⟩, ⟨by (with_reducible repeat (first | apply Kd.R_alloc | apply Kd.R_drewN | apply Kd.R_drew)); exact Kd.R_mono HO345.out (fun _ hk => ⟨hk.2.1, hk.2.2.1⟩)⟩, ⟨by (with_reducible repeat (first | apply Kd.R_alloc | apply Kd.R_drewN | apply Kd.R_drew)); exact Kd.R_mono HO348.out (fun _ hk => ⟨hk.2.1, hk.2.2.1⟩)⟩, ⟨bk_ BK292.out⟩, ⟨bk_ BK293.out⟩, ⟨bk_ BK321.out⟩, ⟨bk_ BK333.out⟩, ⟨bk_ BK349.out⟩, ⟨z0_⟩⟩
     ·
      rw [if_neg c86] at H
      have c86b0 : decide (t363 < 0) = false := decide_eq_false c86
      clear c86
      (first | rw [c86b0] | (simp only [i64_w, i32_w]; rw [c86b0]) | skip)
      replace H := Option.bind_eq_some_iff.mp H
      obtain ⟨t367, A870, H⟩ := H
      replace H : (laws_FnExactPush.j0 k (!t367) l0_0 a0_1 a0_2 l0_3 l0_4 a1_0 a1_1 a1_2 a1_3 t310 t313 t314 t315 t318 t338 t341 t342 t343 t346) = some r := H
      have A87 := Aside0.mk A870
      clear A870
      have H' := Aside0.mk H
      clear H
      have hnb88 := NB349_292.out
      have hnc88 := NB292_349.out
      have hnb89 := NB349_293.out
      have hnc89 := NB293_349.out
      have hnb90 := NB349_321.out
      have hnc90 := NB321_349.out
      have hnb91 := NB349_333.out
      have hnc91 := NB333_349.out
      have hcz92_0 : w85.cell? ⟨gb349, 0, none⟩ = some (.slice Ao62 t338.length co62) := (blk_cell BK349.out 0).trans rfl
      have hcz92_1 : w85.cell? ⟨gb349, 1, none⟩ = some (.int .i64 t341) := (blk_cell BK349.out 1).trans rfl
      have hcz92_2 : w85.cell? ⟨gb349, 2, none⟩ = some (.bool t342) := (blk_cell BK349.out 2).trans rfl
      have hcz92_3 : w85.cell? ⟨gb349, 3, none⟩ = some (.slice Ao66 t343.length co66) := (blk_cell BK349.out 3).trans rfl
      have hcz92_4 : w85.cell? ⟨gb349, 4, none⟩ = some (.slice Ao68 t346.length co68) := (blk_cell BK349.out 4).trans rfl
      have hfz92_0 := blk_frozen BK349.out 0
      have hfz92_1 := blk_frozen BK349.out 1
      have hfz92_2 := blk_frozen BK349.out 2
      have hfz92_3 := blk_frozen BK349.out 3
      have hfz92_4 := blk_frozen BK349.out 4
      have hnb93 := NB321_292.out
      have hnc93 := NB292_321.out
      have hnb94 := NB321_293.out
      have hnc94 := NB293_321.out
      have hnb95 := NB321_333.out
      have hnc95 := NB333_321.out
      have hcz96_0 : w85.cell? ⟨gb321, 0, none⟩ = some (.slice Ao37 t310.length co37) := (blk_cell BK321.out 0).trans rfl
      have hcz96_1 : w85.cell? ⟨gb321, 1, none⟩ = some (.int .i64 t313) := (blk_cell BK321.out 1).trans rfl
      have hcz96_2 : w85.cell? ⟨gb321, 2, none⟩ = some (.bool t314) := (blk_cell BK321.out 2).trans rfl
      have hcz96_3 : w85.cell? ⟨gb321, 3, none⟩ = some (.slice Ao41 t315.length co41) := (blk_cell BK321.out 3).trans rfl
      have hcz96_4 : w85.cell? ⟨gb321, 4, none⟩ = some (.slice Ao43 t318.length co43) := (blk_cell BK321.out 4).trans rfl
      have hfz96_0 := blk_frozen BK321.out 0
      have hfz96_1 := blk_frozen BK321.out 1
      have hfz96_2 := blk_frozen BK321.out 2
      have hfz96_3 := blk_frozen BK321.out 3
      have hfz96_4 := blk_frozen BK321.out 4
      go_wp2_with (first | (go_at_call 24; (with_reducible refine (laws_eqThread.calls k _ _ t338 t341 t342 _ _ t343 _ _ t346 _ _ t310 t313 t314 _ _ t315 _ _ t318 t367 _ ?side1 ?side2 ?side3 ?side4 ?side5 ?side6 ?side7 ?side8 ?side9 ?side10 ?side11 ?side12 A87.out).mono ?_); (case side1 => repeat (first | exact (Kd.R_reads' HO340.out).2.2 | (with_reducible refine Kd.C_alloc ?_ _) | (with_reducible refine Kd.C_drewN ?_ _) | (with_reducible refine Kd.C_drew ?_))); (case side2 => exact (Kd.R_reads' HO340.out).2.1); (case side3 => repeat (first | exact (Kd.R_reads' HO345.out).2.2 | (with_reducible refine Kd.C_alloc ?_ _) | (with_reducible refine Kd.C_drewN ?_ _) | (with_reducible refine Kd.C_drew ?_))); (case side4 => exact (Kd.R_reads' HO345.out).2.1); (case side5 => repeat (first | exact (Kd.R_reads' HO348.out).2.2 | (with_reducible refine Kd.C_alloc ?_ _) | (with_reducible refine Kd.C_drewN ?_ _) | (with_reducible refine Kd.C_drew ?_))); (case side6 => exact (Kd.R_reads' HO348.out).2.1); (case side7 => repeat (first | exact (Kd.R_reads' HO312.out).2.2 | (with_reducible refine Kd.C_alloc ?_ _) | (with_reducible refine Kd.C_drewN ?_ _) | (with_reducible refine Kd.C_drew ?_))); (case side8 => exact (Kd.R_reads' HO312.out).2.1); (case side9 => repeat (first | exact (Kd.R_reads' HO317.out).2.2 | (with_reducible refine Kd.C_alloc ?_ _) | (with_reducible refine Kd.C_drewN ?_ _) | (with_reducible refine Kd.C_drew ?_))); (case side10 => exact (Kd.R_reads' HO317.out).2.1); (case side11 => repeat (first | exact (Kd.R_reads' HO320.out).2.2 | (with_reducible refine Kd.C_alloc ?_ _) | (with_reducible refine Kd.C_drewN ?_ _) | (with_reducible refine Kd.C_drew ?_))); (case side12 => exact (Kd.R_reads' HO320.out).2.1); rintro e w97 ⟨rfl, hb⟩; have n0_ := Aside0.mk (Kd.R_below (rb_ HO297.out) hb); have n1_ := Aside0.mk (Kd.R_below (rb_ HO302.out) hb); have n2_ := Aside0.mk (Kd.R_below (rb_ HO305.out) hb); have n3_ := Aside0.mk (Kd.R_below (rb_ HO312.out) hb); have n4_ := Aside0.mk (Kd.R_below (rb_ HO317.out) hb); have n5_ := Aside0.mk (Kd.R_below (rb_ HO320.out) hb); have n6_ := Aside0.mk (Kd.R_below (rb_ HO324.out) hb); have n7_ := Aside0.mk (Kd.R_below (rb_ HO329.out) hb); have n8_ := Aside0.mk (Kd.R_below (rb_ HO332.out) hb); have n9_ := Aside0.mk (Kd.R_below (rb_ HO340.out) hb); have n10_ := Aside0.mk (Kd.R_below (rb_ HO345.out) hb); have n11_ := Aside0.mk (Kd.R_below (rb_ HO348.out) hb); have n12_ := Aside0.mk (Kd.R_below (rb_ HO353.out) hb); have n13_ := Aside0.mk (Kd.R_below (rb_ HO358.out) hb); have n14_ := Aside0.mk (Kd.R_below (rb_ HO361.out) hb); have n15_ := Aside0.mk (blk_below (g := gb292) (o := .cells #[.slice A0_0 l0_0.length c0_0, .int .i64 a0_1, .bool a0_2, .slice A0_3 l0_3.length c0_3, .slice A0_4 l0_4.length c0_4] 59 (0, 0)) (bk_ BK292.out) hb); have n16_ := Aside0.mk (blk_below (g := gb293) (o := .cells #[.int .i64 a1_0, .int .i64 a1_1, .int .i64 a1_2, .int .i64 a1_3] 65 (0, 0)) (bk_ BK293.out) hb); have n17_ := Aside0.mk (blk_below (g := gb321) (o := .cells #[.slice Ao37 t310.length co37, .int .i64 t313, .bool t314, .slice Ao41 t315.length co41, .slice Ao43 t318.length co43] 36 (0, 0)) (bk_ BK321.out) hb); have n18_ := Aside0.mk (blk_below (g := gb333) (o := .cells #[.slice Ao49 t322.length co49, .int .i64 t325, .bool t326, .slice Ao54 t327.length co54, .slice Ao55 t330.length co55] 36 (0, 0)) (bk_ BK333.out) hb); have n19_ := Aside0.mk (blk_below (g := gb349) (o := .cells #[.slice Ao62 t338.length co62, .int .i64 t341, .bool t342, .slice Ao66 t343.length co66, .slice Ao68 t346.length co68] 36 (0, 0)) (bk_ BK349.out) hb); have n20_ := Aside0.mk (below_step z0_ hb); clear HO297 HO302 HO305 HO312 HO317 HO320 HO324 HO329 HO332 HO340 HO345 HO348 HO353 HO358 HO361 BK292 BK293 BK321 BK333 BK349 HB; have HO297 := n0_; have HO302 := n1_; have HO305 := n2_; have HO312 := n3_; have HO317 := n4_; have HO320 := n5_; have HO324 := n6_; have HO329 := n7_; have HO332 := n8_; have HO340 := n9_; have HO345 := n10_; have HO348 := n11_; have HO353 := n12_; have HO358 := n13_; have HO361 := n14_; have BK292 := n15_; have BK293 := n16_; have BK321 := n17_; have BK333 := n18_; have BK349 := n19_; have HB := n20_; clear n0_ n1_ n2_ n3_ n4_ n5_ n6_ n7_ n8_ n9_ n10_ n11_ n12_ n13_ n14_ n15_ n16_ n17_ n18_ n19_ n20_; (try clear hb); (try clear hb2); (try clear hk); (try clear hi)))
      go_meet
      case rel => exact ⟨_, (!t367), (by first | rfl | (simp; done) | (simp [*]; done)), H', ⟨by first | omega | exact Nat.le_refl _⟩, ⟨by (with_reducible repeat (first | apply Kd.R_alloc | apply Kd.R_drewN | apply Kd.R_drew)); exact Kd.R_mono HO312.out (fun _ hk => ⟨hk.2.1, hk.2.2.1⟩)⟩, ⟨by (with_reducible repeat (first | apply Kd.R_alloc | apply Kd.R_drewN | apply Kd.R_drew)); exact Kd.R_mono HO317.out (fun _ hk => ⟨hk.2.1, hk.2.2.1⟩)⟩, ⟨by (with_reducible repeat (first | apply Kd.R_alloc | apply Kd.R_drewN | apply Kd.R_drew)); exact Kd.R_mono HO320.out (fun _ hk => ⟨hk.2.1, hk.2.2.1⟩)⟩, ⟨by (with_reducible repeat (first | apply Kd.R_alloc | apply Kd.R_drewN | apply Kd.R_drew)); exact Kd.R_mono HO324.out (fun _ hk => ⟨hk.1.2.1, hk.1.2.2⟩)⟩, ⟨by (with_reducible repeat (first | apply Kd.R_alloc | apply Kd.R_drewN | apply Kd.R_drew)); exact Kd.R_mono HO329.out (fun _ hk => ⟨hk.1.2.1, hk.1.2.2⟩)⟩, ⟨by (with_reducible repeat (first | apply Kd.R_alloc | apply Kd.R_drewN | apply Kd.R_drew)); exact Kd.R_mono HO332.out (fun _ hk => ⟨hk.1.2.1, hk.1.2.2⟩)⟩, ⟨by (with_reducible repeat (first | apply Kd.R_alloc | apply Kd.R_drewN | apply Kd.R_drew)); exact Kd.R_mono HO340.out (fun _ hk => ⟨hk.2.1, hk.2.2.1⟩)⟩, ⟨by (with_reducible repeat (first | apply Kd.R_alloc | apply Kd.R_drewN | apply Kd.R_drew)); exact Kd.R_mono HO345.out (fun _ hk => ⟨hk.2.1, hk.2.2.1⟩)⟩, ⟨by (with_reducible repeat (first | apply Kd.R_alloc | apply Kd.R_drewN | apply Kd.R_drew)); exact Kd.R_mono HO348.out (fun _ hk => ⟨hk.2.1, hk.2.2.1⟩)⟩, ⟨bk_ BK292.out⟩, ⟨bk_ BK293.out⟩, ⟨bk_ BK321.out⟩, ⟨bk_ BK333.out⟩, ⟨bk_ BK349.out⟩, ⟨z0_⟩⟩
    case rest =>
     clear HC22
     try clear c2
     try clear p2
     try clear c3
     try clear c4
     try clear c7
     try clear c8
     try clear c9
     try clear c24
     try clear c27
     try clear c39
     try clear c43
     try clear c70
     try clear c71
     try clear c72
     try clear c73
     try clear c75
     try clear c86
     try clear c86b0
     try clear c88
     try clear c89
     try clear c90
     try clear c91
     try clear c93
     try clear c94
     try clear c95
     try clear hcz74_0
     try clear hcz74_1
     try clear hcz74_2
     try clear hcz74_3
     try clear hcz74_4
     try clear hcz76_0
     try clear hcz76_1
     try clear hcz76_2
     try clear hcz76_3
     try clear hcz76_4
     try clear hcz84_0
     try clear hcz84_1
     try clear hcz84_2
     try clear hcz84_3
     try clear hcz84_4
     try clear hcz92_0
     try clear hcz92_1
     try clear hcz92_2
     try clear hcz92_3
     try clear hcz92_4
     try clear hcz96_0
     try clear hcz96_1
     try clear hcz96_2
     try clear hcz96_3
     try clear hcz96_4
     try clear hfz74_0
     try clear hfz74_1
     try clear hfz74_2
     try clear hfz74_3
     try clear hfz74_4
     try clear hfz76_0
     try clear hfz76_1
     try clear hfz76_2
     try clear hfz76_3
     try clear hfz76_4
     try clear hfz84_0
     try clear hfz84_1
     try clear hfz84_2
     try clear hfz84_3
     try clear hfz84_4
     try clear hfz92_0
     try clear hfz92_1
     try clear hfz92_2
     try clear hfz92_3
     try clear hfz92_4
     try clear hfz96_0
     try clear hfz96_1
     try clear hfz96_2
     try clear hfz96_3
     try clear hfz96_4
     obtain ⟨kq, x48_21, rfl, HA, HJ21, HO_322000, HO_322003, HO_322004, HO_334000, HO_334003, HO_334004, HO_350000, HO_350003, HO_350004, BK292, BK293, BK321, BK333, BK349, HB⟩ := hcut
     have hl334000_21 := (Kd.R_reads' HO_334000.out).1
     rw [hl334000_21] at HO_334000
     (try simp only [hl334000_21])
     (try simp only [hl334000_21] at BK292)
     (try simp only [hl334000_21] at BK293)
     (try simp only [hl334000_21] at BK321)
     (try simp only [hl334000_21] at BK333)
     (try simp only [hl334000_21] at BK349)
     (try simp only [hl334000_21] at HO_322000)
     (try simp only [hl334000_21] at HO_322003)
     (try simp only [hl334000_21] at HO_322004)
     (try simp only [hl334000_21] at HO_334003)
     (try simp only [hl334000_21] at HO_334004)
     (try simp only [hl334000_21] at HO_350000)
     (try simp only [hl334000_21] at HO_350003)
     (try simp only [hl334000_21] at HO_350004)
     have hl334003_21 := (Kd.R_reads' HO_334003.out).1
     rw [hl334003_21] at HO_334003
     (try simp only [hl334003_21])
     (try simp only [hl334003_21] at BK292)
     (try simp only [hl334003_21] at BK293)
     (try simp only [hl334003_21] at BK321)
     (try simp only [hl334003_21] at BK333)
     (try simp only [hl334003_21] at BK349)
     (try simp only [hl334003_21] at HO_322000)
     (try simp only [hl334003_21] at HO_322003)
     (try simp only [hl334003_21] at HO_322004)
     (try simp only [hl334003_21] at HO_334000)
     (try simp only [hl334003_21] at HO_334004)
     (try simp only [hl334003_21] at HO_350000)
     (try simp only [hl334003_21] at HO_350003)
     (try simp only [hl334003_21] at HO_350004)
     have hl334004_21 := (Kd.R_reads' HO_334004.out).1
     rw [hl334004_21] at HO_334004
     (try simp only [hl334004_21])
     (try simp only [hl334004_21] at BK292)
     (try simp only [hl334004_21] at BK293)
     (try simp only [hl334004_21] at BK321)
     (try simp only [hl334004_21] at BK333)
     (try simp only [hl334004_21] at BK349)
     (try simp only [hl334004_21] at HO_322000)
     (try simp only [hl334004_21] at HO_322003)
     (try simp only [hl334004_21] at HO_322004)
     (try simp only [hl334004_21] at HO_334000)
     (try simp only [hl334004_21] at HO_334003)
     (try simp only [hl334004_21] at HO_350000)
     (try simp only [hl334004_21] at HO_350003)
     (try simp only [hl334004_21] at HO_350004)
     cases kq with
     | zero => exact absurd HA.out (by simp [laws_FnExactPush.j0])
     | succ kj21 =>
      have H := HA.out
      clear HA
      simp only [laws_FnExactPush.j0] at H
      by_cases c98 : x48_21 = true
      ·
       subst c98
       have H1 : (none) = some r := by rw [if_pos rfl] at H; exact H
       clear H
       have H := H1
       clear H1
       exact absurd H (by simp)
      ·
       exact half_7
   ·
    replace c20 := Bool.eq_false_iff.mpr c20
    subst c20
    have H1 : (none) = some r := by rw [if_neg (show ¬ (false = true) by decide)] at H; exact H
    clear H
    have H := H1
    clear H1
    exact absurd H (by simp)
  ·
   replace c17 := Bool.eq_false_iff.mpr c17
   subst c17
   have H1 : (none) = some r := by rw [if_neg (show ¬ (false = true) by decide)] at H; exact H
   clear H
   have H := H1
   clear H1
   exact absurd H (by simp)

end Go.Proofs.Ytblpbhhomocfbaa.PFnExactPush
