/- Contracts of functions of the program: each says that the call does what a plain Lean function tells. Made by programs of this session and of the kit. No condition beyond the hypotheses that each theorem names. -/
import Derived.Test.YtblpbhhomocfbaaPFnExactSwapx7
namespace Go.Proofs.Ytblpbhhomocfbaa.PFnExactSwap
open Go.RowKit Go.Proofs.YtblpbhhomocfbaaW.PrintWords Go.Proofs.YtblpbhhomocfbaaW.PrintLast Go.Proofs.YtblpbhhomocfbaaW.PrintMore
attribute [local go_sem] max2_int min2_int max_two min_two max_three min_three max_four min_four   -- for this text's walks alone
set_option linter.unusedVariables false
set_option linter.unusedSimpArgs false

/-! ### laws_FnExactSwap: function 10 -/
def laws_FnExactSwap.j0 : Nat → Bool → List (S80) → Int → Bool → List (S169) → List (S65) → Int → Int → Int → Int → List (S88) → Int → Bool → List (S136) → List (S67) → List (S88) → Int → Bool → List (S136) → List (S67) → Option (Bool)
 | 0, _, _, _, _, _, _, _, _, _, _, _, _, _, _, _, _, _, _, _, _ => none
 | k + 1, x48, x280000, x280001, x280002, x280003, x280004, x281000, x281001, x281002, x281003, x309000, x309001, x309002, x309003, x309004, x337000, x337001, x337002, x337003, x337004 => if x48 = true then (none) else ((laws_markThread.f k x337000 x337001 x337002 x337003 x337004 1).bind fun bt355 => ((laws_heldThread.f k bt355.2.1 x337001 x337002 bt355.2.2.1 bt355.2.2.2 1).bind fun t359 => (if t359 < 0 then (none) else (if t359 = bt355.1 then ((laws_toThread.f k x280000 x280001 x280002 x280003 x280004).bind fun bt360 => ((laws_toHelp.f x281000 x281001 x281002 x281003).bind fun bt371 => ((impl_Swap.f bt360.1 bt360.2.1 bt360.2.2.1 bt360.2.2.2.1 bt360.2.2.2.2 bt371.1 bt371.2.1 bt371.2.2.1 bt371.2.2.2).bind fun bt375 => ((laws_eqThread.f k bt375.1 bt375.2.1 bt375.2.2.1 bt375.2.2.2.1 bt375.2.2.2.2 x309000 x309001 x309002 x309003 x309004).bind fun t387 => (if t387 = true then ((laws_heldThread.f k bt355.2.1 x337001 x337002 bt355.2.2.1 bt355.2.2.2 1).bind fun t388 => (if t388 < 0 then (none) else (if t388 = bt355.1 then (some true) else (none)))) else (none)))))) else (none)))))
def laws_FnExactSwap.f (k : Nat) (l0_0 : List (S80)) (a0_1 : Int) (a0_2 : Bool) (l0_3 : List (S169)) (l0_4 : List (S65)) (a1_0 : Int) (a1_1 : Int) (a1_2 : Int) (a1_3 : Int) : Option (Bool) := (laws_szThread.f l0_0 a0_1 a0_2 l0_3 l0_4 1048576).bind fun t281 => (if t281 < 0 then (some true) else ((laws_toThread.f k l0_0 a0_1 a0_2 l0_3 l0_4).bind fun bt282 => ((laws_toHelp.f a1_0 a1_1 a1_2 a1_3).bind fun bt293 => ((spec_Swap.f bt282.1 bt282.2.1 bt282.2.2.1 bt282.2.2.2.1 bt282.2.2.2.2 bt293.1 bt293.2.1 bt293.2.2.1 bt293.2.2.2).bind fun bt297 => ((laws_toThread.f k l0_0 a0_1 a0_2 l0_3 l0_4).bind fun bt309 => ((laws_toHelp.f a1_0 a1_1 a1_2 a1_3).bind fun bt321 => ((impl_Swap.f bt309.1 bt309.2.1 bt309.2.2.1 bt309.2.2.2.1 bt309.2.2.2.2 bt321.1 bt321.2.1 bt321.2.2.1 bt321.2.2.2).bind fun bt325 => ((laws_eqThread.f k bt325.1 bt325.2.1 bt325.2.2.1 bt325.2.2.2.1 bt325.2.2.2.2 bt297.1 bt297.2.1 bt297.2.2.1 bt297.2.2.2.1 bt297.2.2.2.2).bind fun t337 => (if t337 = true then ((laws_toThread.f k l0_0 a0_1 a0_2 l0_3 l0_4).bind fun bt338 => ((laws_eqThread.f k bt309.1 bt309.2.1 bt309.2.2.1 bt309.2.2.2.1 bt309.2.2.2.2 bt338.1 bt338.2.1 bt338.2.2.1 bt338.2.2.2.1 bt338.2.2.2.2).bind fun t349 => (if t349 = true then ((laws_markThread.f k bt309.1 bt309.2.1 bt309.2.2.1 bt309.2.2.2.1 bt309.2.2.2.2 1).bind fun bt350 => (if bt350.1 < 0 then (laws_FnExactSwap.j0 k true l0_0 a0_1 a0_2 l0_3 l0_4 a1_0 a1_1 a1_2 a1_3 bt297.1 bt297.2.1 bt297.2.2.1 bt297.2.2.2.1 bt297.2.2.2.2 bt325.1 bt325.2.1 bt325.2.2.1 bt325.2.2.2.1 bt325.2.2.2.2) else ((laws_eqThread.f k bt325.1 bt325.2.1 bt325.2.2.1 bt325.2.2.2.1 bt325.2.2.2.2 bt297.1 bt297.2.1 bt297.2.2.1 bt297.2.2.2.1 bt297.2.2.2.2).bind fun t354 => (laws_FnExactSwap.j0 k (!t354) l0_0 a0_1 a0_2 l0_3 l0_4 a1_0 a1_1 a1_2 a1_3 bt297.1 bt297.2.1 bt297.2.2.1 bt297.2.2.2.1 bt297.2.2.2.2 bt325.1 bt325.2.1 bt325.2.2.1 bt325.2.2.2.1 bt325.2.2.2.2)))) else (none)))) else (none))))))))))
theorem laws_FnExactSwap.mono_l : ∀ k, (∀ y0 y1 y2 y3 y4 y5 y6 y7 y8 y9 y10 y11 y12 y13 y14 y15 y16 y17 y18 y19, LeO (laws_FnExactSwap.j0 k y0 y1 y2 y3 y4 y5 y6 y7 y8 y9 y10 y11 y12 y13 y14 y15 y16 y17 y18 y19) (laws_FnExactSwap.j0 (k + 1) y0 y1 y2 y3 y4 y5 y6 y7 y8 y9 y10 y11 y12 y13 y14 y15 y16 y17 y18 y19))
 | 0 => fun _ _ _ _ _ _ _ _ _ _ _ _ _ _ _ _ _ _ _ _ r h => by simp [laws_FnExactSwap.j0] at h
 | k + 1 => by
  have ih0 := laws_FnExactSwap.mono_l k
  ·
   intro y0 y1 y2 y3 y4 y5 y6 y7 y8 y9 y10 y11 y12 y13 y14 y15 y16 y17 y18 y19
   unfold laws_FnExactSwap.j0
   repeat' first
   | (with_reducible exact ih0 _ _ _ _ _ _ _ _ _ _ _ _ _ _ _ _ _ _ _ _)
   | (with_reducible exact laws_eqThread.mono _ _ _ _ _ _ _ _ _ _ _)
   | (with_reducible exact laws_heldThread.mono _ _ _ _ _ _ _)
   | (with_reducible exact laws_markThread.mono _ _ _ _ _ _ _)
   | (with_reducible exact laws_toThread.mono _ _ _ _ _ _)
   | (with_reducible exact LeO.refl _)
   | (with_reducible exact LeO.none _)
   | (with_reducible refine LeO.ite ?_ ?_)
   | (with_reducible refine LeO.bind ?_ (fun _ => ?_))
   | exact ih0 _ _ _ _ _ _ _ _ _ _ _ _ _ _ _ _ _ _ _ _
   | exact laws_eqThread.mono _ _ _ _ _ _ _ _ _ _ _
   | exact laws_heldThread.mono _ _ _ _ _ _ _
   | exact laws_markThread.mono _ _ _ _ _ _ _
   | exact laws_toThread.mono _ _ _ _ _ _
   | exact LeO.none _
   | refine LeO.ite ?_ ?_
   | refine LeO.bind ?_ (fun _ => ?_)
theorem laws_FnExactSwap.mono : ∀ a0 a1 a2 a3 a4 a5 a6 a7 a8 k, LeO (laws_FnExactSwap.f k a0 a1 a2 a3 a4 a5 a6 a7 a8) (laws_FnExactSwap.f (k + 1) a0 a1 a2 a3 a4 a5 a6 a7 a8) := by
 intro a0 a1 a2 a3 a4 a5 a6 a7 a8 k
 have ih0 := laws_FnExactSwap.mono_l k
 unfold laws_FnExactSwap.f
 repeat' first
   | (with_reducible exact ih0 _ _ _ _ _ _ _ _ _ _ _ _ _ _ _ _ _ _ _ _)
   | (with_reducible exact laws_eqThread.mono _ _ _ _ _ _ _ _ _ _ _)
   | (with_reducible exact laws_heldThread.mono _ _ _ _ _ _ _)
   | (with_reducible exact laws_markThread.mono _ _ _ _ _ _ _)
   | (with_reducible exact laws_toThread.mono _ _ _ _ _ _)
   | (with_reducible exact LeO.refl _)
   | (with_reducible exact LeO.none _)
   | (with_reducible refine LeO.ite ?_ ?_)
   | (with_reducible refine LeO.bind ?_ (fun _ => ?_))
   | exact ih0 _ _ _ _ _ _ _ _ _ _ _ _ _ _ _ _ _ _ _ _
   | exact laws_eqThread.mono _ _ _ _ _ _ _ _ _ _ _
   | exact laws_heldThread.mono _ _ _ _ _ _ _
   | exact laws_markThread.mono _ _ _ _ _ _ _
   | exact laws_toThread.mono _ _ _ _ _ _
   | exact LeO.none _
   | refine LeO.ite ?_ ?_
   | refine LeO.bind ?_ (fun _ => ?_)
set_option maxHeartbeats 8000000 in
set_option maxRecDepth 100000 in
theorem laws_FnExactSwap.calls (k : Nat) (A0_0 : Option Addr) (c0_0 : Nat) (l0_0 : List (S80)) (a0_1 : Int) (a0_2 : Bool) (A0_3 : Option Addr) (c0_3 : Nat) (l0_3 : List (S169)) (A0_4 : Option Addr) (c0_4 : Nat) (l0_4 : List (S65)) (a1_0 : Int) (a1_1 : Int) (a1_2 : Int) (a1_3 : Int) (r : Bool) (w : World) (hr0_0 : Kd.C k80 w A0_0 l0_0.length l0_0) (hc0_0 : l0_0.length ≤ c0_0) (hr0_3 : Kd.C k169 w A0_3 l0_3.length l0_3) (hc0_3 : l0_3.length ≤ c0_3) (hr0_4 : Kd.C k65 w A0_4 l0_4.length l0_4) (hc0_4 : l0_4.length ≤ c0_4) (h : laws_FnExactSwap.f k l0_0 a0_1 a0_2 l0_3 l0_4 a1_0 a1_1 a1_2 a1_3 = some r) :
    Calls Try.prog 10 #[.agg #[.slice A0_0 l0_0.length c0_0, .int .i64 a0_1, .bool a0_2, .slice A0_3 l0_3.length c0_3, .slice A0_4 l0_4.length c0_4], .agg #[.int .i64 a1_0, .int .i64 a1_1, .int .i64 a1_2, .int .i64 a1_3]] w fun e w' => e = .returned (.bool r) ∧ Below w.heap.size w w' := by
 have hu59 := Try.underlying59
 have hu65 := Try.underlying65
 have hu36 := Try.underlying36
 have HR0_0 := Aside0.mk hr0_0
 have HC0_0 := Aside0.mk hc0_0
 clear hr0_0 hc0_0
 have HR0_3 := Aside0.mk hr0_3
 have HC0_3 := Aside0.mk hc0_3
 clear hr0_3 hc0_3
 have HR0_4 := Aside0.mk hr0_4
 have HC0_4 := Aside0.mk hc0_4
 clear hr0_4 hc0_4
 have HB := Aside0.mk (Below.refl w.heap.size w)
 have H : ((laws_szThread.f l0_0 a0_1 a0_2 l0_3 l0_4 1048576).bind fun t281 => (if t281 < 0 then (some true) else ((laws_toThread.f k l0_0 a0_1 a0_2 l0_3 l0_4).bind fun bt282 => ((laws_toHelp.f a1_0 a1_1 a1_2 a1_3).bind fun bt293 => ((spec_Swap.f bt282.1 bt282.2.1 bt282.2.2.1 bt282.2.2.2.1 bt282.2.2.2.2 bt293.1 bt293.2.1 bt293.2.2.1 bt293.2.2.2).bind fun bt297 => ((laws_toThread.f k l0_0 a0_1 a0_2 l0_3 l0_4).bind fun bt309 => ((laws_toHelp.f a1_0 a1_1 a1_2 a1_3).bind fun bt321 => ((impl_Swap.f bt309.1 bt309.2.1 bt309.2.2.1 bt309.2.2.2.1 bt309.2.2.2.2 bt321.1 bt321.2.1 bt321.2.2.1 bt321.2.2.2).bind fun bt325 => ((laws_eqThread.f k bt325.1 bt325.2.1 bt325.2.2.1 bt325.2.2.2.1 bt325.2.2.2.2 bt297.1 bt297.2.1 bt297.2.2.1 bt297.2.2.2.1 bt297.2.2.2.2).bind fun t337 => (if t337 = true then ((laws_toThread.f k l0_0 a0_1 a0_2 l0_3 l0_4).bind fun bt338 => ((laws_eqThread.f k bt309.1 bt309.2.1 bt309.2.2.1 bt309.2.2.2.1 bt309.2.2.2.2 bt338.1 bt338.2.1 bt338.2.2.1 bt338.2.2.2.1 bt338.2.2.2.2).bind fun t349 => (if t349 = true then ((laws_markThread.f k bt309.1 bt309.2.1 bt309.2.2.1 bt309.2.2.2.1 bt309.2.2.2.2 1).bind fun bt350 => (if bt350.1 < 0 then (laws_FnExactSwap.j0 k true l0_0 a0_1 a0_2 l0_3 l0_4 a1_0 a1_1 a1_2 a1_3 bt297.1 bt297.2.1 bt297.2.2.1 bt297.2.2.2.1 bt297.2.2.2.2 bt325.1 bt325.2.1 bt325.2.2.1 bt325.2.2.2.1 bt325.2.2.2.2) else ((laws_eqThread.f k bt325.1 bt325.2.1 bt325.2.2.1 bt325.2.2.2.1 bt325.2.2.2.2 bt297.1 bt297.2.1 bt297.2.2.1 bt297.2.2.2.1 bt297.2.2.2.2).bind fun t354 => (laws_FnExactSwap.j0 k (!t354) l0_0 a0_1 a0_2 l0_3 l0_4 a1_0 a1_1 a1_2 a1_3 bt297.1 bt297.2.1 bt297.2.2.1 bt297.2.2.2.1 bt297.2.2.2.2 bt325.1 bt325.2.1 bt325.2.2.1 bt325.2.2.2.1 bt325.2.2.2.2)))) else (none)))) else (none))))))))))) = some r := h
 clear h
 replace H := Option.bind_eq_some_iff.mp H
 obtain ⟨t281, A30, H⟩ := H
 replace H : (if t281 < 0 then (some true) else ((laws_toThread.f k l0_0 a0_1 a0_2 l0_3 l0_4).bind fun bt282 => ((laws_toHelp.f a1_0 a1_1 a1_2 a1_3).bind fun bt293 => ((spec_Swap.f bt282.1 bt282.2.1 bt282.2.2.1 bt282.2.2.2.1 bt282.2.2.2.2 bt293.1 bt293.2.1 bt293.2.2.1 bt293.2.2.2).bind fun bt297 => ((laws_toThread.f k l0_0 a0_1 a0_2 l0_3 l0_4).bind fun bt309 => ((laws_toHelp.f a1_0 a1_1 a1_2 a1_3).bind fun bt321 => ((impl_Swap.f bt309.1 bt309.2.1 bt309.2.2.1 bt309.2.2.2.1 bt309.2.2.2.2 bt321.1 bt321.2.1 bt321.2.2.1 bt321.2.2.2).bind fun bt325 => ((laws_eqThread.f k bt325.1 bt325.2.1 bt325.2.2.1 bt325.2.2.2.1 bt325.2.2.2.2 bt297.1 bt297.2.1 bt297.2.2.1 bt297.2.2.2.1 bt297.2.2.2.2).bind fun t337 => (if t337 = true then ((laws_toThread.f k l0_0 a0_1 a0_2 l0_3 l0_4).bind fun bt338 => ((laws_eqThread.f k bt309.1 bt309.2.1 bt309.2.2.1 bt309.2.2.2.1 bt309.2.2.2.2 bt338.1 bt338.2.1 bt338.2.2.1 bt338.2.2.2.1 bt338.2.2.2.2).bind fun t349 => (if t349 = true then ((laws_markThread.f k bt309.1 bt309.2.1 bt309.2.2.1 bt309.2.2.2.1 bt309.2.2.2.2 1).bind fun bt350 => (if bt350.1 < 0 then (laws_FnExactSwap.j0 k true l0_0 a0_1 a0_2 l0_3 l0_4 a1_0 a1_1 a1_2 a1_3 bt297.1 bt297.2.1 bt297.2.2.1 bt297.2.2.2.1 bt297.2.2.2.2 bt325.1 bt325.2.1 bt325.2.2.1 bt325.2.2.2.1 bt325.2.2.2.2) else ((laws_eqThread.f k bt325.1 bt325.2.1 bt325.2.2.1 bt325.2.2.2.1 bt325.2.2.2.2 bt297.1 bt297.2.1 bt297.2.2.1 bt297.2.2.2.1 bt297.2.2.2.2).bind fun t354 => (laws_FnExactSwap.j0 k (!t354) l0_0 a0_1 a0_2 l0_3 l0_4 a1_0 a1_1 a1_2 a1_3 bt297.1 bt297.2.1 bt297.2.2.1 bt297.2.2.2.1 bt297.2.2.2.2 bt325.1 bt325.2.1 bt325.2.2.1 bt325.2.2.2.1 bt325.2.2.2.2)))) else (none)))) else (none)))))))))) = some r := H
 have A3 := Aside0.mk A30
 clear A30
 by_cases c4 : t281 < 0
 ·
  rw [if_pos c4] at H
  have c4b0 : decide (t281 < 0) = true := decide_eq_true c4
  clear c4
  obtain rfl := Option.some.inj H
  go_enter Try.func10, Try.ntmps10
  go_wp2_with (first | ((with_reducible refine gate_dst (N := 2) rfl ?_); refine box_event ?hg (N := 2) ?hd (cs := #[.slice A0_0 l0_0.length c0_0, .int .i64 a0_1, .bool a0_2, .slice A0_3 l0_3.length c0_3, .slice A0_4 l0_4.length c0_4]) (t := 59) ?hr ?_; (case hd => rfl); (case hg => rfl); (case hr => first | (go_simp; done) | (go_simp; rfl)); intro gb279 hg w5 hbox hb; have n0_ := Aside0.mk (below_step z13_ hb); have n1_ := Aside0.mk (hbox); have n2_ := Aside0.mk ((by rw [hg]; exact (below_size z13_) : w.heap.size ≤ gb279)); have n3_ := Aside0.mk ((by rw [hg]; exact (below_size z13_) : w.heap.size ≤ gb279)); clear HB; have HB := n0_; have BK279 := n1_; have GW279 := n2_; have GE279 := n3_; clear n0_ n1_ n2_ n3_; clear hb hbox hg) | ((with_reducible refine gate_dst (N := 3) rfl ?_); refine box_event ?hg (N := 3) ?hd (cs := #[.int .i64 a1_0, .int .i64 a1_1, .int .i64 a1_2, .int .i64 a1_3]) (t := 65) ?hr ?_; (case hd => rfl); (case hg => rfl); (case hr => first | (go_simp; done) | (go_simp; rfl)); intro gb280 hg w6 hbox hb; have n0_ := Aside0.mk (blk_below (g := gb279) (o := .cells #[.slice A0_0 l0_0.length c0_0, .int .i64 a0_1, .bool a0_2, .slice A0_3 l0_3.length c0_3, .slice A0_4 l0_4.length c0_4] 59 (0, 0)) (bk_ BK279.out) hb); have n1_ := Aside0.mk (below_step z12_ hb); have n2_ := Aside0.mk (hbox); have n3_ := Aside0.mk ((by rw [hg]; exact (below_size z12_) : w.heap.size ≤ gb280)); have n4_ := Aside0.mk ((by rw [hg]; exact (below_size z12_) : w.heap.size ≤ gb280)); have n5_ := Aside0.mk ((z6_ : gb279 ≠ gb280)); have n6_ := Aside0.mk ((z7_ : gb280 ≠ gb279)); clear BK279 HB; have BK279 := n0_; have HB := n1_; have BK280 := n2_; have GW280 := n3_; have GE280 := n4_; have NB279_280 := n5_; have NB280_279 := n6_; clear n0_ n1_ n2_ n3_ n4_ n5_ n6_ hb hbox hg; have hnb7 := NB279_280.out; have hnc7 := NB280_279.out; have hcz8_0 : w6.cell? ⟨gb279, 0, none⟩ = some (.slice A0_0 l0_0.length c0_0) := (blk_cell BK279.out 0).trans rfl; have hcz8_1 : w6.cell? ⟨gb279, 1, none⟩ = some (.int .i64 a0_1) := (blk_cell BK279.out 1).trans rfl; have hcz8_2 : w6.cell? ⟨gb279, 2, none⟩ = some (.bool a0_2) := (blk_cell BK279.out 2).trans rfl; have hcz8_3 : w6.cell? ⟨gb279, 3, none⟩ = some (.slice A0_3 l0_3.length c0_3) := (blk_cell BK279.out 3).trans rfl; have hcz8_4 : w6.cell? ⟨gb279, 4, none⟩ = some (.slice A0_4 l0_4.length c0_4) := (blk_cell BK279.out 4).trans rfl; have hfz8_0 := blk_frozen BK279.out 0; have hfz8_1 := blk_frozen BK279.out 1; have hfz8_2 := blk_frozen BK279.out 2; have hfz8_3 := blk_frozen BK279.out 3; have hfz8_4 := blk_frozen BK279.out 4) | ((with_reducible refine gate_callee (f := 37) rfl ?_); refine goesL_ (some 15) rfl rfl Try.func37 (by kernel_rfl) rfl #[.agg #[.slice A0_0 l0_0.length c0_0, .int .i64 a0_1, .bool a0_2, .slice A0_3 l0_3.length c0_3, .slice A0_4 l0_4.length c0_4], .int .i64 1048576] rfl z4_ ?_; (with_reducible refine (laws_szThread.calls _ _ l0_0 a0_1 a0_2 _ _ l0_3 _ _ l0_4 1048576 t281 _ ?side1 ?side2 ?side3 ?side4 ?side5 ?side6 A3.out).mono ?_); (case side1 => exact cb_ (Kd.C_below HR0_0.out HB.out)); (case side2 => exact HC0_0.out); (case side3 => exact cb_ (Kd.C_below HR0_3.out HB.out)); (case side4 => exact HC0_3.out); (case side5 => exact cb_ (Kd.C_below HR0_4.out HB.out)); (case side6 => exact HC0_4.out); rintro e w9 ⟨rfl, hb⟩; refine ⟨_, rfl, ?_⟩; have n0_ := Aside0.mk (blk_below (g := gb279) (o := .cells #[.slice A0_0 l0_0.length c0_0, .int .i64 a0_1, .bool a0_2, .slice A0_3 l0_3.length c0_3, .slice A0_4 l0_4.length c0_4] 59 (0, 0)) (bk_ BK279.out) hb); have n1_ := Aside0.mk (blk_below (g := gb280) (o := .cells #[.int .i64 a1_0, .int .i64 a1_1, .int .i64 a1_2, .int .i64 a1_3] 65 (0, 0)) (bk_ BK280.out) hb); have n2_ := Aside0.mk (below_step z3_ hb); clear BK279 BK280 HB; have BK279 := n0_; have BK280 := n1_; have HB := n2_; clear n0_ n1_ n2_; (try clear hb); (try clear hb2); (try clear hk); (try clear hi)))
  go_ret
  exact ⟨by first | rfl | (simp [errW_none, errW_some] <;> rfl) | (simp [*, errW_none, errW_some] <;> rfl), z3_⟩
 ·
  rw [if_neg c4] at H
  have c4b0 : decide (t281 < 0) = false := decide_eq_false c4
  clear c4
  replace H := Option.bind_eq_some_iff.mp H
  obtain ⟨⟨t282, t285, t286, t287, t290⟩, A100, H⟩ := H
  replace H : ((laws_toHelp.f a1_0 a1_1 a1_2 a1_3).bind fun bt293 => ((spec_Swap.f t282 t285 t286 t287 t290 bt293.1 bt293.2.1 bt293.2.2.1 bt293.2.2.2).bind fun bt297 => ((laws_toThread.f k l0_0 a0_1 a0_2 l0_3 l0_4).bind fun bt309 => ((laws_toHelp.f a1_0 a1_1 a1_2 a1_3).bind fun bt321 => ((impl_Swap.f bt309.1 bt309.2.1 bt309.2.2.1 bt309.2.2.2.1 bt309.2.2.2.2 bt321.1 bt321.2.1 bt321.2.2.1 bt321.2.2.2).bind fun bt325 => ((laws_eqThread.f k bt325.1 bt325.2.1 bt325.2.2.1 bt325.2.2.2.1 bt325.2.2.2.2 bt297.1 bt297.2.1 bt297.2.2.1 bt297.2.2.2.1 bt297.2.2.2.2).bind fun t337 => (if t337 = true then ((laws_toThread.f k l0_0 a0_1 a0_2 l0_3 l0_4).bind fun bt338 => ((laws_eqThread.f k bt309.1 bt309.2.1 bt309.2.2.1 bt309.2.2.2.1 bt309.2.2.2.2 bt338.1 bt338.2.1 bt338.2.2.1 bt338.2.2.2.1 bt338.2.2.2.2).bind fun t349 => (if t349 = true then ((laws_markThread.f k bt309.1 bt309.2.1 bt309.2.2.1 bt309.2.2.2.1 bt309.2.2.2.2 1).bind fun bt350 => (if bt350.1 < 0 then (laws_FnExactSwap.j0 k true l0_0 a0_1 a0_2 l0_3 l0_4 a1_0 a1_1 a1_2 a1_3 bt297.1 bt297.2.1 bt297.2.2.1 bt297.2.2.2.1 bt297.2.2.2.2 bt325.1 bt325.2.1 bt325.2.2.1 bt325.2.2.2.1 bt325.2.2.2.2) else ((laws_eqThread.f k bt325.1 bt325.2.1 bt325.2.2.1 bt325.2.2.2.1 bt325.2.2.2.2 bt297.1 bt297.2.1 bt297.2.2.1 bt297.2.2.2.1 bt297.2.2.2.2).bind fun t354 => (laws_FnExactSwap.j0 k (!t354) l0_0 a0_1 a0_2 l0_3 l0_4 a1_0 a1_1 a1_2 a1_3 bt297.1 bt297.2.1 bt297.2.2.1 bt297.2.2.2.1 bt297.2.2.2.2 bt325.1 bt325.2.1 bt325.2.2.1 bt325.2.2.2.1 bt325.2.2.2.2)))) else (none)))) else (none)))))))) = some r := H
  have A10 := Aside0.mk A100
  clear A100
  replace H := Option.bind_eq_some_iff.mp H
  obtain ⟨⟨t293, t294, t295, t296⟩, A110, H⟩ := H
  replace H : ((spec_Swap.f t282 t285 t286 t287 t290 t293 t294 t295 t296).bind fun bt297 => ((laws_toThread.f k l0_0 a0_1 a0_2 l0_3 l0_4).bind fun bt309 => ((laws_toHelp.f a1_0 a1_1 a1_2 a1_3).bind fun bt321 => ((impl_Swap.f bt309.1 bt309.2.1 bt309.2.2.1 bt309.2.2.2.1 bt309.2.2.2.2 bt321.1 bt321.2.1 bt321.2.2.1 bt321.2.2.2).bind fun bt325 => ((laws_eqThread.f k bt325.1 bt325.2.1 bt325.2.2.1 bt325.2.2.2.1 bt325.2.2.2.2 bt297.1 bt297.2.1 bt297.2.2.1 bt297.2.2.2.1 bt297.2.2.2.2).bind fun t337 => (if t337 = true then ((laws_toThread.f k l0_0 a0_1 a0_2 l0_3 l0_4).bind fun bt338 => ((laws_eqThread.f k bt309.1 bt309.2.1 bt309.2.2.1 bt309.2.2.2.1 bt309.2.2.2.2 bt338.1 bt338.2.1 bt338.2.2.1 bt338.2.2.2.1 bt338.2.2.2.2).bind fun t349 => (if t349 = true then ((laws_markThread.f k bt309.1 bt309.2.1 bt309.2.2.1 bt309.2.2.2.1 bt309.2.2.2.2 1).bind fun bt350 => (if bt350.1 < 0 then (laws_FnExactSwap.j0 k true l0_0 a0_1 a0_2 l0_3 l0_4 a1_0 a1_1 a1_2 a1_3 bt297.1 bt297.2.1 bt297.2.2.1 bt297.2.2.2.1 bt297.2.2.2.2 bt325.1 bt325.2.1 bt325.2.2.1 bt325.2.2.2.1 bt325.2.2.2.2) else ((laws_eqThread.f k bt325.1 bt325.2.1 bt325.2.2.1 bt325.2.2.2.1 bt325.2.2.2.2 bt297.1 bt297.2.1 bt297.2.2.1 bt297.2.2.2.1 bt297.2.2.2.2).bind fun t354 => (laws_FnExactSwap.j0 k (!t354) l0_0 a0_1 a0_2 l0_3 l0_4 a1_0 a1_1 a1_2 a1_3 bt297.1 bt297.2.1 bt297.2.2.1 bt297.2.2.2.1 bt297.2.2.2.2 bt325.1 bt325.2.1 bt325.2.2.1 bt325.2.2.2.1 bt325.2.2.2.2)))) else (none)))) else (none))))))) = some r := H
  have A11 := Aside0.mk A110
  clear A110
  replace H := Option.bind_eq_some_iff.mp H
  obtain ⟨⟨t297, t300, t301, t302, t305⟩, A120, H⟩ := H
  replace H : ((laws_toThread.f k l0_0 a0_1 a0_2 l0_3 l0_4).bind fun bt309 => ((laws_toHelp.f a1_0 a1_1 a1_2 a1_3).bind fun bt321 => ((impl_Swap.f bt309.1 bt309.2.1 bt309.2.2.1 bt309.2.2.2.1 bt309.2.2.2.2 bt321.1 bt321.2.1 bt321.2.2.1 bt321.2.2.2).bind fun bt325 => ((laws_eqThread.f k bt325.1 bt325.2.1 bt325.2.2.1 bt325.2.2.2.1 bt325.2.2.2.2 t297 t300 t301 t302 t305).bind fun t337 => (if t337 = true then ((laws_toThread.f k l0_0 a0_1 a0_2 l0_3 l0_4).bind fun bt338 => ((laws_eqThread.f k bt309.1 bt309.2.1 bt309.2.2.1 bt309.2.2.2.1 bt309.2.2.2.2 bt338.1 bt338.2.1 bt338.2.2.1 bt338.2.2.2.1 bt338.2.2.2.2).bind fun t349 => (if t349 = true then ((laws_markThread.f k bt309.1 bt309.2.1 bt309.2.2.1 bt309.2.2.2.1 bt309.2.2.2.2 1).bind fun bt350 => (if bt350.1 < 0 then (laws_FnExactSwap.j0 k true l0_0 a0_1 a0_2 l0_3 l0_4 a1_0 a1_1 a1_2 a1_3 t297 t300 t301 t302 t305 bt325.1 bt325.2.1 bt325.2.2.1 bt325.2.2.2.1 bt325.2.2.2.2) else ((laws_eqThread.f k bt325.1 bt325.2.1 bt325.2.2.1 bt325.2.2.2.1 bt325.2.2.2.2 t297 t300 t301 t302 t305).bind fun t354 => (laws_FnExactSwap.j0 k (!t354) l0_0 a0_1 a0_2 l0_3 l0_4 a1_0 a1_1 a1_2 a1_3 t297 t300 t301 t302 t305 bt325.1 bt325.2.1 bt325.2.2.1 bt325.2.2.2.1 bt325.2.2.2.2)))) else (none)))) else (none)))))) = some r := H
  have A12 := Aside0.mk A120
  clear A120
  replace H := Option.bind_eq_some_iff.mp H
  obtain ⟨⟨t309, t312, t313, t314, t317⟩, A130, H⟩ := H
  replace H : ((laws_toHelp.f a1_0 a1_1 a1_2 a1_3).bind fun bt321 => ((impl_Swap.f t309 t312 t313 t314 t317 bt321.1 bt321.2.1 bt321.2.2.1 bt321.2.2.2).bind fun bt325 => ((laws_eqThread.f k bt325.1 bt325.2.1 bt325.2.2.1 bt325.2.2.2.1 bt325.2.2.2.2 t297 t300 t301 t302 t305).bind fun t337 => (if t337 = true then ((laws_toThread.f k l0_0 a0_1 a0_2 l0_3 l0_4).bind fun bt338 => ((laws_eqThread.f k t309 t312 t313 t314 t317 bt338.1 bt338.2.1 bt338.2.2.1 bt338.2.2.2.1 bt338.2.2.2.2).bind fun t349 => (if t349 = true then ((laws_markThread.f k t309 t312 t313 t314 t317 1).bind fun bt350 => (if bt350.1 < 0 then (laws_FnExactSwap.j0 k true l0_0 a0_1 a0_2 l0_3 l0_4 a1_0 a1_1 a1_2 a1_3 t297 t300 t301 t302 t305 bt325.1 bt325.2.1 bt325.2.2.1 bt325.2.2.2.1 bt325.2.2.2.2) else ((laws_eqThread.f k bt325.1 bt325.2.1 bt325.2.2.1 bt325.2.2.2.1 bt325.2.2.2.2 t297 t300 t301 t302 t305).bind fun t354 => (laws_FnExactSwap.j0 k (!t354) l0_0 a0_1 a0_2 l0_3 l0_4 a1_0 a1_1 a1_2 a1_3 t297 t300 t301 t302 t305 bt325.1 bt325.2.1 bt325.2.2.1 bt325.2.2.2.1 bt325.2.2.2.2)))) else (none)))) else (none))))) = some r := H
  have A13 := Aside0.mk A130
  clear A130
  replace H := Option.bind_eq_some_iff.mp H
  obtain ⟨⟨t321, t322, t323, t324⟩, A140, H⟩ := H
  replace H : ((impl_Swap.f t309 t312 t313 t314 t317 t321 t322 t323 t324).bind fun bt325 => ((laws_eqThread.f k bt325.1 bt325.2.1 bt325.2.2.1 bt325.2.2.2.1 bt325.2.2.2.2 t297 t300 t301 t302 t305).bind fun t337 => (if t337 = true then ((laws_toThread.f k l0_0 a0_1 a0_2 l0_3 l0_4).bind fun bt338 => ((laws_eqThread.f k t309 t312 t313 t314 t317 bt338.1 bt338.2.1 bt338.2.2.1 bt338.2.2.2.1 bt338.2.2.2.2).bind fun t349 => (if t349 = true then ((laws_markThread.f k t309 t312 t313 t314 t317 1).bind fun bt350 => (if bt350.1 < 0 then (laws_FnExactSwap.j0 k true l0_0 a0_1 a0_2 l0_3 l0_4 a1_0 a1_1 a1_2 a1_3 t297 t300 t301 t302 t305 bt325.1 bt325.2.1 bt325.2.2.1 bt325.2.2.2.1 bt325.2.2.2.2) else ((laws_eqThread.f k bt325.1 bt325.2.1 bt325.2.2.1 bt325.2.2.2.1 bt325.2.2.2.2 t297 t300 t301 t302 t305).bind fun t354 => (laws_FnExactSwap.j0 k (!t354) l0_0 a0_1 a0_2 l0_3 l0_4 a1_0 a1_1 a1_2 a1_3 t297 t300 t301 t302 t305 bt325.1 bt325.2.1 bt325.2.2.1 bt325.2.2.2.1 bt325.2.2.2.2)))) else (none)))) else (none)))) = some r := H
  have A14 := Aside0.mk A140
  clear A140
  replace H := Option.bind_eq_some_iff.mp H
  obtain ⟨⟨t325, t328, t329, t330, t333⟩, A150, H⟩ := H
  replace H : ((laws_eqThread.f k t325 t328 t329 t330 t333 t297 t300 t301 t302 t305).bind fun t337 => (if t337 = true then ((laws_toThread.f k l0_0 a0_1 a0_2 l0_3 l0_4).bind fun bt338 => ((laws_eqThread.f k t309 t312 t313 t314 t317 bt338.1 bt338.2.1 bt338.2.2.1 bt338.2.2.2.1 bt338.2.2.2.2).bind fun t349 => (if t349 = true then ((laws_markThread.f k t309 t312 t313 t314 t317 1).bind fun bt350 => (if bt350.1 < 0 then (laws_FnExactSwap.j0 k true l0_0 a0_1 a0_2 l0_3 l0_4 a1_0 a1_1 a1_2 a1_3 t297 t300 t301 t302 t305 t325 t328 t329 t330 t333) else ((laws_eqThread.f k t325 t328 t329 t330 t333 t297 t300 t301 t302 t305).bind fun t354 => (laws_FnExactSwap.j0 k (!t354) l0_0 a0_1 a0_2 l0_3 l0_4 a1_0 a1_1 a1_2 a1_3 t297 t300 t301 t302 t305 t325 t328 t329 t330 t333)))) else (none)))) else (none))) = some r := H
  have A15 := Aside0.mk A150
  clear A150
  replace H := Option.bind_eq_some_iff.mp H
  obtain ⟨t337, A160, H⟩ := H
  replace H : (if t337 = true then ((laws_toThread.f k l0_0 a0_1 a0_2 l0_3 l0_4).bind fun bt338 => ((laws_eqThread.f k t309 t312 t313 t314 t317 bt338.1 bt338.2.1 bt338.2.2.1 bt338.2.2.2.1 bt338.2.2.2.2).bind fun t349 => (if t349 = true then ((laws_markThread.f k t309 t312 t313 t314 t317 1).bind fun bt350 => (if bt350.1 < 0 then (laws_FnExactSwap.j0 k true l0_0 a0_1 a0_2 l0_3 l0_4 a1_0 a1_1 a1_2 a1_3 t297 t300 t301 t302 t305 t325 t328 t329 t330 t333) else ((laws_eqThread.f k t325 t328 t329 t330 t333 t297 t300 t301 t302 t305).bind fun t354 => (laws_FnExactSwap.j0 k (!t354) l0_0 a0_1 a0_2 l0_3 l0_4 a1_0 a1_1 a1_2 a1_3 t297 t300 t301 t302 t305 t325 t328 t329 t330 t333)))) else (none)))) else (none)) = some r := H
  have A16 := Aside0.mk A160
  clear A160
  by_cases c17 : t337 = true
  ·
   subst c17
   have H1 : ((laws_toThread.f k l0_0 a0_1 a0_2 l0_3 l0_4).bind fun bt338 => ((laws_eqThread.f k t309 t312 t313 t314 t317 bt338.1 bt338.2.1 bt338.2.2.1 bt338.2.2.2.1 bt338.2.2.2.2).bind fun t349 => (if t349 = true then ((laws_markThread.f k t309 t312 t313 t314 t317 1).bind fun bt350 => (if bt350.1 < 0 then (laws_FnExactSwap.j0 k true l0_0 a0_1 a0_2 l0_3 l0_4 a1_0 a1_1 a1_2 a1_3 t297 t300 t301 t302 t305 t325 t328 t329 t330 t333) else ((laws_eqThread.f k t325 t328 t329 t330 t333 t297 t300 t301 t302 t305).bind fun t354 => (laws_FnExactSwap.j0 k (!t354) l0_0 a0_1 a0_2 l0_3 l0_4 a1_0 a1_1 a1_2 a1_3 t297 t300 t301 t302 t305 t325 t328 t329 t330 t333)))) else (none)))) = some r := by rw [if_pos rfl] at H; exact H
   clear H
   have H := H1
   clear H1
   replace H := Option.bind_eq_some_iff.mp H
   obtain ⟨⟨t338, t341, t342, t343, t346⟩, A180, H⟩ := H
   replace H : ((laws_eqThread.f k t309 t312 t313 t314 t317 t338 t341 t342 t343 t346).bind fun t349 => (if t349 = true then ((laws_markThread.f k t309 t312 t313 t314 t317 1).bind fun bt350 => (if bt350.1 < 0 then (laws_FnExactSwap.j0 k true l0_0 a0_1 a0_2 l0_3 l0_4 a1_0 a1_1 a1_2 a1_3 t297 t300 t301 t302 t305 t325 t328 t329 t330 t333) else ((laws_eqThread.f k t325 t328 t329 t330 t333 t297 t300 t301 t302 t305).bind fun t354 => (laws_FnExactSwap.j0 k (!t354) l0_0 a0_1 a0_2 l0_3 l0_4 a1_0 a1_1 a1_2 a1_3 t297 t300 t301 t302 t305 t325 t328 t329 t330 t333)))) else (none))) = some r := H
   have A18 := Aside0.mk A180
   clear A180
   replace H := Option.bind_eq_some_iff.mp H
   obtain ⟨t349, A190, H⟩ := H
   replace H : (if t349 = true then ((laws_markThread.f k t309 t312 t313 t314 t317 1).bind fun bt350 => (if bt350.1 < 0 then (laws_FnExactSwap.j0 k true l0_0 a0_1 a0_2 l0_3 l0_4 a1_0 a1_1 a1_2 a1_3 t297 t300 t301 t302 t305 t325 t328 t329 t330 t333) else ((laws_eqThread.f k t325 t328 t329 t330 t333 t297 t300 t301 t302 t305).bind fun t354 => (laws_FnExactSwap.j0 k (!t354) l0_0 a0_1 a0_2 l0_3 l0_4 a1_0 a1_1 a1_2 a1_3 t297 t300 t301 t302 t305 t325 t328 t329 t330 t333)))) else (none)) = some r := H
   have A19 := Aside0.mk A190
   clear A190
   by_cases c20 : t349 = true
   ·
    subst c20
    have H1 : ((laws_markThread.f k t309 t312 t313 t314 t317 1).bind fun bt350 => (if bt350.1 < 0 then (laws_FnExactSwap.j0 k true l0_0 a0_1 a0_2 l0_3 l0_4 a1_0 a1_1 a1_2 a1_3 t297 t300 t301 t302 t305 t325 t328 t329 t330 t333) else ((laws_eqThread.f k t325 t328 t329 t330 t333 t297 t300 t301 t302 t305).bind fun t354 => (laws_FnExactSwap.j0 k (!t354) l0_0 a0_1 a0_2 l0_3 l0_4 a1_0 a1_1 a1_2 a1_3 t297 t300 t301 t302 t305 t325 t328 t329 t330 t333)))) = some r := by rw [if_pos rfl] at H; exact H
    clear H
    have H := H1
    clear H1
    replace H := Option.bind_eq_some_iff.mp H
    obtain ⟨⟨t350, t351, t352, t353⟩, A210, H⟩ := H
    replace H : (if t350 < 0 then (laws_FnExactSwap.j0 k true l0_0 a0_1 a0_2 l0_3 l0_4 a1_0 a1_1 a1_2 a1_3 t297 t300 t301 t302 t305 t325 t328 t329 t330 t333) else ((laws_eqThread.f k t325 t328 t329 t330 t333 t297 t300 t301 t302 t305).bind fun t354 => (laws_FnExactSwap.j0 k (!t354) l0_0 a0_1 a0_2 l0_3 l0_4 a1_0 a1_1 a1_2 a1_3 t297 t300 t301 t302 t305 t325 t328 t329 t330 t333))) = some r := H
    have A21 := Aside0.mk A210
    clear A210
    have HC22 := Aside0.mk H
    clear H
    go_enter Try.func10, Try.ntmps10
    try go_wp2_with (first | ((with_reducible refine gate_dst (N := 2) rfl ?_); refine box_event ?hg (N := 2) ?hd (cs := #[.slice A0_0 l0_0.length c0_0, .int .i64 a0_1, .bool a0_2, .slice A0_3 l0_3.length c0_3, .slice A0_4 l0_4.length c0_4]) (t := 59) ?hr ?_; (case hd => rfl); (case hg => rfl); (case hr => first | (go_simp; done) | (go_simp; rfl)); intro gb279 hg w23 hbox hb; have n0_ := Aside0.mk (below_step z13_ hb); have n1_ := Aside0.mk (hbox); have n2_ := Aside0.mk ((by rw [hg]; exact (below_size z13_) : w.heap.size ≤ gb279)); have n3_ := Aside0.mk ((by rw [hg]; exact (below_size z13_) : w.heap.size ≤ gb279)); clear HB; have HB := n0_; have BK279 := n1_; have GW279 := n2_; have GE279 := n3_; clear n0_ n1_ n2_ n3_; clear hb hbox hg) | ((with_reducible refine gate_dst (N := 3) rfl ?_); refine box_event ?hg (N := 3) ?hd (cs := #[.int .i64 a1_0, .int .i64 a1_1, .int .i64 a1_2, .int .i64 a1_3]) (t := 65) ?hr ?_; (case hd => rfl); (case hg => rfl); (case hr => first | (go_simp; done) | (go_simp; rfl)); intro gb280 hg w24 hbox hb; have n0_ := Aside0.mk (blk_below (g := gb279) (o := .cells #[.slice A0_0 l0_0.length c0_0, .int .i64 a0_1, .bool a0_2, .slice A0_3 l0_3.length c0_3, .slice A0_4 l0_4.length c0_4] 59 (0, 0)) (bk_ BK279.out) hb); have n1_ := Aside0.mk (below_step z12_ hb); have n2_ := Aside0.mk (hbox); have n3_ := Aside0.mk ((by rw [hg]; exact (below_size z12_) : w.heap.size ≤ gb280)); have n4_ := Aside0.mk ((by rw [hg]; exact (below_size z12_) : w.heap.size ≤ gb280)); have n5_ := Aside0.mk ((z6_ : gb279 ≠ gb280)); have n6_ := Aside0.mk ((z7_ : gb280 ≠ gb279)); clear BK279 HB; have BK279 := n0_; have HB := n1_; have BK280 := n2_; have GW280 := n3_; have GE280 := n4_; have NB279_280 := n5_; have NB280_279 := n6_; clear n0_ n1_ n2_ n3_ n4_ n5_ n6_ hb hbox hg; have hnb25 := NB279_280.out; have hnc25 := NB280_279.out; have hcz26_0 : w24.cell? ⟨gb279, 0, none⟩ = some (.slice A0_0 l0_0.length c0_0) := (blk_cell BK279.out 0).trans rfl; have hcz26_1 : w24.cell? ⟨gb279, 1, none⟩ = some (.int .i64 a0_1) := (blk_cell BK279.out 1).trans rfl; have hcz26_2 : w24.cell? ⟨gb279, 2, none⟩ = some (.bool a0_2) := (blk_cell BK279.out 2).trans rfl; have hcz26_3 : w24.cell? ⟨gb279, 3, none⟩ = some (.slice A0_3 l0_3.length c0_3) := (blk_cell BK279.out 3).trans rfl; have hcz26_4 : w24.cell? ⟨gb279, 4, none⟩ = some (.slice A0_4 l0_4.length c0_4) := (blk_cell BK279.out 4).trans rfl; have hfz26_0 := blk_frozen BK279.out 0; have hfz26_1 := blk_frozen BK279.out 1; have hfz26_2 := blk_frozen BK279.out 2; have hfz26_3 := blk_frozen BK279.out 3; have hfz26_4 := blk_frozen BK279.out 4) | ((with_reducible refine gate_callee (f := 37) rfl ?_); refine goesL_ (some 15) rfl rfl Try.func37 (by kernel_rfl) rfl #[.agg #[.slice A0_0 l0_0.length c0_0, .int .i64 a0_1, .bool a0_2, .slice A0_3 l0_3.length c0_3, .slice A0_4 l0_4.length c0_4], .int .i64 1048576] rfl z4_ ?_; (with_reducible refine (laws_szThread.calls _ _ l0_0 a0_1 a0_2 _ _ l0_3 _ _ l0_4 1048576 t281 _ ?side1 ?side2 ?side3 ?side4 ?side5 ?side6 A3.out).mono ?_); (case side1 => exact cb_ (Kd.C_below HR0_0.out HB.out)); (case side2 => exact HC0_0.out); (case side3 => exact cb_ (Kd.C_below HR0_3.out HB.out)); (case side4 => exact HC0_3.out); (case side5 => exact cb_ (Kd.C_below HR0_4.out HB.out)); (case side6 => exact HC0_4.out); rintro e w27 ⟨rfl, hb⟩; refine ⟨_, rfl, ?_⟩; have n0_ := Aside0.mk (blk_below (g := gb279) (o := .cells #[.slice A0_0 l0_0.length c0_0, .int .i64 a0_1, .bool a0_2, .slice A0_3 l0_3.length c0_3, .slice A0_4 l0_4.length c0_4] 59 (0, 0)) (bk_ BK279.out) hb); have n1_ := Aside0.mk (blk_below (g := gb280) (o := .cells #[.int .i64 a1_0, .int .i64 a1_1, .int .i64 a1_2, .int .i64 a1_3] 65 (0, 0)) (bk_ BK280.out) hb); have n2_ := Aside0.mk (below_step z3_ hb); clear BK279 BK280 HB; have BK279 := n0_; have BK280 := n1_; have HB := n2_; clear n0_ n1_ n2_; (try clear hb); (try clear hb2); (try clear hk); (try clear hi)))
    have n0_ := Aside0.mk (blk_drew BK279.out)
    have n1_ := Aside0.mk (blk_drew BK280.out)
    have n2_ := Aside0.mk (below_drew1 HB.out)
    clear BK279 BK280 HB
    have BK279 := n0_
    have BK280 := n1_
    have HB := n2_
    clear n0_ n1_ n2_
    refine start_ (n := 7) (S := fun w' => w'.cell? ⟨gb279, 0, none⟩ = some (.slice A0_0 l0_0.length c0_0) ∧ w'.cell? ⟨gb279, 1, none⟩ = some (.int .i64 a0_1) ∧ w'.cell? ⟨gb279, 2, none⟩ = some (.bool a0_2) ∧ w'.cell? ⟨gb279, 3, none⟩ = some (.slice A0_3 l0_3.length c0_3) ∧ w'.cell? ⟨gb279, 4, none⟩ = some (.slice A0_4 l0_4.length c0_4) ∧ w'.cell? ⟨gb280, 0, none⟩ = some (.int .i64 a1_0) ∧ w'.cell? ⟨gb280, 1, none⟩ = some (.int .i64 a1_1) ∧ w'.cell? ⟨gb280, 2, none⟩ = some (.int .i64 a1_2) ∧ w'.cell? ⟨gb280, 3, none⟩ = some (.int .i64 a1_3)) (ds := []) #[false, false, false, false, false, false, false] (by kernel_rfl) rfl rfl ⟨(blk_cell BK279.out 0).trans rfl, (blk_cell BK279.out 1).trans rfl, (blk_cell BK279.out 2).trans rfl, (blk_cell BK279.out 3).trans rfl, (blk_cell BK279.out 4).trans rfl, (blk_cell BK280.out 0).trans rfl, (blk_cell BK280.out 1).trans rfl, (blk_cell BK280.out 2).trans rfl, (blk_cell BK280.out 3).trans rfl⟩ (fun hHeld => ?_)
    generalize w27.drew = w28 at BK279 BK280 HB hHeld ⊢
    refine take_ (i := 0) (N := some 18) (v := ?_) (a' := ?_) #[true, false, false, false, false, false, false] rfl rfl (by kernel_rfl) (fun _ _ _ h => h) (Or.inl ⟨by rfl, ?_⟩) hHeld ?_ ?_
    rotate_left
    ·
     rintro w' ⟨s0, s1, s2, s3, s4, s5, s6, s7, s8⟩
     go_simp
     with_reducible rfl
    rotate_left
    ·
     simp only [Act.put, List.setIfInBounds_toArray, List.set_cons_zero, List.set_cons_succ, i64_w, i32_w]
     rfl
    refine take_ (i := 2) (N := some 20) (v := ?_) (a' := ?_) #[true, false, true, false, false, false, false] rfl rfl (by kernel_rfl) (fun _ _ _ h => h) (Or.inl ⟨by rfl, ?_⟩) hHeld ?_ ?_
    rotate_left
    ·
     rintro w' ⟨s0, s1, s2, s3, s4, s5, s6, s7, s8⟩
     go_simp
     with_reducible rfl
    rotate_left
    ·
     simp only [Act.put, List.setIfInBounds_toArray, List.set_cons_zero, List.set_cons_succ, i64_w, i32_w]
     rfl
    refine join_ (σ := Value × Value × Value × Value × Value × Value × Nat) 1 #[true, true, true, true, true, true, false] (fun s_ => [(19, .agg #[s_.1, .int .i64 t285, .bool t286, s_.2.1, s_.2.2.1]), (21, .agg #[.int .i64 t293, .int .i64 t294, .int .i64 t295, .int .i64 t296]), (22, .agg #[s_.2.2.2.1, .int .i64 t300, .bool t301, s_.2.2.2.2.1, s_.2.2.2.2.2.1]), (6, .pointer (some ⟨s_.2.2.2.2.2.2, 0, none⟩))]) (fun s_ w' => (w'.cell? ⟨gb279, 0, none⟩ = some (.slice A0_0 l0_0.length c0_0) ∧ w'.cell? ⟨gb279, 1, none⟩ = some (.int .i64 a0_1) ∧ w'.cell? ⟨gb279, 2, none⟩ = some (.bool a0_2) ∧ w'.cell? ⟨gb279, 3, none⟩ = some (.slice A0_3 l0_3.length c0_3) ∧ w'.cell? ⟨gb279, 4, none⟩ = some (.slice A0_4 l0_4.length c0_4) ∧ w'.cell? ⟨gb280, 0, none⟩ = some (.int .i64 a1_0) ∧ w'.cell? ⟨gb280, 1, none⟩ = some (.int .i64 a1_1) ∧ w'.cell? ⟨gb280, 2, none⟩ = some (.int .i64 a1_2) ∧ w'.cell? ⟨gb280, 3, none⟩ = some (.int .i64 a1_3)) ∧ (Kd.R k88 88 w' w.heap.size (fun k_ => some k_ ≠ (s_.2.2.2.1 : Value).ownBlock) s_.1 t282) ∧ (Kd.R k136 136 w' w.heap.size (fun k_ => some k_ ≠ (s_.2.2.2.2.1 : Value).ownBlock) s_.2.1 t287) ∧ (Kd.R k67 67 w' w.heap.size (fun k_ => some k_ ≠ (s_.2.2.2.2.2.1 : Value).ownBlock) s_.2.2.1 t290) ∧ (Kd.R k88 88 w' w.heap.size (fun k_ => some k_ ≠ (s_.1 : Value).ownBlock) s_.2.2.2.1 t297) ∧ (Kd.R k136 136 w' w.heap.size (fun k_ => some k_ ≠ (s_.2.1 : Value).ownBlock) s_.2.2.2.2.1 t302) ∧ (Kd.R k67 67 w' w.heap.size (fun k_ => some k_ ≠ (s_.2.2.1 : Value).ownBlock) s_.2.2.2.2.2.1 t305) ∧ (w'.heap[gb279]? = some (.cells #[.slice A0_0 l0_0.length c0_0, .int .i64 a0_1, .bool a0_2, .slice A0_3 l0_3.length c0_3, .slice A0_4 l0_4.length c0_4] 59 (0, 0))) ∧ (w'.heap[gb280]? = some (.cells #[.int .i64 a1_0, .int .i64 a1_1, .int .i64 a1_2, .int .i64 a1_3] 65 (0, 0))) ∧ (w'.heap[s_.2.2.2.2.2.2]? = some (.cells #[.slice none 0 0, .int .i64 0, .bool false, .slice none 0 0, .slice none 0 0] 36 (0, 0))) ∧ (w.heap.size ≤ s_.2.2.2.2.2.2) ∧ (w.heap.size ≤ s_.2.2.2.2.2.2) ∧ (gb279 ≠ s_.2.2.2.2.2.2) ∧ (s_.2.2.2.2.2.2 ≠ gb279) ∧ (gb280 ≠ s_.2.2.2.2.2.2) ∧ (s_.2.2.2.2.2.2 ≠ gb280) ∧ (Below w.heap.size w w')) ?_ ?_
    rotate_left
    ·
     intro hCont
     refine two_ (i := 1) (j := 5) (Ni := some 19) (Nj := some 6) #[true, true, true, false, false, false, false] #[true, false, true, false, false, true, false] rfl rfl rfl rfl (by kernel_rfl) (by decide) (by decide) (fun K hK => ?_) (fun K hK => ?_)
     ·
      skip
      refine goes_ Try.func39 (by kernel_rfl) rfl #[.agg #[.slice A0_0 l0_0.length c0_0, .int .i64 a0_1, .bool a0_2, .slice A0_3 l0_3.length c0_3, .slice A0_4 l0_4.length c0_4]] (by rfl) rfl rfl z4_ ?_
      with_reducible refine (laws_toThread.calls k _ _ l0_0 a0_1 a0_2 _ _ l0_3 _ _ l0_4 t282 t285 t286 t287 t290 _ ?side1 ?side2 ?side3 ?side4 ?side5 ?side6 A10.out).mono ?_
      (case side1 => exact cb_ (Kd.C_below HR0_0.out HB.out))
      (case side2 => exact HC0_0.out)
      (case side3 => exact cb_ (Kd.C_below HR0_3.out HB.out))
      (case side4 => exact HC0_3.out)
      (case side5 => exact cb_ (Kd.C_below HR0_4.out HB.out))
      (case side6 => exact HC0_4.out)
      rintro e w29 ⟨v283, v288, v291, rfl, ho0, ho1, ho2, hb⟩
      refine ⟨_, rfl, ?_⟩
      have n0_ := Aside0.mk (Kd.R_lower ho0 (below_size z3_))
      have n1_ := Aside0.mk (Kd.R_lower ho1 (below_size z3_))
      have n2_ := Aside0.mk (Kd.R_lower ho2 (below_size z3_))
      have n3_ := Aside0.mk (blk_below (g := gb279) (o := .cells #[.slice A0_0 l0_0.length c0_0, .int .i64 a0_1, .bool a0_2, .slice A0_3 l0_3.length c0_3, .slice A0_4 l0_4.length c0_4] 59 (0, 0)) (bk_ BK279.out) hb)
      have n4_ := Aside0.mk (blk_below (g := gb280) (o := .cells #[.int .i64 a1_0, .int .i64 a1_1, .int .i64 a1_2, .int .i64 a1_3] 65 (0, 0)) (bk_ BK280.out) hb)
      have n5_ := Aside0.mk (below_step z3_ hb)
      clear BK279 BK280 HB
      have HO284 := n0_
      have HO289 := n1_
      have HO292 := n2_
      have BK279 := n3_
      have BK280 := n4_
      have HB := n5_
      clear n0_ n1_ n2_ n3_ n4_ n5_
      (try clear hb)
      (try clear hb2)
      (try clear hk)
      (try clear hi)
      (try clear ho0)
      (try clear ho1)
      (try clear ho2)
      refine hK.out _ _ ⟨(blk_cell BK279.out 0).trans rfl, (blk_cell BK279.out 1).trans rfl, (blk_cell BK279.out 2).trans rfl, (blk_cell BK279.out 3).trans rfl, (blk_cell BK279.out 4).trans rfl, (blk_cell BK280.out 0).trans rfl, (blk_cell BK280.out 1).trans rfl, (blk_cell BK280.out 2).trans rfl, (blk_cell BK280.out 3).trans rfl⟩ (fun hHeld => ?_)
      clear hK K
      refine norm_ (a' := ?_) ?_ ?_
      rotate_left
      ·
       show Act.put _ (some 19) _ = _
       simp only [Act.put, List.setIfInBounds_toArray, List.set_cons_zero, List.set_cons_succ, i64_w, i32_w]
       rfl
      refine two_ (i := 3) (j := 5) (Ni := some 21) (Nj := some 6) #[true, true, true, true, false, false, false] #[true, true, true, false, false, true, false] rfl rfl rfl rfl (by kernel_rfl) (by decide) (by decide) (fun K hK => ?_) (fun K hK => ?_)
      ·
       skip
       refine goes_ Try.func42 (by kernel_rfl) rfl #[.agg #[.int .i64 a1_0, .int .i64 a1_1, .int .i64 a1_2, .int .i64 a1_3]] (by rfl) rfl rfl z4_ ?_
       with_reducible refine (laws_toHelp.calls a1_0 a1_1 a1_2 a1_3 t293 t294 t295 t296 _ A11.out).mono ?_
       rintro e w30 ⟨rfl, hb⟩
       refine ⟨_, rfl, ?_⟩
       have n0_ := Aside0.mk (Kd.R_below (rb_ HO284.out) hb)
       have n1_ := Aside0.mk (Kd.R_below (rb_ HO289.out) hb)
       have n2_ := Aside0.mk (Kd.R_below (rb_ HO292.out) hb)
       have n3_ := Aside0.mk (blk_below (g := gb279) (o := .cells #[.slice A0_0 l0_0.length c0_0, .int .i64 a0_1, .bool a0_2, .slice A0_3 l0_3.length c0_3, .slice A0_4 l0_4.length c0_4] 59 (0, 0)) (bk_ BK279.out) hb)
       have n4_ := Aside0.mk (blk_below (g := gb280) (o := .cells #[.int .i64 a1_0, .int .i64 a1_1, .int .i64 a1_2, .int .i64 a1_3] 65 (0, 0)) (bk_ BK280.out) hb)
       have n5_ := Aside0.mk (below_step z3_ hb)
       clear HO284 HO289 HO292 BK279 BK280 HB
       have HO284 := n0_
       have HO289 := n1_
       have HO292 := n2_
       have BK279 := n3_
       have BK280 := n4_
       have HB := n5_
       clear n0_ n1_ n2_ n3_ n4_ n5_
       (try clear hb)
       (try clear hb2)
       (try clear hk)
       (try clear hi)
       obtain ⟨Ao31, co31, eo31⟩ := Kd.R_slice HO284.out
       (first | subst eo31 | (injection eo31 with f1_ f2_ f3_; have f4_ := f1_.symm; have f5_ := f3_.symm; clear f1_ f2_ f3_; subst f4_; subst f5_))
       obtain ⟨Ao32, co32, eo32⟩ := Kd.R_slice HO289.out
       (first | subst eo32 | (injection eo32 with f1_ f2_ f3_; have f4_ := f1_.symm; have f5_ := f3_.symm; clear f1_ f2_ f3_; subst f4_; subst f5_))
       obtain ⟨Ao33, co33, eo33⟩ := Kd.R_slice HO292.out
       (first | subst eo33 | (injection eo33 with f1_ f2_ f3_; have f4_ := f1_.symm; have f5_ := f3_.symm; clear f1_ f2_ f3_; subst f4_; subst f5_))
       refine hK.out _ _ ⟨(blk_cell BK279.out 0).trans rfl, (blk_cell BK279.out 1).trans rfl, (blk_cell BK279.out 2).trans rfl, (blk_cell BK279.out 3).trans rfl, (blk_cell BK279.out 4).trans rfl, (blk_cell BK280.out 0).trans rfl, (blk_cell BK280.out 1).trans rfl, (blk_cell BK280.out 2).trans rfl, (blk_cell BK280.out 3).trans rfl⟩ (fun hHeld => ?_)
       clear hK K
       refine norm_ (a' := ?_) ?_ ?_
       rotate_left
       ·
        show Act.put _ (some 21) _ = _
        simp only [Act.put, List.setIfInBounds_toArray, List.set_cons_zero, List.set_cons_succ, i64_w, i32_w]
        rfl
       refine two_ (i := 4) (j := 5) (Ni := some 22) (Nj := some 6) #[true, true, true, true, true, false, false] #[true, true, true, true, false, true, false] rfl rfl rfl rfl (by kernel_rfl) (by decide) (by decide) (fun K hK => ?_) (fun K hK => ?_)
       ·
        skip
        refine goes_ Try.func46 (by kernel_rfl) rfl #[.agg #[.slice Ao31 t282.length co31, .int .i64 t285, .bool t286, .slice Ao32 t287.length co32, .slice Ao33 t290.length co33], .agg #[.int .i64 t293, .int .i64 t294, .int .i64 t295, .int .i64 t296]] (by rfl) rfl rfl z4_ ?_
        with_reducible refine (spec_Swap.calls _ _ t282 t285 t286 _ _ t287 _ _ t290 t293 t294 t295 t296 t297 t300 t301 t302 t305 _ ?side1 ?side2 ?side3 ?side4 ?side5 ?side6 A12.out).mono ?_
        (case side1 => repeat (first | exact (Kd.R_reads' HO284.out).2.2 | (with_reducible refine Kd.C_alloc ?_ _) | (with_reducible refine Kd.C_drewN ?_ _) | (with_reducible refine Kd.C_drew ?_)))
        (case side2 => exact (Kd.R_reads' HO284.out).2.1)
        (case side3 => repeat (first | exact (Kd.R_reads' HO289.out).2.2 | (with_reducible refine Kd.C_alloc ?_ _) | (with_reducible refine Kd.C_drewN ?_ _) | (with_reducible refine Kd.C_drew ?_)))
        (case side4 => exact (Kd.R_reads' HO289.out).2.1)
        (case side5 => repeat (first | exact (Kd.R_reads' HO292.out).2.2 | (with_reducible refine Kd.C_alloc ?_ _) | (with_reducible refine Kd.C_drewN ?_ _) | (with_reducible refine Kd.C_drew ?_)))
        (case side6 => exact (Kd.R_reads' HO292.out).2.1)
        rintro e w34 ⟨v298, v303, v306, rfl, ho0, ho1, ho2, hb⟩
        refine ⟨_, rfl, ?_⟩
        have n0_ := Aside0.mk (Kd.R_elder' (rb_ HO284.out) (Kd.R_base ho0) hb)
        have n1_ := Aside0.mk (Kd.R_elder' (rb_ HO289.out) (Kd.R_base ho1) hb)
        have n2_ := Aside0.mk (Kd.R_elder' (rb_ HO292.out) (Kd.R_base ho2) hb)
        have n3_ := Aside0.mk (Kd.R_lower (Kd.R_new' ho0 (Kd.R_lt (rb_ HO284.out))) (below_size z3_))
        have n4_ := Aside0.mk (Kd.R_lower (Kd.R_new' ho1 (Kd.R_lt (rb_ HO289.out))) (below_size z3_))
        have n5_ := Aside0.mk (Kd.R_lower (Kd.R_new' ho2 (Kd.R_lt (rb_ HO292.out))) (below_size z3_))
        have n6_ := Aside0.mk (blk_below (g := gb279) (o := .cells #[.slice A0_0 l0_0.length c0_0, .int .i64 a0_1, .bool a0_2, .slice A0_3 l0_3.length c0_3, .slice A0_4 l0_4.length c0_4] 59 (0, 0)) (bk_ BK279.out) hb)
        have n7_ := Aside0.mk (blk_below (g := gb280) (o := .cells #[.int .i64 a1_0, .int .i64 a1_1, .int .i64 a1_2, .int .i64 a1_3] 65 (0, 0)) (bk_ BK280.out) hb)
        have n8_ := Aside0.mk (below_step z3_ hb)
        clear HO284 HO289 HO292 BK279 BK280 HB
        have HO284 := n0_
        have HO289 := n1_
        have HO292 := n2_
        have HO299 := n3_
        have HO304 := n4_
        have HO307 := n5_
        have BK279 := n6_
        have BK280 := n7_
        have HB := n8_
        clear n0_ n1_ n2_ n3_ n4_ n5_ n6_ n7_ n8_
        (try clear hb)
        (try clear hb2)
        (try clear hk)
        (try clear hi)
        (try clear ho0)
        (try clear ho1)
        (try clear ho2)
        refine hK.out _ _ ⟨(blk_cell BK279.out 0).trans rfl, (blk_cell BK279.out 1).trans rfl, (blk_cell BK279.out 2).trans rfl, (blk_cell BK279.out 3).trans rfl, (blk_cell BK279.out 4).trans rfl, (blk_cell BK280.out 0).trans rfl, (blk_cell BK280.out 1).trans rfl, (blk_cell BK280.out 2).trans rfl, (blk_cell BK280.out 3).trans rfl⟩ (fun hHeld => ?_)
        clear hK K
        refine norm_ (a' := ?_) ?_ ?_
        rotate_left
        ·
         show Act.put _ (some 22) _ = _
         simp only [Act.put, List.setIfInBounds_toArray, List.set_cons_zero, List.set_cons_succ, i64_w, i32_w]
         rfl
        refine one_ (i := 5) (N := some 6) #[true, true, true, true, true, true, false] rfl rfl (by kernel_rfl) (by decide) (fun K hK => ?_)
        refine box_step ?hg (N := 6) ?hd (cs := #[.slice none 0 0, .int .i64 0, .bool false, .slice none 0 0, .slice none 0 0]) (t := 36) ?hr ?_; (case hd => rfl); (case hg => rfl); (case hr => first | (go_simp; done) | (go_simp; rfl))
        intro gb308 hg w35 hbox hb
        have n0_ := Aside0.mk (Kd.R_below (rb_ HO284.out) hb)
        have n1_ := Aside0.mk (Kd.R_below (rb_ HO289.out) hb)
        have n2_ := Aside0.mk (Kd.R_below (rb_ HO292.out) hb)
        have n3_ := Aside0.mk (Kd.R_below (rb_ HO299.out) hb)
        have n4_ := Aside0.mk (Kd.R_below (rb_ HO304.out) hb)
        have n5_ := Aside0.mk (Kd.R_below (rb_ HO307.out) hb)
        have n6_ := Aside0.mk (blk_below (g := gb279) (o := .cells #[.slice A0_0 l0_0.length c0_0, .int .i64 a0_1, .bool a0_2, .slice A0_3 l0_3.length c0_3, .slice A0_4 l0_4.length c0_4] 59 (0, 0)) (bk_ BK279.out) hb)
        have n7_ := Aside0.mk (blk_below (g := gb280) (o := .cells #[.int .i64 a1_0, .int .i64 a1_1, .int .i64 a1_2, .int .i64 a1_3] 65 (0, 0)) (bk_ BK280.out) hb)
        have n8_ := Aside0.mk (below_step z3_ hb)
        have n9_ := Aside0.mk (hbox)
        have n10_ := Aside0.mk ((by rw [hg]; exact (below_size z3_) : w.heap.size ≤ gb308))
        have n11_ := Aside0.mk ((by rw [hg]; exact (below_size z3_) : w.heap.size ≤ gb308))
        have n12_ := Aside0.mk ((z6_ : gb279 ≠ gb308))
        have n13_ := Aside0.mk ((z7_ : gb308 ≠ gb279))
        have n14_ := Aside0.mk ((z8_ : gb280 ≠ gb308))
        have n15_ := Aside0.mk ((z9_ : gb308 ≠ gb280))
        clear HO284 HO289 HO292 HO299 HO304 HO307 BK279 BK280 HB
        have HO284 := n0_
        have HO289 := n1_
        have HO292 := n2_
        have HO299 := n3_
        have HO304 := n4_
        have HO307 := n5_
        have BK279 := n6_
        have BK280 := n7_
        have HB := n8_
        have BK308 := n9_
        have GW308 := n10_
        have GE308 := n11_
        have NB279_308 := n12_
        have NB308_279 := n13_
        have NB280_308 := n14_
        have NB308_280 := n15_
        clear n0_ n1_ n2_ n3_ n4_ n5_ n6_ n7_ n8_ n9_ n10_ n11_ n12_ n13_ n14_ n15_ hb hbox hg
        refine hK.out _ _ ⟨(blk_cell BK279.out 0).trans rfl, (blk_cell BK279.out 1).trans rfl, (blk_cell BK279.out 2).trans rfl, (blk_cell BK279.out 3).trans rfl, (blk_cell BK279.out 4).trans rfl, (blk_cell BK280.out 0).trans rfl, (blk_cell BK280.out 1).trans rfl, (blk_cell BK280.out 2).trans rfl, (blk_cell BK280.out 3).trans rfl⟩ (fun hHeld => ?_)
        clear hK K
        refine norm_ (a' := ?_) ?_ ?_
        rotate_left
        ·
         show Act.put _ (some 6) _ = _
         simp only [Act.put, List.setIfInBounds_toArray, List.set_cons_zero, List.set_cons_succ, i64_w, i32_w]
         rfl
        exact norm_ (by simp only [putAll, Act.put, List.setIfInBounds_toArray, List.set_cons_zero, List.set_cons_succ]) (hCont (.slice Ao31 t282.length co31, .slice Ao32 t287.length co32, .slice Ao33 t290.length co33, v298, v303, v306, gb308) _ ⟨hHeld, z53_, z54_, z55_, z56_, z57_, z58_, bk_ BK279.out, bk_ BK280.out, bk_ BK308.out, GW308.out, GE308.out, NB279_308.out, NB308_279.out, NB280_308.out, NB308_280.out, z2_⟩)
       ·
        skip
        refine box_step ?hg (N := 6) ?hd (cs := #[.slice none 0 0, .int .i64 0, .bool false, .slice none 0 0, .slice none 0 0]) (t := 36) ?hr ?_; (case hd => rfl); (case hg => rfl); (case hr => first | (go_simp; done) | (go_simp; rfl))
        intro gb308 hg w31 hbox hb
        have n0_ := Aside0.mk (Kd.R_below (rb_ HO284.out) hb)
        have n1_ := Aside0.mk (Kd.R_below (rb_ HO289.out) hb)
        have n2_ := Aside0.mk (Kd.R_below (rb_ HO292.out) hb)
        have n3_ := Aside0.mk (blk_below (g := gb279) (o := .cells #[.slice A0_0 l0_0.length c0_0, .int .i64 a0_1, .bool a0_2, .slice A0_3 l0_3.length c0_3, .slice A0_4 l0_4.length c0_4] 59 (0, 0)) (bk_ BK279.out) hb)
        have n4_ := Aside0.mk (blk_below (g := gb280) (o := .cells #[.int .i64 a1_0, .int .i64 a1_1, .int .i64 a1_2, .int .i64 a1_3] 65 (0, 0)) (bk_ BK280.out) hb)
        have n5_ := Aside0.mk (below_step z3_ hb)
        have n6_ := Aside0.mk (hbox)
        have n7_ := Aside0.mk ((by rw [hg]; exact (below_size z3_) : w.heap.size ≤ gb308))
        have n8_ := Aside0.mk ((by rw [hg]; exact (below_size z3_) : w.heap.size ≤ gb308))
        have n9_ := Aside0.mk ((z6_ : gb279 ≠ gb308))
        have n10_ := Aside0.mk ((z7_ : gb308 ≠ gb279))
        have n11_ := Aside0.mk ((z8_ : gb280 ≠ gb308))
        have n12_ := Aside0.mk ((z9_ : gb308 ≠ gb280))
        clear HO284 HO289 HO292 BK279 BK280 HB
        have HO284 := n0_
        have HO289 := n1_
        have HO292 := n2_
        have BK279 := n3_
        have BK280 := n4_
        have HB := n5_
        have BK308 := n6_
        have GW308 := n7_
        have GE308 := n8_
        have NB279_308 := n9_
        have NB308_279 := n10_
        have NB280_308 := n11_
        have NB308_280 := n12_
        clear n0_ n1_ n2_ n3_ n4_ n5_ n6_ n7_ n8_ n9_ n10_ n11_ n12_ hb hbox hg
        obtain ⟨Ao32, co32, eo32⟩ := Kd.R_slice HO284.out
        (first | subst eo32 | (injection eo32 with f1_ f2_ f3_; have f4_ := f1_.symm; have f5_ := f3_.symm; clear f1_ f2_ f3_; subst f4_; subst f5_))
        obtain ⟨Ao33, co33, eo33⟩ := Kd.R_slice HO289.out
        (first | subst eo33 | (injection eo33 with f1_ f2_ f3_; have f4_ := f1_.symm; have f5_ := f3_.symm; clear f1_ f2_ f3_; subst f4_; subst f5_))
        obtain ⟨Ao34, co34, eo34⟩ := Kd.R_slice HO292.out
        (first | subst eo34 | (injection eo34 with f1_ f2_ f3_; have f4_ := f1_.symm; have f5_ := f3_.symm; clear f1_ f2_ f3_; subst f4_; subst f5_))
        refine hK.out _ _ ⟨(blk_cell BK279.out 0).trans rfl, (blk_cell BK279.out 1).trans rfl, (blk_cell BK279.out 2).trans rfl, (blk_cell BK279.out 3).trans rfl, (blk_cell BK279.out 4).trans rfl, (blk_cell BK280.out 0).trans rfl, (blk_cell BK280.out 1).trans rfl, (blk_cell BK280.out 2).trans rfl, (blk_cell BK280.out 3).trans rfl⟩ (fun hHeld => ?_)
        clear hK K
        refine norm_ (a' := ?_) ?_ ?_
        rotate_left
        ·
         show Act.put _ (some 6) _ = _
         simp only [Act.put, List.setIfInBounds_toArray, List.set_cons_zero, List.set_cons_succ, i64_w, i32_w]
         rfl
        refine one_ (i := 4) (N := some 22) #[true, true, true, true, true, true, false] rfl rfl (by kernel_rfl) (by decide) (fun K hK => ?_)
        refine goes_ Try.func46 (by kernel_rfl) rfl #[.agg #[.slice Ao32 t282.length co32, .int .i64 t285, .bool t286, .slice Ao33 t287.length co33, .slice Ao34 t290.length co34], .agg #[.int .i64 t293, .int .i64 t294, .int .i64 t295, .int .i64 t296]] (by rfl) rfl rfl z4_ ?_
        with_reducible refine (spec_Swap.calls _ _ t282 t285 t286 _ _ t287 _ _ t290 t293 t294 t295 t296 t297 t300 t301 t302 t305 _ ?side1 ?side2 ?side3 ?side4 ?side5 ?side6 A12.out).mono ?_
        (case side1 => repeat (first | exact (Kd.R_reads' HO284.out).2.2 | (with_reducible refine Kd.C_alloc ?_ _) | (with_reducible refine Kd.C_drewN ?_ _) | (with_reducible refine Kd.C_drew ?_)))
        (case side2 => exact (Kd.R_reads' HO284.out).2.1)
        (case side3 => repeat (first | exact (Kd.R_reads' HO289.out).2.2 | (with_reducible refine Kd.C_alloc ?_ _) | (with_reducible refine Kd.C_drewN ?_ _) | (with_reducible refine Kd.C_drew ?_)))
        (case side4 => exact (Kd.R_reads' HO289.out).2.1)
        (case side5 => repeat (first | exact (Kd.R_reads' HO292.out).2.2 | (with_reducible refine Kd.C_alloc ?_ _) | (with_reducible refine Kd.C_drewN ?_ _) | (with_reducible refine Kd.C_drew ?_)))
        (case side6 => exact (Kd.R_reads' HO292.out).2.1)
        rintro e w35 ⟨v298, v303, v306, rfl, ho0, ho1, ho2, hb⟩
        refine ⟨_, rfl, ?_⟩
        have n0_ := Aside0.mk (Kd.R_elder' (rb_ HO284.out) (Kd.R_base ho0) hb)
        have n1_ := Aside0.mk (Kd.R_elder' (rb_ HO289.out) (Kd.R_base ho1) hb)
        have n2_ := Aside0.mk (Kd.R_elder' (rb_ HO292.out) (Kd.R_base ho2) hb)
        have n3_ := Aside0.mk (Kd.R_lower (Kd.R_new' ho0 (Kd.R_lt (rb_ HO284.out))) (below_size z2_))
        have n4_ := Aside0.mk (Kd.R_lower (Kd.R_new' ho1 (Kd.R_lt (rb_ HO289.out))) (below_size z2_))
        have n5_ := Aside0.mk (Kd.R_lower (Kd.R_new' ho2 (Kd.R_lt (rb_ HO292.out))) (below_size z2_))
        have n6_ := Aside0.mk (blk_below (g := gb279) (o := .cells #[.slice A0_0 l0_0.length c0_0, .int .i64 a0_1, .bool a0_2, .slice A0_3 l0_3.length c0_3, .slice A0_4 l0_4.length c0_4] 59 (0, 0)) (bk_ BK279.out) hb)
        have n7_ := Aside0.mk (blk_below (g := gb280) (o := .cells #[.int .i64 a1_0, .int .i64 a1_1, .int .i64 a1_2, .int .i64 a1_3] 65 (0, 0)) (bk_ BK280.out) hb)
        have n8_ := Aside0.mk (blk_below (g := gb308) (o := .cells #[.slice none 0 0, .int .i64 0, .bool false, .slice none 0 0, .slice none 0 0] 36 (0, 0)) (bk_ BK308.out) hb)
        have n9_ := Aside0.mk (below_step z2_ hb)
        clear HO284 HO289 HO292 BK279 BK280 BK308 HB
        have HO284 := n0_
        have HO289 := n1_
        have HO292 := n2_
        have HO299 := n3_
        have HO304 := n4_
        have HO307 := n5_
        have BK279 := n6_
        have BK280 := n7_
        have BK308 := n8_
        have HB := n9_
        clear n0_ n1_ n2_ n3_ n4_ n5_ n6_ n7_ n8_ n9_
        (try clear hb)
        (try clear hb2)
        (try clear hk)
        (try clear hi)
        (try clear ho0)
        (try clear ho1)
        (try clear ho2)
        refine hK.out _ _ ⟨(blk_cell BK279.out 0).trans rfl, (blk_cell BK279.out 1).trans rfl, (blk_cell BK279.out 2).trans rfl, (blk_cell BK279.out 3).trans rfl, (blk_cell BK279.out 4).trans rfl, (blk_cell BK280.out 0).trans rfl, (blk_cell BK280.out 1).trans rfl, (blk_cell BK280.out 2).trans rfl, (blk_cell BK280.out 3).trans rfl⟩ (fun hHeld => ?_)
        clear hK K
        refine norm_ (a' := ?_) ?_ ?_
        rotate_left
        ·
         show Act.put _ (some 22) _ = _
         simp only [Act.put, List.setIfInBounds_toArray, List.set_cons_zero, List.set_cons_succ, i64_w, i32_w]
         rfl
        exact norm_ (by simp only [putAll, Act.put, List.setIfInBounds_toArray, List.set_cons_zero, List.set_cons_succ]) (hCont (.slice Ao32 t282.length co32, .slice Ao33 t287.length co33, .slice Ao34 t290.length co34, v298, v303, v306, gb308) _ ⟨hHeld, z53_, z54_, z55_, z56_, z57_, z58_, bk_ BK279.out, bk_ BK280.out, bk_ BK308.out, GW308.out, GE308.out, NB279_308.out, NB308_279.out, NB280_308.out, NB308_280.out, z2_⟩)
      ·
       skip
       refine box_step ?hg (N := 6) ?hd (cs := #[.slice none 0 0, .int .i64 0, .bool false, .slice none 0 0, .slice none 0 0]) (t := 36) ?hr ?_; (case hd => rfl); (case hg => rfl); (case hr => first | (go_simp; done) | (go_simp; rfl))
       intro gb308 hg w30 hbox hb
       have n0_ := Aside0.mk (Kd.R_below (rb_ HO284.out) hb)
       have n1_ := Aside0.mk (Kd.R_below (rb_ HO289.out) hb)
       have n2_ := Aside0.mk (Kd.R_below (rb_ HO292.out) hb)
       have n3_ := Aside0.mk (blk_below (g := gb279) (o := .cells #[.slice A0_0 l0_0.length c0_0, .int .i64 a0_1, .bool a0_2, .slice A0_3 l0_3.length c0_3, .slice A0_4 l0_4.length c0_4] 59 (0, 0)) (bk_ BK279.out) hb)
       have n4_ := Aside0.mk (blk_below (g := gb280) (o := .cells #[.int .i64 a1_0, .int .i64 a1_1, .int .i64 a1_2, .int .i64 a1_3] 65 (0, 0)) (bk_ BK280.out) hb)
       have n5_ := Aside0.mk (below_step z3_ hb)
       have n6_ := Aside0.mk (hbox)
       have n7_ := Aside0.mk ((by rw [hg]; exact (below_size z3_) : w.heap.size ≤ gb308))
       have n8_ := Aside0.mk ((by rw [hg]; exact (below_size z3_) : w.heap.size ≤ gb308))
       have n9_ := Aside0.mk ((z6_ : gb279 ≠ gb308))
       have n10_ := Aside0.mk ((z7_ : gb308 ≠ gb279))
       have n11_ := Aside0.mk ((z8_ : gb280 ≠ gb308))
       have n12_ := Aside0.mk ((z9_ : gb308 ≠ gb280))
       clear HO284 HO289 HO292 BK279 BK280 HB
       have HO284 := n0_
       have HO289 := n1_
       have HO292 := n2_
       have BK279 := n3_
       have BK280 := n4_
       have HB := n5_
       have BK308 := n6_
       have GW308 := n7_
       have GE308 := n8_
       have NB279_308 := n9_
       have NB308_279 := n10_
       have NB280_308 := n11_
       have NB308_280 := n12_
       clear n0_ n1_ n2_ n3_ n4_ n5_ n6_ n7_ n8_ n9_ n10_ n11_ n12_ hb hbox hg
       refine hK.out _ _ ⟨(blk_cell BK279.out 0).trans rfl, (blk_cell BK279.out 1).trans rfl, (blk_cell BK279.out 2).trans rfl, (blk_cell BK279.out 3).trans rfl, (blk_cell BK279.out 4).trans rfl, (blk_cell BK280.out 0).trans rfl, (blk_cell BK280.out 1).trans rfl, (blk_cell BK280.out 2).trans rfl, (blk_cell BK280.out 3).trans rfl⟩ (fun hHeld => ?_)
       clear hK K
       refine norm_ (a' := ?_) ?_ ?_
       rotate_left
       ·
        show Act.put _ (some 6) _ = _
        simp only [Act.put, List.setIfInBounds_toArray, List.set_cons_zero, List.set_cons_succ, i64_w, i32_w]
        rfl
       refine one_ (i := 3) (N := some 21) #[true, true, true, true, false, true, false] rfl rfl (by kernel_rfl) (by decide) (fun K hK => ?_)
       refine goes_ Try.func42 (by kernel_rfl) rfl #[.agg #[.int .i64 a1_0, .int .i64 a1_1, .int .i64 a1_2, .int .i64 a1_3]] (by rfl) rfl rfl z4_ ?_
       with_reducible refine (laws_toHelp.calls a1_0 a1_1 a1_2 a1_3 t293 t294 t295 t296 _ A11.out).mono ?_
       rintro e w31 ⟨rfl, hb⟩
       refine ⟨_, rfl, ?_⟩
       have n0_ := Aside0.mk (Kd.R_below (rb_ HO284.out) hb)
       have n1_ := Aside0.mk (Kd.R_below (rb_ HO289.out) hb)
       have n2_ := Aside0.mk (Kd.R_below (rb_ HO292.out) hb)
       have n3_ := Aside0.mk (blk_below (g := gb279) (o := .cells #[.slice A0_0 l0_0.length c0_0, .int .i64 a0_1, .bool a0_2, .slice A0_3 l0_3.length c0_3, .slice A0_4 l0_4.length c0_4] 59 (0, 0)) (bk_ BK279.out) hb)
       have n4_ := Aside0.mk (blk_below (g := gb280) (o := .cells #[.int .i64 a1_0, .int .i64 a1_1, .int .i64 a1_2, .int .i64 a1_3] 65 (0, 0)) (bk_ BK280.out) hb)
       have n5_ := Aside0.mk (blk_below (g := gb308) (o := .cells #[.slice none 0 0, .int .i64 0, .bool false, .slice none 0 0, .slice none 0 0] 36 (0, 0)) (bk_ BK308.out) hb)
       have n6_ := Aside0.mk (below_step z2_ hb)
       clear HO284 HO289 HO292 BK279 BK280 BK308 HB
       have HO284 := n0_
       have HO289 := n1_
       have HO292 := n2_
       have BK279 := n3_
       have BK280 := n4_
       have BK308 := n5_
       have HB := n6_
       clear n0_ n1_ n2_ n3_ n4_ n5_ n6_
       (try clear hb)
       (try clear hb2)
       (try clear hk)
       (try clear hi)
       obtain ⟨Ao32, co32, eo32⟩ := Kd.R_slice HO284.out
       (first | subst eo32 | (injection eo32 with f1_ f2_ f3_; have f4_ := f1_.symm; have f5_ := f3_.symm; clear f1_ f2_ f3_; subst f4_; subst f5_))
       obtain ⟨Ao33, co33, eo33⟩ := Kd.R_slice HO289.out
       (first | subst eo33 | (injection eo33 with f1_ f2_ f3_; have f4_ := f1_.symm; have f5_ := f3_.symm; clear f1_ f2_ f3_; subst f4_; subst f5_))
       obtain ⟨Ao34, co34, eo34⟩ := Kd.R_slice HO292.out
       (first | subst eo34 | (injection eo34 with f1_ f2_ f3_; have f4_ := f1_.symm; have f5_ := f3_.symm; clear f1_ f2_ f3_; subst f4_; subst f5_))
       refine hK.out _ _ ⟨(blk_cell BK279.out 0).trans rfl, (blk_cell BK279.out 1).trans rfl, (blk_cell BK279.out 2).trans rfl, (blk_cell BK279.out 3).trans rfl, (blk_cell BK279.out 4).trans rfl, (blk_cell BK280.out 0).trans rfl, (blk_cell BK280.out 1).trans rfl, (blk_cell BK280.out 2).trans rfl, (blk_cell BK280.out 3).trans rfl⟩ (fun hHeld => ?_)
       clear hK K
       refine norm_ (a' := ?_) ?_ ?_
       rotate_left
       ·
        show Act.put _ (some 21) _ = _
        simp only [Act.put, List.setIfInBounds_toArray, List.set_cons_zero, List.set_cons_succ, i64_w, i32_w]
        rfl
       refine one_ (i := 4) (N := some 22) #[true, true, true, true, true, true, false] rfl rfl (by kernel_rfl) (by decide) (fun K hK => ?_)
       refine goes_ Try.func46 (by kernel_rfl) rfl #[.agg #[.slice Ao32 t282.length co32, .int .i64 t285, .bool t286, .slice Ao33 t287.length co33, .slice Ao34 t290.length co34], .agg #[.int .i64 t293, .int .i64 t294, .int .i64 t295, .int .i64 t296]] (by rfl) rfl rfl z4_ ?_
       with_reducible refine (spec_Swap.calls _ _ t282 t285 t286 _ _ t287 _ _ t290 t293 t294 t295 t296 t297 t300 t301 t302 t305 _ ?side1 ?side2 ?side3 ?side4 ?side5 ?side6 A12.out).mono ?_
       (case side1 => repeat (first | exact (Kd.R_reads' HO284.out).2.2 | (with_reducible refine Kd.C_alloc ?_ _) | (with_reducible refine Kd.C_drewN ?_ _) | (with_reducible refine Kd.C_drew ?_)))
       (case side2 => exact (Kd.R_reads' HO284.out).2.1)
       (case side3 => repeat (first | exact (Kd.R_reads' HO289.out).2.2 | (with_reducible refine Kd.C_alloc ?_ _) | (with_reducible refine Kd.C_drewN ?_ _) | (with_reducible refine Kd.C_drew ?_)))
       (case side4 => exact (Kd.R_reads' HO289.out).2.1)
       (case side5 => repeat (first | exact (Kd.R_reads' HO292.out).2.2 | (with_reducible refine Kd.C_alloc ?_ _) | (with_reducible refine Kd.C_drewN ?_ _) | (with_reducible refine Kd.C_drew ?_)))
       (case side6 => exact (Kd.R_reads' HO292.out).2.1)
       rintro e w35 ⟨v298, v303, v306, rfl, ho0, ho1, ho2, hb⟩
       refine ⟨_, rfl, ?_⟩
       have n0_ := Aside0.mk (Kd.R_elder' (rb_ HO284.out) (Kd.R_base ho0) hb)
       have n1_ := Aside0.mk (Kd.R_elder' (rb_ HO289.out) (Kd.R_base ho1) hb)
       have n2_ := Aside0.mk (Kd.R_elder' (rb_ HO292.out) (Kd.R_base ho2) hb)
       have n3_ := Aside0.mk (Kd.R_lower (Kd.R_new' ho0 (Kd.R_lt (rb_ HO284.out))) (below_size z2_))
       have n4_ := Aside0.mk (Kd.R_lower (Kd.R_new' ho1 (Kd.R_lt (rb_ HO289.out))) (below_size z2_))
       have n5_ := Aside0.mk (Kd.R_lower (Kd.R_new' ho2 (Kd.R_lt (rb_ HO292.out))) (below_size z2_))
       have n6_ := Aside0.mk (blk_below (g := gb279) (o := .cells #[.slice A0_0 l0_0.length c0_0, .int .i64 a0_1, .bool a0_2, .slice A0_3 l0_3.length c0_3, .slice A0_4 l0_4.length c0_4] 59 (0, 0)) (bk_ BK279.out) hb)
       have n7_ := Aside0.mk (blk_below (g := gb280) (o := .cells #[.int .i64 a1_0, .int .i64 a1_1, .int .i64 a1_2, .int .i64 a1_3] 65 (0, 0)) (bk_ BK280.out) hb)
       have n8_ := Aside0.mk (blk_below (g := gb308) (o := .cells #[.slice none 0 0, .int .i64 0, .bool false, .slice none 0 0, .slice none 0 0] 36 (0, 0)) (bk_ BK308.out) hb)
       have n9_ := Aside0.mk (below_step z2_ hb)
       clear HO284 HO289 HO292 BK279 BK280 BK308 HB
       have HO284 := n0_
       have HO289 := n1_
       have HO292 := n2_
       have HO299 := n3_
       have HO304 := n4_
       have HO307 := n5_
       have BK279 := n6_
       have BK280 := n7_
       have BK308 := n8_
       have HB := n9_
       clear n0_ n1_ n2_ n3_ n4_ n5_ n6_ n7_ n8_ n9_
       (try clear hb)
       (try clear hb2)
       (try clear hk)
       (try clear hi)
       (try clear ho0)
       (try clear ho1)
       (try clear ho2)
       refine hK.out _ _ ⟨(blk_cell BK279.out 0).trans rfl, (blk_cell BK279.out 1).trans rfl, (blk_cell BK279.out 2).trans rfl, (blk_cell BK279.out 3).trans rfl, (blk_cell BK279.out 4).trans rfl, (blk_cell BK280.out 0).trans rfl, (blk_cell BK280.out 1).trans rfl, (blk_cell BK280.out 2).trans rfl, (blk_cell BK280.out 3).trans rfl⟩ (fun hHeld => ?_)
       clear hK K
       refine norm_ (a' := ?_) ?_ ?_
       rotate_left
       ·
        show Act.put _ (some 22) _ = _
        simp only [Act.put, List.setIfInBounds_toArray, List.set_cons_zero, List.set_cons_succ, i64_w, i32_w]
        rfl
       exact norm_ (by simp only [putAll, Act.put, List.setIfInBounds_toArray, List.set_cons_zero, List.set_cons_succ]) (hCont (.slice Ao32 t282.length co32, .slice Ao33 t287.length co33, .slice Ao34 t290.length co34, v298, v303, v306, gb308) _ ⟨hHeld, z53_, z54_, z55_, z56_, z57_, z58_, bk_ BK279.out, bk_ BK280.out, bk_ BK308.out, GW308.out, GE308.out, NB279_308.out, NB308_279.out, NB280_308.out, NB308_280.out, z2_⟩)
     ·
      skip
      refine box_step ?hg (N := 6) ?hd (cs := #[.slice none 0 0, .int .i64 0, .bool false, .slice none 0 0, .slice none 0 0]) (t := 36) ?hr ?_; (case hd => rfl); (case hg => rfl); (case hr => first | (go_simp; done) | (go_simp; rfl))
      intro gb308 hg w29 hbox hb
      have n0_ := Aside0.mk (blk_below (g := gb279) (o := .cells #[.slice A0_0 l0_0.length c0_0, .int .i64 a0_1, .bool a0_2, .slice A0_3 l0_3.length c0_3, .slice A0_4 l0_4.length c0_4] 59 (0, 0)) (bk_ BK279.out) hb)
      have n1_ := Aside0.mk (blk_below (g := gb280) (o := .cells #[.int .i64 a1_0, .int .i64 a1_1, .int .i64 a1_2, .int .i64 a1_3] 65 (0, 0)) (bk_ BK280.out) hb)
      have n2_ := Aside0.mk (below_step z3_ hb)
      have n3_ := Aside0.mk (hbox)
      have n4_ := Aside0.mk ((by rw [hg]; exact (below_size z3_) : w.heap.size ≤ gb308))
      have n5_ := Aside0.mk ((by rw [hg]; exact (below_size z3_) : w.heap.size ≤ gb308))
      have n6_ := Aside0.mk ((z6_ : gb279 ≠ gb308))
      have n7_ := Aside0.mk ((z7_ : gb308 ≠ gb279))
      have n8_ := Aside0.mk ((z8_ : gb280 ≠ gb308))
      have n9_ := Aside0.mk ((z9_ : gb308 ≠ gb280))
      clear BK279 BK280 HB
      have BK279 := n0_
      have BK280 := n1_
      have HB := n2_
      have BK308 := n3_
      have GW308 := n4_
      have GE308 := n5_
      have NB279_308 := n6_
      have NB308_279 := n7_
      have NB280_308 := n8_
      have NB308_280 := n9_
      clear n0_ n1_ n2_ n3_ n4_ n5_ n6_ n7_ n8_ n9_ hb hbox hg
      refine hK.out _ _ ⟨(blk_cell BK279.out 0).trans rfl, (blk_cell BK279.out 1).trans rfl, (blk_cell BK279.out 2).trans rfl, (blk_cell BK279.out 3).trans rfl, (blk_cell BK279.out 4).trans rfl, (blk_cell BK280.out 0).trans rfl, (blk_cell BK280.out 1).trans rfl, (blk_cell BK280.out 2).trans rfl, (blk_cell BK280.out 3).trans rfl⟩ (fun hHeld => ?_)
      clear hK K
      refine norm_ (a' := ?_) ?_ ?_
      rotate_left
      ·
       show Act.put _ (some 6) _ = _
       simp only [Act.put, List.setIfInBounds_toArray, List.set_cons_zero, List.set_cons_succ, i64_w, i32_w]
       rfl
      refine one_ (i := 1) (N := some 19) #[true, true, true, false, false, true, false] rfl rfl (by kernel_rfl) (by decide) (fun K hK => ?_)
      refine goes_ Try.func39 (by kernel_rfl) rfl #[.agg #[.slice A0_0 l0_0.length c0_0, .int .i64 a0_1, .bool a0_2, .slice A0_3 l0_3.length c0_3, .slice A0_4 l0_4.length c0_4]] (by rfl) rfl rfl z4_ ?_
      with_reducible refine (laws_toThread.calls k _ _ l0_0 a0_1 a0_2 _ _ l0_3 _ _ l0_4 t282 t285 t286 t287 t290 _ ?side1 ?side2 ?side3 ?side4 ?side5 ?side6 A10.out).mono ?_
      (case side1 => exact cb_ (Kd.C_below HR0_0.out HB.out))
      (case side2 => exact HC0_0.out)
      (case side3 => exact cb_ (Kd.C_below HR0_3.out HB.out))
      (case side4 => exact HC0_3.out)
      (case side5 => exact cb_ (Kd.C_below HR0_4.out HB.out))
      (case side6 => exact HC0_4.out)
      rintro e w30 ⟨v283, v288, v291, rfl, ho0, ho1, ho2, hb⟩
      refine ⟨_, rfl, ?_⟩
      have n0_ := Aside0.mk (Kd.R_lower ho0 (below_size z2_))
      have n1_ := Aside0.mk (Kd.R_lower ho1 (below_size z2_))
      have n2_ := Aside0.mk (Kd.R_lower ho2 (below_size z2_))
      have n3_ := Aside0.mk (blk_below (g := gb279) (o := .cells #[.slice A0_0 l0_0.length c0_0, .int .i64 a0_1, .bool a0_2, .slice A0_3 l0_3.length c0_3, .slice A0_4 l0_4.length c0_4] 59 (0, 0)) (bk_ BK279.out) hb)
      have n4_ := Aside0.mk (blk_below (g := gb280) (o := .cells #[.int .i64 a1_0, .int .i64 a1_1, .int .i64 a1_2, .int .i64 a1_3] 65 (0, 0)) (bk_ BK280.out) hb)
      have n5_ := Aside0.mk (blk_below (g := gb308) (o := .cells #[.slice none 0 0, .int .i64 0, .bool false, .slice none 0 0, .slice none 0 0] 36 (0, 0)) (bk_ BK308.out) hb)
      have n6_ := Aside0.mk (below_step z2_ hb)
      clear BK279 BK280 BK308 HB
      have HO284 := n0_
      have HO289 := n1_
      have HO292 := n2_
      have BK279 := n3_
      have BK280 := n4_
      have BK308 := n5_
      have HB := n6_
      clear n0_ n1_ n2_ n3_ n4_ n5_ n6_
      (try clear hb)
      (try clear hb2)
      (try clear hk)
      (try clear hi)
      (try clear ho0)
      (try clear ho1)
      (try clear ho2)
      refine hK.out _ _ ⟨(blk_cell BK279.out 0).trans rfl, (blk_cell BK279.out 1).trans rfl, (blk_cell BK279.out 2).trans rfl, (blk_cell BK279.out 3).trans rfl, (blk_cell BK279.out 4).trans rfl, (blk_cell BK280.out 0).trans rfl, (blk_cell BK280.out 1).trans rfl, (blk_cell BK280.out 2).trans rfl, (blk_cell BK280.out 3).trans rfl⟩ (fun hHeld => ?_)
      clear hK K
      refine norm_ (a' := ?_) ?_ ?_
      rotate_left
      ·
       show Act.put _ (some 19) _ = _
       simp only [Act.put, List.setIfInBounds_toArray, List.set_cons_zero, List.set_cons_succ, i64_w, i32_w]
       rfl
      refine one_ (i := 3) (N := some 21) #[true, true, true, true, false, true, false] rfl rfl (by kernel_rfl) (by decide) (fun K hK => ?_)
      refine goes_ Try.func42 (by kernel_rfl) rfl #[.agg #[.int .i64 a1_0, .int .i64 a1_1, .int .i64 a1_2, .int .i64 a1_3]] (by rfl) rfl rfl z4_ ?_
      with_reducible refine (laws_toHelp.calls a1_0 a1_1 a1_2 a1_3 t293 t294 t295 t296 _ A11.out).mono ?_
      rintro e w31 ⟨rfl, hb⟩
      refine ⟨_, rfl, ?_⟩
      have n0_ := Aside0.mk (Kd.R_below (rb_ HO284.out) hb)
      have n1_ := Aside0.mk (Kd.R_below (rb_ HO289.out) hb)
      have n2_ := Aside0.mk (Kd.R_below (rb_ HO292.out) hb)
      have n3_ := Aside0.mk (blk_below (g := gb279) (o := .cells #[.slice A0_0 l0_0.length c0_0, .int .i64 a0_1, .bool a0_2, .slice A0_3 l0_3.length c0_3, .slice A0_4 l0_4.length c0_4] 59 (0, 0)) (bk_ BK279.out) hb)
      have n4_ := Aside0.mk (blk_below (g := gb280) (o := .cells #[.int .i64 a1_0, .int .i64 a1_1, .int .i64 a1_2, .int .i64 a1_3] 65 (0, 0)) (bk_ BK280.out) hb)
      have n5_ := Aside0.mk (blk_below (g := gb308) (o := .cells #[.slice none 0 0, .int .i64 0, .bool false, .slice none 0 0, .slice none 0 0] 36 (0, 0)) (bk_ BK308.out) hb)
      have n6_ := Aside0.mk (below_step z2_ hb)
      clear HO284 HO289 HO292 BK279 BK280 BK308 HB
      have HO284 := n0_
      have HO289 := n1_
      have HO292 := n2_
      have BK279 := n3_
      have BK280 := n4_
      have BK308 := n5_
      have HB := n6_
      clear n0_ n1_ n2_ n3_ n4_ n5_ n6_
      (try clear hb)
      (try clear hb2)
      (try clear hk)
      (try clear hi)
      obtain ⟨Ao32, co32, eo32⟩ := Kd.R_slice HO284.out
      (first | subst eo32 | (injection eo32 with f1_ f2_ f3_; have f4_ := f1_.symm; have f5_ := f3_.symm; clear f1_ f2_ f3_; subst f4_; subst f5_))
      obtain ⟨Ao33, co33, eo33⟩ := Kd.R_slice HO289.out
      (first | subst eo33 | (injection eo33 with f1_ f2_ f3_; have f4_ := f1_.symm; have f5_ := f3_.symm; clear f1_ f2_ f3_; subst f4_; subst f5_))
      obtain ⟨Ao34, co34, eo34⟩ := Kd.R_slice HO292.out
      (first | subst eo34 | (injection eo34 with f1_ f2_ f3_; have f4_ := f1_.symm; have f5_ := f3_.symm; clear f1_ f2_ f3_; subst f4_; subst f5_))
      refine hK.out _ _ ⟨(blk_cell BK279.out 0).trans rfl, (blk_cell BK279.out 1).trans rfl, (blk_cell BK279.out 2).trans rfl, (blk_cell BK279.out 3).trans rfl, (blk_cell BK279.out 4).trans rfl, (blk_cell BK280.out 0).trans rfl, (blk_cell BK280.out 1).trans rfl, (blk_cell BK280.out 2).trans rfl, (blk_cell BK280.out 3).trans rfl⟩ (fun hHeld => ?_)
      clear hK K
      refine norm_ (a' := ?_) ?_ ?_
      rotate_left
      ·
       show Act.put _ (some 21) _ = _
       simp only [Act.put, List.setIfInBounds_toArray, List.set_cons_zero, List.set_cons_succ, i64_w, i32_w]
       rfl
      refine one_ (i := 4) (N := some 22) #[true, true, true, true, true, true, false] rfl rfl (by kernel_rfl) (by decide) (fun K hK => ?_)
      refine goes_ Try.func46 (by kernel_rfl) rfl #[.agg #[.slice Ao32 t282.length co32, .int .i64 t285, .bool t286, .slice Ao33 t287.length co33, .slice Ao34 t290.length co34], .agg #[.int .i64 t293, .int .i64 t294, .int .i64 t295, .int .i64 t296]] (by rfl) rfl rfl z4_ ?_
      with_reducible refine (spec_Swap.calls _ _ t282 t285 t286 _ _ t287 _ _ t290 t293 t294 t295 t296 t297 t300 t301 t302 t305 _ ?side1 ?side2 ?side3 ?side4 ?side5 ?side6 A12.out).mono ?_
      (case side1 => repeat (first | exact (Kd.R_reads' HO284.out).2.2 | (with_reducible refine Kd.C_alloc ?_ _) | (with_reducible refine Kd.C_drewN ?_ _) | (with_reducible refine Kd.C_drew ?_)))
      (case side2 => exact (Kd.R_reads' HO284.out).2.1)
      (case side3 => repeat (first | exact (Kd.R_reads' HO289.out).2.2 | (with_reducible refine Kd.C_alloc ?_ _) | (with_reducible refine Kd.C_drewN ?_ _) | (with_reducible refine Kd.C_drew ?_)))
      (case side4 => exact (Kd.R_reads' HO289.out).2.1)
      (case side5 => repeat (first | exact (Kd.R_reads' HO292.out).2.2 | (with_reducible refine Kd.C_alloc ?_ _) | (with_reducible refine Kd.C_drewN ?_ _) | (with_reducible refine Kd.C_drew ?_)))
      (case side6 => exact (Kd.R_reads' HO292.out).2.1)
      rintro e w35 ⟨v298, v303, v306, rfl, ho0, ho1, ho2, hb⟩
      refine ⟨_, rfl, ?_⟩
      have n0_ := Aside0.mk (Kd.R_elder' (rb_ HO284.out) (Kd.R_base ho0) hb)
      have n1_ := Aside0.mk (Kd.R_elder' (rb_ HO289.out) (Kd.R_base ho1) hb)
      have n2_ := Aside0.mk (Kd.R_elder' (rb_ HO292.out) (Kd.R_base ho2) hb)
      have n3_ := Aside0.mk (Kd.R_lower (Kd.R_new' ho0 (Kd.R_lt (rb_ HO284.out))) (below_size z2_))
      have n4_ := Aside0.mk (Kd.R_lower (Kd.R_new' ho1 (Kd.R_lt (rb_ HO289.out))) (below_size z2_))
      have n5_ := Aside0.mk (Kd.R_lower (Kd.R_new' ho2 (Kd.R_lt (rb_ HO292.out))) (below_size z2_))
      have n6_ := Aside0.mk (blk_below (g := gb279) (o := .cells #[.slice A0_0 l0_0.length c0_0, .int .i64 a0_1, .bool a0_2, .slice A0_3 l0_3.length c0_3, .slice A0_4 l0_4.length c0_4] 59 (0, 0)) (bk_ BK279.out) hb)
      have n7_ := Aside0.mk (blk_below (g := gb280) (o := .cells #[.int .i64 a1_0, .int .i64 a1_1, .int .i64 a1_2, .int .i64 a1_3] 65 (0, 0)) (bk_ BK280.out) hb)
      have n8_ := Aside0.mk (blk_below (g := gb308) (o := .cells #[.slice none 0 0, .int .i64 0, .bool false, .slice none 0 0, .slice none 0 0] 36 (0, 0)) (bk_ BK308.out) hb)
      have n9_ := Aside0.mk (below_step z2_ hb)
      clear HO284 HO289 HO292 BK279 BK280 BK308 HB
      have HO284 := n0_
      have HO289 := n1_
      have HO292 := n2_
      have HO299 := n3_
      have HO304 := n4_
      have HO307 := n5_
      have BK279 := n6_
      have BK280 := n7_
      have BK308 := n8_
      have HB := n9_
      clear n0_ n1_ n2_ n3_ n4_ n5_ n6_ n7_ n8_ n9_
      (try clear hb)
      (try clear hb2)
      (try clear hk)
      (try clear hi)
      (try clear ho0)
      (try clear ho1)
      (try clear ho2)
      refine hK.out _ _ ⟨(blk_cell BK279.out 0).trans rfl, (blk_cell BK279.out 1).trans rfl, (blk_cell BK279.out 2).trans rfl, (blk_cell BK279.out 3).trans rfl, (blk_cell BK279.out 4).trans rfl, (blk_cell BK280.out 0).trans rfl, (blk_cell BK280.out 1).trans rfl, (blk_cell BK280.out 2).trans rfl, (blk_cell BK280.out 3).trans rfl⟩ (fun hHeld => ?_)
      clear hK K
      refine norm_ (a' := ?_) ?_ ?_
      rotate_left
      ·
       show Act.put _ (some 22) _ = _
       simp only [Act.put, List.setIfInBounds_toArray, List.set_cons_zero, List.set_cons_succ, i64_w, i32_w]
       rfl
      exact norm_ (by simp only [putAll, Act.put, List.setIfInBounds_toArray, List.set_cons_zero, List.set_cons_succ]) (hCont (.slice Ao32 t282.length co32, .slice Ao33 t287.length co33, .slice Ao34 t290.length co34, v298, v303, v306, gb308) _ ⟨hHeld, z53_, z54_, z55_, z56_, z57_, z58_, bk_ BK279.out, bk_ BK280.out, bk_ BK308.out, GW308.out, GE308.out, NB279_308.out, NB308_279.out, NB280_308.out, NB308_280.out, z2_⟩)
    rintro ⟨v283, v288, v291, v298, v303, v306, gb308⟩ w36 ⟨hS_, h0_, h1_, h2_, h3_, h4_, h5_, h6_, h7_, h8_, h9_, h10_, h11_, h12_, h13_, h14_, h15_⟩
    have n0_ : Aside0 (Kd.R k88 88 w36 w.heap.size (fun k_ => some k_ ≠ (v298 : Value).ownBlock) v283 t282) := ⟨h0_⟩
    have n1_ : Aside0 (Kd.R k136 136 w36 w.heap.size (fun k_ => some k_ ≠ (v303 : Value).ownBlock) v288 t287) := ⟨h1_⟩
    have n2_ : Aside0 (Kd.R k67 67 w36 w.heap.size (fun k_ => some k_ ≠ (v306 : Value).ownBlock) v291 t290) := ⟨h2_⟩
    have n3_ : Aside0 (Kd.R k88 88 w36 w.heap.size (fun k_ => some k_ ≠ (v283 : Value).ownBlock) v298 t297) := ⟨h3_⟩
    have n4_ : Aside0 (Kd.R k136 136 w36 w.heap.size (fun k_ => some k_ ≠ (v288 : Value).ownBlock) v303 t302) := ⟨h4_⟩
    have n5_ : Aside0 (Kd.R k67 67 w36 w.heap.size (fun k_ => some k_ ≠ (v291 : Value).ownBlock) v306 t305) := ⟨h5_⟩
    have n6_ : Aside0 (w36.heap[gb279]? = some (.cells #[.slice A0_0 l0_0.length c0_0, .int .i64 a0_1, .bool a0_2, .slice A0_3 l0_3.length c0_3, .slice A0_4 l0_4.length c0_4] 59 (0, 0))) := ⟨h6_⟩
    have n7_ : Aside0 (w36.heap[gb280]? = some (.cells #[.int .i64 a1_0, .int .i64 a1_1, .int .i64 a1_2, .int .i64 a1_3] 65 (0, 0))) := ⟨h7_⟩
    have n8_ : Aside0 (w36.heap[gb308]? = some (.cells #[.slice none 0 0, .int .i64 0, .bool false, .slice none 0 0, .slice none 0 0] 36 (0, 0))) := ⟨h8_⟩
    have n9_ : Aside0 (w.heap.size ≤ gb308) := ⟨h9_⟩
    have n10_ : Aside0 (w.heap.size ≤ gb308) := ⟨h10_⟩
    have n11_ : Aside0 (gb279 ≠ gb308) := ⟨h11_⟩
    have n12_ : Aside0 (gb308 ≠ gb279) := ⟨h12_⟩
    have n13_ : Aside0 (gb280 ≠ gb308) := ⟨h13_⟩
    have n14_ : Aside0 (gb308 ≠ gb280) := ⟨h14_⟩
    have n15_ : Aside0 (Below w.heap.size w w36) := ⟨h15_⟩
    clear BK279 BK280 HB h0_ h1_ h2_ h3_ h4_ h5_ h6_ h7_ h8_ h9_ h10_ h11_ h12_ h13_ h14_ h15_
    have HO284 := n0_
    have HO289 := n1_
    have HO292 := n2_
    have HO299 := n3_
    have HO304 := n4_
    have HO307 := n5_
    have BK279 := n6_
    have BK280 := n7_
    have BK308 := n8_
    have GW308 := n9_
    have GE308 := n10_
    have NB279_308 := n11_
    have NB308_279 := n12_
    have NB280_308 := n13_
    have NB308_280 := n14_
    have HB := n15_
    clear n0_ n1_ n2_ n3_ n4_ n5_ n6_ n7_ n8_ n9_ n10_ n11_ n12_ n13_ n14_ n15_
    have hHeld : w36.cell? ⟨gb279, 0, none⟩ = some (.slice A0_0 l0_0.length c0_0) ∧ w36.cell? ⟨gb279, 1, none⟩ = some (.int .i64 a0_1) ∧ w36.cell? ⟨gb279, 2, none⟩ = some (.bool a0_2) ∧ w36.cell? ⟨gb279, 3, none⟩ = some (.slice A0_3 l0_3.length c0_3) ∧ w36.cell? ⟨gb279, 4, none⟩ = some (.slice A0_4 l0_4.length c0_4) ∧ w36.cell? ⟨gb280, 0, none⟩ = some (.int .i64 a1_0) ∧ w36.cell? ⟨gb280, 1, none⟩ = some (.int .i64 a1_1) ∧ w36.cell? ⟨gb280, 2, none⟩ = some (.int .i64 a1_2) ∧ w36.cell? ⟨gb280, 3, none⟩ = some (.int .i64 a1_3) := hS_
    obtain ⟨Ao37, co37, eo37⟩ := Kd.R_slice HO299.out
    (first | subst eo37 | (injection eo37 with f1_ f2_ f3_; have f4_ := f1_.symm; have f5_ := f3_.symm; clear f1_ f2_ f3_; subst f4_; subst f5_))
    obtain ⟨Ao41, co41, eo41⟩ := Kd.R_slice HO304.out
    (first | subst eo41 | (injection eo41 with f1_ f2_ f3_; have f4_ := f1_.symm; have f5_ := f3_.symm; clear f1_ f2_ f3_; subst f4_; subst f5_))
    obtain ⟨Ao43, co43, eo43⟩ := Kd.R_slice HO307.out
    (first | subst eo43 | (injection eo43 with f1_ f2_ f3_; have f4_ := f1_.symm; have f5_ := f3_.symm; clear f1_ f2_ f3_; subst f4_; subst f5_))
    refine norm_ (a' := ?_) ?_ ?_
    rotate_left
    ·
     simp only [putAll, Act.put, List.setIfInBounds_toArray, List.set_cons_zero, List.set_cons_succ]
     rfl
    refine one_ (i := 6) (N := none) #[true, true, true, true, true, true, true] rfl rfl (by kernel_rfl) (by decide) (fun K hK => ?_)
    have hs38 : w36.cell? ⟨gb308, 0, none⟩ = some (.slice none 0 0) := (blk_cell BK308.out 0).trans rfl
    have hfs38 := blk_frozen BK308.out 0
    have hns38_0 := NB279_308.out
    have hns38_1 := NB280_308.out
    have hms38_0 := NB308_279.out
    have hms38_1 := NB308_280.out
    have hs39 : w36.cell? ⟨gb308, 1, none⟩ = some (.int .i64 0) := (blk_cell BK308.out 1).trans rfl
    have hfs39 := blk_frozen BK308.out 1
    have hns39_0 := NB279_308.out
    have hns39_1 := NB280_308.out
    have hms39_0 := NB308_279.out
    have hms39_1 := NB308_280.out
    have hs40 : w36.cell? ⟨gb308, 2, none⟩ = some (.bool false) := (blk_cell BK308.out 2).trans rfl
    have hfs40 := blk_frozen BK308.out 2
    have hns40_0 := NB279_308.out
    have hns40_1 := NB280_308.out
    have hms40_0 := NB308_279.out
    have hms40_1 := NB308_280.out
    have hs42 : w36.cell? ⟨gb308, 3, none⟩ = some (.slice none 0 0) := (blk_cell BK308.out 3).trans rfl
    have hfs42 := blk_frozen BK308.out 3
    have hns42_0 := NB279_308.out
    have hns42_1 := NB280_308.out
    have hms42_0 := NB308_279.out
    have hms42_1 := NB308_280.out
    have hs44 : w36.cell? ⟨gb308, 4, none⟩ = some (.slice none 0 0) := (blk_cell BK308.out 4).trans rfl
    have hfs44 := blk_frozen BK308.out 4
    have hns44_0 := NB279_308.out
    have hns44_1 := NB280_308.out
    have hms44_0 := NB308_279.out
    have hms44_1 := NB308_280.out
    refine skip_ (w1 := ?_) (by rfl) rfl ?_ ?_
    rotate_left
    ·
     go_simp
     rfl
    refine hK.out _ _ ⟨((cell_far (p := ⟨gb308, _, none⟩) NB279_308.out _).trans (((cell_far (p := ⟨gb308, _, none⟩) NB279_308.out _).trans (((cell_far (p := ⟨gb308, _, none⟩) NB279_308.out _).trans (((cell_far (p := ⟨gb308, _, none⟩) NB279_308.out _).trans (((cell_far (p := ⟨gb308, _, none⟩) NB279_308.out _).trans (hHeld.1)))))))))), ((cell_far (p := ⟨gb308, _, none⟩) NB279_308.out _).trans (((cell_far (p := ⟨gb308, _, none⟩) NB279_308.out _).trans (((cell_far (p := ⟨gb308, _, none⟩) NB279_308.out _).trans (((cell_far (p := ⟨gb308, _, none⟩) NB279_308.out _).trans (((cell_far (p := ⟨gb308, _, none⟩) NB279_308.out _).trans (hHeld.2.1)))))))))), ((cell_far (p := ⟨gb308, _, none⟩) NB279_308.out _).trans (((cell_far (p := ⟨gb308, _, none⟩) NB279_308.out _).trans (((cell_far (p := ⟨gb308, _, none⟩) NB279_308.out _).trans (((cell_far (p := ⟨gb308, _, none⟩) NB279_308.out _).trans (((cell_far (p := ⟨gb308, _, none⟩) NB279_308.out _).trans (hHeld.2.2.1)))))))))), ((cell_far (p := ⟨gb308, _, none⟩) NB279_308.out _).trans (((cell_far (p := ⟨gb308, _, none⟩) NB279_308.out _).trans (((cell_far (p := ⟨gb308, _, none⟩) NB279_308.out _).trans (((cell_far (p := ⟨gb308, _, none⟩) NB279_308.out _).trans (((cell_far (p := ⟨gb308, _, none⟩) NB279_308.out _).trans (hHeld.2.2.2.1)))))))))), ((cell_far (p := ⟨gb308, _, none⟩) NB279_308.out _).trans (((cell_far (p := ⟨gb308, _, none⟩) NB279_308.out _).trans (((cell_far (p := ⟨gb308, _, none⟩) NB279_308.out _).trans (((cell_far (p := ⟨gb308, _, none⟩) NB279_308.out _).trans (((cell_far (p := ⟨gb308, _, none⟩) NB279_308.out _).trans (hHeld.2.2.2.2.1)))))))))), ((cell_far (p := ⟨gb308, _, none⟩) NB280_308.out _).trans (((cell_far (p := ⟨gb308, _, none⟩) NB280_308.out _).trans (((cell_far (p := ⟨gb308, _, none⟩) NB280_308.out _).trans (((cell_far (p := ⟨gb308, _, none⟩) NB280_308.out _).trans (((cell_far (p := ⟨gb308, _, none⟩) NB280_308.out _).trans (hHeld.2.2.2.2.2.1)))))))))), ((cell_far (p := ⟨gb308, _, none⟩) NB280_308.out _).trans (((cell_far (p := ⟨gb308, _, none⟩) NB280_308.out _).trans (((cell_far (p := ⟨gb308, _, none⟩) NB280_308.out _).trans (((cell_far (p := ⟨gb308, _, none⟩) NB280_308.out _).trans (((cell_far (p := ⟨gb308, _, none⟩) NB280_308.out _).trans (hHeld.2.2.2.2.2.2.1)))))))))), ((cell_far (p := ⟨gb308, _, none⟩) NB280_308.out _).trans (((cell_far (p := ⟨gb308, _, none⟩) NB280_308.out _).trans (((cell_far (p := ⟨gb308, _, none⟩) NB280_308.out _).trans (((cell_far (p := ⟨gb308, _, none⟩) NB280_308.out _).trans (((cell_far (p := ⟨gb308, _, none⟩) NB280_308.out _).trans (hHeld.2.2.2.2.2.2.2.1)))))))))), ((cell_far (p := ⟨gb308, _, none⟩) NB280_308.out _).trans (((cell_far (p := ⟨gb308, _, none⟩) NB280_308.out _).trans (((cell_far (p := ⟨gb308, _, none⟩) NB280_308.out _).trans (((cell_far (p := ⟨gb308, _, none⟩) NB280_308.out _).trans (((cell_far (p := ⟨gb308, _, none⟩) NB280_308.out _).trans (hHeld.2.2.2.2.2.2.2.2))))))))))⟩ (fun hHeld => ?_)
    clear hK K
    refine done_ (by kernel_rfl) ?_
    have hnb45 := NB279_308.out
    have hnc45 := NB308_279.out
    have hcz46_0 : w36.cell? ⟨gb279, 0, none⟩ = some (.slice A0_0 l0_0.length c0_0) := (blk_cell BK279.out 0).trans rfl
    have hcz46_1 : w36.cell? ⟨gb279, 1, none⟩ = some (.int .i64 a0_1) := (blk_cell BK279.out 1).trans rfl
    have hcz46_2 : w36.cell? ⟨gb279, 2, none⟩ = some (.bool a0_2) := (blk_cell BK279.out 2).trans rfl
    have hcz46_3 : w36.cell? ⟨gb279, 3, none⟩ = some (.slice A0_3 l0_3.length c0_3) := (blk_cell BK279.out 3).trans rfl
    have hcz46_4 : w36.cell? ⟨gb279, 4, none⟩ = some (.slice A0_4 l0_4.length c0_4) := (blk_cell BK279.out 4).trans rfl
    have hfz46_0 := blk_frozen BK279.out 0
    have hfz46_1 := blk_frozen BK279.out 1
    have hfz46_2 := blk_frozen BK279.out 2
    have hfz46_3 := blk_frozen BK279.out 3
    have hfz46_4 := blk_frozen BK279.out 4
    try go_wp2_with (first | ((with_reducible refine gate_callee (f := 39) rfl ?_); refine goesL_ (some 24) rfl rfl Try.func39 (by kernel_rfl) rfl #[.agg #[.slice A0_0 l0_0.length c0_0, .int .i64 a0_1, .bool a0_2, .slice A0_3 l0_3.length c0_3, .slice A0_4 l0_4.length c0_4]] rfl z4_ ?_; (with_reducible refine (laws_toThread.calls k _ _ l0_0 a0_1 a0_2 _ _ l0_3 _ _ l0_4 t309 t312 t313 t314 t317 _ ?side1 ?side2 ?side3 ?side4 ?side5 ?side6 A13.out).mono ?_); (case side1 => exact Kd.C_below HR0_0.out z2_); (case side2 => exact HC0_0.out); (case side3 => exact Kd.C_below HR0_3.out z2_); (case side4 => exact HC0_3.out); (case side5 => exact Kd.C_below HR0_4.out z2_); (case side6 => exact HC0_4.out); rintro e w47 ⟨v310, v315, v318, rfl, ho0, ho1, ho2, hb⟩; refine ⟨_, rfl, ?_⟩; have n0_ := Aside0.mk (Kd.R_elder' z24_ (Kd.R_base ho0) hb); have n1_ := Aside0.mk (Kd.R_elder' z25_ (Kd.R_base ho1) hb); have n2_ := Aside0.mk (Kd.R_elder' z26_ (Kd.R_base ho2) hb); have n3_ := Aside0.mk (Kd.R_elder' z27_ (Kd.R_base ho0) hb); have n4_ := Aside0.mk (Kd.R_elder' z28_ (Kd.R_base ho1) hb); have n5_ := Aside0.mk (Kd.R_elder' z29_ (Kd.R_base ho2) hb); have n6_ := Aside0.mk (Kd.R_lower (Kd.R_new' (Kd.R_new' ho0 (Kd.R_lt z24_)) (Kd.R_lt z27_)) (below_size z2_)); have n7_ := Aside0.mk (Kd.R_lower (Kd.R_new' (Kd.R_new' ho1 (Kd.R_lt z25_)) (Kd.R_lt z28_)) (below_size z2_)); have n8_ := Aside0.mk (Kd.R_lower (Kd.R_new' (Kd.R_new' ho2 (Kd.R_lt z26_)) (Kd.R_lt z29_)) (below_size z2_)); have n9_ := Aside0.mk (blk_below (g := gb279) (o := .cells #[.slice A0_0 l0_0.length c0_0, .int .i64 a0_1, .bool a0_2, .slice A0_3 l0_3.length c0_3, .slice A0_4 l0_4.length c0_4] 59 (0, 0)) (by (with_reducible repeat (first | refine blk_drewN ?_ _ | refine blk_drew ?_ | refine blk_alloc ?_ _)); refine blk_far ?_ NB279_308.out _; (with_reducible repeat (first | refine blk_drewN ?_ _ | refine blk_drew ?_ | refine blk_alloc ?_ _)); refine blk_far ?_ NB279_308.out _; (with_reducible repeat (first | refine blk_drewN ?_ _ | refine blk_drew ?_ | refine blk_alloc ?_ _)); refine blk_far ?_ NB279_308.out _; (with_reducible repeat (first | refine blk_drewN ?_ _ | refine blk_drew ?_ | refine blk_alloc ?_ _)); refine blk_far ?_ NB279_308.out _; (with_reducible repeat (first | refine blk_drewN ?_ _ | refine blk_drew ?_ | refine blk_alloc ?_ _)); refine blk_far ?_ NB279_308.out _; (with_reducible repeat (first | refine blk_drewN ?_ _ | refine blk_drew ?_ | refine blk_alloc ?_ _)); exact BK279.out) hb); have n10_ := Aside0.mk (blk_below (g := gb280) (o := .cells #[.int .i64 a1_0, .int .i64 a1_1, .int .i64 a1_2, .int .i64 a1_3] 65 (0, 0)) (by (with_reducible repeat (first | refine blk_drewN ?_ _ | refine blk_drew ?_ | refine blk_alloc ?_ _)); refine blk_far ?_ NB280_308.out _; (with_reducible repeat (first | refine blk_drewN ?_ _ | refine blk_drew ?_ | refine blk_alloc ?_ _)); refine blk_far ?_ NB280_308.out _; (with_reducible repeat (first | refine blk_drewN ?_ _ | refine blk_drew ?_ | refine blk_alloc ?_ _)); refine blk_far ?_ NB280_308.out _; (with_reducible repeat (first | refine blk_drewN ?_ _ | refine blk_drew ?_ | refine blk_alloc ?_ _)); refine blk_far ?_ NB280_308.out _; (with_reducible repeat (first | refine blk_drewN ?_ _ | refine blk_drew ?_ | refine blk_alloc ?_ _)); refine blk_far ?_ NB280_308.out _; (with_reducible repeat (first | refine blk_drewN ?_ _ | refine blk_drew ?_ | refine blk_alloc ?_ _)); exact BK280.out) hb); have n11_ := Aside0.mk (blk_below (g := gb308) (o := .cells #[.slice Ao37 t297.length co37, .int .i64 t300, .bool t301, .slice Ao41 t302.length co41, .slice Ao43 t305.length co43] 36 (0, 0)) (by (with_reducible repeat (first | refine blk_drewN ?_ _ | refine blk_drew ?_ | refine blk_alloc ?_ _)); refine blk_put (cs := #[.slice Ao37 t297.length co37, .int .i64 t300, .bool t301, .slice Ao41 t302.length co41, .slice none 0 0]) ?_ 4 _ rfl; (with_reducible repeat (first | refine blk_drewN ?_ _ | refine blk_drew ?_ | refine blk_alloc ?_ _)); refine blk_put (cs := #[.slice Ao37 t297.length co37, .int .i64 t300, .bool t301, .slice none 0 0, .slice none 0 0]) ?_ 3 _ rfl; (with_reducible repeat (first | refine blk_drewN ?_ _ | refine blk_drew ?_ | refine blk_alloc ?_ _)); refine blk_put (cs := #[.slice Ao37 t297.length co37, .int .i64 t300, .bool false, .slice none 0 0, .slice none 0 0]) ?_ 2 _ rfl; (with_reducible repeat (first | refine blk_drewN ?_ _ | refine blk_drew ?_ | refine blk_alloc ?_ _)); refine blk_put (cs := #[.slice Ao37 t297.length co37, .int .i64 0, .bool false, .slice none 0 0, .slice none 0 0]) ?_ 1 _ rfl; (with_reducible repeat (first | refine blk_drewN ?_ _ | refine blk_drew ?_ | refine blk_alloc ?_ _)); refine blk_put (cs := #[.slice none 0 0, .int .i64 0, .bool false, .slice none 0 0, .slice none 0 0]) ?_ 0 _ rfl; (with_reducible repeat (first | refine blk_drewN ?_ _ | refine blk_drew ?_ | refine blk_alloc ?_ _)); exact BK308.out) hb); have n12_ := Aside0.mk (below_step z2_ hb); clear HO284 HO289 HO292 HO299 HO304 HO307 BK279 BK280 BK308 HB; have HO284 := n0_; have HO289 := n1_; have HO292 := n2_; have HO299 := n3_; have HO304 := n4_; have HO307 := n5_; have HO311 := n6_; have HO316 := n7_; have HO319 := n8_; have BK279 := n9_; have BK280 := n10_; have BK308 := n11_; have HB := n12_; clear n0_ n1_ n2_ n3_ n4_ n5_ n6_ n7_ n8_ n9_ n10_ n11_ n12_; (try clear hb); (try clear hb2); (try clear hk); (try clear hi); (try clear ho0); (try clear ho1); (try clear ho2)) | ((with_reducible refine gate_dst (N := 7) rfl ?_); refine box_event ?hg (N := 7) ?hd (cs := #[.slice none 0 0, .int .i64 0, .bool false, .slice none 0 0, .slice none 0 0]) (t := 36) ?hr ?_; (case hd => rfl); (case hg => rfl); (case hr => first | (go_simp; done) | (go_simp; rfl)); intro gb320 hg w48 hbox hb; have n0_ := Aside0.mk (Kd.R_below (rb_ HO284.out) hb); have n1_ := Aside0.mk (Kd.R_below (rb_ HO289.out) hb); have n2_ := Aside0.mk (Kd.R_below (rb_ HO292.out) hb); have n3_ := Aside0.mk (Kd.R_below (rb_ HO299.out) hb); have n4_ := Aside0.mk (Kd.R_below (rb_ HO304.out) hb); have n5_ := Aside0.mk (Kd.R_below (rb_ HO307.out) hb); have n6_ := Aside0.mk (Kd.R_below (rb_ HO311.out) hb); have n7_ := Aside0.mk (Kd.R_below (rb_ HO316.out) hb); have n8_ := Aside0.mk (Kd.R_below (rb_ HO319.out) hb); have n9_ := Aside0.mk (blk_below (g := gb279) (o := .cells #[.slice A0_0 l0_0.length c0_0, .int .i64 a0_1, .bool a0_2, .slice A0_3 l0_3.length c0_3, .slice A0_4 l0_4.length c0_4] 59 (0, 0)) (bk_ BK279.out) hb); have n10_ := Aside0.mk (blk_below (g := gb280) (o := .cells #[.int .i64 a1_0, .int .i64 a1_1, .int .i64 a1_2, .int .i64 a1_3] 65 (0, 0)) (bk_ BK280.out) hb); have n11_ := Aside0.mk (blk_below (g := gb308) (o := .cells #[.slice Ao37 t297.length co37, .int .i64 t300, .bool t301, .slice Ao41 t302.length co41, .slice Ao43 t305.length co43] 36 (0, 0)) (bk_ BK308.out) hb); have n12_ := Aside0.mk (below_step z2_ hb); have n13_ := Aside0.mk (hbox); have n14_ := Aside0.mk ((by rw [hg]; exact (below_size z2_) : w.heap.size ≤ gb320)); have n15_ := Aside0.mk ((by rw [hg]; exact (below_size z2_) : w.heap.size ≤ gb320)); have n16_ := Aside0.mk ((z6_ : gb279 ≠ gb320)); have n17_ := Aside0.mk ((z7_ : gb320 ≠ gb279)); have n18_ := Aside0.mk ((z8_ : gb280 ≠ gb320)); have n19_ := Aside0.mk ((z9_ : gb320 ≠ gb280)); have n20_ := Aside0.mk ((z10_ : gb308 ≠ gb320)); have n21_ := Aside0.mk ((z11_ : gb320 ≠ gb308)); clear HO284 HO289 HO292 HO299 HO304 HO307 HO311 HO316 HO319 BK279 BK280 BK308 HB; have HO284 := n0_; have HO289 := n1_; have HO292 := n2_; have HO299 := n3_; have HO304 := n4_; have HO307 := n5_; have HO311 := n6_; have HO316 := n7_; have HO319 := n8_; have BK279 := n9_; have BK280 := n10_; have BK308 := n11_; have HB := n12_; have BK320 := n13_; have GW320 := n14_; have GE320 := n15_; have NB279_320 := n16_; have NB320_279 := n17_; have NB280_320 := n18_; have NB320_280 := n19_; have NB308_320 := n20_; have NB320_308 := n21_; clear n0_ n1_ n2_ n3_ n4_ n5_ n6_ n7_ n8_ n9_ n10_ n11_ n12_ n13_ n14_ n15_ n16_ n17_ n18_ n19_ n20_ n21_ hb hbox hg; obtain ⟨Ao49, co49, eo49⟩ := Kd.R_slice HO311.out; subst eo49; have hnb50 := NB320_279.out; have hnc50 := NB279_320.out; have hnb51 := NB320_280.out; have hnc51 := NB280_320.out; have hnb52 := NB320_308.out; have hnc52 := NB308_320.out; have hcz53_0 : w48.cell? ⟨gb320, 0, none⟩ = some (.slice none 0 0) := (blk_cell BK320.out 0).trans rfl; have hcz53_1 : w48.cell? ⟨gb320, 1, none⟩ = some (.int .i64 0) := (blk_cell BK320.out 1).trans rfl; have hcz53_2 : w48.cell? ⟨gb320, 2, none⟩ = some (.bool false) := (blk_cell BK320.out 2).trans rfl; have hcz53_3 : w48.cell? ⟨gb320, 3, none⟩ = some (.slice none 0 0) := (blk_cell BK320.out 3).trans rfl; have hcz53_4 : w48.cell? ⟨gb320, 4, none⟩ = some (.slice none 0 0) := (blk_cell BK320.out 4).trans rfl; have hfz53_0 := blk_frozen BK320.out 0; have hfz53_1 := blk_frozen BK320.out 1; have hfz53_2 := blk_frozen BK320.out 2; have hfz53_3 := blk_frozen BK320.out 3; have hfz53_4 := blk_frozen BK320.out 4; obtain ⟨Ao54, co54, eo54⟩ := Kd.R_slice HO316.out; subst eo54; obtain ⟨Ao55, co55, eo55⟩ := Kd.R_slice HO319.out; subst eo55))
    have n0_ : Aside0 (Kd.R k88 88 (((((w48.setCell ⟨gb320, 0, none⟩ (.slice Ao49 t309.length co49)).setCell ⟨gb320, 1, none⟩ (.int .i64 t312)).setCell ⟨gb320, 2, none⟩ (.bool t313)).setCell ⟨gb320, 3, none⟩ (.slice Ao54 t314.length co54)).setCell ⟨gb320, 4, none⟩ (.slice Ao55 t317.length co55)) w.heap.size (fun k_ => some k_ ≠ (.slice Ao37 t297.length co37 : Value).ownBlock ∧ some k_ ≠ (.slice Ao49 t309.length co49 : Value).ownBlock) v283 t282) := ⟨by (with_reducible repeat (first | apply Kd.R_alloc | apply Kd.R_drewN | apply Kd.R_drew)); exact Kd.R_mono (Kd.R_far (p := ⟨gb320, 4, none⟩) (Kd.R_far (p := ⟨gb320, 3, none⟩) (Kd.R_far (p := ⟨gb320, 2, none⟩) (Kd.R_far (p := ⟨gb320, 1, none⟩) (Kd.R_far (p := ⟨gb320, 0, none⟩) (Kd.R_types HO284.out BK320.out (by decide)) (fun _ hk => hk.2) (.slice Ao49 t309.length co49)) (fun _ hk => hk.2) (.int .i64 t312)) (fun _ hk => hk.2) (.bool t313)) (fun _ hk => hk.2) (.slice Ao54 t314.length co54)) (fun _ hk => hk.2) (.slice Ao55 t317.length co55)) (fun _ hk => ⟨hk.1.1, hk.1.2⟩)⟩
    have n1_ : Aside0 (Kd.R k136 136 (((((w48.setCell ⟨gb320, 0, none⟩ (.slice Ao49 t309.length co49)).setCell ⟨gb320, 1, none⟩ (.int .i64 t312)).setCell ⟨gb320, 2, none⟩ (.bool t313)).setCell ⟨gb320, 3, none⟩ (.slice Ao54 t314.length co54)).setCell ⟨gb320, 4, none⟩ (.slice Ao55 t317.length co55)) w.heap.size (fun k_ => some k_ ≠ (.slice Ao41 t302.length co41 : Value).ownBlock ∧ some k_ ≠ (.slice Ao54 t314.length co54 : Value).ownBlock) v288 t287) := ⟨by (with_reducible repeat (first | apply Kd.R_alloc | apply Kd.R_drewN | apply Kd.R_drew)); exact Kd.R_mono (Kd.R_far (p := ⟨gb320, 4, none⟩) (Kd.R_far (p := ⟨gb320, 3, none⟩) (Kd.R_far (p := ⟨gb320, 2, none⟩) (Kd.R_far (p := ⟨gb320, 1, none⟩) (Kd.R_far (p := ⟨gb320, 0, none⟩) (Kd.R_types HO289.out BK320.out (by decide)) (fun _ hk => hk.2) (.slice Ao49 t309.length co49)) (fun _ hk => hk.2) (.int .i64 t312)) (fun _ hk => hk.2) (.bool t313)) (fun _ hk => hk.2) (.slice Ao54 t314.length co54)) (fun _ hk => hk.2) (.slice Ao55 t317.length co55)) (fun _ hk => ⟨hk.1.1, hk.1.2⟩)⟩
    have n2_ : Aside0 (Kd.R k67 67 (((((w48.setCell ⟨gb320, 0, none⟩ (.slice Ao49 t309.length co49)).setCell ⟨gb320, 1, none⟩ (.int .i64 t312)).setCell ⟨gb320, 2, none⟩ (.bool t313)).setCell ⟨gb320, 3, none⟩ (.slice Ao54 t314.length co54)).setCell ⟨gb320, 4, none⟩ (.slice Ao55 t317.length co55)) w.heap.size (fun k_ => some k_ ≠ (.slice Ao43 t305.length co43 : Value).ownBlock ∧ some k_ ≠ (.slice Ao55 t317.length co55 : Value).ownBlock) v291 t290) := ⟨by (with_reducible repeat (first | apply Kd.R_alloc | apply Kd.R_drewN | apply Kd.R_drew)); exact Kd.R_mono (Kd.R_far (p := ⟨gb320, 4, none⟩) (Kd.R_far (p := ⟨gb320, 3, none⟩) (Kd.R_far (p := ⟨gb320, 2, none⟩) (Kd.R_far (p := ⟨gb320, 1, none⟩) (Kd.R_far (p := ⟨gb320, 0, none⟩) (Kd.R_types HO292.out BK320.out (by decide)) (fun _ hk => hk.2) (.slice Ao49 t309.length co49)) (fun _ hk => hk.2) (.int .i64 t312)) (fun _ hk => hk.2) (.bool t313)) (fun _ hk => hk.2) (.slice Ao54 t314.length co54)) (fun _ hk => hk.2) (.slice Ao55 t317.length co55)) (fun _ hk => ⟨hk.1.1, hk.1.2⟩)⟩
    have n3_ : Aside0 (Kd.R k88 88 (((((w48.setCell ⟨gb320, 0, none⟩ (.slice Ao49 t309.length co49)).setCell ⟨gb320, 1, none⟩ (.int .i64 t312)).setCell ⟨gb320, 2, none⟩ (.bool t313)).setCell ⟨gb320, 3, none⟩ (.slice Ao54 t314.length co54)).setCell ⟨gb320, 4, none⟩ (.slice Ao55 t317.length co55)) w.heap.size (fun k_ => some k_ ≠ (v283 : Value).ownBlock ∧ some k_ ≠ (.slice Ao49 t309.length co49 : Value).ownBlock) (.slice Ao37 t297.length co37) t297) := ⟨by (with_reducible repeat (first | apply Kd.R_alloc | apply Kd.R_drewN | apply Kd.R_drew)); exact Kd.R_mono (Kd.R_far (p := ⟨gb320, 4, none⟩) (Kd.R_far (p := ⟨gb320, 3, none⟩) (Kd.R_far (p := ⟨gb320, 2, none⟩) (Kd.R_far (p := ⟨gb320, 1, none⟩) (Kd.R_far (p := ⟨gb320, 0, none⟩) (Kd.R_types HO299.out BK320.out (by decide)) (fun _ hk => hk.2) (.slice Ao49 t309.length co49)) (fun _ hk => hk.2) (.int .i64 t312)) (fun _ hk => hk.2) (.bool t313)) (fun _ hk => hk.2) (.slice Ao54 t314.length co54)) (fun _ hk => hk.2) (.slice Ao55 t317.length co55)) (fun _ hk => ⟨hk.1.1, hk.1.2⟩)⟩
    have n4_ : Aside0 (Kd.R k136 136 (((((w48.setCell ⟨gb320, 0, none⟩ (.slice Ao49 t309.length co49)).setCell ⟨gb320, 1, none⟩ (.int .i64 t312)).setCell ⟨gb320, 2, none⟩ (.bool t313)).setCell ⟨gb320, 3, none⟩ (.slice Ao54 t314.length co54)).setCell ⟨gb320, 4, none⟩ (.slice Ao55 t317.length co55)) w.heap.size (fun k_ => some k_ ≠ (v288 : Value).ownBlock ∧ some k_ ≠ (.slice Ao54 t314.length co54 : Value).ownBlock) (.slice Ao41 t302.length co41) t302) := ⟨by (with_reducible repeat (first | apply Kd.R_alloc | apply Kd.R_drewN | apply Kd.R_drew)); exact Kd.R_mono (Kd.R_far (p := ⟨gb320, 4, none⟩) (Kd.R_far (p := ⟨gb320, 3, none⟩) (Kd.R_far (p := ⟨gb320, 2, none⟩) (Kd.R_far (p := ⟨gb320, 1, none⟩) (Kd.R_far (p := ⟨gb320, 0, none⟩) (Kd.R_types HO304.out BK320.out (by decide)) (fun _ hk => hk.2) (.slice Ao49 t309.length co49)) (fun _ hk => hk.2) (.int .i64 t312)) (fun _ hk => hk.2) (.bool t313)) (fun _ hk => hk.2) (.slice Ao54 t314.length co54)) (fun _ hk => hk.2) (.slice Ao55 t317.length co55)) (fun _ hk => ⟨hk.1.1, hk.1.2⟩)⟩
    have n5_ : Aside0 (Kd.R k67 67 (((((w48.setCell ⟨gb320, 0, none⟩ (.slice Ao49 t309.length co49)).setCell ⟨gb320, 1, none⟩ (.int .i64 t312)).setCell ⟨gb320, 2, none⟩ (.bool t313)).setCell ⟨gb320, 3, none⟩ (.slice Ao54 t314.length co54)).setCell ⟨gb320, 4, none⟩ (.slice Ao55 t317.length co55)) w.heap.size (fun k_ => some k_ ≠ (v291 : Value).ownBlock ∧ some k_ ≠ (.slice Ao55 t317.length co55 : Value).ownBlock) (.slice Ao43 t305.length co43) t305) := ⟨by (with_reducible repeat (first | apply Kd.R_alloc | apply Kd.R_drewN | apply Kd.R_drew)); exact Kd.R_mono (Kd.R_far (p := ⟨gb320, 4, none⟩) (Kd.R_far (p := ⟨gb320, 3, none⟩) (Kd.R_far (p := ⟨gb320, 2, none⟩) (Kd.R_far (p := ⟨gb320, 1, none⟩) (Kd.R_far (p := ⟨gb320, 0, none⟩) (Kd.R_types HO307.out BK320.out (by decide)) (fun _ hk => hk.2) (.slice Ao49 t309.length co49)) (fun _ hk => hk.2) (.int .i64 t312)) (fun _ hk => hk.2) (.bool t313)) (fun _ hk => hk.2) (.slice Ao54 t314.length co54)) (fun _ hk => hk.2) (.slice Ao55 t317.length co55)) (fun _ hk => ⟨hk.1.1, hk.1.2⟩)⟩
    have n6_ : Aside0 (Kd.R k88 88 (((((w48.setCell ⟨gb320, 0, none⟩ (.slice Ao49 t309.length co49)).setCell ⟨gb320, 1, none⟩ (.int .i64 t312)).setCell ⟨gb320, 2, none⟩ (.bool t313)).setCell ⟨gb320, 3, none⟩ (.slice Ao54 t314.length co54)).setCell ⟨gb320, 4, none⟩ (.slice Ao55 t317.length co55)) w.heap.size (fun k_ => some k_ ≠ (v283 : Value).ownBlock ∧ some k_ ≠ (.slice Ao37 t297.length co37 : Value).ownBlock) (.slice Ao49 t309.length co49) t309) := ⟨by (with_reducible repeat (first | apply Kd.R_alloc | apply Kd.R_drewN | apply Kd.R_drew)); exact Kd.R_mono (Kd.R_far (p := ⟨gb320, 4, none⟩) (Kd.R_far (p := ⟨gb320, 3, none⟩) (Kd.R_far (p := ⟨gb320, 2, none⟩) (Kd.R_far (p := ⟨gb320, 1, none⟩) (Kd.R_far (p := ⟨gb320, 0, none⟩) (Kd.R_types HO311.out BK320.out (by decide)) (fun _ hk => hk.2) (.slice Ao49 t309.length co49)) (fun _ hk => hk.2) (.int .i64 t312)) (fun _ hk => hk.2) (.bool t313)) (fun _ hk => hk.2) (.slice Ao54 t314.length co54)) (fun _ hk => hk.2) (.slice Ao55 t317.length co55)) (fun _ hk => ⟨hk.1.1.2, hk.1.2⟩)⟩
    have n7_ : Aside0 (Kd.R k136 136 (((((w48.setCell ⟨gb320, 0, none⟩ (.slice Ao49 t309.length co49)).setCell ⟨gb320, 1, none⟩ (.int .i64 t312)).setCell ⟨gb320, 2, none⟩ (.bool t313)).setCell ⟨gb320, 3, none⟩ (.slice Ao54 t314.length co54)).setCell ⟨gb320, 4, none⟩ (.slice Ao55 t317.length co55)) w.heap.size (fun k_ => some k_ ≠ (v288 : Value).ownBlock ∧ some k_ ≠ (.slice Ao41 t302.length co41 : Value).ownBlock) (.slice Ao54 t314.length co54) t314) := ⟨by (with_reducible repeat (first | apply Kd.R_alloc | apply Kd.R_drewN | apply Kd.R_drew)); exact Kd.R_mono (Kd.R_far (p := ⟨gb320, 4, none⟩) (Kd.R_far (p := ⟨gb320, 3, none⟩) (Kd.R_far (p := ⟨gb320, 2, none⟩) (Kd.R_far (p := ⟨gb320, 1, none⟩) (Kd.R_far (p := ⟨gb320, 0, none⟩) (Kd.R_types HO316.out BK320.out (by decide)) (fun _ hk => hk.2) (.slice Ao49 t309.length co49)) (fun _ hk => hk.2) (.int .i64 t312)) (fun _ hk => hk.2) (.bool t313)) (fun _ hk => hk.2) (.slice Ao54 t314.length co54)) (fun _ hk => hk.2) (.slice Ao55 t317.length co55)) (fun _ hk => ⟨hk.1.1.2, hk.1.2⟩)⟩
    have n8_ : Aside0 (Kd.R k67 67 (((((w48.setCell ⟨gb320, 0, none⟩ (.slice Ao49 t309.length co49)).setCell ⟨gb320, 1, none⟩ (.int .i64 t312)).setCell ⟨gb320, 2, none⟩ (.bool t313)).setCell ⟨gb320, 3, none⟩ (.slice Ao54 t314.length co54)).setCell ⟨gb320, 4, none⟩ (.slice Ao55 t317.length co55)) w.heap.size (fun k_ => some k_ ≠ (v291 : Value).ownBlock ∧ some k_ ≠ (.slice Ao43 t305.length co43 : Value).ownBlock) (.slice Ao55 t317.length co55) t317) := ⟨by (with_reducible repeat (first | apply Kd.R_alloc | apply Kd.R_drewN | apply Kd.R_drew)); exact Kd.R_mono (Kd.R_far (p := ⟨gb320, 4, none⟩) (Kd.R_far (p := ⟨gb320, 3, none⟩) (Kd.R_far (p := ⟨gb320, 2, none⟩) (Kd.R_far (p := ⟨gb320, 1, none⟩) (Kd.R_far (p := ⟨gb320, 0, none⟩) (Kd.R_types HO319.out BK320.out (by decide)) (fun _ hk => hk.2) (.slice Ao49 t309.length co49)) (fun _ hk => hk.2) (.int .i64 t312)) (fun _ hk => hk.2) (.bool t313)) (fun _ hk => hk.2) (.slice Ao54 t314.length co54)) (fun _ hk => hk.2) (.slice Ao55 t317.length co55)) (fun _ hk => ⟨hk.1.1.2, hk.1.2⟩)⟩
    have n9_ : Aside0 ((((((w48.setCell ⟨gb320, 0, none⟩ (.slice Ao49 t309.length co49)).setCell ⟨gb320, 1, none⟩ (.int .i64 t312)).setCell ⟨gb320, 2, none⟩ (.bool t313)).setCell ⟨gb320, 3, none⟩ (.slice Ao54 t314.length co54)).setCell ⟨gb320, 4, none⟩ (.slice Ao55 t317.length co55)).heap[gb279]? = some (.cells #[.slice A0_0 l0_0.length c0_0, .int .i64 a0_1, .bool a0_2, .slice A0_3 l0_3.length c0_3, .slice A0_4 l0_4.length c0_4] 59 (0, 0))) := ⟨by (with_reducible repeat (first | refine blk_drewN ?_ _ | refine blk_drew ?_ | refine blk_alloc ?_ _)); refine blk_far ?_ NB279_320.out _; (with_reducible repeat (first | refine blk_drewN ?_ _ | refine blk_drew ?_ | refine blk_alloc ?_ _)); refine blk_far ?_ NB279_320.out _; (with_reducible repeat (first | refine blk_drewN ?_ _ | refine blk_drew ?_ | refine blk_alloc ?_ _)); refine blk_far ?_ NB279_320.out _; (with_reducible repeat (first | refine blk_drewN ?_ _ | refine blk_drew ?_ | refine blk_alloc ?_ _)); refine blk_far ?_ NB279_320.out _; (with_reducible repeat (first | refine blk_drewN ?_ _ | refine blk_drew ?_ | refine blk_alloc ?_ _)); refine blk_far ?_ NB279_320.out _; (with_reducible repeat (first | refine blk_drewN ?_ _ | refine blk_drew ?_ | refine blk_alloc ?_ _)); exact BK279.out⟩
    have n10_ : Aside0 ((((((w48.setCell ⟨gb320, 0, none⟩ (.slice Ao49 t309.length co49)).setCell ⟨gb320, 1, none⟩ (.int .i64 t312)).setCell ⟨gb320, 2, none⟩ (.bool t313)).setCell ⟨gb320, 3, none⟩ (.slice Ao54 t314.length co54)).setCell ⟨gb320, 4, none⟩ (.slice Ao55 t317.length co55)).heap[gb280]? = some (.cells #[.int .i64 a1_0, .int .i64 a1_1, .int .i64 a1_2, .int .i64 a1_3] 65 (0, 0))) := ⟨by (with_reducible repeat (first | refine blk_drewN ?_ _ | refine blk_drew ?_ | refine blk_alloc ?_ _)); refine blk_far ?_ NB280_320.out _; (with_reducible repeat (first | refine blk_drewN ?_ _ | refine blk_drew ?_ | refine blk_alloc ?_ _)); refine blk_far ?_ NB280_320.out _; (with_reducible repeat (first | refine blk_drewN ?_ _ | refine blk_drew ?_ | refine blk_alloc ?_ _)); refine blk_far ?_ NB280_320.out _; (with_reducible repeat (first | refine blk_drewN ?_ _ | refine blk_drew ?_ | refine blk_alloc ?_ _)); refine blk_far ?_ NB280_320.out _; (with_reducible repeat (first | refine blk_drewN ?_ _ | refine blk_drew ?_ | refine blk_alloc ?_ _)); refine blk_far ?_ NB280_320.out _; (with_reducible repeat (first | refine blk_drewN ?_ _ | refine blk_drew ?_ | refine blk_alloc ?_ _)); exact BK280.out⟩
    have n11_ : Aside0 ((((((w48.setCell ⟨gb320, 0, none⟩ (.slice Ao49 t309.length co49)).setCell ⟨gb320, 1, none⟩ (.int .i64 t312)).setCell ⟨gb320, 2, none⟩ (.bool t313)).setCell ⟨gb320, 3, none⟩ (.slice Ao54 t314.length co54)).setCell ⟨gb320, 4, none⟩ (.slice Ao55 t317.length co55)).heap[gb308]? = some (.cells #[.slice Ao37 t297.length co37, .int .i64 t300, .bool t301, .slice Ao41 t302.length co41, .slice Ao43 t305.length co43] 36 (0, 0))) := ⟨by (with_reducible repeat (first | refine blk_drewN ?_ _ | refine blk_drew ?_ | refine blk_alloc ?_ _)); refine blk_far ?_ NB308_320.out _; (with_reducible repeat (first | refine blk_drewN ?_ _ | refine blk_drew ?_ | refine blk_alloc ?_ _)); refine blk_far ?_ NB308_320.out _; (with_reducible repeat (first | refine blk_drewN ?_ _ | refine blk_drew ?_ | refine blk_alloc ?_ _)); refine blk_far ?_ NB308_320.out _; (with_reducible repeat (first | refine blk_drewN ?_ _ | refine blk_drew ?_ | refine blk_alloc ?_ _)); refine blk_far ?_ NB308_320.out _; (with_reducible repeat (first | refine blk_drewN ?_ _ | refine blk_drew ?_ | refine blk_alloc ?_ _)); refine blk_far ?_ NB308_320.out _; (with_reducible repeat (first | refine blk_drewN ?_ _ | refine blk_drew ?_ | refine blk_alloc ?_ _)); exact BK308.out⟩
    have n12_ : Aside0 ((((((w48.setCell ⟨gb320, 0, none⟩ (.slice Ao49 t309.length co49)).setCell ⟨gb320, 1, none⟩ (.int .i64 t312)).setCell ⟨gb320, 2, none⟩ (.bool t313)).setCell ⟨gb320, 3, none⟩ (.slice Ao54 t314.length co54)).setCell ⟨gb320, 4, none⟩ (.slice Ao55 t317.length co55)).heap[gb320]? = some (.cells #[.slice Ao49 t309.length co49, .int .i64 t312, .bool t313, .slice Ao54 t314.length co54, .slice Ao55 t317.length co55] 36 (0, 0))) := ⟨by (with_reducible repeat (first | refine blk_drewN ?_ _ | refine blk_drew ?_ | refine blk_alloc ?_ _)); refine blk_put (cs := #[.slice Ao49 t309.length co49, .int .i64 t312, .bool t313, .slice Ao54 t314.length co54, .slice none 0 0]) ?_ 4 _ rfl; (with_reducible repeat (first | refine blk_drewN ?_ _ | refine blk_drew ?_ | refine blk_alloc ?_ _)); refine blk_put (cs := #[.slice Ao49 t309.length co49, .int .i64 t312, .bool t313, .slice none 0 0, .slice none 0 0]) ?_ 3 _ rfl; (with_reducible repeat (first | refine blk_drewN ?_ _ | refine blk_drew ?_ | refine blk_alloc ?_ _)); refine blk_put (cs := #[.slice Ao49 t309.length co49, .int .i64 t312, .bool false, .slice none 0 0, .slice none 0 0]) ?_ 2 _ rfl; (with_reducible repeat (first | refine blk_drewN ?_ _ | refine blk_drew ?_ | refine blk_alloc ?_ _)); refine blk_put (cs := #[.slice Ao49 t309.length co49, .int .i64 0, .bool false, .slice none 0 0, .slice none 0 0]) ?_ 1 _ rfl; (with_reducible repeat (first | refine blk_drewN ?_ _ | refine blk_drew ?_ | refine blk_alloc ?_ _)); refine blk_put (cs := #[.slice none 0 0, .int .i64 0, .bool false, .slice none 0 0, .slice none 0 0]) ?_ 0 _ rfl; (with_reducible repeat (first | refine blk_drewN ?_ _ | refine blk_drew ?_ | refine blk_alloc ?_ _)); exact BK320.out⟩
    have n13_ : Aside0 (Below w.heap.size w (((((w48.setCell ⟨gb320, 0, none⟩ (.slice Ao49 t309.length co49)).setCell ⟨gb320, 1, none⟩ (.int .i64 t312)).setCell ⟨gb320, 2, none⟩ (.bool t313)).setCell ⟨gb320, 3, none⟩ (.slice Ao54 t314.length co54)).setCell ⟨gb320, 4, none⟩ (.slice Ao55 t317.length co55))) := ⟨z5_⟩
    (try clear HO284)
    (try clear HO289)
    (try clear HO292)
    (try clear HO299)
    (try clear HO304)
    (try clear HO307)
    (try clear HO311)
    (try clear HO316)
    (try clear HO319)
    (try clear BK279)
    (try clear BK280)
    (try clear BK308)
    (try clear BK320)
    (try clear HB)
    generalize (((((w48.setCell ⟨gb320, 0, none⟩ (.slice Ao49 t309.length co49)).setCell ⟨gb320, 1, none⟩ (.int .i64 t312)).setCell ⟨gb320, 2, none⟩ (.bool t313)).setCell ⟨gb320, 3, none⟩ (.slice Ao54 t314.length co54)).setCell ⟨gb320, 4, none⟩ (.slice Ao55 t317.length co55)) = w56 at n0_ n1_ n2_ n3_ n4_ n5_ n6_ n7_ n8_ n9_ n10_ n11_ n12_ n13_ ⊢
    have HO284 := n0_
    have HO289 := n1_
    have HO292 := n2_
    have HO299 := n3_
    have HO304 := n4_
    have HO307 := n5_
    have HO311 := n6_
    have HO316 := n7_
    have HO319 := n8_
    have BK279 := n9_
    have BK280 := n10_
    have BK308 := n11_
    have BK320 := n12_
    have HB := n13_
    clear n0_ n1_ n2_ n3_ n4_ n5_ n6_ n7_ n8_ n9_ n10_ n11_ n12_ n13_
    have n0_ := Aside0.mk (Kd.R_drew HO284.out)
    have n1_ := Aside0.mk (Kd.R_drew HO289.out)
    have n2_ := Aside0.mk (Kd.R_drew HO292.out)
    have n3_ := Aside0.mk (Kd.R_drew HO299.out)
    have n4_ := Aside0.mk (Kd.R_drew HO304.out)
    have n5_ := Aside0.mk (Kd.R_drew HO307.out)
    have n6_ := Aside0.mk (Kd.R_drew HO311.out)
    have n7_ := Aside0.mk (Kd.R_drew HO316.out)
    have n8_ := Aside0.mk (Kd.R_drew HO319.out)
    have n9_ := Aside0.mk (blk_drew BK279.out)
    have n10_ := Aside0.mk (blk_drew BK280.out)
    have n11_ := Aside0.mk (blk_drew BK308.out)
    have n12_ := Aside0.mk (blk_drew BK320.out)
    have n13_ := Aside0.mk (below_drew1 HB.out)
    clear HO284 HO289 HO292 HO299 HO304 HO307 HO311 HO316 HO319 BK279 BK280 BK308 BK320 HB
    have HO284 := n0_
    have HO289 := n1_
    have HO292 := n2_
    have HO299 := n3_
    have HO304 := n4_
    have HO307 := n5_
    have HO311 := n6_
    have HO316 := n7_
    have HO319 := n8_
    have BK279 := n9_
    have BK280 := n10_
    have BK308 := n11_
    have BK320 := n12_
    have HB := n13_
    clear n0_ n1_ n2_ n3_ n4_ n5_ n6_ n7_ n8_ n9_ n10_ n11_ n12_ n13_
    refine start_ (n := 6) (S := fun w' => w'.cell? ⟨gb320, 0, none⟩ = some (.slice Ao49 t309.length co49) ∧ w'.cell? ⟨gb320, 1, none⟩ = some (.int .i64 t312) ∧ w'.cell? ⟨gb320, 2, none⟩ = some (.bool t313) ∧ w'.cell? ⟨gb320, 3, none⟩ = some (.slice Ao54 t314.length co54) ∧ w'.cell? ⟨gb320, 4, none⟩ = some (.slice Ao55 t317.length co55) ∧ w'.cell? ⟨gb280, 0, none⟩ = some (.int .i64 a1_0) ∧ w'.cell? ⟨gb280, 1, none⟩ = some (.int .i64 a1_1) ∧ w'.cell? ⟨gb280, 2, none⟩ = some (.int .i64 a1_2) ∧ w'.cell? ⟨gb280, 3, none⟩ = some (.int .i64 a1_3)) (ds := []) #[false, false, false, false, false, false] (by kernel_rfl) rfl rfl ⟨(blk_cell BK320.out 0).trans rfl, (blk_cell BK320.out 1).trans rfl, (blk_cell BK320.out 2).trans rfl, (blk_cell BK320.out 3).trans rfl, (blk_cell BK320.out 4).trans rfl, (blk_cell BK280.out 0).trans rfl, (blk_cell BK280.out 1).trans rfl, (blk_cell BK280.out 2).trans rfl, (blk_cell BK280.out 3).trans rfl⟩ (fun hHeld => ?_)
    generalize w56.drew = w57 at HO284 HO289 HO292 HO299 HO304 HO307 HO311 HO316 HO319 BK279 BK280 BK308 BK320 HB hHeld ⊢
    refine take_ (i := 0) (N := some 25) (v := ?_) (a' := ?_) #[true, false, false, false, false, false] rfl rfl (by kernel_rfl) (fun _ _ _ h => h) (Or.inl ⟨by rfl, ?_⟩) hHeld ?_ ?_
    rotate_left
    ·
     rintro w' ⟨s0, s1, s2, s3, s4, s5, s6, s7, s8⟩
     go_simp
     with_reducible rfl
    rotate_left
    ·
     simp only [Act.put, List.setIfInBounds_toArray, List.set_cons_zero, List.set_cons_succ, i64_w, i32_w]
     rfl
    refine take_ (i := 1) (N := some 26) (v := ?_) (a' := ?_) #[true, true, false, false, false, false] rfl rfl (by kernel_rfl) (fun _ _ _ h => h) (Or.inl ⟨by rfl, ?_⟩) hHeld ?_ ?_
    rotate_left
    ·
     rintro w' ⟨s0, s1, s2, s3, s4, s5, s6, s7, s8⟩
     go_simp
     with_reducible rfl
    rotate_left
    ·
     simp only [Act.put, List.setIfInBounds_toArray, List.set_cons_zero, List.set_cons_succ, i64_w, i32_w]
     rfl
    refine join_ (σ := Value × Value × Value × Nat) 1 #[true, true, true, true, true, false] (fun s_ => [(27, .agg #[.int .i64 t321, .int .i64 t322, .int .i64 t323, .int .i64 t324]), (28, .agg #[s_.1, .int .i64 t328, .bool t329, s_.2.1, s_.2.2.1]), (8, .pointer (some ⟨s_.2.2.2, 0, none⟩))]) (fun s_ w' => (w'.cell? ⟨gb320, 0, none⟩ = some (.slice Ao49 t309.length co49) ∧ w'.cell? ⟨gb320, 1, none⟩ = some (.int .i64 t312) ∧ w'.cell? ⟨gb320, 2, none⟩ = some (.bool t313) ∧ w'.cell? ⟨gb320, 3, none⟩ = some (.slice Ao54 t314.length co54) ∧ w'.cell? ⟨gb320, 4, none⟩ = some (.slice Ao55 t317.length co55) ∧ w'.cell? ⟨gb280, 0, none⟩ = some (.int .i64 a1_0) ∧ w'.cell? ⟨gb280, 1, none⟩ = some (.int .i64 a1_1) ∧ w'.cell? ⟨gb280, 2, none⟩ = some (.int .i64 a1_2) ∧ w'.cell? ⟨gb280, 3, none⟩ = some (.int .i64 a1_3)) ∧ (Kd.R k88 88 w' w.heap.size (fun k_ => some k_ ≠ (.slice Ao37 t297.length co37 : Value).ownBlock ∧ some k_ ≠ (.slice Ao49 t309.length co49 : Value).ownBlock ∧ some k_ ≠ (s_.1 : Value).ownBlock) v283 t282) ∧ (Kd.R k136 136 w' w.heap.size (fun k_ => some k_ ≠ (.slice Ao41 t302.length co41 : Value).ownBlock ∧ some k_ ≠ (.slice Ao54 t314.length co54 : Value).ownBlock ∧ some k_ ≠ (s_.2.1 : Value).ownBlock) v288 t287) ∧ (Kd.R k67 67 w' w.heap.size (fun k_ => some k_ ≠ (.slice Ao43 t305.length co43 : Value).ownBlock ∧ some k_ ≠ (.slice Ao55 t317.length co55 : Value).ownBlock ∧ some k_ ≠ (s_.2.2.1 : Value).ownBlock) v291 t290) ∧ (Kd.R k88 88 w' w.heap.size (fun k_ => some k_ ≠ (v283 : Value).ownBlock ∧ some k_ ≠ (.slice Ao49 t309.length co49 : Value).ownBlock ∧ some k_ ≠ (s_.1 : Value).ownBlock) (.slice Ao37 t297.length co37) t297) ∧ (Kd.R k136 136 w' w.heap.size (fun k_ => some k_ ≠ (v288 : Value).ownBlock ∧ some k_ ≠ (.slice Ao54 t314.length co54 : Value).ownBlock ∧ some k_ ≠ (s_.2.1 : Value).ownBlock) (.slice Ao41 t302.length co41) t302) ∧ (Kd.R k67 67 w' w.heap.size (fun k_ => some k_ ≠ (v291 : Value).ownBlock ∧ some k_ ≠ (.slice Ao55 t317.length co55 : Value).ownBlock ∧ some k_ ≠ (s_.2.2.1 : Value).ownBlock) (.slice Ao43 t305.length co43) t305) ∧ (Kd.R k88 88 w' w.heap.size (fun k_ => some k_ ≠ (v283 : Value).ownBlock ∧ some k_ ≠ (.slice Ao37 t297.length co37 : Value).ownBlock ∧ some k_ ≠ (s_.1 : Value).ownBlock) (.slice Ao49 t309.length co49) t309) ∧ (Kd.R k136 136 w' w.heap.size (fun k_ => some k_ ≠ (v288 : Value).ownBlock ∧ some k_ ≠ (.slice Ao41 t302.length co41 : Value).ownBlock ∧ some k_ ≠ (s_.2.1 : Value).ownBlock) (.slice Ao54 t314.length co54) t314) ∧ (Kd.R k67 67 w' w.heap.size (fun k_ => some k_ ≠ (v291 : Value).ownBlock ∧ some k_ ≠ (.slice Ao43 t305.length co43 : Value).ownBlock ∧ some k_ ≠ (s_.2.2.1 : Value).ownBlock) (.slice Ao55 t317.length co55) t317) ∧ (Kd.R k88 88 w' w.heap.size (fun k_ => some k_ ≠ (v283 : Value).ownBlock ∧ some k_ ≠ (.slice Ao37 t297.length co37 : Value).ownBlock ∧ some k_ ≠ (.slice Ao49 t309.length co49 : Value).ownBlock) s_.1 t325) ∧ (Kd.R k136 136 w' w.heap.size (fun k_ => some k_ ≠ (v288 : Value).ownBlock ∧ some k_ ≠ (.slice Ao41 t302.length co41 : Value).ownBlock ∧ some k_ ≠ (.slice Ao54 t314.length co54 : Value).ownBlock) s_.2.1 t330) ∧ (Kd.R k67 67 w' w.heap.size (fun k_ => some k_ ≠ (v291 : Value).ownBlock ∧ some k_ ≠ (.slice Ao43 t305.length co43 : Value).ownBlock ∧ some k_ ≠ (.slice Ao55 t317.length co55 : Value).ownBlock) s_.2.2.1 t333) ∧ (w'.heap[gb279]? = some (.cells #[.slice A0_0 l0_0.length c0_0, .int .i64 a0_1, .bool a0_2, .slice A0_3 l0_3.length c0_3, .slice A0_4 l0_4.length c0_4] 59 (0, 0))) ∧ (w'.heap[gb280]? = some (.cells #[.int .i64 a1_0, .int .i64 a1_1, .int .i64 a1_2, .int .i64 a1_3] 65 (0, 0))) ∧ (w'.heap[gb308]? = some (.cells #[.slice Ao37 t297.length co37, .int .i64 t300, .bool t301, .slice Ao41 t302.length co41, .slice Ao43 t305.length co43] 36 (0, 0))) ∧ (w'.heap[gb320]? = some (.cells #[.slice Ao49 t309.length co49, .int .i64 t312, .bool t313, .slice Ao54 t314.length co54, .slice Ao55 t317.length co55] 36 (0, 0))) ∧ (w'.heap[s_.2.2.2]? = some (.cells #[.slice none 0 0, .int .i64 0, .bool false, .slice none 0 0, .slice none 0 0] 36 (0, 0))) ∧ (w.heap.size ≤ s_.2.2.2) ∧ (w.heap.size ≤ s_.2.2.2) ∧ (gb279 ≠ s_.2.2.2) ∧ (s_.2.2.2 ≠ gb279) ∧ (gb280 ≠ s_.2.2.2) ∧ (s_.2.2.2 ≠ gb280) ∧ (gb308 ≠ s_.2.2.2) ∧ (s_.2.2.2 ≠ gb308) ∧ (gb320 ≠ s_.2.2.2) ∧ (s_.2.2.2 ≠ gb320) ∧ (Below w.heap.size w w')) ?_ ?_
    rotate_left
    ·
     intro hCont
     refine two_ (i := 2) (j := 4) (Ni := some 27) (Nj := some 8) #[true, true, true, false, false, false] #[true, true, false, false, true, false] rfl rfl rfl rfl (by kernel_rfl) (by decide) (by decide) (fun K hK => ?_) (fun K hK => ?_)
     ·
      skip
      refine goes_ Try.func42 (by kernel_rfl) rfl #[.agg #[.int .i64 a1_0, .int .i64 a1_1, .int .i64 a1_2, .int .i64 a1_3]] (by rfl) rfl rfl z4_ ?_
      with_reducible refine (laws_toHelp.calls a1_0 a1_1 a1_2 a1_3 t321 t322 t323 t324 _ A14.out).mono ?_
      rintro e w58 ⟨rfl, hb⟩
      refine ⟨_, rfl, ?_⟩
      have n0_ := Aside0.mk (Kd.R_below (rb_ HO284.out) hb)
      have n1_ := Aside0.mk (Kd.R_below (rb_ HO289.out) hb)
      have n2_ := Aside0.mk (Kd.R_below (rb_ HO292.out) hb)
      have n3_ := Aside0.mk (Kd.R_below (rb_ HO299.out) hb)
      have n4_ := Aside0.mk (Kd.R_below (rb_ HO304.out) hb)
      have n5_ := Aside0.mk (Kd.R_below (rb_ HO307.out) hb)
      have n6_ := Aside0.mk (Kd.R_below (rb_ HO311.out) hb)
      have n7_ := Aside0.mk (Kd.R_below (rb_ HO316.out) hb)
      have n8_ := Aside0.mk (Kd.R_below (rb_ HO319.out) hb)
      have n9_ := Aside0.mk (blk_below (g := gb279) (o := .cells #[.slice A0_0 l0_0.length c0_0, .int .i64 a0_1, .bool a0_2, .slice A0_3 l0_3.length c0_3, .slice A0_4 l0_4.length c0_4] 59 (0, 0)) (bk_ BK279.out) hb)
      have n10_ := Aside0.mk (blk_below (g := gb280) (o := .cells #[.int .i64 a1_0, .int .i64 a1_1, .int .i64 a1_2, .int .i64 a1_3] 65 (0, 0)) (bk_ BK280.out) hb)
      have n11_ := Aside0.mk (blk_below (g := gb308) (o := .cells #[.slice Ao37 t297.length co37, .int .i64 t300, .bool t301, .slice Ao41 t302.length co41, .slice Ao43 t305.length co43] 36 (0, 0)) (bk_ BK308.out) hb)
      have n12_ := Aside0.mk (blk_below (g := gb320) (o := .cells #[.slice Ao49 t309.length co49, .int .i64 t312, .bool t313, .slice Ao54 t314.length co54, .slice Ao55 t317.length co55] 36 (0, 0)) (bk_ BK320.out) hb)
      have n13_ := Aside0.mk (below_step z5_ hb)
      clear HO284 HO289 HO292 HO299 HO304 HO307 HO311 HO316 HO319 BK279 BK280 BK308 BK320 HB
      have HO284 := n0_
      have HO289 := n1_
      have HO292 := n2_
      have HO299 := n3_
      have HO304 := n4_
      have HO307 := n5_
      have HO311 := n6_
      have HO316 := n7_
      have HO319 := n8_
      have BK279 := n9_
      have BK280 := n10_
      have BK308 := n11_
      have BK320 := n12_
      have HB := n13_
      clear n0_ n1_ n2_ n3_ n4_ n5_ n6_ n7_ n8_ n9_ n10_ n11_ n12_ n13_
      (try clear hb)
      (try clear hb2)
      (try clear hk)
      (try clear hi)
      refine hK.out _ _ ⟨(blk_cell BK320.out 0).trans rfl, (blk_cell BK320.out 1).trans rfl, (blk_cell BK320.out 2).trans rfl, (blk_cell BK320.out 3).trans rfl, (blk_cell BK320.out 4).trans rfl, (blk_cell BK280.out 0).trans rfl, (blk_cell BK280.out 1).trans rfl, (blk_cell BK280.out 2).trans rfl, (blk_cell BK280.out 3).trans rfl⟩ (fun hHeld => ?_)
      clear hK K
      refine norm_ (a' := ?_) ?_ ?_
      rotate_left
      ·
       show Act.put _ (some 27) _ = _
       simp only [Act.put, List.setIfInBounds_toArray, List.set_cons_zero, List.set_cons_succ, i64_w, i32_w]
       rfl
      refine two_ (i := 3) (j := 4) (Ni := some 28) (Nj := some 8) #[true, true, true, true, false, false] #[true, true, true, false, true, false] rfl rfl rfl rfl (by kernel_rfl) (by decide) (by decide) (fun K hK => ?_) (fun K hK => ?_)
      ·
       skip
       refine goes_ Try.func47 (by kernel_rfl) rfl #[.agg #[.slice Ao49 t309.length co49, .int .i64 t312, .bool t313, .slice Ao54 t314.length co54, .slice Ao55 t317.length co55], .agg #[.int .i64 t321, .int .i64 t322, .int .i64 t323, .int .i64 t324]] (by rfl) rfl rfl z4_ ?_
       with_reducible refine (impl_Swap.calls _ _ t309 t312 t313 _ _ t314 _ _ t317 t321 t322 t323 t324 t325 t328 t329 t330 t333 _ ?side1 ?side2 ?side3 ?side4 ?side5 ?side6 A15.out).mono ?_
       (case side1 => repeat (first | exact (Kd.R_reads' HO311.out).2.2 | (with_reducible refine Kd.C_alloc ?_ _) | (with_reducible refine Kd.C_drewN ?_ _) | (with_reducible refine Kd.C_drew ?_)))
       (case side2 => exact (Kd.R_reads' HO311.out).2.1)
       (case side3 => repeat (first | exact (Kd.R_reads' HO316.out).2.2 | (with_reducible refine Kd.C_alloc ?_ _) | (with_reducible refine Kd.C_drewN ?_ _) | (with_reducible refine Kd.C_drew ?_)))
       (case side4 => exact (Kd.R_reads' HO316.out).2.1)
       (case side5 => repeat (first | exact (Kd.R_reads' HO319.out).2.2 | (with_reducible refine Kd.C_alloc ?_ _) | (with_reducible refine Kd.C_drewN ?_ _) | (with_reducible refine Kd.C_drew ?_)))
       (case side6 => exact (Kd.R_reads' HO319.out).2.1)
       rintro e w59 ⟨v326, v331, v334, rfl, ho0, ho1, ho2, hb⟩
       refine ⟨_, rfl, ?_⟩
       have n0_ := Aside0.mk (Kd.R_elder' (rb_ HO284.out) (Kd.R_base ho0) hb)
       have n1_ := Aside0.mk (Kd.R_elder' (rb_ HO289.out) (Kd.R_base ho1) hb)
       have n2_ := Aside0.mk (Kd.R_elder' (rb_ HO292.out) (Kd.R_base ho2) hb)
       have n3_ := Aside0.mk (Kd.R_elder' (rb_ HO299.out) (Kd.R_base ho0) hb)
       have n4_ := Aside0.mk (Kd.R_elder' (rb_ HO304.out) (Kd.R_base ho1) hb)
       have n5_ := Aside0.mk (Kd.R_elder' (rb_ HO307.out) (Kd.R_base ho2) hb)
       have n6_ := Aside0.mk (Kd.R_elder' (rb_ HO311.out) (Kd.R_base ho0) hb)
       have n7_ := Aside0.mk (Kd.R_elder' (rb_ HO316.out) (Kd.R_base ho1) hb)
       have n8_ := Aside0.mk (Kd.R_elder' (rb_ HO319.out) (Kd.R_base ho2) hb)
       have n9_ := Aside0.mk (Kd.R_lower (Kd.R_new' (Kd.R_new' (Kd.R_new' ho0 (Kd.R_lt (rb_ HO284.out))) (Kd.R_lt (rb_ HO299.out))) (Kd.R_lt (rb_ HO311.out))) (below_size z5_))
       have n10_ := Aside0.mk (Kd.R_lower (Kd.R_new' (Kd.R_new' (Kd.R_new' ho1 (Kd.R_lt (rb_ HO289.out))) (Kd.R_lt (rb_ HO304.out))) (Kd.R_lt (rb_ HO316.out))) (below_size z5_))
       have n11_ := Aside0.mk (Kd.R_lower (Kd.R_new' (Kd.R_new' (Kd.R_new' ho2 (Kd.R_lt (rb_ HO292.out))) (Kd.R_lt (rb_ HO307.out))) (Kd.R_lt (rb_ HO319.out))) (below_size z5_))
       have n12_ := Aside0.mk (blk_below (g := gb279) (o := .cells #[.slice A0_0 l0_0.length c0_0, .int .i64 a0_1, .bool a0_2, .slice A0_3 l0_3.length c0_3, .slice A0_4 l0_4.length c0_4] 59 (0, 0)) (bk_ BK279.out) hb)
       have n13_ := Aside0.mk (blk_below (g := gb280) (o := .cells #[.int .i64 a1_0, .int .i64 a1_1, .int .i64 a1_2, .int .i64 a1_3] 65 (0, 0)) (bk_ BK280.out) hb)
       have n14_ := Aside0.mk (blk_below (g := gb308) (o := .cells #[.slice Ao37 t297.length co37, .int .i64 t300, .bool t301, .slice Ao41 t302.length co41, .slice Ao43 t305.length co43] 36 (0, 0)) (bk_ BK308.out) hb)
       have n15_ := Aside0.mk (blk_below (g := gb320) (o := .cells #[.slice Ao49 t309.length co49, .int .i64 t312, .bool t313, .slice Ao54 t314.length co54, .slice Ao55 t317.length co55] 36 (0, 0)) (bk_ BK320.out) hb)
       have n16_ := Aside0.mk (below_step z5_ hb)
       clear HO284 HO289 HO292 HO299 HO304 HO307 HO311 HO316 HO319 BK279 BK280 BK308 BK320 HB
       have HO284 := n0_
       have HO289 := n1_
       have HO292 := n2_
       have HO299 := n3_
       have HO304 := n4_
       have HO307 := n5_
       have HO311 := n6_
       have HO316 := n7_
       have HO319 := n8_
       have HO327 := n9_
       have HO332 := n10_
       have HO335 := n11_
       have BK279 := n12_
       have BK280 := n13_
       have BK308 := n14_
       have BK320 := n15_
       have HB := n16_
       clear n0_ n1_ n2_ n3_ n4_ n5_ n6_ n7_ n8_ n9_ n10_ n11_ n12_ n13_ n14_ n15_ n16_
       (try clear hb)
       (try clear hb2)
       (try clear hk)
       (try clear hi)
       (try clear ho0)
       (try clear ho1)
       (try clear ho2)
       refine hK.out _ _ ⟨(blk_cell BK320.out 0).trans rfl, (blk_cell BK320.out 1).trans rfl, (blk_cell BK320.out 2).trans rfl, (blk_cell BK320.out 3).trans rfl, (blk_cell BK320.out 4).trans rfl, (blk_cell BK280.out 0).trans rfl, (blk_cell BK280.out 1).trans rfl, (blk_cell BK280.out 2).trans rfl, (blk_cell BK280.out 3).trans rfl⟩ (fun hHeld => ?_)
       clear hK K
       refine norm_ (a' := ?_) ?_ ?_
       rotate_left
       ·
        show Act.put _ (some 28) _ = _
        simp only [Act.put, List.setIfInBounds_toArray, List.set_cons_zero, List.set_cons_succ, i64_w, i32_w]
        rfl
       refine one_ (i := 4) (N := some 8) #[true, true, true, true, true, false] rfl rfl (by kernel_rfl) (by decide) (fun K hK => ?_)
       refine box_step ?hg (N := 8) ?hd (cs := #[.slice none 0 0, .int .i64 0, .bool false, .slice none 0 0, .slice none 0 0]) (t := 36) ?hr ?_; (case hd => rfl); (case hg => rfl); (case hr => first | (go_simp; done) | (go_simp; rfl))
       intro gb336 hg w60 hbox hb
       have n0_ := Aside0.mk (Kd.R_below (rb_ HO284.out) hb)
       have n1_ := Aside0.mk (Kd.R_below (rb_ HO289.out) hb)
       have n2_ := Aside0.mk (Kd.R_below (rb_ HO292.out) hb)
       have n3_ := Aside0.mk (Kd.R_below (rb_ HO299.out) hb)
       have n4_ := Aside0.mk (Kd.R_below (rb_ HO304.out) hb)
       have n5_ := Aside0.mk (Kd.R_below (rb_ HO307.out) hb)
       have n6_ := Aside0.mk (Kd.R_below (rb_ HO311.out) hb)
       have n7_ := Aside0.mk (Kd.R_below (rb_ HO316.out) hb)
       have n8_ := Aside0.mk (Kd.R_below (rb_ HO319.out) hb)
       have n9_ := Aside0.mk (Kd.R_below (rb_ HO327.out) hb)
       have n10_ := Aside0.mk (Kd.R_below (rb_ HO332.out) hb)
       have n11_ := Aside0.mk (Kd.R_below (rb_ HO335.out) hb)
       have n12_ := Aside0.mk (blk_below (g := gb279) (o := .cells #[.slice A0_0 l0_0.length c0_0, .int .i64 a0_1, .bool a0_2, .slice A0_3 l0_3.length c0_3, .slice A0_4 l0_4.length c0_4] 59 (0, 0)) (bk_ BK279.out) hb)
       have n13_ := Aside0.mk (blk_below (g := gb280) (o := .cells #[.int .i64 a1_0, .int .i64 a1_1, .int .i64 a1_2, .int .i64 a1_3] 65 (0, 0)) (bk_ BK280.out) hb)
       have n14_ := Aside0.mk (blk_below (g := gb308) (o := .cells #[.slice Ao37 t297.length co37, .int .i64 t300, .bool t301, .slice Ao41 t302.length co41, .slice Ao43 t305.length co43] 36 (0, 0)) (bk_ BK308.out) hb)
       have n15_ := Aside0.mk (blk_below (g := gb320) (o := .cells #[.slice Ao49 t309.length co49, .int .i64 t312, .bool t313, .slice Ao54 t314.length co54, .slice Ao55 t317.length co55] 36 (0, 0)) (bk_ BK320.out) hb)
       have n16_ := Aside0.mk (below_step z5_ hb)
       have n17_ := Aside0.mk (hbox)
       have n18_ := Aside0.mk ((by rw [hg]; exact (below_size z5_) : w.heap.size ≤ gb336))
       have n19_ := Aside0.mk ((by rw [hg]; exact (below_size z5_) : w.heap.size ≤ gb336))
       have n20_ := Aside0.mk ((z6_ : gb279 ≠ gb336))
       have n21_ := Aside0.mk ((z7_ : gb336 ≠ gb279))
       have n22_ := Aside0.mk ((z8_ : gb280 ≠ gb336))
       have n23_ := Aside0.mk ((z9_ : gb336 ≠ gb280))
       have n24_ := Aside0.mk ((z10_ : gb308 ≠ gb336))
       have n25_ := Aside0.mk ((z11_ : gb336 ≠ gb308))
       have n26_ := Aside0.mk ((z51_ : gb320 ≠ gb336))
       have n27_ := Aside0.mk ((z52_ : gb336 ≠ gb320))
       clear HO284 HO289 HO292 HO299 HO304 HO307 HO311 HO316 HO319 HO327 HO332 HO335 BK279 BK280 BK308 BK320 HB
       have HO284 := n0_
       have HO289 := n1_
       have HO292 := n2_
       have HO299 := n3_
       have HO304 := n4_
       have HO307 := n5_
       have HO311 := n6_
       have HO316 := n7_
       have HO319 := n8_
       have HO327 := n9_
       have HO332 := n10_
       have HO335 := n11_
       have BK279 := n12_
       have BK280 := n13_
       have BK308 := n14_
       have BK320 := n15_
       have HB := n16_
       have BK336 := n17_
       have GW336 := n18_
       have GE336 := n19_
       have NB279_336 := n20_
       have NB336_279 := n21_
       have NB280_336 := n22_
       have NB336_280 := n23_
       have NB308_336 := n24_
       have NB336_308 := n25_
       have NB320_336 := n26_
       have NB336_320 := n27_
       clear n0_ n1_ n2_ n3_ n4_ n5_ n6_ n7_ n8_ n9_ n10_ n11_ n12_ n13_ n14_ n15_ n16_ n17_ n18_ n19_ n20_ n21_ n22_ n23_ n24_ n25_ n26_ n27_ hb hbox hg
       refine hK.out _ _ ⟨(blk_cell BK320.out 0).trans rfl, (blk_cell BK320.out 1).trans rfl, (blk_cell BK320.out 2).trans rfl, (blk_cell BK320.out 3).trans rfl, (blk_cell BK320.out 4).trans rfl, (blk_cell BK280.out 0).trans rfl, (blk_cell BK280.out 1).trans rfl, (blk_cell BK280.out 2).trans rfl, (blk_cell BK280.out 3).trans rfl⟩ (fun hHeld => ?_)
       clear hK K
       refine norm_ (a' := ?_) ?_ ?_
       rotate_left
       ·
        show Act.put _ (some 8) _ = _
        simp only [Act.put, List.setIfInBounds_toArray, List.set_cons_zero, List.set_cons_succ, i64_w, i32_w]
        rfl
       exact norm_ (by simp only [putAll, Act.put, List.setIfInBounds_toArray, List.set_cons_zero, List.set_cons_succ]) (hCont (v326, v331, v334, gb336) _ ⟨hHeld, (by (with_reducible repeat (first | apply Kd.R_alloc | apply Kd.R_drewN | apply Kd.R_drew)); exact Kd.R_mono HO284.out (fun _ hk => ⟨hk.1.1, ⟨hk.1.2, hk.2⟩⟩)), (by (with_reducible repeat (first | apply Kd.R_alloc | apply Kd.R_drewN | apply Kd.R_drew)); exact Kd.R_mono HO289.out (fun _ hk => ⟨hk.1.1, ⟨hk.1.2, hk.2⟩⟩)), (by (with_reducible repeat (first | apply Kd.R_alloc | apply Kd.R_drewN | apply Kd.R_drew)); exact Kd.R_mono HO292.out (fun _ hk => ⟨hk.1.1, ⟨hk.1.2, hk.2⟩⟩)), (by (with_reducible repeat (first | apply Kd.R_alloc | apply Kd.R_drewN | apply Kd.R_drew)); exact Kd.R_mono HO299.out (fun _ hk => ⟨hk.1.1, ⟨hk.1.2, hk.2⟩⟩)), (by (with_reducible repeat (first | apply Kd.R_alloc | apply Kd.R_drewN | apply Kd.R_drew)); exact Kd.R_mono HO304.out (fun _ hk => ⟨hk.1.1, ⟨hk.1.2, hk.2⟩⟩)), (by (with_reducible repeat (first | apply Kd.R_alloc | apply Kd.R_drewN | apply Kd.R_drew)); exact Kd.R_mono HO307.out (fun _ hk => ⟨hk.1.1, ⟨hk.1.2, hk.2⟩⟩)), (by (with_reducible repeat (first | apply Kd.R_alloc | apply Kd.R_drewN | apply Kd.R_drew)); exact Kd.R_mono HO311.out (fun _ hk => ⟨hk.1.1, ⟨hk.1.2, hk.2⟩⟩)), (by (with_reducible repeat (first | apply Kd.R_alloc | apply Kd.R_drewN | apply Kd.R_drew)); exact Kd.R_mono HO316.out (fun _ hk => ⟨hk.1.1, ⟨hk.1.2, hk.2⟩⟩)), (by (with_reducible repeat (first | apply Kd.R_alloc | apply Kd.R_drewN | apply Kd.R_drew)); exact Kd.R_mono HO319.out (fun _ hk => ⟨hk.1.1, ⟨hk.1.2, hk.2⟩⟩)), (by (with_reducible repeat (first | apply Kd.R_alloc | apply Kd.R_drewN | apply Kd.R_drew)); exact Kd.R_mono HO327.out (fun _ hk => ⟨hk.1.1.2, ⟨hk.1.2, hk.2⟩⟩)), (by (with_reducible repeat (first | apply Kd.R_alloc | apply Kd.R_drewN | apply Kd.R_drew)); exact Kd.R_mono HO332.out (fun _ hk => ⟨hk.1.1.2, ⟨hk.1.2, hk.2⟩⟩)), (by (with_reducible repeat (first | apply Kd.R_alloc | apply Kd.R_drewN | apply Kd.R_drew)); exact Kd.R_mono HO335.out (fun _ hk => ⟨hk.1.1.2, ⟨hk.1.2, hk.2⟩⟩)), bk_ BK279.out, bk_ BK280.out, bk_ BK308.out, bk_ BK320.out, bk_ BK336.out, GW336.out, GE336.out, NB279_336.out, NB336_279.out, NB280_336.out, NB336_280.out, NB308_336.out, NB336_308.out, NB320_336.out, NB336_320.out, z0_⟩)
      ·
       skip
       refine box_step ?hg (N := 8) ?hd (cs := #[.slice none 0 0, .int .i64 0, .bool false, .slice none 0 0, .slice none 0 0]) (t := 36) ?hr ?_; (case hd => rfl); (case hg => rfl); (case hr => first | (go_simp; done) | (go_simp; rfl))
       intro gb336 hg w59 hbox hb
       have n0_ := Aside0.mk (Kd.R_below (rb_ HO284.out) hb)
       have n1_ := Aside0.mk (Kd.R_below (rb_ HO289.out) hb)
       have n2_ := Aside0.mk (Kd.R_below (rb_ HO292.out) hb)
       have n3_ := Aside0.mk (Kd.R_below (rb_ HO299.out) hb)
       have n4_ := Aside0.mk (Kd.R_below (rb_ HO304.out) hb)
       have n5_ := Aside0.mk (Kd.R_below (rb_ HO307.out) hb)
       have n6_ := Aside0.mk (Kd.R_below (rb_ HO311.out) hb)
       have n7_ := Aside0.mk (Kd.R_below (rb_ HO316.out) hb)
       have n8_ := Aside0.mk (Kd.R_below (rb_ HO319.out) hb)
       have n9_ := Aside0.mk (blk_below (g := gb279) (o := .cells #[.slice A0_0 l0_0.length c0_0, .int .i64 a0_1, .bool a0_2, .slice A0_3 l0_3.length c0_3, .slice A0_4 l0_4.length c0_4] 59 (0, 0)) (bk_ BK279.out) hb)
       have n10_ := Aside0.mk (blk_below (g := gb280) (o := .cells #[.int .i64 a1_0, .int .i64 a1_1, .int .i64 a1_2, .int .i64 a1_3] 65 (0, 0)) (bk_ BK280.out) hb)
       have n11_ := Aside0.mk (blk_below (g := gb308) (o := .cells #[.slice Ao37 t297.length co37, .int .i64 t300, .bool t301, .slice Ao41 t302.length co41, .slice Ao43 t305.length co43] 36 (0, 0)) (bk_ BK308.out) hb)
       have n12_ := Aside0.mk (blk_below (g := gb320) (o := .cells #[.slice Ao49 t309.length co49, .int .i64 t312, .bool t313, .slice Ao54 t314.length co54, .slice Ao55 t317.length co55] 36 (0, 0)) (bk_ BK320.out) hb)
       have n13_ := Aside0.mk (below_step z5_ hb)
       have n14_ := Aside0.mk (hbox)
       have n15_ := Aside0.mk ((by rw [hg]; exact (below_size z5_) : w.heap.size ≤ gb336))
       have n16_ := Aside0.mk ((by rw [hg]; exact (below_size z5_) : w.heap.size ≤ gb336))
       have n17_ := Aside0.mk ((z6_ : gb279 ≠ gb336))
       have n18_ := Aside0.mk ((z7_ : gb336 ≠ gb279))
       have n19_ := Aside0.mk ((z8_ : gb280 ≠ gb336))
       have n20_ := Aside0.mk ((z9_ : gb336 ≠ gb280))
       have n21_ := Aside0.mk ((z10_ : gb308 ≠ gb336))
       have n22_ := Aside0.mk ((z11_ : gb336 ≠ gb308))
       have n23_ := Aside0.mk ((z51_ : gb320 ≠ gb336))
       have n24_ := Aside0.mk ((z52_ : gb336 ≠ gb320))
       clear HO284 HO289 HO292 HO299 HO304 HO307 HO311 HO316 HO319 BK279 BK280 BK308 BK320 HB
       have HO284 := n0_
       have HO289 := n1_
       have HO292 := n2_
       have HO299 := n3_
       have HO304 := n4_
       have HO307 := n5_
       have HO311 := n6_
       have HO316 := n7_
       have HO319 := n8_
       have BK279 := n9_
       have BK280 := n10_
       have BK308 := n11_
       have BK320 := n12_
       have HB := n13_
       have BK336 := n14_
       have GW336 := n15_
       have GE336 := n16_
       have NB279_336 := n17_
       have NB336_279 := n18_
       have NB280_336 := n19_
       have NB336_280 := n20_
       have NB308_336 := n21_
       have NB336_308 := n22_
       have NB320_336 := n23_
       have NB336_320 := n24_
       clear n0_ n1_ n2_ n3_ n4_ n5_ n6_ n7_ n8_ n9_ n10_ n11_ n12_ n13_ n14_ n15_ n16_ n17_ n18_ n19_ n20_ n21_ n22_ n23_ n24_ hb hbox hg
       refine hK.out _ _ ⟨(blk_cell BK320.out 0).trans rfl, (blk_cell BK320.out 1).trans rfl, (blk_cell BK320.out 2).trans rfl, (blk_cell BK320.out 3).trans rfl, (blk_cell BK320.out 4).trans rfl, (blk_cell BK280.out 0).trans rfl, (blk_cell BK280.out 1).trans rfl, (blk_cell BK280.out 2).trans rfl, (blk_cell BK280.out 3).trans rfl⟩ (fun hHeld => ?_)
       clear hK K
       refine norm_ (a' := ?_) ?_ ?_
       rotate_left
       ·
        show Act.put _ (some 8) _ = _
        simp only [Act.put, List.setIfInBounds_toArray, List.set_cons_zero, List.set_cons_succ, i64_w, i32_w]
        rfl
       refine one_ (i := 3) (N := some 28) #[true, true, true, true, true, false] rfl rfl (by kernel_rfl) (by decide) (fun K hK => ?_)
       refine goes_ Try.func47 (by kernel_rfl) rfl #[.agg #[.slice Ao49 t309.length co49, .int .i64 t312, .bool t313, .slice Ao54 t314.length co54, .slice Ao55 t317.length co55], .agg #[.int .i64 t321, .int .i64 t322, .int .i64 t323, .int .i64 t324]] (by rfl) rfl rfl z4_ ?_
       with_reducible refine (impl_Swap.calls _ _ t309 t312 t313 _ _ t314 _ _ t317 t321 t322 t323 t324 t325 t328 t329 t330 t333 _ ?side1 ?side2 ?side3 ?side4 ?side5 ?side6 A15.out).mono ?_
       (case side1 => repeat (first | exact (Kd.R_reads' HO311.out).2.2 | (with_reducible refine Kd.C_alloc ?_ _) | (with_reducible refine Kd.C_drewN ?_ _) | (with_reducible refine Kd.C_drew ?_)))
       (case side2 => exact (Kd.R_reads' HO311.out).2.1)
       (case side3 => repeat (first | exact (Kd.R_reads' HO316.out).2.2 | (with_reducible refine Kd.C_alloc ?_ _) | (with_reducible refine Kd.C_drewN ?_ _) | (with_reducible refine Kd.C_drew ?_)))
       (case side4 => exact (Kd.R_reads' HO316.out).2.1)
       (case side5 => repeat (first | exact (Kd.R_reads' HO319.out).2.2 | (with_reducible refine Kd.C_alloc ?_ _) | (with_reducible refine Kd.C_drewN ?_ _) | (with_reducible refine Kd.C_drew ?_)))
       (case side6 => exact (Kd.R_reads' HO319.out).2.1)
       rintro e w60 ⟨v326, v331, v334, rfl, ho0, ho1, ho2, hb⟩
       refine ⟨_, rfl, ?_⟩
       have n0_ := Aside0.mk (Kd.R_elder' (rb_ HO284.out) (Kd.R_base ho0) hb)
       have n1_ := Aside0.mk (Kd.R_elder' (rb_ HO289.out) (Kd.R_base ho1) hb)
       have n2_ := Aside0.mk (Kd.R_elder' (rb_ HO292.out) (Kd.R_base ho2) hb)
       have n3_ := Aside0.mk (Kd.R_elder' (rb_ HO299.out) (Kd.R_base ho0) hb)
       have n4_ := Aside0.mk (Kd.R_elder' (rb_ HO304.out) (Kd.R_base ho1) hb)
       have n5_ := Aside0.mk (Kd.R_elder' (rb_ HO307.out) (Kd.R_base ho2) hb)
       have n6_ := Aside0.mk (Kd.R_elder' (rb_ HO311.out) (Kd.R_base ho0) hb)
       have n7_ := Aside0.mk (Kd.R_elder' (rb_ HO316.out) (Kd.R_base ho1) hb)
       have n8_ := Aside0.mk (Kd.R_elder' (rb_ HO319.out) (Kd.R_base ho2) hb)
       have n9_ := Aside0.mk (Kd.R_lower (Kd.R_new' (Kd.R_new' (Kd.R_new' ho0 (Kd.R_lt (rb_ HO284.out))) (Kd.R_lt (rb_ HO299.out))) (Kd.R_lt (rb_ HO311.out))) (below_size z0_))
       have n10_ := Aside0.mk (Kd.R_lower (Kd.R_new' (Kd.R_new' (Kd.R_new' ho1 (Kd.R_lt (rb_ HO289.out))) (Kd.R_lt (rb_ HO304.out))) (Kd.R_lt (rb_ HO316.out))) (below_size z0_))
       have n11_ := Aside0.mk (Kd.R_lower (Kd.R_new' (Kd.R_new' (Kd.R_new' ho2 (Kd.R_lt (rb_ HO292.out))) (Kd.R_lt (rb_ HO307.out))) (Kd.R_lt (rb_ HO319.out))) (below_size z0_))
       have n12_ := Aside0.mk (blk_below (g := gb279) (o := .cells #[.slice A0_0 l0_0.length c0_0, .int .i64 a0_1, .bool a0_2, .slice A0_3 l0_3.length c0_3, .slice A0_4 l0_4.length c0_4] 59 (0, 0)) (bk_ BK279.out) hb)
       have n13_ := Aside0.mk (blk_below (g := gb280) (o := .cells #[.int .i64 a1_0, .int .i64 a1_1, .int .i64 a1_2, .int .i64 a1_3] 65 (0, 0)) (bk_ BK280.out) hb)
       have n14_ := Aside0.mk (blk_below (g := gb308) (o := .cells #[.slice Ao37 t297.length co37, .int .i64 t300, .bool t301, .slice Ao41 t302.length co41, .slice Ao43 t305.length co43] 36 (0, 0)) (bk_ BK308.out) hb)
       have n15_ := Aside0.mk (blk_below (g := gb320) (o := .cells #[.slice Ao49 t309.length co49, .int .i64 t312, .bool t313, .slice Ao54 t314.length co54, .slice Ao55 t317.length co55] 36 (0, 0)) (bk_ BK320.out) hb)
       have n16_ := Aside0.mk (blk_below (g := gb336) (o := .cells #[.slice none 0 0, .int .i64 0, .bool false, .slice none 0 0, .slice none 0 0] 36 (0, 0)) (bk_ BK336.out) hb)
       have n17_ := Aside0.mk (below_step z0_ hb)
       clear HO284 HO289 HO292 HO299 HO304 HO307 HO311 HO316 HO319 BK279 BK280 BK308 BK320 BK336 HB
       have HO284 := n0_
       have HO289 := n1_
       have HO292 := n2_
       have HO299 := n3_
       have HO304 := n4_
       have HO307 := n5_
       have HO311 := n6_
       have HO316 := n7_
       have HO319 := n8_
       have HO327 := n9_
       have HO332 := n10_
       have HO335 := n11_
       have BK279 := n12_
       have BK280 := n13_
       have BK308 := n14_
       have BK320 := n15_
       have BK336 := n16_
       have HB := n17_
       clear n0_ n1_ n2_ n3_ n4_ n5_ n6_ n7_ n8_ n9_ n10_ n11_ n12_ n13_ n14_ n15_ n16_ n17_
       (try clear hb)
       (try clear hb2)
       (try clear hk)
       (try clear hi)
       (try clear ho0)
       (try clear ho1)
       (try clear ho2)
       refine hK.out _ _ ⟨(blk_cell BK320.out 0).trans rfl, (blk_cell BK320.out 1).trans rfl, (blk_cell BK320.out 2).trans rfl, (blk_cell BK320.out 3).trans rfl, (blk_cell BK320.out 4).trans rfl, (blk_cell BK280.out 0).trans rfl, (blk_cell BK280.out 1).trans rfl, (blk_cell BK280.out 2).trans rfl, (blk_cell BK280.out 3).trans rfl⟩ (fun hHeld => ?_)
       clear hK K
       refine norm_ (a' := ?_) ?_ ?_
       rotate_left
       ·
        show Act.put _ (some 28) _ = _
        simp only [Act.put, List.setIfInBounds_toArray, List.set_cons_zero, List.set_cons_succ, i64_w, i32_w]
        rfl
       exact norm_ (by simp only [putAll, Act.put, List.setIfInBounds_toArray, List.set_cons_zero, List.set_cons_succ]) (hCont (v326, v331, v334, gb336) _ ⟨hHeld, (by (with_reducible repeat (first | apply Kd.R_alloc | apply Kd.R_drewN | apply Kd.R_drew)); exact Kd.R_mono HO284.out (fun _ hk => ⟨hk.1.1, ⟨hk.1.2, hk.2⟩⟩)), (by (with_reducible repeat (first | apply Kd.R_alloc | apply Kd.R_drewN | apply Kd.R_drew)); exact Kd.R_mono HO289.out (fun _ hk => ⟨hk.1.1, ⟨hk.1.2, hk.2⟩⟩)), (by (with_reducible repeat (first | apply Kd.R_alloc | apply Kd.R_drewN | apply Kd.R_drew)); exact Kd.R_mono HO292.out (fun _ hk => ⟨hk.1.1, ⟨hk.1.2, hk.2⟩⟩)), (by (with_reducible repeat (first | apply Kd.R_alloc | apply Kd.R_drewN | apply Kd.R_drew)); exact Kd.R_mono HO299.out (fun _ hk => ⟨hk.1.1, ⟨hk.1.2, hk.2⟩⟩)), (by (with_reducible repeat (first | apply Kd.R_alloc | apply Kd.R_drewN | apply Kd.R_drew)); exact Kd.R_mono HO304.out (fun _ hk => ⟨hk.1.1, ⟨hk.1.2, hk.2⟩⟩)), (by (with_reducible repeat (first | apply Kd.R_alloc | apply Kd.R_drewN | apply Kd.R_drew)); exact Kd.R_mono HO307.out (fun _ hk => ⟨hk.1.1, ⟨hk.1.2, hk.2⟩⟩)), (by (with_reducible repeat (first | apply Kd.R_alloc | apply Kd.R_drewN | apply Kd.R_drew)); exact Kd.R_mono HO311.out (fun _ hk => ⟨hk.1.1, ⟨hk.1.2, hk.2⟩⟩)), (by (with_reducible repeat (first | apply Kd.R_alloc | apply Kd.R_drewN | apply Kd.R_drew)); exact Kd.R_mono HO316.out (fun _ hk => ⟨hk.1.1, ⟨hk.1.2, hk.2⟩⟩)), (by (with_reducible repeat (first | apply Kd.R_alloc | apply Kd.R_drewN | apply Kd.R_drew)); exact Kd.R_mono HO319.out (fun _ hk => ⟨hk.1.1, ⟨hk.1.2, hk.2⟩⟩)), (by (with_reducible repeat (first | apply Kd.R_alloc | apply Kd.R_drewN | apply Kd.R_drew)); exact Kd.R_mono HO327.out (fun _ hk => ⟨hk.1.1.2, ⟨hk.1.2, hk.2⟩⟩)), (by (with_reducible repeat (first | apply Kd.R_alloc | apply Kd.R_drewN | apply Kd.R_drew)); exact Kd.R_mono HO332.out (fun _ hk => ⟨hk.1.1.2, ⟨hk.1.2, hk.2⟩⟩)), (by (with_reducible repeat (first | apply Kd.R_alloc | apply Kd.R_drewN | apply Kd.R_drew)); exact Kd.R_mono HO335.out (fun _ hk => ⟨hk.1.1.2, ⟨hk.1.2, hk.2⟩⟩)), bk_ BK279.out, bk_ BK280.out, bk_ BK308.out, bk_ BK320.out, bk_ BK336.out, GW336.out, GE336.out, NB279_336.out, NB336_279.out, NB280_336.out, NB336_280.out, NB308_336.out, NB336_308.out, NB320_336.out, NB336_320.out, z0_⟩)
     ·
      skip
      refine box_step ?hg (N := 8) ?hd (cs := #[.slice none 0 0, .int .i64 0, .bool false, .slice none 0 0, .slice none 0 0]) (t := 36) ?hr ?_; (case hd => rfl); (case hg => rfl); (case hr => first | (go_simp; done) | (go_simp; rfl))
      intro gb336 hg w58 hbox hb
      have n0_ := Aside0.mk (Kd.R_below (rb_ HO284.out) hb)
      have n1_ := Aside0.mk (Kd.R_below (rb_ HO289.out) hb)
      have n2_ := Aside0.mk (Kd.R_below (rb_ HO292.out) hb)
      have n3_ := Aside0.mk (Kd.R_below (rb_ HO299.out) hb)
      have n4_ := Aside0.mk (Kd.R_below (rb_ HO304.out) hb)
      have n5_ := Aside0.mk (Kd.R_below (rb_ HO307.out) hb)
      have n6_ := Aside0.mk (Kd.R_below (rb_ HO311.out) hb)
      have n7_ := Aside0.mk (Kd.R_below (rb_ HO316.out) hb)
      have n8_ := Aside0.mk (Kd.R_below (rb_ HO319.out) hb)
      have n9_ := Aside0.mk (blk_below (g := gb279) (o := .cells #[.slice A0_0 l0_0.length c0_0, .int .i64 a0_1, .bool a0_2, .slice A0_3 l0_3.length c0_3, .slice A0_4 l0_4.length c0_4] 59 (0, 0)) (bk_ BK279.out) hb)
      have n10_ := Aside0.mk (blk_below (g := gb280) (o := .cells #[.int .i64 a1_0, .int .i64 a1_1, .int .i64 a1_2, .int .i64 a1_3] 65 (0, 0)) (bk_ BK280.out) hb)
      have n11_ := Aside0.mk (blk_below (g := gb308) (o := .cells #[.slice Ao37 t297.length co37, .int .i64 t300, .bool t301, .slice Ao41 t302.length co41, .slice Ao43 t305.length co43] 36 (0, 0)) (bk_ BK308.out) hb)
      have n12_ := Aside0.mk (blk_below (g := gb320) (o := .cells #[.slice Ao49 t309.length co49, .int .i64 t312, .bool t313, .slice Ao54 t314.length co54, .slice Ao55 t317.length co55] 36 (0, 0)) (bk_ BK320.out) hb)
      have n13_ := Aside0.mk (below_step z5_ hb)
      have n14_ := Aside0.mk (hbox)
      have n15_ := Aside0.mk ((by rw [hg]; exact (below_size z5_) : w.heap.size ≤ gb336))
      have n16_ := Aside0.mk ((by rw [hg]; exact (below_size z5_) : w.heap.size ≤ gb336))
      have n17_ := Aside0.mk ((z6_ : gb279 ≠ gb336))
      have n18_ := Aside0.mk ((z7_ : gb336 ≠ gb279))
      have n19_ := Aside0.mk ((z8_ : gb280 ≠ gb336))
      have n20_ := Aside0.mk ((z9_ : gb336 ≠ gb280))
      have n21_ := Aside0.mk ((z10_ : gb308 ≠ gb336))
      have n22_ := Aside0.mk ((z11_ : gb336 ≠ gb308))
      have n23_ := Aside0.mk ((z51_ : gb320 ≠ gb336))
      have n24_ := Aside0.mk ((z52_ : gb336 ≠ gb320))
      clear HO284 HO289 HO292 HO299 HO304 HO307 HO311 HO316 HO319 BK279 BK280 BK308 BK320 HB
      have HO284 := n0_
      have HO289 := n1_
      have HO292 := n2_
      have HO299 := n3_
      have HO304 := n4_
      have HO307 := n5_
      have HO311 := n6_
      have HO316 := n7_
      have HO319 := n8_
      have BK279 := n9_
      have BK280 := n10_
      have BK308 := n11_
      have BK320 := n12_
      have HB := n13_
      have BK336 := n14_
      have GW336 := n15_
      have GE336 := n16_
      have NB279_336 := n17_
      have NB336_279 := n18_
      have NB280_336 := n19_
      have NB336_280 := n20_
      have NB308_336 := n21_
      have NB336_308 := n22_
      have NB320_336 := n23_
      have NB336_320 := n24_
      clear n0_ n1_ n2_ n3_ n4_ n5_ n6_ n7_ n8_ n9_ n10_ n11_ n12_ n13_ n14_ n15_ n16_ n17_ n18_ n19_ n20_ n21_ n22_ n23_ n24_ hb hbox hg
      refine hK.out _ _ ⟨(blk_cell BK320.out 0).trans rfl, (blk_cell BK320.out 1).trans rfl, (blk_cell BK320.out 2).trans rfl, (blk_cell BK320.out 3).trans rfl, (blk_cell BK320.out 4).trans rfl, (blk_cell BK280.out 0).trans rfl, (blk_cell BK280.out 1).trans rfl, (blk_cell BK280.out 2).trans rfl, (blk_cell BK280.out 3).trans rfl⟩ (fun hHeld => ?_)
      clear hK K
      refine norm_ (a' := ?_) ?_ ?_
      rotate_left
      ·
       show Act.put _ (some 8) _ = _
       simp only [Act.put, List.setIfInBounds_toArray, List.set_cons_zero, List.set_cons_succ, i64_w, i32_w]
       rfl
      refine one_ (i := 2) (N := some 27) #[true, true, true, false, true, false] rfl rfl (by kernel_rfl) (by decide) (fun K hK => ?_)
      refine goes_ Try.func42 (by kernel_rfl) rfl #[.agg #[.int .i64 a1_0, .int .i64 a1_1, .int .i64 a1_2, .int .i64 a1_3]] (by rfl) rfl rfl z4_ ?_
      with_reducible refine (laws_toHelp.calls a1_0 a1_1 a1_2 a1_3 t321 t322 t323 t324 _ A14.out).mono ?_
      rintro e w59 ⟨rfl, hb⟩
      refine ⟨_, rfl, ?_⟩
      have n0_ := Aside0.mk (Kd.R_below (rb_ HO284.out) hb)
      have n1_ := Aside0.mk (Kd.R_below (rb_ HO289.out) hb)
      have n2_ := Aside0.mk (Kd.R_below (rb_ HO292.out) hb)
      have n3_ := Aside0.mk (Kd.R_below (rb_ HO299.out) hb)
      have n4_ := Aside0.mk (Kd.R_below (rb_ HO304.out) hb)
      have n5_ := Aside0.mk (Kd.R_below (rb_ HO307.out) hb)
      have n6_ := Aside0.mk (Kd.R_below (rb_ HO311.out) hb)
      have n7_ := Aside0.mk (Kd.R_below (rb_ HO316.out) hb)
      have n8_ := Aside0.mk (Kd.R_below (rb_ HO319.out) hb)
      have n9_ := Aside0.mk (blk_below (g := gb279) (o := .cells #[.slice A0_0 l0_0.length c0_0, .int .i64 a0_1, .bool a0_2, .slice A0_3 l0_3.length c0_3, .slice A0_4 l0_4.length c0_4] 59 (0, 0)) (bk_ BK279.out) hb)
      have n10_ := Aside0.mk (blk_below (g := gb280) (o := .cells #[.int .i64 a1_0, .int .i64 a1_1, .int .i64 a1_2, .int .i64 a1_3] 65 (0, 0)) (bk_ BK280.out) hb)
      have n11_ := Aside0.mk (blk_below (g := gb308) (o := .cells #[.slice Ao37 t297.length co37, .int .i64 t300, .bool t301, .slice Ao41 t302.length co41, .slice Ao43 t305.length co43] 36 (0, 0)) (bk_ BK308.out) hb)
      have n12_ := Aside0.mk (blk_below (g := gb320) (o := .cells #[.slice Ao49 t309.length co49, .int .i64 t312, .bool t313, .slice Ao54 t314.length co54, .slice Ao55 t317.length co55] 36 (0, 0)) (bk_ BK320.out) hb)
      have n13_ := Aside0.mk (blk_below (g := gb336) (o := .cells #[.slice none 0 0, .int .i64 0, .bool false, .slice none 0 0, .slice none 0 0] 36 (0, 0)) (bk_ BK336.out) hb)
      have n14_ := Aside0.mk (below_step z0_ hb)
      clear HO284 HO289 HO292 HO299 HO304 HO307 HO311 HO316 HO319 BK279 BK280 BK308 BK320 BK336 HB
      have HO284 := n0_
      have HO289 := n1_
      have HO292 := n2_
      have HO299 := n3_
      have HO304 := n4_
      have HO307 := n5_
      have HO311 := n6_
      have HO316 := n7_
      have HO319 := n8_
      have BK279 := n9_
      have BK280 := n10_
      have BK308 := n11_
      have BK320 := n12_
      have BK336 := n13_
      have HB := n14_
      clear n0_ n1_ n2_ n3_ n4_ n5_ n6_ n7_ n8_ n9_ n10_ n11_ n12_ n13_ n14_
      (try clear hb)
      (try clear hb2)
      (try clear hk)
      (try clear hi)
      refine hK.out _ _ ⟨(blk_cell BK320.out 0).trans rfl, (blk_cell BK320.out 1).trans rfl, (blk_cell BK320.out 2).trans rfl, (blk_cell BK320.out 3).trans rfl, (blk_cell BK320.out 4).trans rfl, (blk_cell BK280.out 0).trans rfl, (blk_cell BK280.out 1).trans rfl, (blk_cell BK280.out 2).trans rfl, (blk_cell BK280.out 3).trans rfl⟩ (fun hHeld => ?_)
      clear hK K
      refine norm_ (a' := ?_) ?_ ?_
      rotate_left
      ·
       show Act.put _ (some 27) _ = _
       simp only [Act.put, List.setIfInBounds_toArray, List.set_cons_zero, List.set_cons_succ, i64_w, i32_w]
       rfl
      refine one_ (i := 3) (N := some 28) #[true, true, true, true, true, false] rfl rfl (by kernel_rfl) (by decide) (fun K hK => ?_)
      refine goes_ Try.func47 (by kernel_rfl) rfl #[.agg #[.slice Ao49 t309.length co49, .int .i64 t312, .bool t313, .slice Ao54 t314.length co54, .slice Ao55 t317.length co55], .agg #[.int .i64 t321, .int .i64 t322, .int .i64 t323, .int .i64 t324]] (by rfl) rfl rfl z4_ ?_
      with_reducible refine (impl_Swap.calls _ _ t309 t312 t313 _ _ t314 _ _ t317 t321 t322 t323 t324 t325 t328 t329 t330 t333 _ ?side1 ?side2 ?side3 ?side4 ?side5 ?side6 A15.out).mono ?_
      (case side1 => repeat (first | exact (Kd.R_reads' HO311.out).2.2 | (with_reducible refine Kd.C_alloc ?_ _) | (with_reducible refine Kd.C_drewN ?_ _) | (with_reducible refine Kd.C_drew ?_)))
      (case side2 => exact (Kd.R_reads' HO311.out).2.1)
      (case side3 => repeat (first | exact (Kd.R_reads' HO316.out).2.2 | (with_reducible refine Kd.C_alloc ?_ _) | (with_reducible refine Kd.C_drewN ?_ _) | (with_reducible refine Kd.C_drew ?_)))
      (case side4 => exact (Kd.R_reads' HO316.out).2.1)
      (case side5 => repeat (first | exact (Kd.R_reads' HO319.out).2.2 | (with_reducible refine Kd.C_alloc ?_ _) | (with_reducible refine Kd.C_drewN ?_ _) | (with_reducible refine Kd.C_drew ?_)))
      (case side6 => exact (Kd.R_reads' HO319.out).2.1)
      rintro e w60 ⟨v326, v331, v334, rfl, ho0, ho1, ho2, hb⟩
      refine ⟨_, rfl, ?_⟩
      have n0_ := Aside0.mk (Kd.R_elder' (rb_ HO284.out) (Kd.R_base ho0) hb)
      have n1_ := Aside0.mk (Kd.R_elder' (rb_ HO289.out) (Kd.R_base ho1) hb)
      have n2_ := Aside0.mk (Kd.R_elder' (rb_ HO292.out) (Kd.R_base ho2) hb)
      have n3_ := Aside0.mk (Kd.R_elder' (rb_ HO299.out) (Kd.R_base ho0) hb)
      have n4_ := Aside0.mk (Kd.R_elder' (rb_ HO304.out) (Kd.R_base ho1) hb)
      have n5_ := Aside0.mk (Kd.R_elder' (rb_ HO307.out) (Kd.R_base ho2) hb)
      have n6_ := Aside0.mk (Kd.R_elder' (rb_ HO311.out) (Kd.R_base ho0) hb)
      have n7_ := Aside0.mk (Kd.R_elder' (rb_ HO316.out) (Kd.R_base ho1) hb)
      have n8_ := Aside0.mk (Kd.R_elder' (rb_ HO319.out) (Kd.R_base ho2) hb)
      have n9_ := Aside0.mk (Kd.R_lower (Kd.R_new' (Kd.R_new' (Kd.R_new' ho0 (Kd.R_lt (rb_ HO284.out))) (Kd.R_lt (rb_ HO299.out))) (Kd.R_lt (rb_ HO311.out))) (below_size z0_))
      have n10_ := Aside0.mk (Kd.R_lower (Kd.R_new' (Kd.R_new' (Kd.R_new' ho1 (Kd.R_lt (rb_ HO289.out))) (Kd.R_lt (rb_ HO304.out))) (Kd.R_lt (rb_ HO316.out))) (below_size z0_))
      have n11_ := Aside0.mk (Kd.R_lower (Kd.R_new' (Kd.R_new' (Kd.R_new' ho2 (Kd.R_lt (rb_ HO292.out))) (Kd.R_lt (rb_ HO307.out))) (Kd.R_lt (rb_ HO319.out))) (below_size z0_))
      have n12_ := Aside0.mk (blk_below (g := gb279) (o := .cells #[.slice A0_0 l0_0.length c0_0, .int .i64 a0_1, .bool a0_2, .slice A0_3 l0_3.length c0_3, .slice A0_4 l0_4.length c0_4] 59 (0, 0)) (bk_ BK279.out) hb)
      have n13_ := Aside0.mk (blk_below (g := gb280) (o := .cells #[.int .i64 a1_0, .int .i64 a1_1, .int .i64 a1_2, .int .i64 a1_3] 65 (0, 0)) (bk_ BK280.out) hb)
      have n14_ := Aside0.mk (blk_below (g := gb308) (o := .cells #[.slice Ao37 t297.length co37, .int .i64 t300, .bool t301, .slice Ao41 t302.length co41, .slice Ao43 t305.length co43] 36 (0, 0)) (bk_ BK308.out) hb)
      have n15_ := Aside0.mk (blk_below (g := gb320) (o := .cells #[.slice Ao49 t309.length co49, .int .i64 t312, .bool t313, .slice Ao54 t314.length co54, .slice Ao55 t317.length co55] 36 (0, 0)) (bk_ BK320.out) hb)
      have n16_ := Aside0.mk (blk_below (g := gb336) (o := .cells #[.slice none 0 0, .int .i64 0, .bool false, .slice none 0 0, .slice none 0 0] 36 (0, 0)) (bk_ BK336.out) hb)
      have n17_ := Aside0.mk (below_step z0_ hb)
      clear HO284 HO289 HO292 HO299 HO304 HO307 HO311 HO316 HO319 BK279 BK280 BK308 BK320 BK336 HB
      have HO284 := n0_
      have HO289 := n1_
      have HO292 := n2_
      have HO299 := n3_
      have HO304 := n4_
      have HO307 := n5_
      have HO311 := n6_
      have HO316 := n7_
      have HO319 := n8_
      have HO327 := n9_
      have HO332 := n10_
      have HO335 := n11_
      have BK279 := n12_
      have BK280 := n13_
      have BK308 := n14_
      have BK320 := n15_
      have BK336 := n16_
      have HB := n17_
      clear n0_ n1_ n2_ n3_ n4_ n5_ n6_ n7_ n8_ n9_ n10_ n11_ n12_ n13_ n14_ n15_ n16_ n17_
      (try clear hb)
      (try clear hb2)
      (try clear hk)
      (try clear hi)
      (try clear ho0)
      (try clear ho1)
      (try clear ho2)
      refine hK.out _ _ ⟨(blk_cell BK320.out 0).trans rfl, (blk_cell BK320.out 1).trans rfl, (blk_cell BK320.out 2).trans rfl, (blk_cell BK320.out 3).trans rfl, (blk_cell BK320.out 4).trans rfl, (blk_cell BK280.out 0).trans rfl, (blk_cell BK280.out 1).trans rfl, (blk_cell BK280.out 2).trans rfl, (blk_cell BK280.out 3).trans rfl⟩ (fun hHeld => ?_)
      clear hK K
      refine norm_ (a' := ?_) ?_ ?_
      rotate_left
      ·
       show Act.put _ (some 28) _ = _
       simp only [Act.put, List.setIfInBounds_toArray, List.set_cons_zero, List.set_cons_succ, i64_w, i32_w]
       rfl
      exact norm_ (by simp only [putAll, Act.put, List.setIfInBounds_toArray, List.set_cons_zero, List.set_cons_succ]) (hCont (v326, v331, v334, gb336) _ ⟨hHeld, (by (with_reducible repeat (first | apply Kd.R_alloc | apply Kd.R_drewN | apply Kd.R_drew)); exact Kd.R_mono HO284.out (fun _ hk => ⟨hk.1.1, ⟨hk.1.2, hk.2⟩⟩)), (by (with_reducible repeat (first | apply Kd.R_alloc | apply Kd.R_drewN | apply Kd.R_drew)); exact Kd.R_mono HO289.out (fun _ hk => ⟨hk.1.1, ⟨hk.1.2, hk.2⟩⟩)), (by (with_reducible repeat (first | apply Kd.R_alloc | apply Kd.R_drewN | apply Kd.R_drew)); exact Kd.R_mono HO292.out (fun _ hk => ⟨hk.1.1, ⟨hk.1.2, hk.2⟩⟩)), (by (with_reducible repeat (first | apply Kd.R_alloc | apply Kd.R_drewN | apply Kd.R_drew)); exact Kd.R_mono HO299.out (fun _ hk => ⟨hk.1.1, ⟨hk.1.2, hk.2⟩⟩)), (by (with_reducible repeat (first | apply Kd.R_alloc | apply Kd.R_drewN | apply Kd.R_drew)); exact Kd.R_mono HO304.out (fun _ hk => ⟨hk.1.1, ⟨hk.1.2, hk.2⟩⟩)), (by (with_reducible repeat (first | apply Kd.R_alloc | apply Kd.R_drewN | apply Kd.R_drew)); exact Kd.R_mono HO307.out (fun _ hk => ⟨hk.1.1, ⟨hk.1.2, hk.2⟩⟩)), (by (with_reducible repeat (first | apply Kd.R_alloc | apply Kd.R_drewN | apply Kd.R_drew)); exact Kd.R_mono HO311.out (fun _ hk => ⟨hk.1.1, ⟨hk.1.2, hk.2⟩⟩)), (by (with_reducible repeat (first | apply Kd.R_alloc | apply Kd.R_drewN | apply Kd.R_drew)); exact Kd.R_mono HO316.out (fun _ hk => ⟨hk.1.1, ⟨hk.1.2, hk.2⟩⟩)), (by (with_reducible repeat (first | apply Kd.R_alloc | apply Kd.R_drewN | apply Kd.R_drew)); exact Kd.R_mono HO319.out (fun _ hk => ⟨hk.1.1, ⟨hk.1.2, hk.2⟩⟩)), (by (with_reducible repeat (first | apply Kd.R_alloc | apply Kd.R_drewN | apply Kd.R_drew)); exact Kd.R_mono HO327.out (fun _ hk => ⟨hk.1.1.2, ⟨hk.1.2, hk.2⟩⟩)), (by (with_reducible repeat (first | apply Kd.R_alloc | apply Kd.R_drewN | apply Kd.R_drew)); exact Kd.R_mono HO332.out (fun _ hk => ⟨hk.1.1.2, ⟨hk.1.2, hk.2⟩⟩)), (by (with_reducible repeat (first | apply Kd.R_alloc | apply Kd.R_drewN | apply Kd.R_drew)); exact Kd.R_mono HO335.out (fun _ hk => ⟨hk.1.1.2, ⟨hk.1.2, hk.2⟩⟩)), bk_ BK279.out, bk_ BK280.out, bk_ BK308.out, bk_ BK320.out, bk_ BK336.out, GW336.out, GE336.out, NB279_336.out, NB336_279.out, NB280_336.out, NB336_280.out, NB308_336.out, NB336_308.out, NB320_336.out, NB336_320.out, z0_⟩)
    rintro ⟨v326, v331, v334, gb336⟩ w61 ⟨hS_, h0_, h1_, h2_, h3_, h4_, h5_, h6_, h7_, h8_, h9_, h10_, h11_, h12_, h13_, h14_, h15_, h16_, h17_, h18_, h19_, h20_, h21_, h22_, h23_, h24_, h25_, h26_, h27_⟩
    have n0_ : Aside0 (Kd.R k88 88 w61 w.heap.size (fun k_ => some k_ ≠ (.slice Ao37 t297.length co37 : Value).ownBlock ∧ some k_ ≠ (.slice Ao49 t309.length co49 : Value).ownBlock ∧ some k_ ≠ (v326 : Value).ownBlock) v283 t282) := ⟨h0_⟩
    have n1_ : Aside0 (Kd.R k136 136 w61 w.heap.size (fun k_ => some k_ ≠ (.slice Ao41 t302.length co41 : Value).ownBlock ∧ some k_ ≠ (.slice Ao54 t314.length co54 : Value).ownBlock ∧ some k_ ≠ (v331 : Value).ownBlock) v288 t287) := ⟨h1_⟩
    have n2_ : Aside0 (Kd.R k67 67 w61 w.heap.size (fun k_ => some k_ ≠ (.slice Ao43 t305.length co43 : Value).ownBlock ∧ some k_ ≠ (.slice Ao55 t317.length co55 : Value).ownBlock ∧ some k_ ≠ (v334 : Value).ownBlock) v291 t290) := ⟨h2_⟩
    have n3_ : Aside0 (Kd.R k88 88 w61 w.heap.size (fun k_ => some k_ ≠ (v283 : Value).ownBlock ∧ some k_ ≠ (.slice Ao49 t309.length co49 : Value).ownBlock ∧ some k_ ≠ (v326 : Value).ownBlock) (.slice Ao37 t297.length co37) t297) := ⟨h3_⟩
    have n4_ : Aside0 (Kd.R k136 136 w61 w.heap.size (fun k_ => some k_ ≠ (v288 : Value).ownBlock ∧ some k_ ≠ (.slice Ao54 t314.length co54 : Value).ownBlock ∧ some k_ ≠ (v331 : Value).ownBlock) (.slice Ao41 t302.length co41) t302) := ⟨h4_⟩
    have n5_ : Aside0 (Kd.R k67 67 w61 w.heap.size (fun k_ => some k_ ≠ (v291 : Value).ownBlock ∧ some k_ ≠ (.slice Ao55 t317.length co55 : Value).ownBlock ∧ some k_ ≠ (v334 : Value).ownBlock) (.slice Ao43 t305.length co43) t305) := ⟨h5_⟩
    have n6_ : Aside0 (Kd.R k88 88 w61 w.heap.size (fun k_ => some k_ ≠ (v283 : Value).ownBlock ∧ some k_ ≠ (.slice Ao37 t297.length co37 : Value).ownBlock ∧ some k_ ≠ (v326 : Value).ownBlock) (.slice Ao49 t309.length co49) t309) := ⟨h6_⟩
    have n7_ : Aside0 (Kd.R k136 136 w61 w.heap.size (fun k_ => some k_ ≠ (v288 : Value).ownBlock ∧ some k_ ≠ (.slice Ao41 t302.length co41 : Value).ownBlock ∧ some k_ ≠ (v331 : Value).ownBlock) (.slice Ao54 t314.length co54) t314) := ⟨h7_⟩
    have n8_ : Aside0 (Kd.R k67 67 w61 w.heap.size (fun k_ => some k_ ≠ (v291 : Value).ownBlock ∧ some k_ ≠ (.slice Ao43 t305.length co43 : Value).ownBlock ∧ some k_ ≠ (v334 : Value).ownBlock) (.slice Ao55 t317.length co55) t317) := ⟨h8_⟩
    have n9_ : Aside0 (Kd.R k88 88 w61 w.heap.size (fun k_ => some k_ ≠ (v283 : Value).ownBlock ∧ some k_ ≠ (.slice Ao37 t297.length co37 : Value).ownBlock ∧ some k_ ≠ (.slice Ao49 t309.length co49 : Value).ownBlock) v326 t325) := ⟨h9_⟩
    have n10_ : Aside0 (Kd.R k136 136 w61 w.heap.size (fun k_ => some k_ ≠ (v288 : Value).ownBlock ∧ some k_ ≠ (.slice Ao41 t302.length co41 : Value).ownBlock ∧ some k_ ≠ (.slice Ao54 t314.length co54 : Value).ownBlock) v331 t330) := ⟨h10_⟩
    have n11_ : Aside0 (Kd.R k67 67 w61 w.heap.size (fun k_ => some k_ ≠ (v291 : Value).ownBlock ∧ some k_ ≠ (.slice Ao43 t305.length co43 : Value).ownBlock ∧ some k_ ≠ (.slice Ao55 t317.length co55 : Value).ownBlock) v334 t333) := ⟨h11_⟩
    have n12_ : Aside0 (w61.heap[gb279]? = some (.cells #[.slice A0_0 l0_0.length c0_0, .int .i64 a0_1, .bool a0_2, .slice A0_3 l0_3.length c0_3, .slice A0_4 l0_4.length c0_4] 59 (0, 0))) := ⟨h12_⟩
    have n13_ : Aside0 (w61.heap[gb280]? = some (.cells #[.int .i64 a1_0, .int .i64 a1_1, .int .i64 a1_2, .int .i64 a1_3] 65 (0, 0))) := ⟨h13_⟩
    have n14_ : Aside0 (w61.heap[gb308]? = some (.cells #[.slice Ao37 t297.length co37, .int .i64 t300, .bool t301, .slice Ao41 t302.length co41, .slice Ao43 t305.length co43] 36 (0, 0))) := ⟨h14_⟩
    have n15_ : Aside0 (w61.heap[gb320]? = some (.cells #[.slice Ao49 t309.length co49, .int .i64 t312, .bool t313, .slice Ao54 t314.length co54, .slice Ao55 t317.length co55] 36 (0, 0))) := ⟨h15_⟩
    have n16_ : Aside0 (w61.heap[gb336]? = some (.cells #[.slice none 0 0, .int .i64 0, .bool false, .slice none 0 0, .slice none 0 0] 36 (0, 0))) := ⟨h16_⟩
    have n17_ : Aside0 (w.heap.size ≤ gb336) := ⟨h17_⟩
    have n18_ : Aside0 (w.heap.size ≤ gb336) := ⟨h18_⟩
    have n19_ : Aside0 (gb279 ≠ gb336) := ⟨h19_⟩
    have n20_ : Aside0 (gb336 ≠ gb279) := ⟨h20_⟩
    have n21_ : Aside0 (gb280 ≠ gb336) := ⟨h21_⟩
    have n22_ : Aside0 (gb336 ≠ gb280) := ⟨h22_⟩
    have n23_ : Aside0 (gb308 ≠ gb336) := ⟨h23_⟩
    have n24_ : Aside0 (gb336 ≠ gb308) := ⟨h24_⟩
    have n25_ : Aside0 (gb320 ≠ gb336) := ⟨h25_⟩
    have n26_ : Aside0 (gb336 ≠ gb320) := ⟨h26_⟩
    have n27_ : Aside0 (Below w.heap.size w w61) := ⟨h27_⟩
    clear HO284 HO289 HO292 HO299 HO304 HO307 HO311 HO316 HO319 BK279 BK280 BK308 BK320 HB h0_ h1_ h2_ h3_ h4_ h5_ h6_ h7_ h8_ h9_ h10_ h11_ h12_ h13_ h14_ h15_ h16_ h17_ h18_ h19_ h20_ h21_ h22_ h23_ h24_ h25_ h26_ h27_
    have HO284 := n0_
    have HO289 := n1_
    have HO292 := n2_
    have HO299 := n3_
    have HO304 := n4_
    have HO307 := n5_
    have HO311 := n6_
    have HO316 := n7_
    have HO319 := n8_
    have HO327 := n9_
    have HO332 := n10_
    have HO335 := n11_
    have BK279 := n12_
    have BK280 := n13_
    have BK308 := n14_
    have BK320 := n15_
    have BK336 := n16_
    have GW336 := n17_
    have GE336 := n18_
    have NB279_336 := n19_
    have NB336_279 := n20_
    have NB280_336 := n21_
    have NB336_280 := n22_
    have NB308_336 := n23_
    have NB336_308 := n24_
    have NB320_336 := n25_
    have NB336_320 := n26_
    have HB := n27_
    clear n0_ n1_ n2_ n3_ n4_ n5_ n6_ n7_ n8_ n9_ n10_ n11_ n12_ n13_ n14_ n15_ n16_ n17_ n18_ n19_ n20_ n21_ n22_ n23_ n24_ n25_ n26_ n27_
    have hHeld : w61.cell? ⟨gb320, 0, none⟩ = some (.slice Ao49 t309.length co49) ∧ w61.cell? ⟨gb320, 1, none⟩ = some (.int .i64 t312) ∧ w61.cell? ⟨gb320, 2, none⟩ = some (.bool t313) ∧ w61.cell? ⟨gb320, 3, none⟩ = some (.slice Ao54 t314.length co54) ∧ w61.cell? ⟨gb320, 4, none⟩ = some (.slice Ao55 t317.length co55) ∧ w61.cell? ⟨gb280, 0, none⟩ = some (.int .i64 a1_0) ∧ w61.cell? ⟨gb280, 1, none⟩ = some (.int .i64 a1_1) ∧ w61.cell? ⟨gb280, 2, none⟩ = some (.int .i64 a1_2) ∧ w61.cell? ⟨gb280, 3, none⟩ = some (.int .i64 a1_3) := hS_
    obtain ⟨Ao62, co62, eo62⟩ := Kd.R_slice HO327.out
    (first | subst eo62 | (injection eo62 with f1_ f2_ f3_; have f4_ := f1_.symm; have f5_ := f3_.symm; clear f1_ f2_ f3_; subst f4_; subst f5_))
    obtain ⟨Ao66, co66, eo66⟩ := Kd.R_slice HO332.out
    (first | subst eo66 | (injection eo66 with f1_ f2_ f3_; have f4_ := f1_.symm; have f5_ := f3_.symm; clear f1_ f2_ f3_; subst f4_; subst f5_))
    obtain ⟨Ao68, co68, eo68⟩ := Kd.R_slice HO335.out
    (first | subst eo68 | (injection eo68 with f1_ f2_ f3_; have f4_ := f1_.symm; have f5_ := f3_.symm; clear f1_ f2_ f3_; subst f4_; subst f5_))
    refine norm_ (a' := ?_) ?_ ?_
    rotate_left
    ·
     simp only [putAll, Act.put, List.setIfInBounds_toArray, List.set_cons_zero, List.set_cons_succ]
     rfl
    refine one_ (i := 5) (N := none) #[true, true, true, true, true, true] rfl rfl (by kernel_rfl) (by decide) (fun K hK => ?_)
    have hs63 : w61.cell? ⟨gb336, 0, none⟩ = some (.slice none 0 0) := (blk_cell BK336.out 0).trans rfl
    have hfs63 := blk_frozen BK336.out 0
    have hns63_0 := NB279_336.out
    have hns63_1 := NB280_336.out
    have hns63_2 := NB308_336.out
    have hns63_3 := NB320_336.out
    have hms63_0 := NB336_279.out
    have hms63_1 := NB336_280.out
    have hms63_2 := NB336_308.out
    have hms63_3 := NB336_320.out
    have hs64 : w61.cell? ⟨gb336, 1, none⟩ = some (.int .i64 0) := (blk_cell BK336.out 1).trans rfl
    have hfs64 := blk_frozen BK336.out 1
    have hns64_0 := NB279_336.out
    have hns64_1 := NB280_336.out
    have hns64_2 := NB308_336.out
    have hns64_3 := NB320_336.out
    have hms64_0 := NB336_279.out
    have hms64_1 := NB336_280.out
    have hms64_2 := NB336_308.out
    have hms64_3 := NB336_320.out
    have hs65 : w61.cell? ⟨gb336, 2, none⟩ = some (.bool false) := (blk_cell BK336.out 2).trans rfl
    have hfs65 := blk_frozen BK336.out 2
    have hns65_0 := NB279_336.out
    have hns65_1 := NB280_336.out
    have hns65_2 := NB308_336.out
    have hns65_3 := NB320_336.out
    have hms65_0 := NB336_279.out
    have hms65_1 := NB336_280.out
    have hms65_2 := NB336_308.out
    have hms65_3 := NB336_320.out
    have hs67 : w61.cell? ⟨gb336, 3, none⟩ = some (.slice none 0 0) := (blk_cell BK336.out 3).trans rfl
    have hfs67 := blk_frozen BK336.out 3
    have hns67_0 := NB279_336.out
    have hns67_1 := NB280_336.out
    have hns67_2 := NB308_336.out
    have hns67_3 := NB320_336.out
    have hms67_0 := NB336_279.out
    have hms67_1 := NB336_280.out
    have hms67_2 := NB336_308.out
    have hms67_3 := NB336_320.out
    have hs69 : w61.cell? ⟨gb336, 4, none⟩ = some (.slice none 0 0) := (blk_cell BK336.out 4).trans rfl
    have hfs69 := blk_frozen BK336.out 4
    have hns69_0 := NB279_336.out
    have hns69_1 := NB280_336.out
    have hns69_2 := NB308_336.out
    have hns69_3 := NB320_336.out
    have hms69_0 := NB336_279.out
    have hms69_1 := NB336_280.out
    have hms69_2 := NB336_308.out
    have hms69_3 := NB336_320.out
    refine skip_ (w1 := ?_) (by rfl) rfl ?_ ?_
    rotate_left
    ·
     go_simp
     rfl
    refine hK.out _ _ ⟨((cell_far (p := ⟨gb336, _, none⟩) NB320_336.out _).trans (((cell_far (p := ⟨gb336, _, none⟩) NB320_336.out _).trans (((cell_far (p := ⟨gb336, _, none⟩) NB320_336.out _).trans (((cell_far (p := ⟨gb336, _, none⟩) NB320_336.out _).trans (((cell_far (p := ⟨gb336, _, none⟩) NB320_336.out _).trans (hHeld.1)))))))))), ((cell_far (p := ⟨gb336, _, none⟩) NB320_336.out _).trans (((cell_far (p := ⟨gb336, _, none⟩) NB320_336.out _).trans (((cell_far (p := ⟨gb336, _, none⟩) NB320_336.out _).trans (((cell_far (p := ⟨gb336, _, none⟩) NB320_336.out _).trans (((cell_far (p := ⟨gb336, _, none⟩) NB320_336.out _).trans (hHeld.2.1)))))))))), ((cell_far (p := ⟨gb336, _, none⟩) NB320_336.out _).trans (((cell_far (p := ⟨gb336, _, none⟩) NB320_336.out _).trans (((cell_far (p := ⟨gb336, _, none⟩) NB320_336.out _).trans (((cell_far (p := ⟨gb336, _, none⟩) NB320_336.out _).trans (((cell_far (p := ⟨gb336, _, none⟩) NB320_336.out _).trans (hHeld.2.2.1)))))))))), ((cell_far (p := ⟨gb336, _, none⟩) NB320_336.out _).trans (((cell_far (p := ⟨gb336, _, none⟩) NB320_336.out _).trans (((cell_far (p := ⟨gb336, _, none⟩) NB320_336.out _).trans (((cell_far (p := ⟨gb336, _, none⟩) NB320_336.out _).trans (((cell_far (p := ⟨gb336, _, none⟩) NB320_336.out _).trans (hHeld.2.2.2.1)))))))))), ((cell_far (p := ⟨gb336, _, none⟩) NB320_336.out _).trans (((cell_far (p := ⟨gb336, _, none⟩) NB320_336.out _).trans (((cell_far (p := ⟨gb336, _, none⟩) NB320_336.out _).trans (((cell_far (p := ⟨gb336, _, none⟩) NB320_336.out _).trans (((cell_far (p := ⟨gb336, _, none⟩) NB320_336.out _).trans (hHeld.2.2.2.2.1)))))))))), ((cell_far (p := ⟨gb336, _, none⟩) NB280_336.out _).trans (((cell_far (p := ⟨gb336, _, none⟩) NB280_336.out _).trans (((cell_far (p := ⟨gb336, _, none⟩) NB280_336.out _).trans (((cell_far (p := ⟨gb336, _, none⟩) NB280_336.out _).trans (((cell_far (p := ⟨gb336, _, none⟩) NB280_336.out _).trans (hHeld.2.2.2.2.2.1)))))))))), ((cell_far (p := ⟨gb336, _, none⟩) NB280_336.out _).trans (((cell_far (p := ⟨gb336, _, none⟩) NB280_336.out _).trans (((cell_far (p := ⟨gb336, _, none⟩) NB280_336.out _).trans (((cell_far (p := ⟨gb336, _, none⟩) NB280_336.out _).trans (((cell_far (p := ⟨gb336, _, none⟩) NB280_336.out _).trans (hHeld.2.2.2.2.2.2.1)))))))))), ((cell_far (p := ⟨gb336, _, none⟩) NB280_336.out _).trans (((cell_far (p := ⟨gb336, _, none⟩) NB280_336.out _).trans (((cell_far (p := ⟨gb336, _, none⟩) NB280_336.out _).trans (((cell_far (p := ⟨gb336, _, none⟩) NB280_336.out _).trans (((cell_far (p := ⟨gb336, _, none⟩) NB280_336.out _).trans (hHeld.2.2.2.2.2.2.2.1)))))))))), ((cell_far (p := ⟨gb336, _, none⟩) NB280_336.out _).trans (((cell_far (p := ⟨gb336, _, none⟩) NB280_336.out _).trans (((cell_far (p := ⟨gb336, _, none⟩) NB280_336.out _).trans (((cell_far (p := ⟨gb336, _, none⟩) NB280_336.out _).trans (((cell_far (p := ⟨gb336, _, none⟩) NB280_336.out _).trans (hHeld.2.2.2.2.2.2.2.2))))))))))⟩ (fun hHeld => ?_)
    clear hK K
    refine done_ (by kernel_rfl) ?_
    have hnb70 := NB336_279.out
    have hnc70 := NB279_336.out
    have hnb71 := NB336_280.out
    have hnc71 := NB280_336.out
    have hnb72 := NB336_308.out
    have hnc72 := NB308_336.out
    have hnb73 := NB336_320.out
    have hnc73 := NB320_336.out
    have hcz74_0 : w61.cell? ⟨gb336, 0, none⟩ = some (.slice none 0 0) := (blk_cell BK336.out 0).trans rfl
    have hcz74_1 : w61.cell? ⟨gb336, 1, none⟩ = some (.int .i64 0) := (blk_cell BK336.out 1).trans rfl
    have hcz74_2 : w61.cell? ⟨gb336, 2, none⟩ = some (.bool false) := (blk_cell BK336.out 2).trans rfl
    have hcz74_3 : w61.cell? ⟨gb336, 3, none⟩ = some (.slice none 0 0) := (blk_cell BK336.out 3).trans rfl
    have hcz74_4 : w61.cell? ⟨gb336, 4, none⟩ = some (.slice none 0 0) := (blk_cell BK336.out 4).trans rfl
    have hfz74_0 := blk_frozen BK336.out 0
    have hfz74_1 := blk_frozen BK336.out 1
    have hfz74_2 := blk_frozen BK336.out 2
    have hfz74_3 := blk_frozen BK336.out 3
    have hfz74_4 := blk_frozen BK336.out 4
    have hnb75 := NB308_280.out
    have hnc75 := NB280_308.out
    have hcz76_0 : w61.cell? ⟨gb308, 0, none⟩ = some (.slice Ao37 t297.length co37) := (blk_cell BK308.out 0).trans rfl
    have hcz76_1 : w61.cell? ⟨gb308, 1, none⟩ = some (.int .i64 t300) := (blk_cell BK308.out 1).trans rfl
    have hcz76_2 : w61.cell? ⟨gb308, 2, none⟩ = some (.bool t301) := (blk_cell BK308.out 2).trans rfl
    have hcz76_3 : w61.cell? ⟨gb308, 3, none⟩ = some (.slice Ao41 t302.length co41) := (blk_cell BK308.out 3).trans rfl
    have hcz76_4 : w61.cell? ⟨gb308, 4, none⟩ = some (.slice Ao43 t305.length co43) := (blk_cell BK308.out 4).trans rfl
    have hfz76_0 := blk_frozen BK308.out 0
    have hfz76_1 := blk_frozen BK308.out 1
    have hfz76_2 := blk_frozen BK308.out 2
    have hfz76_3 := blk_frozen BK308.out 3
    have hfz76_4 := blk_frozen BK308.out 4
    try go_wp2_with (first | ((with_reducible refine gate_callee (f := 24) rfl ?_); refine goesL_ (some 31) rfl rfl Try.func24 (by kernel_rfl) rfl #[.agg #[.slice Ao62 t325.length co62, .int .i64 t328, .bool t329, .slice Ao66 t330.length co66, .slice Ao68 t333.length co68], .agg #[.slice Ao37 t297.length co37, .int .i64 t300, .bool t301, .slice Ao41 t302.length co41, .slice Ao43 t305.length co43]] rfl z4_ ?_; (with_reducible refine (laws_eqThread.calls k _ _ t325 t328 t329 _ _ t330 _ _ t333 _ _ t297 t300 t301 _ _ t302 _ _ t305 true _ ?side1 ?side2 ?side3 ?side4 ?side5 ?side6 ?side7 ?side8 ?side9 ?side10 ?side11 ?side12 A16.out).mono ?_); (case side1 => refine (Kd.R_reads' (e := 88) (base := w.heap.size) (ok := fun k_ => (some k_ ≠ (v283 : Value).ownBlock ∧ (some k_ ≠ (.slice Ao37 t297.length co37 : Value).ownBlock ∧ some k_ ≠ (.slice Ao49 t309.length co49 : Value).ownBlock))) (n := t325.length) (c := co62) ?_).2.2; exact z30_); (case side2 => exact (Kd.R_reads' HO327.out).2.1); (case side3 => refine (Kd.R_reads' (e := 136) (base := w.heap.size) (ok := fun k_ => (some k_ ≠ (v288 : Value).ownBlock ∧ (some k_ ≠ (.slice Ao41 t302.length co41 : Value).ownBlock ∧ some k_ ≠ (.slice Ao54 t314.length co54 : Value).ownBlock))) (n := t330.length) (c := co66) ?_).2.2; exact z31_); (case side4 => exact (Kd.R_reads' HO332.out).2.1); (case side5 => refine (Kd.R_reads' (e := 67) (base := w.heap.size) (ok := fun k_ => (some k_ ≠ (v291 : Value).ownBlock ∧ (some k_ ≠ (.slice Ao43 t305.length co43 : Value).ownBlock ∧ some k_ ≠ (.slice Ao55 t317.length co55 : Value).ownBlock))) (n := t333.length) (c := co68) ?_).2.2; exact z32_); (case side6 => exact (Kd.R_reads' HO335.out).2.1); (case side7 => refine (Kd.R_reads' (e := 88) (base := w.heap.size) (ok := fun k_ => (some k_ ≠ (v283 : Value).ownBlock ∧ (some k_ ≠ (.slice Ao49 t309.length co49 : Value).ownBlock ∧ some k_ ≠ (.slice Ao62 t325.length co62 : Value).ownBlock))) (n := t297.length) (c := co37) ?_).2.2; exact z33_); (case side8 => exact (Kd.R_reads' HO299.out).2.1); (case side9 => refine (Kd.R_reads' (e := 136) (base := w.heap.size) (ok := fun k_ => (some k_ ≠ (v288 : Value).ownBlock ∧ (some k_ ≠ (.slice Ao54 t314.length co54 : Value).ownBlock ∧ some k_ ≠ (.slice Ao66 t330.length co66 : Value).ownBlock))) (n := t302.length) (c := co41) ?_).2.2; exact z34_); (case side10 => exact (Kd.R_reads' HO304.out).2.1); (case side11 => refine (Kd.R_reads' (e := 67) (base := w.heap.size) (ok := fun k_ => (some k_ ≠ (v291 : Value).ownBlock ∧ (some k_ ≠ (.slice Ao55 t317.length co55 : Value).ownBlock ∧ some k_ ≠ (.slice Ao68 t333.length co68 : Value).ownBlock))) (n := t305.length) (c := co43) ?_).2.2; exact z35_); (case side12 => exact (Kd.R_reads' HO307.out).2.1); rintro e w77 ⟨rfl, hb⟩; refine ⟨_, rfl, ?_⟩; have n0_ := Aside0.mk (Kd.R_below (by (with_reducible repeat (first | apply Kd.R_alloc | apply Kd.R_drewN | apply Kd.R_drew)); exact (Kd.R_mono (Kd.R_far (p := ⟨gb336, 4, none⟩) (Kd.R_far (p := ⟨gb336, 3, none⟩) (Kd.R_far (p := ⟨gb336, 2, none⟩) (Kd.R_far (p := ⟨gb336, 1, none⟩) (Kd.R_far (p := ⟨gb336, 0, none⟩) (Kd.R_types HO284.out BK336.out (by decide)) (fun _ hk => hk.2) (.slice Ao62 t325.length co62)) (fun _ hk => hk.2) (.int .i64 t328)) (fun _ hk => hk.2) (.bool t329)) (fun _ hk => hk.2) (.slice Ao66 t330.length co66)) (fun _ hk => hk.2) (.slice Ao68 t333.length co68)) (fun _ h_ => h_.1))) hb); have n1_ := Aside0.mk (Kd.R_below (by (with_reducible repeat (first | apply Kd.R_alloc | apply Kd.R_drewN | apply Kd.R_drew)); exact (Kd.R_mono (Kd.R_far (p := ⟨gb336, 4, none⟩) (Kd.R_far (p := ⟨gb336, 3, none⟩) (Kd.R_far (p := ⟨gb336, 2, none⟩) (Kd.R_far (p := ⟨gb336, 1, none⟩) (Kd.R_far (p := ⟨gb336, 0, none⟩) (Kd.R_types HO289.out BK336.out (by decide)) (fun _ hk => hk.2) (.slice Ao62 t325.length co62)) (fun _ hk => hk.2) (.int .i64 t328)) (fun _ hk => hk.2) (.bool t329)) (fun _ hk => hk.2) (.slice Ao66 t330.length co66)) (fun _ hk => hk.2) (.slice Ao68 t333.length co68)) (fun _ h_ => h_.1))) hb); have n2_ := Aside0.mk (Kd.R_below (by (with_reducible repeat (first | apply Kd.R_alloc | apply Kd.R_drewN | apply Kd.R_drew)); exact (Kd.R_mono (Kd.R_far (p := ⟨gb336, 4, none⟩) (Kd.R_far (p := ⟨gb336, 3, none⟩) (Kd.R_far (p := ⟨gb336, 2, none⟩) (Kd.R_far (p := ⟨gb336, 1, none⟩) (Kd.R_far (p := ⟨gb336, 0, none⟩) (Kd.R_types HO292.out BK336.out (by decide)) (fun _ hk => hk.2) (.slice Ao62 t325.length co62)) (fun _ hk => hk.2) (.int .i64 t328)) (fun _ hk => hk.2) (.bool t329)) (fun _ hk => hk.2) (.slice Ao66 t330.length co66)) (fun _ hk => hk.2) (.slice Ao68 t333.length co68)) (fun _ h_ => h_.1))) hb); have n3_ := Aside0.mk (Kd.R_below z33_ hb); have n4_ := Aside0.mk (Kd.R_below z34_ hb); have n5_ := Aside0.mk (Kd.R_below z35_ hb); have n6_ := Aside0.mk (Kd.R_below (by (with_reducible repeat (first | apply Kd.R_alloc | apply Kd.R_drewN | apply Kd.R_drew)); exact (Kd.R_mono (Kd.R_far (p := ⟨gb336, 4, none⟩) (Kd.R_far (p := ⟨gb336, 3, none⟩) (Kd.R_far (p := ⟨gb336, 2, none⟩) (Kd.R_far (p := ⟨gb336, 1, none⟩) (Kd.R_far (p := ⟨gb336, 0, none⟩) (Kd.R_types HO311.out BK336.out (by decide)) (fun _ hk => hk.2) (.slice Ao62 t325.length co62)) (fun _ hk => hk.2) (.int .i64 t328)) (fun _ hk => hk.2) (.bool t329)) (fun _ hk => hk.2) (.slice Ao66 t330.length co66)) (fun _ hk => hk.2) (.slice Ao68 t333.length co68)) (fun _ h_ => h_.1))) hb); have n7_ := Aside0.mk (Kd.R_below (by (with_reducible repeat (first | apply Kd.R_alloc | apply Kd.R_drewN | apply Kd.R_drew)); exact (Kd.R_mono (Kd.R_far (p := ⟨gb336, 4, none⟩) (Kd.R_far (p := ⟨gb336, 3, none⟩) (Kd.R_far (p := ⟨gb336, 2, none⟩) (Kd.R_far (p := ⟨gb336, 1, none⟩) (Kd.R_far (p := ⟨gb336, 0, none⟩) (Kd.R_types HO316.out BK336.out (by decide)) (fun _ hk => hk.2) (.slice Ao62 t325.length co62)) (fun _ hk => hk.2) (.int .i64 t328)) (fun _ hk => hk.2) (.bool t329)) (fun _ hk => hk.2) (.slice Ao66 t330.length co66)) (fun _ hk => hk.2) (.slice Ao68 t333.length co68)) (fun _ h_ => h_.1))) hb); have n8_ := Aside0.mk (Kd.R_below (by (with_reducible repeat (first | apply Kd.R_alloc | apply Kd.R_drewN | apply Kd.R_drew)); exact (Kd.R_mono (Kd.R_far (p := ⟨gb336, 4, none⟩) (Kd.R_far (p := ⟨gb336, 3, none⟩) (Kd.R_far (p := ⟨gb336, 2, none⟩) (Kd.R_far (p := ⟨gb336, 1, none⟩) (Kd.R_far (p := ⟨gb336, 0, none⟩) (Kd.R_types HO319.out BK336.out (by decide)) (fun _ hk => hk.2) (.slice Ao62 t325.length co62)) (fun _ hk => hk.2) (.int .i64 t328)) (fun _ hk => hk.2) (.bool t329)) (fun _ hk => hk.2) (.slice Ao66 t330.length co66)) (fun _ hk => hk.2) (.slice Ao68 t333.length co68)) (fun _ h_ => h_.1))) hb); have n9_ := Aside0.mk (Kd.R_below z30_ hb); have n10_ := Aside0.mk (Kd.R_below z31_ hb); have n11_ := Aside0.mk (Kd.R_below z32_ hb); have n12_ := Aside0.mk (blk_below (g := gb279) (o := .cells #[.slice A0_0 l0_0.length c0_0, .int .i64 a0_1, .bool a0_2, .slice A0_3 l0_3.length c0_3, .slice A0_4 l0_4.length c0_4] 59 (0, 0)) (by (with_reducible repeat (first | refine blk_drewN ?_ _ | refine blk_drew ?_ | refine blk_alloc ?_ _)); refine blk_far ?_ NB279_336.out _; (with_reducible repeat (first | refine blk_drewN ?_ _ | refine blk_drew ?_ | refine blk_alloc ?_ _)); refine blk_far ?_ NB279_336.out _; (with_reducible repeat (first | refine blk_drewN ?_ _ | refine blk_drew ?_ | refine blk_alloc ?_ _)); refine blk_far ?_ NB279_336.out _; (with_reducible repeat (first | refine blk_drewN ?_ _ | refine blk_drew ?_ | refine blk_alloc ?_ _)); refine blk_far ?_ NB279_336.out _; (with_reducible repeat (first | refine blk_drewN ?_ _ | refine blk_drew ?_ | refine blk_alloc ?_ _)); refine blk_far ?_ NB279_336.out _; (with_reducible repeat (first | refine blk_drewN ?_ _ | refine blk_drew ?_ | refine blk_alloc ?_ _)); exact BK279.out) hb); have n13_ := Aside0.mk (blk_below (g := gb280) (o := .cells #[.int .i64 a1_0, .int .i64 a1_1, .int .i64 a1_2, .int .i64 a1_3] 65 (0, 0)) (by (with_reducible repeat (first | refine blk_drewN ?_ _ | refine blk_drew ?_ | refine blk_alloc ?_ _)); refine blk_far ?_ NB280_336.out _; (with_reducible repeat (first | refine blk_drewN ?_ _ | refine blk_drew ?_ | refine blk_alloc ?_ _)); refine blk_far ?_ NB280_336.out _; (with_reducible repeat (first | refine blk_drewN ?_ _ | refine blk_drew ?_ | refine blk_alloc ?_ _)); refine blk_far ?_ NB280_336.out _; (with_reducible repeat (first | refine blk_drewN ?_ _ | refine blk_drew ?_ | refine blk_alloc ?_ _)); refine blk_far ?_ NB280_336.out _; (with_reducible repeat (first | refine blk_drewN ?_ _ | refine blk_drew ?_ | refine blk_alloc ?_ _)); refine blk_far ?_ NB280_336.out _; (with_reducible repeat (first | refine blk_drewN ?_ _ | refine blk_drew ?_ | refine blk_alloc ?_ _)); exact BK280.out) hb); have n14_ := Aside0.mk (blk_below (g := gb308) (o := .cells #[.slice Ao37 t297.length co37, .int .i64 t300, .bool t301, .slice Ao41 t302.length co41, .slice Ao43 t305.length co43] 36 (0, 0)) (by (with_reducible repeat (first | refine blk_drewN ?_ _ | refine blk_drew ?_ | refine blk_alloc ?_ _)); refine blk_far ?_ NB308_336.out _; (with_reducible repeat (first | refine blk_drewN ?_ _ | refine blk_drew ?_ | refine blk_alloc ?_ _)); refine blk_far ?_ NB308_336.out _; (with_reducible repeat (first | refine blk_drewN ?_ _ | refine blk_drew ?_ | refine blk_alloc ?_ _)); refine blk_far ?_ NB308_336.out _; (with_reducible repeat (first | refine blk_drewN ?_ _ | refine blk_drew ?_ | refine blk_alloc ?_ _)); refine blk_far ?_ NB308_336.out _; (with_reducible repeat (first | refine blk_drewN ?_ _ | refine blk_drew ?_ | refine blk_alloc ?_ _)); refine blk_far ?_ NB308_336.out _; (with_reducible repeat (first | refine blk_drewN ?_ _ | refine blk_drew ?_ | refine blk_alloc ?_ _)); exact BK308.out) hb); have n15_ := Aside0.mk (blk_below (g := gb320) (o := .cells #[.slice Ao49 t309.length co49, .int .i64 t312, .bool t313, .slice Ao54 t314.length co54, .slice Ao55 t317.length co55] 36 (0, 0)) (by (with_reducible repeat (first | refine blk_drewN ?_ _ | refine blk_drew ?_ | refine blk_alloc ?_ _)); refine blk_far ?_ NB320_336.out _; (with_reducible repeat (first | refine blk_drewN ?_ _ | refine blk_drew ?_ | refine blk_alloc ?_ _)); refine blk_far ?_ NB320_336.out _; (with_reducible repeat (first | refine blk_drewN ?_ _ | refine blk_drew ?_ | refine blk_alloc ?_ _)); refine blk_far ?_ NB320_336.out _; (with_reducible repeat (first | refine blk_drewN ?_ _ | refine blk_drew ?_ | refine blk_alloc ?_ _)); refine blk_far ?_ NB320_336.out _; (with_reducible repeat (first | refine blk_drewN ?_ _ | refine blk_drew ?_ | refine blk_alloc ?_ _)); refine blk_far ?_ NB320_336.out _; (with_reducible repeat (first | refine blk_drewN ?_ _ | refine blk_drew ?_ | refine blk_alloc ?_ _)); exact BK320.out) hb); have n16_ := Aside0.mk (blk_below (g := gb336) (o := .cells #[.slice Ao62 t325.length co62, .int .i64 t328, .bool t329, .slice Ao66 t330.length co66, .slice Ao68 t333.length co68] 36 (0, 0)) (by (with_reducible repeat (first | refine blk_drewN ?_ _ | refine blk_drew ?_ | refine blk_alloc ?_ _)); refine blk_put (cs := #[.slice Ao62 t325.length co62, .int .i64 t328, .bool t329, .slice Ao66 t330.length co66, .slice none 0 0]) ?_ 4 _ rfl; (with_reducible repeat (first | refine blk_drewN ?_ _ | refine blk_drew ?_ | refine blk_alloc ?_ _)); refine blk_put (cs := #[.slice Ao62 t325.length co62, .int .i64 t328, .bool t329, .slice none 0 0, .slice none 0 0]) ?_ 3 _ rfl; (with_reducible repeat (first | refine blk_drewN ?_ _ | refine blk_drew ?_ | refine blk_alloc ?_ _)); refine blk_put (cs := #[.slice Ao62 t325.length co62, .int .i64 t328, .bool false, .slice none 0 0, .slice none 0 0]) ?_ 2 _ rfl; (with_reducible repeat (first | refine blk_drewN ?_ _ | refine blk_drew ?_ | refine blk_alloc ?_ _)); refine blk_put (cs := #[.slice Ao62 t325.length co62, .int .i64 0, .bool false, .slice none 0 0, .slice none 0 0]) ?_ 1 _ rfl; (with_reducible repeat (first | refine blk_drewN ?_ _ | refine blk_drew ?_ | refine blk_alloc ?_ _)); refine blk_put (cs := #[.slice none 0 0, .int .i64 0, .bool false, .slice none 0 0, .slice none 0 0]) ?_ 0 _ rfl; (with_reducible repeat (first | refine blk_drewN ?_ _ | refine blk_drew ?_ | refine blk_alloc ?_ _)); exact BK336.out) hb); have n17_ := Aside0.mk (below_step z0_ hb); clear HO284 HO289 HO292 HO299 HO304 HO307 HO311 HO316 HO319 HO327 HO332 HO335 BK279 BK280 BK308 BK320 BK336 HB; have HO284 := n0_; have HO289 := n1_; have HO292 := n2_; have HO299 := n3_; have HO304 := n4_; have HO307 := n5_; have HO311 := n6_; have HO316 := n7_; have HO319 := n8_; have HO327 := n9_; have HO332 := n10_; have HO335 := n11_; have BK279 := n12_; have BK280 := n13_; have BK308 := n14_; have BK320 := n15_; have BK336 := n16_; have HB := n17_; clear n0_ n1_ n2_ n3_ n4_ n5_ n6_ n7_ n8_ n9_ n10_ n11_ n12_ n13_ n14_ n15_ n16_ n17_; (try clear hb); (try clear hb2); (try clear hk); (try clear hi)))
    have n0_ := Aside0.mk (Kd.R_drew HO284.out)
    have n1_ := Aside0.mk (Kd.R_drew HO289.out)
    have n2_ := Aside0.mk (Kd.R_drew HO292.out)
    have n3_ := Aside0.mk (Kd.R_drew HO299.out)
    have n4_ := Aside0.mk (Kd.R_drew HO304.out)
    have n5_ := Aside0.mk (Kd.R_drew HO307.out)
    have n6_ := Aside0.mk (Kd.R_drew HO311.out)
    have n7_ := Aside0.mk (Kd.R_drew HO316.out)
    have n8_ := Aside0.mk (Kd.R_drew HO319.out)
    have n9_ := Aside0.mk (Kd.R_drew HO327.out)
    have n10_ := Aside0.mk (Kd.R_drew HO332.out)
    have n11_ := Aside0.mk (Kd.R_drew HO335.out)
    have n12_ := Aside0.mk (blk_drew BK279.out)
    have n13_ := Aside0.mk (blk_drew BK280.out)
    have n14_ := Aside0.mk (blk_drew BK308.out)
    have n15_ := Aside0.mk (blk_drew BK320.out)
    have n16_ := Aside0.mk (blk_drew BK336.out)
    have n17_ := Aside0.mk (below_drew1 HB.out)
    clear HO284 HO289 HO292 HO299 HO304 HO307 HO311 HO316 HO319 HO327 HO332 HO335 BK279 BK280 BK308 BK320 BK336 HB
    have HO284 := n0_
    have HO289 := n1_
    have HO292 := n2_
    have HO299 := n3_
    have HO304 := n4_
    have HO307 := n5_
    have HO311 := n6_
    have HO316 := n7_
    have HO319 := n8_
    have HO327 := n9_
    have HO332 := n10_
    have HO335 := n11_
    have BK279 := n12_
    have BK280 := n13_
    have BK308 := n14_
    have BK320 := n15_
    have BK336 := n16_
    have HB := n17_
    clear n0_ n1_ n2_ n3_ n4_ n5_ n6_ n7_ n8_ n9_ n10_ n11_ n12_ n13_ n14_ n15_ n16_ n17_
    refine start_ (n := 5) (S := fun w' => w'.cell? ⟨gb320, 0, none⟩ = some (.slice Ao49 t309.length co49) ∧ w'.cell? ⟨gb320, 1, none⟩ = some (.int .i64 t312) ∧ w'.cell? ⟨gb320, 2, none⟩ = some (.bool t313) ∧ w'.cell? ⟨gb320, 3, none⟩ = some (.slice Ao54 t314.length co54) ∧ w'.cell? ⟨gb320, 4, none⟩ = some (.slice Ao55 t317.length co55) ∧ w'.cell? ⟨gb279, 0, none⟩ = some (.slice A0_0 l0_0.length c0_0) ∧ w'.cell? ⟨gb279, 1, none⟩ = some (.int .i64 a0_1) ∧ w'.cell? ⟨gb279, 2, none⟩ = some (.bool a0_2) ∧ w'.cell? ⟨gb279, 3, none⟩ = some (.slice A0_3 l0_3.length c0_3) ∧ w'.cell? ⟨gb279, 4, none⟩ = some (.slice A0_4 l0_4.length c0_4)) (ds := []) #[false, false, false, false, false] (by kernel_rfl) rfl rfl ⟨(blk_cell BK320.out 0).trans rfl, (blk_cell BK320.out 1).trans rfl, (blk_cell BK320.out 2).trans rfl, (blk_cell BK320.out 3).trans rfl, (blk_cell BK320.out 4).trans rfl, (blk_cell BK279.out 0).trans rfl, (blk_cell BK279.out 1).trans rfl, (blk_cell BK279.out 2).trans rfl, (blk_cell BK279.out 3).trans rfl, (blk_cell BK279.out 4).trans rfl⟩ (fun hHeld => ?_)
    generalize w77.drew = w78 at HO284 HO289 HO292 HO299 HO304 HO307 HO311 HO316 HO319 HO327 HO332 HO335 BK279 BK280 BK308 BK320 BK336 HB hHeld ⊢
    refine take_ (i := 0) (N := some 33) (v := ?_) (a' := ?_) #[true, false, false, false, false] rfl rfl (by kernel_rfl) (fun _ _ _ h => h) (Or.inl ⟨by rfl, ?_⟩) hHeld ?_ ?_
    rotate_left
    ·
     rintro w' ⟨s0, s1, s2, s3, s4, s5, s6, s7, s8, s9⟩
     go_simp
     with_reducible rfl
    rotate_left
    ·
     simp only [Act.put, List.setIfInBounds_toArray, List.set_cons_zero, List.set_cons_succ, i64_w, i32_w]
     rfl
    refine take_ (i := 1) (N := some 34) (v := ?_) (a' := ?_) #[true, true, false, false, false] rfl rfl (by kernel_rfl) (fun _ _ _ h => h) (Or.inl ⟨by rfl, ?_⟩) hHeld ?_ ?_
    rotate_left
    ·
     rintro w' ⟨s0, s1, s2, s3, s4, s5, s6, s7, s8, s9⟩
     go_simp
     with_reducible rfl
    rotate_left
    ·
     simp only [Act.put, List.setIfInBounds_toArray, List.set_cons_zero, List.set_cons_succ, i64_w, i32_w]
     rfl
    refine one_ (i := 2) (N := some 35) #[true, true, true, false, false] rfl rfl (by kernel_rfl) (by decide) (fun K hK => ?_)
    refine goes_ Try.func39 (by kernel_rfl) rfl #[.agg #[.slice A0_0 l0_0.length c0_0, .int .i64 a0_1, .bool a0_2, .slice A0_3 l0_3.length c0_3, .slice A0_4 l0_4.length c0_4]] (by rfl) rfl rfl z4_ ?_
    with_reducible refine (laws_toThread.calls k _ _ l0_0 a0_1 a0_2 _ _ l0_3 _ _ l0_4 t338 t341 t342 t343 t346 _ ?side1 ?side2 ?side3 ?side4 ?side5 ?side6 A18.out).mono ?_
    (case side1 => exact cb_ (Kd.C_below HR0_0.out HB.out))
    (case side2 => exact HC0_0.out)
    (case side3 => exact cb_ (Kd.C_below HR0_3.out HB.out))
    (case side4 => exact HC0_3.out)
    (case side5 => exact cb_ (Kd.C_below HR0_4.out HB.out))
    (case side6 => exact HC0_4.out)
    rintro e w79 ⟨v339, v344, v347, rfl, ho0, ho1, ho2, hb⟩
    refine ⟨_, rfl, ?_⟩
    have n0_ := Aside0.mk (Kd.R_elder' (rb_ HO284.out) (Kd.R_base ho0) hb)
    have n1_ := Aside0.mk (Kd.R_elder' (rb_ HO289.out) (Kd.R_base ho1) hb)
    have n2_ := Aside0.mk (Kd.R_elder' (rb_ HO292.out) (Kd.R_base ho2) hb)
    have n3_ := Aside0.mk (Kd.R_elder' (rb_ HO299.out) (Kd.R_base ho0) hb)
    have n4_ := Aside0.mk (Kd.R_elder' (rb_ HO304.out) (Kd.R_base ho1) hb)
    have n5_ := Aside0.mk (Kd.R_elder' (rb_ HO307.out) (Kd.R_base ho2) hb)
    have n6_ := Aside0.mk (Kd.R_elder' (rb_ HO311.out) (Kd.R_base ho0) hb)
    have n7_ := Aside0.mk (Kd.R_elder' (rb_ HO316.out) (Kd.R_base ho1) hb)
    have n8_ := Aside0.mk (Kd.R_elder' (rb_ HO319.out) (Kd.R_base ho2) hb)
    have n9_ := Aside0.mk (Kd.R_elder' (rb_ HO327.out) (Kd.R_base ho0) hb)
    have n10_ := Aside0.mk (Kd.R_elder' (rb_ HO332.out) (Kd.R_base ho1) hb)
    have n11_ := Aside0.mk (Kd.R_elder' (rb_ HO335.out) (Kd.R_base ho2) hb)
    have n12_ := Aside0.mk (Kd.R_lower (Kd.R_new' (Kd.R_new' (Kd.R_new' (Kd.R_new' ho0 (Kd.R_lt (rb_ HO284.out))) (Kd.R_lt (rb_ HO299.out))) (Kd.R_lt (rb_ HO311.out))) (Kd.R_lt (rb_ HO327.out))) (below_size z0_))
    have n13_ := Aside0.mk (Kd.R_lower (Kd.R_new' (Kd.R_new' (Kd.R_new' (Kd.R_new' ho1 (Kd.R_lt (rb_ HO289.out))) (Kd.R_lt (rb_ HO304.out))) (Kd.R_lt (rb_ HO316.out))) (Kd.R_lt (rb_ HO332.out))) (below_size z0_))
    have n14_ := Aside0.mk (Kd.R_lower (Kd.R_new' (Kd.R_new' (Kd.R_new' (Kd.R_new' ho2 (Kd.R_lt (rb_ HO292.out))) (Kd.R_lt (rb_ HO307.out))) (Kd.R_lt (rb_ HO319.out))) (Kd.R_lt (rb_ HO335.out))) (below_size z0_))
    have n15_ := Aside0.mk (blk_below (g := gb279) (o := .cells #[.slice A0_0 l0_0.length c0_0, .int .i64 a0_1, .bool a0_2, .slice A0_3 l0_3.length c0_3, .slice A0_4 l0_4.length c0_4] 59 (0, 0)) (bk_ BK279.out) hb)
    have n16_ := Aside0.mk (blk_below (g := gb280) (o := .cells #[.int .i64 a1_0, .int .i64 a1_1, .int .i64 a1_2, .int .i64 a1_3] 65 (0, 0)) (bk_ BK280.out) hb)
    have n17_ := Aside0.mk (blk_below (g := gb308) (o := .cells #[.slice Ao37 t297.length co37, .int .i64 t300, .bool t301, .slice Ao41 t302.length co41, .slice Ao43 t305.length co43] 36 (0, 0)) (bk_ BK308.out) hb)
    have n18_ := Aside0.mk (blk_below (g := gb320) (o := .cells #[.slice Ao49 t309.length co49, .int .i64 t312, .bool t313, .slice Ao54 t314.length co54, .slice Ao55 t317.length co55] 36 (0, 0)) (bk_ BK320.out) hb)
    have n19_ := Aside0.mk (blk_below (g := gb336) (o := .cells #[.slice Ao62 t325.length co62, .int .i64 t328, .bool t329, .slice Ao66 t330.length co66, .slice Ao68 t333.length co68] 36 (0, 0)) (bk_ BK336.out) hb)
    have n20_ := Aside0.mk (below_step z0_ hb)
    clear HO284 HO289 HO292 HO299 HO304 HO307 HO311 HO316 HO319 HO327 HO332 HO335 BK279 BK280 BK308 BK320 BK336 HB
    have HO284 := n0_
    have HO289 := n1_
    have HO292 := n2_
    have HO299 := n3_
    have HO304 := n4_
    have HO307 := n5_
    have HO311 := n6_
    have HO316 := n7_
    have HO319 := n8_
    have HO327 := n9_
    have HO332 := n10_
    have HO335 := n11_
    have HO340 := n12_
    have HO345 := n13_
    have HO348 := n14_
    have BK279 := n15_
    have BK280 := n16_
    have BK308 := n17_
    have BK320 := n18_
    have BK336 := n19_
    have HB := n20_
    clear n0_ n1_ n2_ n3_ n4_ n5_ n6_ n7_ n8_ n9_ n10_ n11_ n12_ n13_ n14_ n15_ n16_ n17_ n18_ n19_ n20_
    (try clear hb)
    (try clear hb2)
    (try clear hk)
    (try clear hi)
    (try clear ho0)
    (try clear ho1)
    (try clear ho2)
    obtain ⟨Ao80, co80, eo80⟩ := Kd.R_slice HO340.out
    (first | subst eo80 | (injection eo80 with f1_ f2_ f3_; have f4_ := f1_.symm; have f5_ := f3_.symm; clear f1_ f2_ f3_; subst f4_; subst f5_))
    obtain ⟨Ao81, co81, eo81⟩ := Kd.R_slice HO345.out
    (first | subst eo81 | (injection eo81 with f1_ f2_ f3_; have f4_ := f1_.symm; have f5_ := f3_.symm; clear f1_ f2_ f3_; subst f4_; subst f5_))
    obtain ⟨Ao82, co82, eo82⟩ := Kd.R_slice HO348.out
    (first | subst eo82 | (injection eo82 with f1_ f2_ f3_; have f4_ := f1_.symm; have f5_ := f3_.symm; clear f1_ f2_ f3_; subst f4_; subst f5_))
    refine hK.out _ _ ⟨(blk_cell BK320.out 0).trans rfl, (blk_cell BK320.out 1).trans rfl, (blk_cell BK320.out 2).trans rfl, (blk_cell BK320.out 3).trans rfl, (blk_cell BK320.out 4).trans rfl, (blk_cell BK279.out 0).trans rfl, (blk_cell BK279.out 1).trans rfl, (blk_cell BK279.out 2).trans rfl, (blk_cell BK279.out 3).trans rfl, (blk_cell BK279.out 4).trans rfl⟩ (fun hHeld => ?_)
    clear hK K
    refine norm_ (a' := ?_) ?_ ?_
    rotate_left
    ·
     show Act.put _ (some 35) _ = _
     simp only [Act.put, List.setIfInBounds_toArray, List.set_cons_zero, List.set_cons_succ, i64_w, i32_w]
     rfl
    refine one_ (i := 3) (N := some 36) #[true, true, true, true, false] rfl rfl (by kernel_rfl) (by decide) (fun K hK => ?_)
    refine goes_ Try.func24 (by kernel_rfl) rfl #[.agg #[.slice Ao49 t309.length co49, .int .i64 t312, .bool t313, .slice Ao54 t314.length co54, .slice Ao55 t317.length co55], .agg #[.slice Ao80 t338.length co80, .int .i64 t341, .bool t342, .slice Ao81 t343.length co81, .slice Ao82 t346.length co82]] (by rfl) rfl rfl z4_ ?_
    with_reducible refine (laws_eqThread.calls k _ _ t309 t312 t313 _ _ t314 _ _ t317 _ _ t338 t341 t342 _ _ t343 _ _ t346 true _ ?side1 ?side2 ?side3 ?side4 ?side5 ?side6 ?side7 ?side8 ?side9 ?side10 ?side11 ?side12 A19.out).mono ?_
    (case side1 => repeat (first | exact (Kd.R_reads' HO311.out).2.2 | (with_reducible refine Kd.C_alloc ?_ _) | (with_reducible refine Kd.C_drewN ?_ _) | (with_reducible refine Kd.C_drew ?_)))
    (case side2 => exact (Kd.R_reads' HO311.out).2.1)
    (case side3 => repeat (first | exact (Kd.R_reads' HO316.out).2.2 | (with_reducible refine Kd.C_alloc ?_ _) | (with_reducible refine Kd.C_drewN ?_ _) | (with_reducible refine Kd.C_drew ?_)))
    (case side4 => exact (Kd.R_reads' HO316.out).2.1)
    (case side5 => repeat (first | exact (Kd.R_reads' HO319.out).2.2 | (with_reducible refine Kd.C_alloc ?_ _) | (with_reducible refine Kd.C_drewN ?_ _) | (with_reducible refine Kd.C_drew ?_)))
    (case side6 => exact (Kd.R_reads' HO319.out).2.1)
    (case side7 => repeat (first | exact (Kd.R_reads' HO340.out).2.2 | (with_reducible refine Kd.C_alloc ?_ _) | (with_reducible refine Kd.C_drewN ?_ _) | (with_reducible refine Kd.C_drew ?_)))
    (case side8 => exact (Kd.R_reads' HO340.out).2.1)
    (case side9 => repeat (first | exact (Kd.R_reads' HO345.out).2.2 | (with_reducible refine Kd.C_alloc ?_ _) | (with_reducible refine Kd.C_drewN ?_ _) | (with_reducible refine Kd.C_drew ?_)))
    (case side10 => exact (Kd.R_reads' HO345.out).2.1)
    (case side11 => repeat (first | exact (Kd.R_reads' HO348.out).2.2 | (with_reducible refine Kd.C_alloc ?_ _) | (with_reducible refine Kd.C_drewN ?_ _) | (with_reducible refine Kd.C_drew ?_)))
    (case side12 => exact (Kd.R_reads' HO348.out).2.1)
    rintro e w83 ⟨rfl, hb⟩
    refine ⟨_, rfl, ?_⟩
    have n0_ := Aside0.mk (Kd.R_below (rb_ HO284.out) hb)
    have n1_ := Aside0.mk (Kd.R_below (rb_ HO289.out) hb)
    have n2_ := Aside0.mk (Kd.R_below (rb_ HO292.out) hb)
    have n3_ := Aside0.mk (Kd.R_below (rb_ HO299.out) hb)
    have n4_ := Aside0.mk (Kd.R_below (rb_ HO304.out) hb)
    have n5_ := Aside0.mk (Kd.R_below (rb_ HO307.out) hb)
    have n6_ := Aside0.mk (Kd.R_below (rb_ HO311.out) hb)
    have n7_ := Aside0.mk (Kd.R_below (rb_ HO316.out) hb)
    have n8_ := Aside0.mk (Kd.R_below (rb_ HO319.out) hb)
    have n9_ := Aside0.mk (Kd.R_below (rb_ HO327.out) hb)
    have n10_ := Aside0.mk (Kd.R_below (rb_ HO332.out) hb)
    have n11_ := Aside0.mk (Kd.R_below (rb_ HO335.out) hb)
    have n12_ := Aside0.mk (Kd.R_below (rb_ HO340.out) hb)
    have n13_ := Aside0.mk (Kd.R_below (rb_ HO345.out) hb)
    have n14_ := Aside0.mk (Kd.R_below (rb_ HO348.out) hb)
    have n15_ := Aside0.mk (blk_below (g := gb279) (o := .cells #[.slice A0_0 l0_0.length c0_0, .int .i64 a0_1, .bool a0_2, .slice A0_3 l0_3.length c0_3, .slice A0_4 l0_4.length c0_4] 59 (0, 0)) (bk_ BK279.out) hb)
    have n16_ := Aside0.mk (blk_below (g := gb280) (o := .cells #[.int .i64 a1_0, .int .i64 a1_1, .int .i64 a1_2, .int .i64 a1_3] 65 (0, 0)) (bk_ BK280.out) hb)
    have n17_ := Aside0.mk (blk_below (g := gb308) (o := .cells #[.slice Ao37 t297.length co37, .int .i64 t300, .bool t301, .slice Ao41 t302.length co41, .slice Ao43 t305.length co43] 36 (0, 0)) (bk_ BK308.out) hb)
    have n18_ := Aside0.mk (blk_below (g := gb320) (o := .cells #[.slice Ao49 t309.length co49, .int .i64 t312, .bool t313, .slice Ao54 t314.length co54, .slice Ao55 t317.length co55] 36 (0, 0)) (bk_ BK320.out) hb)
    have n19_ := Aside0.mk (blk_below (g := gb336) (o := .cells #[.slice Ao62 t325.length co62, .int .i64 t328, .bool t329, .slice Ao66 t330.length co66, .slice Ao68 t333.length co68] 36 (0, 0)) (bk_ BK336.out) hb)
    have n20_ := Aside0.mk (below_step z0_ hb)
    clear HO284 HO289 HO292 HO299 HO304 HO307 HO311 HO316 HO319 HO327 HO332 HO335 HO340 HO345 HO348 BK279 BK280 BK308 BK320 BK336 HB
    have HO284 := n0_
    have HO289 := n1_
    have HO292 := n2_
    have HO299 := n3_
    have HO304 := n4_
    have HO307 := n5_
    have HO311 := n6_
    have HO316 := n7_
    have HO319 := n8_
    have HO327 := n9_
    have HO332 := n10_
    have HO335 := n11_
    have HO340 := n12_
    have HO345 := n13_
    have HO348 := n14_
    have BK279 := n15_
    have BK280 := n16_
    have BK308 := n17_
    have BK320 := n18_
    have BK336 := n19_
    have HB := n20_
    clear n0_ n1_ n2_ n3_ n4_ n5_ n6_ n7_ n8_ n9_ n10_ n11_ n12_ n13_ n14_ n15_ n16_ n17_ n18_ n19_ n20_
    (try clear hb)
    (try clear hb2)
    (try clear hk)
    (try clear hi)
    refine hK.out _ _ ⟨(blk_cell BK320.out 0).trans rfl, (blk_cell BK320.out 1).trans rfl, (blk_cell BK320.out 2).trans rfl, (blk_cell BK320.out 3).trans rfl, (blk_cell BK320.out 4).trans rfl, (blk_cell BK279.out 0).trans rfl, (blk_cell BK279.out 1).trans rfl, (blk_cell BK279.out 2).trans rfl, (blk_cell BK279.out 3).trans rfl, (blk_cell BK279.out 4).trans rfl⟩ (fun hHeld => ?_)
    clear hK K
    refine norm_ (a' := ?_) ?_ ?_
    rotate_left
    ·
     show Act.put _ (some 36) _ = _
     simp only [Act.put, List.setIfInBounds_toArray, List.set_cons_zero, List.set_cons_succ, i64_w, i32_w]
     rfl
    refine pure_ (i := 4) (N := some 37) (v := ?_) (a' := ?_) #[true, true, true, true, true] rfl rfl (by kernel_rfl) (fun _ _ _ h => h) (Or.inl ⟨by rfl, ?_⟩) ?_ ?_
    rotate_left
    ·
     intro w'
     go_simp
     with_reducible rfl
    rotate_left
    ·
     simp only [Act.put, List.setIfInBounds_toArray, List.set_cons_zero, List.set_cons_succ, i64_w, i32_w]
     rfl
    refine done_ (by kernel_rfl) ?_
    have hcz84_0 : w83.cell? ⟨gb320, 0, none⟩ = some (.slice Ao49 t309.length co49) := (blk_cell BK320.out 0).trans rfl
    have hcz84_1 : w83.cell? ⟨gb320, 1, none⟩ = some (.int .i64 t312) := (blk_cell BK320.out 1).trans rfl
    have hcz84_2 : w83.cell? ⟨gb320, 2, none⟩ = some (.bool t313) := (blk_cell BK320.out 2).trans rfl
    have hcz84_3 : w83.cell? ⟨gb320, 3, none⟩ = some (.slice Ao54 t314.length co54) := (blk_cell BK320.out 3).trans rfl
    have hcz84_4 : w83.cell? ⟨gb320, 4, none⟩ = some (.slice Ao55 t317.length co55) := (blk_cell BK320.out 4).trans rfl
    have hfz84_0 := blk_frozen BK320.out 0
    have hfz84_1 := blk_frozen BK320.out 1
    have hfz84_2 := blk_frozen BK320.out 2
    have hfz84_3 := blk_frozen BK320.out 3
    have hfz84_4 := blk_frozen BK320.out 4
    go_upto_region 14 with (first | ((with_reducible refine gate_callee (f := 27) rfl ?_); refine goesL_ (some 40) rfl rfl Try.func27 (by kernel_rfl) rfl #[.agg #[.slice Ao49 t309.length co49, .int .i64 t312, .bool t313, .slice Ao54 t314.length co54, .slice Ao55 t317.length co55], .int .i64 1] rfl z4_ ?_; (with_reducible refine (laws_markThread.calls k (fun k_ => some k_ = (.slice Ao49 t309.length co49 : Value).ownBlock) (.slice Ao49 t309.length co49) t309 t312 t313 (fun k_ => some k_ = (.slice Ao54 t314.length co54 : Value).ownBlock) (.slice Ao54 t314.length co54) t314 (fun k_ => some k_ = (.slice Ao55 t317.length co55 : Value).ownBlock) (.slice Ao55 t317.length co55) t317 1 t350 t351 t352 t353 w _ ?side1 ?side2 ?side3 ?side4 A21.out).mono ?_); (case side1 => repeat (first | (with_reducible first | exact HB.out | apply below_alloc | apply pw_below_drewN | apply below_drew1 | refine below_set ?_ GE279.out | refine below_set ?_ GE280.out | refine below_set ?_ GE308.out | refine below_set ?_ GE320.out | refine below_set ?_ GE336.out) | exact HB.out)); (case side2 => exact Kd.R_tight rfl HO311.out); (case side3 => exact Kd.R_tight rfl HO316.out); (case side4 => exact Kd.R_tight rfl HO319.out); rintro e w85 ⟨rfl, hy0, hy1, hy2, hb, hkp⟩; refine ⟨_, rfl, ?_⟩; have n0_ := Aside0.mk (blk_kept (bk_ BK279.out) hkp (fun hs_ => Or.elim hs_ (fun e_ => (fun e_ => (Kd.R_ne HO311.out BK279.out (by decide)) e_) e_) (fun e_ => Or.elim e_ (fun e_ => (fun e_ => (Kd.R_ne HO316.out BK279.out (by decide)) e_) e_) (fun e_ => (fun e_ => (Kd.R_ne HO319.out BK279.out (by decide)) e_) e_)))); have n1_ := Aside0.mk (blk_kept (bk_ BK280.out) hkp (fun hs_ => Or.elim hs_ (fun e_ => (fun e_ => (Kd.R_ne HO311.out BK280.out (by decide)) e_) e_) (fun e_ => Or.elim e_ (fun e_ => (fun e_ => (Kd.R_ne HO316.out BK280.out (by decide)) e_) e_) (fun e_ => (fun e_ => (Kd.R_ne HO319.out BK280.out (by decide)) e_) e_)))); have n2_ := Aside0.mk (Kd.R_mono (ok' := fun k_ => some k_ ≠ (.slice Ao37 t297.length co37 : Value).ownBlock ∧ some k_ ≠ (.slice Ao49 t309.length co49 : Value).ownBlock ∧ some k_ ≠ (.slice Ao62 t325.length co62 : Value).ownBlock ∧ some k_ ≠ (.slice Ao80 t338.length co80 : Value).ownBlock) (Kd.R_keptB ((Kd.R_apart' (Kd.R_apart' HO284.out (Kd.R_typed HO316.out) (by decide)) (Kd.R_typed HO319.out) (by decide))) hkp (fun k_ hk_ hs_ => Or.elim hs_ (fun e_ => (hk_.1.1.1.2.1) e_) (fun e_ => Or.elim e_ (fun e_ => (hk_.1.2) e_) (fun e_ => (hk_.2) e_)))) (fun k_ hk_ => ⟨hk_.1.1.1.1.1, hk_.1.1.1.1.2.1, hk_.1.1.1.1.2.2, hk_.1.1.1.2⟩)); have n3_ := Aside0.mk (Kd.R_mono (ok' := fun k_ => some k_ ≠ (.slice Ao41 t302.length co41 : Value).ownBlock ∧ some k_ ≠ (.slice Ao54 t314.length co54 : Value).ownBlock ∧ some k_ ≠ (.slice Ao66 t330.length co66 : Value).ownBlock ∧ some k_ ≠ (.slice Ao81 t343.length co81 : Value).ownBlock) (Kd.R_keptB ((Kd.R_apart' (Kd.R_apart' HO289.out (Kd.R_typed HO311.out) (by decide)) (Kd.R_typed HO319.out) (by decide))) hkp (fun k_ hk_ hs_ => Or.elim hs_ (fun e_ => (hk_.1.2) e_) (fun e_ => Or.elim e_ (fun e_ => (hk_.1.1.1.2.1) e_) (fun e_ => (hk_.2) e_)))) (fun k_ hk_ => ⟨hk_.1.1.1.1.1, hk_.1.1.1.1.2.1, hk_.1.1.1.1.2.2, hk_.1.1.1.2⟩)); have n4_ := Aside0.mk (Kd.R_mono (ok' := fun k_ => some k_ ≠ (.slice Ao43 t305.length co43 : Value).ownBlock ∧ some k_ ≠ (.slice Ao55 t317.length co55 : Value).ownBlock ∧ some k_ ≠ (.slice Ao68 t333.length co68 : Value).ownBlock ∧ some k_ ≠ (.slice Ao82 t346.length co82 : Value).ownBlock) (Kd.R_keptB ((Kd.R_apart' (Kd.R_apart' HO292.out (Kd.R_typed HO311.out) (by decide)) (Kd.R_typed HO316.out) (by decide))) hkp (fun k_ hk_ hs_ => Or.elim hs_ (fun e_ => (hk_.1.2) e_) (fun e_ => Or.elim e_ (fun e_ => (hk_.2) e_) (fun e_ => (hk_.1.1.1.2.1) e_)))) (fun k_ hk_ => ⟨hk_.1.1.1.1.1, hk_.1.1.1.1.2.1, hk_.1.1.1.1.2.2, hk_.1.1.1.2⟩)); have n5_ := Aside0.mk (Kd.R_mono (ok' := fun k_ => some k_ ≠ (v283 : Value).ownBlock ∧ some k_ ≠ (.slice Ao49 t309.length co49 : Value).ownBlock ∧ some k_ ≠ (.slice Ao62 t325.length co62 : Value).ownBlock ∧ some k_ ≠ (.slice Ao80 t338.length co80 : Value).ownBlock) (Kd.R_keptB ((Kd.R_apart' (Kd.R_apart' HO299.out (Kd.R_typed HO316.out) (by decide)) (Kd.R_typed HO319.out) (by decide))) hkp (fun k_ hk_ hs_ => Or.elim hs_ (fun e_ => (hk_.1.1.1.2.1) e_) (fun e_ => Or.elim e_ (fun e_ => (hk_.1.2) e_) (fun e_ => (hk_.2) e_)))) (fun k_ hk_ => ⟨hk_.1.1.1.1.1, hk_.1.1.1.1.2.1, hk_.1.1.1.1.2.2, hk_.1.1.1.2⟩)); have n6_ := Aside0.mk (Kd.R_mono (ok' := fun k_ => some k_ ≠ (v288 : Value).ownBlock ∧ some k_ ≠ (.slice Ao54 t314.length co54 : Value).ownBlock ∧ some k_ ≠ (.slice Ao66 t330.length co66 : Value).ownBlock ∧ some k_ ≠ (.slice Ao81 t343.length co81 : Value).ownBlock) (Kd.R_keptB ((Kd.R_apart' (Kd.R_apart' HO304.out (Kd.R_typed HO311.out) (by decide)) (Kd.R_typed HO319.out) (by decide))) hkp (fun k_ hk_ hs_ => Or.elim hs_ (fun e_ => (hk_.1.2) e_) (fun e_ => Or.elim e_ (fun e_ => (hk_.1.1.1.2.1) e_) (fun e_ => (hk_.2) e_)))) (fun k_ hk_ => ⟨hk_.1.1.1.1.1, hk_.1.1.1.1.2.1, hk_.1.1.1.1.2.2, hk_.1.1.1.2⟩)); have n7_ := Aside0.mk (Kd.R_mono (ok' := fun k_ => some k_ ≠ (v291 : Value).ownBlock ∧ some k_ ≠ (.slice Ao55 t317.length co55 : Value).ownBlock ∧ some k_ ≠ (.slice Ao68 t333.length co68 : Value).ownBlock ∧ some k_ ≠ (.slice Ao82 t346.length co82 : Value).ownBlock) (Kd.R_keptB ((Kd.R_apart' (Kd.R_apart' HO307.out (Kd.R_typed HO311.out) (by decide)) (Kd.R_typed HO316.out) (by decide))) hkp (fun k_ hk_ hs_ => Or.elim hs_ (fun e_ => (hk_.1.2) e_) (fun e_ => Or.elim e_ (fun e_ => (hk_.2) e_) (fun e_ => (hk_.1.1.1.2.1) e_)))) (fun k_ hk_ => ⟨hk_.1.1.1.1.1, hk_.1.1.1.1.2.1, hk_.1.1.1.1.2.2, hk_.1.1.1.2⟩)); have n8_ := Aside0.mk (blk_kept (bk_ BK308.out) hkp (fun hs_ => Or.elim hs_ (fun e_ => (fun e_ => (Kd.R_ne HO311.out BK308.out (by decide)) e_) e_) (fun e_ => Or.elim e_ (fun e_ => (fun e_ => (Kd.R_ne HO316.out BK308.out (by decide)) e_) e_) (fun e_ => (fun e_ => (Kd.R_ne HO319.out BK308.out (by decide)) e_) e_)))); have n9_ := Aside0.mk (Kd.R_reok rfl hy0 (fun k_ e_ => HO311.out.1 k_ e_)); have n10_ := Aside0.mk (Kd.R_reok rfl hy1 (fun k_ e_ => HO316.out.1 k_ e_)); have n11_ := Aside0.mk (Kd.R_reok rfl hy2 (fun k_ e_ => HO319.out.1 k_ e_)); have n12_ := Aside0.mk (blk_kept (bk_ BK320.out) hkp (fun hs_ => Or.elim hs_ (fun e_ => (fun e_ => (Kd.R_ne HO311.out BK320.out (by decide)) e_) e_) (fun e_ => Or.elim e_ (fun e_ => (fun e_ => (Kd.R_ne HO316.out BK320.out (by decide)) e_) e_) (fun e_ => (fun e_ => (Kd.R_ne HO319.out BK320.out (by decide)) e_) e_)))); have n13_ := Aside0.mk (Kd.R_mono (ok' := fun k_ => some k_ ≠ (v283 : Value).ownBlock ∧ some k_ ≠ (.slice Ao37 t297.length co37 : Value).ownBlock ∧ some k_ ≠ (.slice Ao49 t309.length co49 : Value).ownBlock ∧ some k_ ≠ (.slice Ao80 t338.length co80 : Value).ownBlock) (Kd.R_keptB ((Kd.R_apart' (Kd.R_apart' HO327.out (Kd.R_typed HO316.out) (by decide)) (Kd.R_typed HO319.out) (by decide))) hkp (fun k_ hk_ hs_ => Or.elim hs_ (fun e_ => (hk_.1.1.1.2.2) e_) (fun e_ => Or.elim e_ (fun e_ => (hk_.1.2) e_) (fun e_ => (hk_.2) e_)))) (fun k_ hk_ => ⟨hk_.1.1.1.1.1, hk_.1.1.1.1.2.1, hk_.1.1.1.1.2.2, hk_.1.1.1.2⟩)); have n14_ := Aside0.mk (Kd.R_mono (ok' := fun k_ => some k_ ≠ (v288 : Value).ownBlock ∧ some k_ ≠ (.slice Ao41 t302.length co41 : Value).ownBlock ∧ some k_ ≠ (.slice Ao54 t314.length co54 : Value).ownBlock ∧ some k_ ≠ (.slice Ao81 t343.length co81 : Value).ownBlock) (Kd.R_keptB ((Kd.R_apart' (Kd.R_apart' HO332.out (Kd.R_typed HO311.out) (by decide)) (Kd.R_typed HO319.out) (by decide))) hkp (fun k_ hk_ hs_ => Or.elim hs_ (fun e_ => (hk_.1.2) e_) (fun e_ => Or.elim e_ (fun e_ => (hk_.1.1.1.2.2) e_) (fun e_ => (hk_.2) e_)))) (fun k_ hk_ => ⟨hk_.1.1.1.1.1, hk_.1.1.1.1.2.1, hk_.1.1.1.1.2.2, hk_.1.1.1.2⟩)); have n15_ := Aside0.mk (Kd.R_mono (ok' := fun k_ => some k_ ≠ (v291 : Value).ownBlock ∧ some k_ ≠ (.slice Ao43 t305.length co43 : Value).ownBlock ∧ some k_ ≠ (.slice Ao55 t317.length co55 : Value).ownBlock ∧ some k_ ≠ (.slice Ao82 t346.length co82 : Value).ownBlock) (Kd.R_keptB ((Kd.R_apart' (Kd.R_apart' HO335.out (Kd.R_typed HO311.out) (by decide)) (Kd.R_typed HO316.out) (by decide))) hkp (fun k_ hk_ hs_ => Or.elim hs_ (fun e_ => (hk_.1.2) e_) (fun e_ => Or.elim e_ (fun e_ => (hk_.2) e_) (fun e_ => (hk_.1.1.1.2.2) e_)))) (fun k_ hk_ => ⟨hk_.1.1.1.1.1, hk_.1.1.1.1.2.1, hk_.1.1.1.1.2.2, hk_.1.1.1.2⟩)); have n16_ := Aside0.mk (blk_kept (bk_ BK336.out) hkp (fun hs_ => Or.elim hs_ (fun e_ => (fun e_ => (Kd.R_ne HO311.out BK336.out (by decide)) e_) e_) (fun e_ => Or.elim e_ (fun e_ => (fun e_ => (Kd.R_ne HO316.out BK336.out (by decide)) e_) e_) (fun e_ => (fun e_ => (Kd.R_ne HO319.out BK336.out (by decide)) e_) e_)))); have n17_ := Aside0.mk (Kd.R_mono (ok' := fun k_ => some k_ ≠ (v283 : Value).ownBlock ∧ some k_ ≠ (.slice Ao37 t297.length co37 : Value).ownBlock ∧ some k_ ≠ (.slice Ao49 t309.length co49 : Value).ownBlock ∧ some k_ ≠ (.slice Ao62 t325.length co62 : Value).ownBlock) (Kd.R_keptB ((Kd.R_apart' (Kd.R_apart' HO340.out (Kd.R_typed HO316.out) (by decide)) (Kd.R_typed HO319.out) (by decide))) hkp (fun k_ hk_ hs_ => Or.elim hs_ (fun e_ => (hk_.1.1.1.2) e_) (fun e_ => Or.elim e_ (fun e_ => (hk_.1.2) e_) (fun e_ => (hk_.2) e_)))) (fun k_ hk_ => ⟨hk_.1.1.1.1.1.1.2, hk_.1.1.1.1.1.2, hk_.1.1.1.1.2, hk_.1.1.1.2⟩)); have n18_ := Aside0.mk (Kd.R_mono (ok' := fun k_ => some k_ ≠ (v288 : Value).ownBlock ∧ some k_ ≠ (.slice Ao41 t302.length co41 : Value).ownBlock ∧ some k_ ≠ (.slice Ao54 t314.length co54 : Value).ownBlock ∧ some k_ ≠ (.slice Ao66 t330.length co66 : Value).ownBlock) (Kd.R_keptB ((Kd.R_apart' (Kd.R_apart' HO345.out (Kd.R_typed HO311.out) (by decide)) (Kd.R_typed HO319.out) (by decide))) hkp (fun k_ hk_ hs_ => Or.elim hs_ (fun e_ => (hk_.1.2) e_) (fun e_ => Or.elim e_ (fun e_ => (hk_.1.1.1.2) e_) (fun e_ => (hk_.2) e_)))) (fun k_ hk_ => ⟨hk_.1.1.1.1.1.1.2, hk_.1.1.1.1.1.2, hk_.1.1.1.1.2, hk_.1.1.1.2⟩)); have n19_ := Aside0.mk (Kd.R_mono (ok' := fun k_ => some k_ ≠ (v291 : Value).ownBlock ∧ some k_ ≠ (.slice Ao43 t305.length co43 : Value).ownBlock ∧ some k_ ≠ (.slice Ao55 t317.length co55 : Value).ownBlock ∧ some k_ ≠ (.slice Ao68 t333.length co68 : Value).ownBlock) (Kd.R_keptB ((Kd.R_apart' (Kd.R_apart' HO348.out (Kd.R_typed HO311.out) (by decide)) (Kd.R_typed HO316.out) (by decide))) hkp (fun k_ hk_ hs_ => Or.elim hs_ (fun e_ => (hk_.1.2) e_) (fun e_ => Or.elim e_ (fun e_ => (hk_.2) e_) (fun e_ => (hk_.1.1.1.2) e_)))) (fun k_ hk_ => ⟨hk_.1.1.1.1.1.1.2, hk_.1.1.1.1.1.2, hk_.1.1.1.1.2, hk_.1.1.1.2⟩)); have n20_ := Aside0.mk (hb); clear BK279 BK280 HO284 HO289 HO292 HO299 HO304 HO307 BK308 HO311 HO316 HO319 BK320 HO327 HO332 HO335 BK336 HO340 HO345 HO348 HB; have BK279 := n0_; have BK280 := n1_; have HO284 := n2_; have HO289 := n3_; have HO292 := n4_; have HO299 := n5_; have HO304 := n6_; have HO307 := n7_; have BK308 := n8_; have HO311 := n9_; have HO316 := n10_; have HO319 := n11_; have BK320 := n12_; have HO327 := n13_; have HO332 := n14_; have HO335 := n15_; have BK336 := n16_; have HO340 := n17_; have HO345 := n18_; have HO348 := n19_; have HB := n20_; clear n0_ n1_ n2_ n3_ n4_ n5_ n6_ n7_ n8_ n9_ n10_ n11_ n12_ n13_ n14_ n15_ n16_ n17_ n18_ n19_ n20_; (try clear hb); (try clear hkp); (try clear hy0); (try clear hy1); (try clear hy2)))
    (try simp only [Act.put, List.setIfInBounds_toArray, List.set_cons_zero, List.set_cons_succ])
    go_cut [48] (fun v48 wc => ∃ (kq : Nat) (x48_21 : Bool), v48 = .bool x48_21 ∧ Aside0 (laws_FnExactSwap.j0 kq x48_21 l0_0 a0_1 a0_2 l0_3 l0_4 a1_0 a1_1 a1_2 a1_3 t297 t300 t301 t302 t305 t325 t328 t329 t330 t333 = some r) ∧ Aside0 (kq ≤ k) ∧ Aside0 (Kd.R k88 88 wc w.heap.size (fun k_ => some k_ ≠ ((.slice Ao49 t309.length co49) : Value).ownBlock ∧ some k_ ≠ ((.slice Ao62 t325.length co62) : Value).ownBlock) (.slice Ao37 t297.length co37) t297) ∧ Aside0 (Kd.R k136 136 wc w.heap.size (fun k_ => some k_ ≠ ((.slice Ao54 t314.length co54) : Value).ownBlock ∧ some k_ ≠ ((.slice Ao66 t330.length co66) : Value).ownBlock) (.slice Ao41 t302.length co41) t302) ∧ Aside0 (Kd.R k67 67 wc w.heap.size (fun k_ => some k_ ≠ ((.slice Ao55 t317.length co55) : Value).ownBlock ∧ some k_ ≠ ((.slice Ao68 t333.length co68) : Value).ownBlock) (.slice Ao43 t305.length co43) t305) ∧ Aside0 (Kd.R k88 88 wc w.heap.size (fun k_ => some k_ ≠ ((.slice Ao37 t297.length co37) : Value).ownBlock ∧ some k_ ≠ ((.slice Ao62 t325.length co62) : Value).ownBlock) (.slice Ao49 t309.length co49) t351) ∧ Aside0 (Kd.R k136 136 wc w.heap.size (fun k_ => some k_ ≠ ((.slice Ao41 t302.length co41) : Value).ownBlock ∧ some k_ ≠ ((.slice Ao66 t330.length co66) : Value).ownBlock) (.slice Ao54 t314.length co54) t352) ∧ Aside0 (Kd.R k67 67 wc w.heap.size (fun k_ => some k_ ≠ ((.slice Ao43 t305.length co43) : Value).ownBlock ∧ some k_ ≠ ((.slice Ao68 t333.length co68) : Value).ownBlock) (.slice Ao55 t317.length co55) t353) ∧ Aside0 (Kd.R k88 88 wc w.heap.size (fun k_ => some k_ ≠ ((.slice Ao37 t297.length co37) : Value).ownBlock ∧ some k_ ≠ ((.slice Ao49 t309.length co49) : Value).ownBlock) (.slice Ao62 t325.length co62) t325) ∧ Aside0 (Kd.R k136 136 wc w.heap.size (fun k_ => some k_ ≠ ((.slice Ao41 t302.length co41) : Value).ownBlock ∧ some k_ ≠ ((.slice Ao54 t314.length co54) : Value).ownBlock) (.slice Ao66 t330.length co66) t330) ∧ Aside0 (Kd.R k67 67 wc w.heap.size (fun k_ => some k_ ≠ ((.slice Ao43 t305.length co43) : Value).ownBlock ∧ some k_ ≠ ((.slice Ao55 t317.length co55) : Value).ownBlock) (.slice Ao68 t333.length co68) t333) ∧ Aside0 (wc.heap[gb279]? = some (.cells #[(.slice A0_0 l0_0.length c0_0), .int .i64 a0_1, .bool a0_2, (.slice A0_3 l0_3.length c0_3), (.slice A0_4 l0_4.length c0_4)] 59 (0, 0))) ∧ Aside0 (wc.heap[gb280]? = some (.cells #[.int .i64 a1_0, .int .i64 a1_1, .int .i64 a1_2, .int .i64 a1_3] 65 (0, 0))) ∧ Aside0 (wc.heap[gb308]? = some (.cells #[(.slice Ao37 t297.length co37), .int .i64 t300, .bool t301, (.slice Ao41 t302.length co41), (.slice Ao43 t305.length co43)] 36 (0, 0))) ∧ Aside0 (wc.heap[gb320]? = some (.cells #[(.slice Ao49 t309.length co49), .int .i64 t312, .bool t313, (.slice Ao54 t314.length co54), (.slice Ao55 t317.length co55)] 36 (0, 0))) ∧ Aside0 (wc.heap[gb336]? = some (.cells #[(.slice Ao62 t325.length co62), .int .i64 t328, .bool t329, (.slice Ao66 t330.length co66), (.slice Ao68 t333.length co68)] 36 (0, 0))) ∧ Aside0 (Below w.heap.size w wc))
    case first =>
     have H := HC22.out
     clear HC22
     by_cases c86 : t350 < 0
     ·
      rw [if_pos c86] at H
      have c86b0 : decide (t350 < 0) = true := decide_eq_true c86
      clear c86
      (first | rw [c86b0] | (simp only [i64_w, i32_w]; rw [c86b0]) | skip)
      have H' := Aside0.mk H
      clear H
      go_wp2
      go_meet
      case rel => exact ⟨_, (true), (by first | rfl | (simp; done) | (simp [*]; done)), H', ⟨by first | omega | exact Nat.le_refl _⟩, ⟨by (with_reducible repeat (first | apply Kd.R_alloc | apply Kd.R_drewN | apply Kd.R_drew)); exact Kd.R_mono HO299.out (fun _ hk => ⟨hk.2.1, hk.2.2.1⟩)⟩, ⟨by (with_reducible repeat (first | apply Kd.R_alloc | apply Kd.R_drewN | apply Kd.R_drew)); exact Kd.R_mono HO304.out (fun _ hk => ⟨hk.2.1, hk.2.2.1⟩)⟩, ⟨by (with_reducible repeat (first | apply Kd.R_alloc | apply Kd.R_drewN | apply Kd.R_drew)); exact Kd.R_mono HO307.out (fun _ hk => ⟨hk.2.1, hk.2.2.1⟩)⟩, ⟨by (with_reducible repeat (first | apply Kd.R_alloc | apply Kd.R_drewN | apply Kd.R_drew)); exact Kd.R_mono HO311.out (fun _ hk => ⟨hk.1.2.1, hk.1.2.2⟩)⟩, ⟨by (with_reducible repeat (first | apply Kd.R_alloc | apply Kd.R_drewN | apply Kd.R_drew)); exact Kd.R_mono HO316.out (fun _ hk => ⟨hk.1.2.1, hk.1.2.2⟩)⟩, ⟨by (with_reducible repeat (first | apply Kd.R_alloc | apply Kd.R_drewN | apply Kd.R_drew)); exact Kd.R_mono HO319.out (fun _ hk => ⟨hk.1.2.1, hk.1.2.2⟩)⟩, ⟨by (with_reducible repeat (first | apply Kd.R_alloc | apply Kd.R_drewN | apply Kd.R_drew)); exact Kd.R_mono HO327.out (fun _ hk => ⟨hk.2.1, hk.2.2.1⟩)⟩, ⟨by (with_reducible repeat (first | apply Kd.R_alloc | apply Kd.R_drewN | apply Kd.R_drew)); exact Kd.R_mono HO332.out (fun _ hk => ⟨hk.2.1, hk.2.2.1⟩)⟩, ⟨by (with_reducible repeat (first | apply Kd.R_alloc | apply Kd.R_drewN | apply Kd.R_drew)); exact Kd.R_mono HO335.out (fun _ hk => ⟨hk.2.1, hk.2.2.1⟩)⟩, ⟨bk_ BK279.out⟩, ⟨bk_ BK280.out⟩, ⟨bk_ BK308.out⟩, ⟨bk_ BK320.out⟩, ⟨bk_ BK336.out⟩, ⟨z0_⟩⟩
     ·
      rw [if_neg c86] at H
      have c86b0 : decide (t350 < 0) = false := decide_eq_false c86
      clear c86
      (first | rw [c86b0] | (simp only [i64_w, i32_w]; rw [c86b0]) | skip)
      replace H := Option.bind_eq_some_iff.mp H
      obtain ⟨t354, A870, H⟩ := H
      replace H : (laws_FnExactSwap.j0 k (!t354) l0_0 a0_1 a0_2 l0_3 l0_4 a1_0 a1_1 a1_2 a1_3 t297 t300 t301 t302 t305 t325 t328 t329 t330 t333) = some r := H
      have A87 := Aside0.mk A870
      clear A870
      have H' := Aside0.mk H
      clear H
      have hnb88 := NB336_279.out
      have hnc88 := NB279_336.out
      have hnb89 := NB336_280.out
      have hnc89 := NB280_336.out
      have hnb90 := NB336_308.out
      have hnc90 := NB308_336.out
      have hnb91 := NB336_320.out
      have hnc91 := NB320_336.out
      have hcz92_0 : w85.cell? ⟨gb336, 0, none⟩ = some (.slice Ao62 t325.length co62) := (blk_cell BK336.out 0).trans rfl
      have hcz92_1 : w85.cell? ⟨gb336, 1, none⟩ = some (.int .i64 t328) := (blk_cell BK336.out 1).trans rfl
      have hcz92_2 : w85.cell? ⟨gb336, 2, none⟩ = some (.bool t329) := (blk_cell BK336.out 2).trans rfl
      have hcz92_3 : w85.cell? ⟨gb336, 3, none⟩ = some (.slice Ao66 t330.length co66) := (blk_cell BK336.out 3).trans rfl
      have hcz92_4 : w85.cell? ⟨gb336, 4, none⟩ = some (.slice Ao68 t333.length co68) := (blk_cell BK336.out 4).trans rfl
      have hfz92_0 := blk_frozen BK336.out 0
      have hfz92_1 := blk_frozen BK336.out 1
      have hfz92_2 := blk_frozen BK336.out 2
      have hfz92_3 := blk_frozen BK336.out 3
      have hfz92_4 := blk_frozen BK336.out 4
      have hnb93 := NB308_279.out
      have hnc93 := NB279_308.out
      have hnb94 := NB308_280.out
      have hnc94 := NB280_308.out
      have hnb95 := NB308_320.out
      have hnc95 := NB320_308.out
      have hcz96_0 : w85.cell? ⟨gb308, 0, none⟩ = some (.slice Ao37 t297.length co37) := (blk_cell BK308.out 0).trans rfl
      have hcz96_1 : w85.cell? ⟨gb308, 1, none⟩ = some (.int .i64 t300) := (blk_cell BK308.out 1).trans rfl
      have hcz96_2 : w85.cell? ⟨gb308, 2, none⟩ = some (.bool t301) := (blk_cell BK308.out 2).trans rfl
      have hcz96_3 : w85.cell? ⟨gb308, 3, none⟩ = some (.slice Ao41 t302.length co41) := (blk_cell BK308.out 3).trans rfl
      have hcz96_4 : w85.cell? ⟨gb308, 4, none⟩ = some (.slice Ao43 t305.length co43) := (blk_cell BK308.out 4).trans rfl
      have hfz96_0 := blk_frozen BK308.out 0
      have hfz96_1 := blk_frozen BK308.out 1
      have hfz96_2 := blk_frozen BK308.out 2
      have hfz96_3 := blk_frozen BK308.out 3
      have hfz96_4 := blk_frozen BK308.out 4
      go_wp2_with (first | (go_at_call 24; (with_reducible refine (laws_eqThread.calls k _ _ t325 t328 t329 _ _ t330 _ _ t333 _ _ t297 t300 t301 _ _ t302 _ _ t305 t354 _ ?side1 ?side2 ?side3 ?side4 ?side5 ?side6 ?side7 ?side8 ?side9 ?side10 ?side11 ?side12 A87.out).mono ?_); (case side1 => repeat (first | exact (Kd.R_reads' HO327.out).2.2 | (with_reducible refine Kd.C_alloc ?_ _) | (with_reducible refine Kd.C_drewN ?_ _) | (with_reducible refine Kd.C_drew ?_))); (case side2 => exact (Kd.R_reads' HO327.out).2.1); (case side3 => repeat (first | exact (Kd.R_reads' HO332.out).2.2 | (with_reducible refine Kd.C_alloc ?_ _) | (with_reducible refine Kd.C_drewN ?_ _) | (with_reducible refine Kd.C_drew ?_))); (case side4 => exact (Kd.R_reads' HO332.out).2.1); (case side5 => repeat (first | exact (Kd.R_reads' HO335.out).2.2 | (with_reducible refine Kd.C_alloc ?_ _) | (with_reducible refine Kd.C_drewN ?_ _) | (with_reducible refine Kd.C_drew ?_))); (case side6 => exact (Kd.R_reads' HO335.out).2.1); (case side7 => repeat (first | exact (Kd.R_reads' HO299.out).2.2 | (with_reducible refine Kd.C_alloc ?_ _) | (with_reducible refine Kd.C_drewN ?_ _) | (with_reducible refine Kd.C_drew ?_))); (case side8 => exact (Kd.R_reads' HO299.out).2.1); (case side9 => repeat (first | exact (Kd.R_reads' HO304.out).2.2 | (with_reducible refine Kd.C_alloc ?_ _) | (with_reducible refine Kd.C_drewN ?_ _) | (with_reducible refine Kd.C_drew ?_))); (case side10 => exact (Kd.R_reads' HO304.out).2.1); (case side11 => repeat (first | exact (Kd.R_reads' HO307.out).2.2 | (with_reducible refine Kd.C_alloc ?_ _) | (with_reducible refine Kd.C_drewN ?_ _) | (with_reducible refine Kd.C_drew ?_))); (case side12 => exact (Kd.R_reads' HO307.out).2.1); rintro e w97 ⟨rfl, hb⟩; have n0_ := Aside0.mk (Kd.R_below (rb_ HO284.out) hb); have n1_ := Aside0.mk (Kd.R_below (rb_ HO289.out) hb); have n2_ := Aside0.mk (Kd.R_below (rb_ HO292.out) hb); have n3_ := Aside0.mk (Kd.R_below (rb_ HO299.out) hb); have n4_ := Aside0.mk (Kd.R_below (rb_ HO304.out) hb); have n5_ := Aside0.mk (Kd.R_below (rb_ HO307.out) hb); have n6_ := Aside0.mk (Kd.R_below (rb_ HO311.out) hb); have n7_ := Aside0.mk (Kd.R_below (rb_ HO316.out) hb); have n8_ := Aside0.mk (Kd.R_below (rb_ HO319.out) hb); have n9_ := Aside0.mk (Kd.R_below (rb_ HO327.out) hb); have n10_ := Aside0.mk (Kd.R_below (rb_ HO332.out) hb); have n11_ := Aside0.mk (Kd.R_below (rb_ HO335.out) hb); have n12_ := Aside0.mk (Kd.R_below (rb_ HO340.out) hb); have n13_ := Aside0.mk (Kd.R_below (rb_ HO345.out) hb); have n14_ := Aside0.mk (Kd.R_below (rb_ HO348.out) hb); have n15_ := Aside0.mk (blk_below (g := gb279) (o := .cells #[.slice A0_0 l0_0.length c0_0, .int .i64 a0_1, .bool a0_2, .slice A0_3 l0_3.length c0_3, .slice A0_4 l0_4.length c0_4] 59 (0, 0)) (bk_ BK279.out) hb); have n16_ := Aside0.mk (blk_below (g := gb280) (o := .cells #[.int .i64 a1_0, .int .i64 a1_1, .int .i64 a1_2, .int .i64 a1_3] 65 (0, 0)) (bk_ BK280.out) hb); have n17_ := Aside0.mk (blk_below (g := gb308) (o := .cells #[.slice Ao37 t297.length co37, .int .i64 t300, .bool t301, .slice Ao41 t302.length co41, .slice Ao43 t305.length co43] 36 (0, 0)) (bk_ BK308.out) hb); have n18_ := Aside0.mk (blk_below (g := gb320) (o := .cells #[.slice Ao49 t309.length co49, .int .i64 t312, .bool t313, .slice Ao54 t314.length co54, .slice Ao55 t317.length co55] 36 (0, 0)) (bk_ BK320.out) hb); have n19_ := Aside0.mk (blk_below (g := gb336) (o := .cells #[.slice Ao62 t325.length co62, .int .i64 t328, .bool t329, .slice Ao66 t330.length co66, .slice Ao68 t333.length co68] 36 (0, 0)) (bk_ BK336.out) hb); have n20_ := Aside0.mk (below_step z0_ hb); clear HO284 HO289 HO292 HO299 HO304 HO307 HO311 HO316 HO319 HO327 HO332 HO335 HO340 HO345 HO348 BK279 BK280 BK308 BK320 BK336 HB; have HO284 := n0_; have HO289 := n1_; have HO292 := n2_; have HO299 := n3_; have HO304 := n4_; have HO307 := n5_; have HO311 := n6_; have HO316 := n7_; have HO319 := n8_; have HO327 := n9_; have HO332 := n10_; have HO335 := n11_; have HO340 := n12_; have HO345 := n13_; have HO348 := n14_; have BK279 := n15_; have BK280 := n16_; have BK308 := n17_; have BK320 := n18_; have BK336 := n19_; have HB := n20_; clear n0_ n1_ n2_ n3_ n4_ n5_ n6_ n7_ n8_ n9_ n10_ n11_ n12_ n13_ n14_ n15_ n16_ n17_ n18_ n19_ n20_; (try clear hb); (try clear hb2); (try clear hk); (try clear hi)))
      go_meet
      case rel => exact ⟨_, (!t354), (by first | rfl | (simp; done) | (simp [*]; done)), H', ⟨by first | omega | exact Nat.le_refl _⟩, ⟨by (with_reducible repeat (first | apply Kd.R_alloc | apply Kd.R_drewN | apply Kd.R_drew)); exact Kd.R_mono HO299.out (fun _ hk => ⟨hk.2.1, hk.2.2.1⟩)⟩, ⟨by (with_reducible repeat (first | apply Kd.R_alloc | apply Kd.R_drewN | apply Kd.R_drew)); exact Kd.R_mono HO304.out (fun _ hk => ⟨hk.2.1, hk.2.2.1⟩)⟩, ⟨by (with_reducible repeat (first | apply Kd.R_alloc | apply Kd.R_drewN | apply Kd.R_drew)); exact Kd.R_mono HO307.out (fun _ hk => ⟨hk.2.1, hk.2.2.1⟩)⟩, ⟨by (with_reducible repeat (first | apply Kd.R_alloc | apply Kd.R_drewN | apply Kd.R_drew)); exact Kd.R_mono HO311.out (fun _ hk => ⟨hk.1.2.1, hk.1.2.2⟩)⟩, ⟨by (with_reducible repeat (first | apply Kd.R_alloc | apply Kd.R_drewN | apply Kd.R_drew)); exact Kd.R_mono HO316.out (fun _ hk => ⟨hk.1.2.1, hk.1.2.2⟩)⟩, ⟨by (with_reducible repeat (first | apply Kd.R_alloc | apply Kd.R_drewN | apply Kd.R_drew)); exact Kd.R_mono HO319.out (fun _ hk => ⟨hk.1.2.1, hk.1.2.2⟩)⟩, ⟨by (with_reducible repeat (first | apply Kd.R_alloc | apply Kd.R_drewN | apply Kd.R_drew)); exact Kd.R_mono HO327.out (fun _ hk => ⟨hk.2.1, hk.2.2.1⟩)⟩, ⟨by (with_reducible repeat (first | apply Kd.R_alloc | apply Kd.R_drewN | apply Kd.R_drew)); exact Kd.R_mono HO332.out (fun _ hk => ⟨hk.2.1, hk.2.2.1⟩)⟩, ⟨by (with_reducible repeat (first | apply Kd.R_alloc | apply Kd.R_drewN | apply Kd.R_drew)); exact Kd.R_mono HO335.out (fun _ hk => ⟨hk.2.1, hk.2.2.1⟩)⟩, ⟨bk_ BK279.out⟩, ⟨bk_ BK280.out⟩, ⟨bk_ BK308.out⟩, ⟨bk_ BK320.out⟩, ⟨bk_ BK336.out⟩, ⟨z0_⟩⟩
    case rest =>
     clear HC22
     try clear c2
     try clear p2
     try clear c3
     try clear c4
     try clear c7
     try clear c8
     try clear c9
     try clear c24
     try clear c27
     try clear c39
     try clear c47
     try clear c70
     try clear c71
     try clear c72
     try clear c73
     try clear c75
     try clear c86
     try clear c86b0
     try clear c88
     try clear c89
     try clear c90
     try clear c91
     try clear c93
     try clear c94
     try clear c95
     try clear hcz74_0
     try clear hcz74_1
     try clear hcz74_2
     try clear hcz74_3
     try clear hcz74_4
     try clear hcz76_0
     try clear hcz76_1
     try clear hcz76_2
     try clear hcz76_3
     try clear hcz76_4
     try clear hcz84_0
     try clear hcz84_1
     try clear hcz84_2
     try clear hcz84_3
     try clear hcz84_4
     try clear hcz92_0
     try clear hcz92_1
     try clear hcz92_2
     try clear hcz92_3
     try clear hcz92_4
     try clear hcz96_0
     try clear hcz96_1
     try clear hcz96_2
     try clear hcz96_3
     try clear hcz96_4
     try clear hfz74_0
     try clear hfz74_1
     try clear hfz74_2
     try clear hfz74_3
     try clear hfz74_4
     try clear hfz76_0
     try clear hfz76_1
     try clear hfz76_2
     try clear hfz76_3
     try clear hfz76_4
     try clear hfz84_0
     try clear hfz84_1
     try clear hfz84_2
     try clear hfz84_3
     try clear hfz84_4
     try clear hfz92_0
     try clear hfz92_1
     try clear hfz92_2
     try clear hfz92_3
     try clear hfz92_4
     try clear hfz96_0
     try clear hfz96_1
     try clear hfz96_2
     try clear hfz96_3
     try clear hfz96_4
     obtain ⟨kq, x48_21, rfl, HA, HJ21, HO_309000, HO_309003, HO_309004, HO_321000, HO_321003, HO_321004, HO_337000, HO_337003, HO_337004, BK279, BK280, BK308, BK320, BK336, HB⟩ := hcut
     have hl321000_21 := (Kd.R_reads' HO_321000.out).1
     rw [hl321000_21] at HO_321000
     (try simp only [hl321000_21])
     (try simp only [hl321000_21] at BK279)
     (try simp only [hl321000_21] at BK280)
     (try simp only [hl321000_21] at BK308)
     (try simp only [hl321000_21] at BK320)
     (try simp only [hl321000_21] at BK336)
     (try simp only [hl321000_21] at HO_309000)
     (try simp only [hl321000_21] at HO_309003)
     (try simp only [hl321000_21] at HO_309004)
     (try simp only [hl321000_21] at HO_321003)
     (try simp only [hl321000_21] at HO_321004)
     (try simp only [hl321000_21] at HO_337000)
     (try simp only [hl321000_21] at HO_337003)
     (try simp only [hl321000_21] at HO_337004)
     have hl321003_21 := (Kd.R_reads' HO_321003.out).1
     rw [hl321003_21] at HO_321003
     (try simp only [hl321003_21])
     (try simp only [hl321003_21] at BK279)
     (try simp only [hl321003_21] at BK280)
     (try simp only [hl321003_21] at BK308)
     (try simp only [hl321003_21] at BK320)
     (try simp only [hl321003_21] at BK336)
     (try simp only [hl321003_21] at HO_309000)
     (try simp only [hl321003_21] at HO_309003)
     (try simp only [hl321003_21] at HO_309004)
     (try simp only [hl321003_21] at HO_321000)
     (try simp only [hl321003_21] at HO_321004)
     (try simp only [hl321003_21] at HO_337000)
     (try simp only [hl321003_21] at HO_337003)
     (try simp only [hl321003_21] at HO_337004)
     have hl321004_21 := (Kd.R_reads' HO_321004.out).1
     rw [hl321004_21] at HO_321004
     (try simp only [hl321004_21])
     (try simp only [hl321004_21] at BK279)
     (try simp only [hl321004_21] at BK280)
     (try simp only [hl321004_21] at BK308)
     (try simp only [hl321004_21] at BK320)
     (try simp only [hl321004_21] at BK336)
     (try simp only [hl321004_21] at HO_309000)
     (try simp only [hl321004_21] at HO_309003)
     (try simp only [hl321004_21] at HO_309004)
     (try simp only [hl321004_21] at HO_321000)
     (try simp only [hl321004_21] at HO_321003)
     (try simp only [hl321004_21] at HO_337000)
     (try simp only [hl321004_21] at HO_337003)
     (try simp only [hl321004_21] at HO_337004)
     cases kq with
     | zero => exact absurd HA.out (by simp [laws_FnExactSwap.j0])
     | succ kj21 =>
      have H := HA.out
      clear HA
      simp only [laws_FnExactSwap.j0] at H
      by_cases c98 : x48_21 = true
      ·
       subst c98
       have H1 : (none) = some r := by rw [if_pos rfl] at H; exact H
       clear H
       have H := H1
       clear H1
       exact absurd H (by simp)
      ·
       exact half_7
   ·
    replace c20 := Bool.eq_false_iff.mpr c20
    subst c20
    have H1 : (none) = some r := by rw [if_neg (show ¬ (false = true) by decide)] at H; exact H
    clear H
    have H := H1
    clear H1
    exact absurd H (by simp)
  ·
   replace c17 := Bool.eq_false_iff.mpr c17
   subst c17
   have H1 : (none) = some r := by rw [if_neg (show ¬ (false = true) by decide)] at H; exact H
   clear H
   have H := H1
   clear H1
   exact absurd H (by simp)

end Go.Proofs.Ytblpbhhomocfbaa.PFnExactSwap
