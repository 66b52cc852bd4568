/- Contracts of functions of the program: each says that the call does what a plain Lean function tells. Made by programs of this session and of the kit. No condition beyond the hypotheses that each theorem names. -/
import Derived.Test.YtmkhghbalnadlaaDoorPFnNumbersx0
import Derived.Test.YtmkhghbalnadlaaDoorPFnNumbersx1
import Derived.Test.YtmkhghbalnadlaaDoorPFnNumbersx2
import Derived.Test.YtmkhghbalnadlaaDoorPFnNumbersx3
namespace Go.Proofs.YtmkhghbalnadlaaDoor.PFnNumbers
open Go.RowKit Go.Proofs.YtmkhghbalnadlaaDoorW.PrintWords Go.Proofs.YtmkhghbalnadlaaDoorW.PrintLast Go.Proofs.YtmkhghbalnadlaaDoorW.PrintMore
attribute [local go_sem] max2_int min2_int max_two min_two max_three min_three max_four min_four   -- for this text's walks alone
set_option linter.unusedVariables false
set_option linter.unusedSimpArgs false

/-! ### laws_FnNumbers: function 3 -/
mutual
def laws_FnNumbers.j0 : Nat → ByteArray → Int → List ByteArray → Bool → Option (Bool)
  | 0, _, _, _, _ => none
  | k + 1, x10, x11, x12, x71 => if x71 = true then (none) else (laws_FnNumbers.l0 k x10 x11 x12 (⟨#[]⟩ : ByteArray) 0)
def laws_FnNumbers.l0 : Nat → ByteArray → Int → List ByteArray → ByteArray → Int → Option (Bool)
  | 0, _, _, _, _, _ => none
  | k + 1, x10, x11, x12, x13, x14 => if x14 < (x12.length : Int) then (if x14 > 0 then ((some (([x11] : List Int) : List Int)).bind fun y250 => (if x13.size + (strOfNums y250).size ≤ 9223372036854775807 then (if 0 ≤ x14 then (if (x13 ++ (strOfNums y250)).size + (rdOf ByteArray.empty x12 x14).size ≤ 9223372036854775807 then (laws_FnNumbers.l0 k x10 x11 x12 ((x13 ++ (strOfNums y250)) ++ (rdOf ByteArray.empty x12 x14)) (wrap64 (x14 + 1))) else (none)) else (none)) else (none))) else (if 0 ≤ x14 then (if x13.size + (rdOf ByteArray.empty x12 x14).size ≤ 9223372036854775807 then (laws_FnNumbers.l0 k x10 x11 x12 (x13 ++ (rdOf ByteArray.empty x12 x14)) (wrap64 (x14 + 1))) else (none)) else (none))) else (if x13.toList = x10.toList then ((spec_Split.f k x10 x11).bind fun t255 => (some ((x12.length : Int) == (t255.length : Int)))) else (some false))
end
def laws_FnNumbers.f (k : Nat) (l0 : List Int) : Option (Bool) := (laws_big.f l0).bind fun t228 => (if t228 = true then (some true) else ((spec_DrawDigits.f k l0).bind fun t229 => ((spec_DrawNumber.f k l0).bind fun t230 => ((impl_Number.f k t230).bind fun bt231 => ((spec_Number.f k t230).bind fun bt233 => ((spec_DrawNumsText.f k l0).bind fun t235 => ((spec_DrawSplit.f k l0).bind fun bt238 => ((impl_Split.f k bt238.1 bt238.2).bind fun t240 => ((impl_Digits.f k t229).bind fun t243 => ((spec_Digits.f k t229).bind fun t244 => (if t243.toList = t244.toList then (if bt231.1 = bt233.1 then (if (bt231.2 != bt233.2) = true then (laws_FnNumbers.j0 k bt238.1 bt238.2 t240 true) else (if bt231.2 = true then ((impl_Digits.f k bt231.1).bind fun t245 => (if t245.toList = t230.toList then ((impl_NumsText.f k t235).bind fun t246 => ((spec_NumsText.f k t235).bind fun t247 => (laws_FnNumbers.j0 k bt238.1 bt238.2 t240 (t246.toList != t247.toList)))) else (laws_FnNumbers.j0 k bt238.1 bt238.2 t240 true))) else ((impl_NumsText.f k t235).bind fun t248 => ((spec_NumsText.f k t235).bind fun t249 => (laws_FnNumbers.j0 k bt238.1 bt238.2 t240 (t248.toList != t249.toList)))))) else (laws_FnNumbers.j0 k bt238.1 bt238.2 t240 true)) else (laws_FnNumbers.j0 k bt238.1 bt238.2 t240 true))))))))))))
theorem laws_FnNumbers.mono_l : ∀ k, (∀ y0 y1 y2 y3, LeO (laws_FnNumbers.j0 k y0 y1 y2 y3) (laws_FnNumbers.j0 (k + 1) y0 y1 y2 y3)) ∧ (∀ y0 y1 y2 y3 y4, LeO (laws_FnNumbers.l0 k y0 y1 y2 y3 y4) (laws_FnNumbers.l0 (k + 1) y0 y1 y2 y3 y4))
  | 0 => ⟨fun _ _ _ _ r h => by simp [laws_FnNumbers.j0] at h, fun _ _ _ _ _ r h => by simp [laws_FnNumbers.l0] at h⟩
  | k + 1 => by
    obtain ⟨ih0, ih1⟩ := laws_FnNumbers.mono_l k
    refine ⟨?_, ?_⟩
    · intro y0 y1 y2 y3
      unfold laws_FnNumbers.j0
      repeat' first
      | (with_reducible exact ih0 _ _ _ _)
      | (with_reducible exact ih1 _ _ _ _ _)
      | (with_reducible exact impl_Digits.mono _ _)
      | (with_reducible exact impl_Number.mono _ _)
      | (with_reducible exact impl_NumsText.mono _ _)
      | (with_reducible exact impl_Split.mono _ _ _)
      | (with_reducible exact spec_Digits.mono _ _)
      | (with_reducible exact spec_DrawDigits.mono _ _)
      | (with_reducible exact spec_DrawNumber.mono _ _)
      | (with_reducible exact spec_DrawNumsText.mono _ _)
      | (with_reducible exact spec_DrawSplit.mono _ _)
      | (with_reducible exact spec_Number.mono _ _)
      | (with_reducible exact spec_NumsText.mono _ _)
      | (with_reducible exact spec_Split.mono _ _ _)
      | (with_reducible exact LeO.refl _)
      | (with_reducible exact LeO.none _)
      | (with_reducible refine LeO.ite ?_ ?_)
      | (with_reducible refine LeO.bind ?_ (fun _ => ?_))
      | exact ih0 _ _ _ _
      | exact ih1 _ _ _ _ _
      | exact impl_Digits.mono _ _
      | exact impl_Number.mono _ _
      | exact impl_NumsText.mono _ _
      | exact impl_Split.mono _ _ _
      | exact spec_Digits.mono _ _
      | exact spec_DrawDigits.mono _ _
      | exact spec_DrawNumber.mono _ _
      | exact spec_DrawNumsText.mono _ _
      | exact spec_DrawSplit.mono _ _
      | exact spec_Number.mono _ _
      | exact spec_NumsText.mono _ _
      | exact spec_Split.mono _ _ _
      | exact LeO.none _
      | refine LeO.ite ?_ ?_
      | refine LeO.bind ?_ (fun _ => ?_)
    · intro y0 y1 y2 y3 y4
      unfold laws_FnNumbers.l0
      repeat' first
      | (with_reducible exact ih0 _ _ _ _)
      | (with_reducible exact ih1 _ _ _ _ _)
      | (with_reducible exact impl_Digits.mono _ _)
      | (with_reducible exact impl_Number.mono _ _)
      | (with_reducible exact impl_NumsText.mono _ _)
      | (with_reducible exact impl_Split.mono _ _ _)
      | (with_reducible exact spec_Digits.mono _ _)
      | (with_reducible exact spec_DrawDigits.mono _ _)
      | (with_reducible exact spec_DrawNumber.mono _ _)
      | (with_reducible exact spec_DrawNumsText.mono _ _)
      | (with_reducible exact spec_DrawSplit.mono _ _)
      | (with_reducible exact spec_Number.mono _ _)
      | (with_reducible exact spec_NumsText.mono _ _)
      | (with_reducible exact spec_Split.mono _ _ _)
      | (with_reducible exact LeO.refl _)
      | (with_reducible exact LeO.none _)
      | (with_reducible refine LeO.ite ?_ ?_)
      | (with_reducible refine LeO.bind ?_ (fun _ => ?_))
      | exact ih0 _ _ _ _
      | exact ih1 _ _ _ _ _
      | exact impl_Digits.mono _ _
      | exact impl_Number.mono _ _
      | exact impl_NumsText.mono _ _
      | exact impl_Split.mono _ _ _
      | exact spec_Digits.mono _ _
      | exact spec_DrawDigits.mono _ _
      | exact spec_DrawNumber.mono _ _
      | exact spec_DrawNumsText.mono _ _
      | exact spec_DrawSplit.mono _ _
      | exact spec_Number.mono _ _
      | exact spec_NumsText.mono _ _
      | exact spec_Split.mono _ _ _
      | exact LeO.none _
      | refine LeO.ite ?_ ?_
      | refine LeO.bind ?_ (fun _ => ?_)
theorem laws_FnNumbers.mono : ∀ a0 k, LeO (laws_FnNumbers.f k a0) (laws_FnNumbers.f (k + 1) a0) := by
  intro a0 k
  obtain ⟨ih0, ih1⟩ := laws_FnNumbers.mono_l k
  unfold laws_FnNumbers.f
  repeat' first
      | (with_reducible exact ih0 _ _ _ _)
      | (with_reducible exact ih1 _ _ _ _ _)
      | (with_reducible exact impl_Digits.mono _ _)
      | (with_reducible exact impl_Number.mono _ _)
      | (with_reducible exact impl_NumsText.mono _ _)
      | (with_reducible exact impl_Split.mono _ _ _)
      | (with_reducible exact spec_Digits.mono _ _)
      | (with_reducible exact spec_DrawDigits.mono _ _)
      | (with_reducible exact spec_DrawNumber.mono _ _)
      | (with_reducible exact spec_DrawNumsText.mono _ _)
      | (with_reducible exact spec_DrawSplit.mono _ _)
      | (with_reducible exact spec_Number.mono _ _)
      | (with_reducible exact spec_NumsText.mono _ _)
      | (with_reducible exact spec_Split.mono _ _ _)
      | (with_reducible exact LeO.refl _)
      | (with_reducible exact LeO.none _)
      | (with_reducible refine LeO.ite ?_ ?_)
      | (with_reducible refine LeO.bind ?_ (fun _ => ?_))
      | exact ih0 _ _ _ _
      | exact ih1 _ _ _ _ _
      | exact impl_Digits.mono _ _
      | exact impl_Number.mono _ _
      | exact impl_NumsText.mono _ _
      | exact impl_Split.mono _ _ _
      | exact spec_Digits.mono _ _
      | exact spec_DrawDigits.mono _ _
      | exact spec_DrawNumber.mono _ _
      | exact spec_DrawNumsText.mono _ _
      | exact spec_DrawSplit.mono _ _
      | exact spec_Number.mono _ _
      | exact spec_NumsText.mono _ _
      | exact spec_Split.mono _ _ _
      | exact LeO.none _
      | refine LeO.ite ?_ ?_
      | refine LeO.bind ?_ (fun _ => ?_)
set_option maxHeartbeats 8000000 in
set_option maxRecDepth 100000 in
theorem laws_FnNumbers.calls (k : Nat) (A0 : Option Addr) (c0 : Nat) (l0 : List Int) (r : Bool) (m : Int) (w : World) (HM : Aside0 (w.cell? ⟨0, 0, none⟩ = some (.int .i64 m))) (hr0 : Kd.C (Kd.int .u8) w A0 l0.length l0) (hc0 : l0.length ≤ c0) (h : laws_FnNumbers.f k l0 = some r) :
    Calls Tryd.prog 3 #[.slice A0 l0.length c0] w fun e w' => e = .returned (.bool r) ∧ Below w.heap.size w w' := by
  have HR0 := Aside0.mk hr0
  have HC0 := Aside0.mk hc0
  clear hr0 hc0
  have HB := Aside0.mk (Below.refl w.heap.size w)
  have H : ((laws_big.f l0).bind fun t228 => (if t228 = true then (some true) else ((spec_DrawDigits.f k l0).bind fun t229 => ((spec_DrawNumber.f k l0).bind fun t230 => ((impl_Number.f k t230).bind fun bt231 => ((spec_Number.f k t230).bind fun bt233 => ((spec_DrawNumsText.f k l0).bind fun t235 => ((spec_DrawSplit.f k l0).bind fun bt238 => ((impl_Split.f k bt238.1 bt238.2).bind fun t240 => ((impl_Digits.f k t229).bind fun t243 => ((spec_Digits.f k t229).bind fun t244 => (if t243.toList = t244.toList then (if bt231.1 = bt233.1 then (if (bt231.2 != bt233.2) = true then (laws_FnNumbers.j0 k bt238.1 bt238.2 t240 true) else (if bt231.2 = true then ((impl_Digits.f k bt231.1).bind fun t245 => (if t245.toList = t230.toList then ((impl_NumsText.f k t235).bind fun t246 => ((spec_NumsText.f k t235).bind fun t247 => (laws_FnNumbers.j0 k bt238.1 bt238.2 t240 (t246.toList != t247.toList)))) else (laws_FnNumbers.j0 k bt238.1 bt238.2 t240 true))) else ((impl_NumsText.f k t235).bind fun t248 => ((spec_NumsText.f k t235).bind fun t249 => (laws_FnNumbers.j0 k bt238.1 bt238.2 t240 (t248.toList != t249.toList)))))) else (laws_FnNumbers.j0 k bt238.1 bt238.2 t240 true)) else (laws_FnNumbers.j0 k bt238.1 bt238.2 t240 true))))))))))))) = some r := h
  clear h
  replace H := Option.bind_eq_some_iff.mp H
  obtain ⟨t228, A20, H⟩ := H
  replace H : (if t228 = true then (some true) else ((spec_DrawDigits.f k l0).bind fun t229 => ((spec_DrawNumber.f k l0).bind fun t230 => ((impl_Number.f k t230).bind fun bt231 => ((spec_Number.f k t230).bind fun bt233 => ((spec_DrawNumsText.f k l0).bind fun t235 => ((spec_DrawSplit.f k l0).bind fun bt238 => ((impl_Split.f k bt238.1 bt238.2).bind fun t240 => ((impl_Digits.f k t229).bind fun t243 => ((spec_Digits.f k t229).bind fun t244 => (if t243.toList = t244.toList then (if bt231.1 = bt233.1 then (if (bt231.2 != bt233.2) = true then (laws_FnNumbers.j0 k bt238.1 bt238.2 t240 true) else (if bt231.2 = true then ((impl_Digits.f k bt231.1).bind fun t245 => (if t245.toList = t230.toList then ((impl_NumsText.f k t235).bind fun t246 => ((spec_NumsText.f k t235).bind fun t247 => (laws_FnNumbers.j0 k bt238.1 bt238.2 t240 (t246.toList != t247.toList)))) else (laws_FnNumbers.j0 k bt238.1 bt238.2 t240 true))) else ((impl_NumsText.f k t235).bind fun t248 => ((spec_NumsText.f k t235).bind fun t249 => (laws_FnNumbers.j0 k bt238.1 bt238.2 t240 (t248.toList != t249.toList)))))) else (laws_FnNumbers.j0 k bt238.1 bt238.2 t240 true)) else (laws_FnNumbers.j0 k bt238.1 bt238.2 t240 true)))))))))))) = some r := H
  have A2 := Aside0.mk A20
  clear A20
  by_cases c3 : t228 = true
  · subst c3
    have H1 : (some true) = some r := by rw [if_pos rfl] at H; exact H
    clear H
    have H := H1
    clear H1
    obtain rfl := Option.some.inj H
    go_enter Tryd.func3, Tryd.ntmps3
    go_wp2_with (first | ((with_reducible refine gate_callee (f := 4) rfl ?_); refine goesL_ (some 16) rfl rfl Tryd.func4 (by kernel_rfl) rfl #[.slice A0 l0.length c0] rfl (by (try simp only [List.map_toArray, List.map_cons, List.map_nil]); first | done | rfl | (simp only [List.length_drop, List.length_take]; rfl)) ?_; (with_reducible refine (laws_big.calls _ _ l0 true _ ?side1 ?side2 A2.out).mono ?_); (case side1 => repeat (first | exact HR0.out | (with_reducible refine Kd.C_alloc ?_ _) | (with_reducible refine Kd.C_drewN ?_ _) | (with_reducible refine Kd.C_drew ?_))); (case side2 => exact HC0.out); rintro e w' ⟨rfl, ⟨nd, rfl⟩⟩; refine ⟨_, rfl, ?_⟩))
    go_ret
    exact ⟨by first | rfl | (simp [errW_none, errW_some] <;> rfl) | (simp [*, errW_none, errW_some] <;> rfl), by repeat (first | (with_reducible first | exact HB.out | apply below_alloc | apply pw_below_drewN | apply below_drew1) | exact HB.out)⟩
  · replace c3 := Bool.eq_false_iff.mpr c3
    subst c3
    have H1 : ((spec_DrawDigits.f k l0).bind fun t229 => ((spec_DrawNumber.f k l0).bind fun t230 => ((impl_Number.f k t230).bind fun bt231 => ((spec_Number.f k t230).bind fun bt233 => ((spec_DrawNumsText.f k l0).bind fun t235 => ((spec_DrawSplit.f k l0).bind fun bt238 => ((impl_Split.f k bt238.1 bt238.2).bind fun t240 => ((impl_Digits.f k t229).bind fun t243 => ((spec_Digits.f k t229).bind fun t244 => (if t243.toList = t244.toList then (if bt231.1 = bt233.1 then (if (bt231.2 != bt233.2) = true then (laws_FnNumbers.j0 k bt238.1 bt238.2 t240 true) else (if bt231.2 = true then ((impl_Digits.f k bt231.1).bind fun t245 => (if t245.toList = t230.toList then ((impl_NumsText.f k t235).bind fun t246 => ((spec_NumsText.f k t235).bind fun t247 => (laws_FnNumbers.j0 k bt238.1 bt238.2 t240 (t246.toList != t247.toList)))) else (laws_FnNumbers.j0 k bt238.1 bt238.2 t240 true))) else ((impl_NumsText.f k t235).bind fun t248 => ((spec_NumsText.f k t235).bind fun t249 => (laws_FnNumbers.j0 k bt238.1 bt238.2 t240 (t248.toList != t249.toList)))))) else (laws_FnNumbers.j0 k bt238.1 bt238.2 t240 true)) else (laws_FnNumbers.j0 k bt238.1 bt238.2 t240 true))))))))))) = some r := by rw [if_neg (show ¬ (false = true) by decide)] at H; exact H
    clear H
    have H := H1
    clear H1
    replace H := Option.bind_eq_some_iff.mp H
    obtain ⟨t229, A40, H⟩ := H
    replace H : ((spec_DrawNumber.f k l0).bind fun t230 => ((impl_Number.f k t230).bind fun bt231 => ((spec_Number.f k t230).bind fun bt233 => ((spec_DrawNumsText.f k l0).bind fun t235 => ((spec_DrawSplit.f k l0).bind fun bt238 => ((impl_Split.f k bt238.1 bt238.2).bind fun t240 => ((impl_Digits.f k t229).bind fun t243 => ((spec_Digits.f k t229).bind fun t244 => (if t243.toList = t244.toList then (if bt231.1 = bt233.1 then (if (bt231.2 != bt233.2) = true then (laws_FnNumbers.j0 k bt238.1 bt238.2 t240 true) else (if bt231.2 = true then ((impl_Digits.f k bt231.1).bind fun t245 => (if t245.toList = t230.toList then ((impl_NumsText.f k t235).bind fun t246 => ((spec_NumsText.f k t235).bind fun t247 => (laws_FnNumbers.j0 k bt238.1 bt238.2 t240 (t246.toList != t247.toList)))) else (laws_FnNumbers.j0 k bt238.1 bt238.2 t240 true))) else ((impl_NumsText.f k t235).bind fun t248 => ((spec_NumsText.f k t235).bind fun t249 => (laws_FnNumbers.j0 k bt238.1 bt238.2 t240 (t248.toList != t249.toList)))))) else (laws_FnNumbers.j0 k bt238.1 bt238.2 t240 true)) else (laws_FnNumbers.j0 k bt238.1 bt238.2 t240 true)))))))))) = some r := H
    have A4 := Aside0.mk A40
    clear A40
    replace H := Option.bind_eq_some_iff.mp H
    obtain ⟨t230, A50, H⟩ := H
    replace H : ((impl_Number.f k t230).bind fun bt231 => ((spec_Number.f k t230).bind fun bt233 => ((spec_DrawNumsText.f k l0).bind fun t235 => ((spec_DrawSplit.f k l0).bind fun bt238 => ((impl_Split.f k bt238.1 bt238.2).bind fun t240 => ((impl_Digits.f k t229).bind fun t243 => ((spec_Digits.f k t229).bind fun t244 => (if t243.toList = t244.toList then (if bt231.1 = bt233.1 then (if (bt231.2 != bt233.2) = true then (laws_FnNumbers.j0 k bt238.1 bt238.2 t240 true) else (if bt231.2 = true then ((impl_Digits.f k bt231.1).bind fun t245 => (if t245.toList = t230.toList then ((impl_NumsText.f k t235).bind fun t246 => ((spec_NumsText.f k t235).bind fun t247 => (laws_FnNumbers.j0 k bt238.1 bt238.2 t240 (t246.toList != t247.toList)))) else (laws_FnNumbers.j0 k bt238.1 bt238.2 t240 true))) else ((impl_NumsText.f k t235).bind fun t248 => ((spec_NumsText.f k t235).bind fun t249 => (laws_FnNumbers.j0 k bt238.1 bt238.2 t240 (t248.toList != t249.toList)))))) else (laws_FnNumbers.j0 k bt238.1 bt238.2 t240 true)) else (laws_FnNumbers.j0 k bt238.1 bt238.2 t240 true))))))))) = some r := H
    have A5 := Aside0.mk A50
    clear A50
    replace H := Option.bind_eq_some_iff.mp H
    obtain ⟨⟨t231, t232⟩, A60, H⟩ := H
    replace H : ((spec_Number.f k t230).bind fun bt233 => ((spec_DrawNumsText.f k l0).bind fun t235 => ((spec_DrawSplit.f k l0).bind fun bt238 => ((impl_Split.f k bt238.1 bt238.2).bind fun t240 => ((impl_Digits.f k t229).bind fun t243 => ((spec_Digits.f k t229).bind fun t244 => (if t243.toList = t244.toList then (if t231 = bt233.1 then (if (t232 != bt233.2) = true then (laws_FnNumbers.j0 k bt238.1 bt238.2 t240 true) else (if t232 = true then ((impl_Digits.f k t231).bind fun t245 => (if t245.toList = t230.toList then ((impl_NumsText.f k t235).bind fun t246 => ((spec_NumsText.f k t235).bind fun t247 => (laws_FnNumbers.j0 k bt238.1 bt238.2 t240 (t246.toList != t247.toList)))) else (laws_FnNumbers.j0 k bt238.1 bt238.2 t240 true))) else ((impl_NumsText.f k t235).bind fun t248 => ((spec_NumsText.f k t235).bind fun t249 => (laws_FnNumbers.j0 k bt238.1 bt238.2 t240 (t248.toList != t249.toList)))))) else (laws_FnNumbers.j0 k bt238.1 bt238.2 t240 true)) else (laws_FnNumbers.j0 k bt238.1 bt238.2 t240 true)))))))) = some r := H
    have A6 := Aside0.mk A60
    clear A60
    replace H := Option.bind_eq_some_iff.mp H
    obtain ⟨⟨t233, t234⟩, A70, H⟩ := H
    replace H : ((spec_DrawNumsText.f k l0).bind fun t235 => ((spec_DrawSplit.f k l0).bind fun bt238 => ((impl_Split.f k bt238.1 bt238.2).bind fun t240 => ((impl_Digits.f k t229).bind fun t243 => ((spec_Digits.f k t229).bind fun t244 => (if t243.toList = t244.toList then (if t231 = t233 then (if (t232 != t234) = true then (laws_FnNumbers.j0 k bt238.1 bt238.2 t240 true) else (if t232 = true then ((impl_Digits.f k t231).bind fun t245 => (if t245.toList = t230.toList then ((impl_NumsText.f k t235).bind fun t246 => ((spec_NumsText.f k t235).bind fun t247 => (laws_FnNumbers.j0 k bt238.1 bt238.2 t240 (t246.toList != t247.toList)))) else (laws_FnNumbers.j0 k bt238.1 bt238.2 t240 true))) else ((impl_NumsText.f k t235).bind fun t248 => ((spec_NumsText.f k t235).bind fun t249 => (laws_FnNumbers.j0 k bt238.1 bt238.2 t240 (t248.toList != t249.toList)))))) else (laws_FnNumbers.j0 k bt238.1 bt238.2 t240 true)) else (laws_FnNumbers.j0 k bt238.1 bt238.2 t240 true))))))) = some r := H
    have A7 := Aside0.mk A70
    clear A70
    replace H := Option.bind_eq_some_iff.mp H
    obtain ⟨t235, A80, H⟩ := H
    replace H : ((spec_DrawSplit.f k l0).bind fun bt238 => ((impl_Split.f k bt238.1 bt238.2).bind fun t240 => ((impl_Digits.f k t229).bind fun t243 => ((spec_Digits.f k t229).bind fun t244 => (if t243.toList = t244.toList then (if t231 = t233 then (if (t232 != t234) = true then (laws_FnNumbers.j0 k bt238.1 bt238.2 t240 true) else (if t232 = true then ((impl_Digits.f k t231).bind fun t245 => (if t245.toList = t230.toList then ((impl_NumsText.f k t235).bind fun t246 => ((spec_NumsText.f k t235).bind fun t247 => (laws_FnNumbers.j0 k bt238.1 bt238.2 t240 (t246.toList != t247.toList)))) else (laws_FnNumbers.j0 k bt238.1 bt238.2 t240 true))) else ((impl_NumsText.f k t235).bind fun t248 => ((spec_NumsText.f k t235).bind fun t249 => (laws_FnNumbers.j0 k bt238.1 bt238.2 t240 (t248.toList != t249.toList)))))) else (laws_FnNumbers.j0 k bt238.1 bt238.2 t240 true)) else (laws_FnNumbers.j0 k bt238.1 bt238.2 t240 true)))))) = some r := H
    have A8 := Aside0.mk A80
    clear A80
    replace H := Option.bind_eq_some_iff.mp H
    obtain ⟨⟨t238, t239⟩, A90, H⟩ := H
    replace H : ((impl_Split.f k t238 t239).bind fun t240 => ((impl_Digits.f k t229).bind fun t243 => ((spec_Digits.f k t229).bind fun t244 => (if t243.toList = t244.toList then (if t231 = t233 then (if (t232 != t234) = true then (laws_FnNumbers.j0 k t238 t239 t240 true) else (if t232 = true then ((impl_Digits.f k t231).bind fun t245 => (if t245.toList = t230.toList then ((impl_NumsText.f k t235).bind fun t246 => ((spec_NumsText.f k t235).bind fun t247 => (laws_FnNumbers.j0 k t238 t239 t240 (t246.toList != t247.toList)))) else (laws_FnNumbers.j0 k t238 t239 t240 true))) else ((impl_NumsText.f k t235).bind fun t248 => ((spec_NumsText.f k t235).bind fun t249 => (laws_FnNumbers.j0 k t238 t239 t240 (t248.toList != t249.toList)))))) else (laws_FnNumbers.j0 k t238 t239 t240 true)) else (laws_FnNumbers.j0 k t238 t239 t240 true))))) = some r := H
    have A9 := Aside0.mk A90
    clear A90
    replace H := Option.bind_eq_some_iff.mp H
    obtain ⟨t240, A100, H⟩ := H
    replace H : ((impl_Digits.f k t229).bind fun t243 => ((spec_Digits.f k t229).bind fun t244 => (if t243.toList = t244.toList then (if t231 = t233 then (if (t232 != t234) = true then (laws_FnNumbers.j0 k t238 t239 t240 true) else (if t232 = true then ((impl_Digits.f k t231).bind fun t245 => (if t245.toList = t230.toList then ((impl_NumsText.f k t235).bind fun t246 => ((spec_NumsText.f k t235).bind fun t247 => (laws_FnNumbers.j0 k t238 t239 t240 (t246.toList != t247.toList)))) else (laws_FnNumbers.j0 k t238 t239 t240 true))) else ((impl_NumsText.f k t235).bind fun t248 => ((spec_NumsText.f k t235).bind fun t249 => (laws_FnNumbers.j0 k t238 t239 t240 (t248.toList != t249.toList)))))) else (laws_FnNumbers.j0 k t238 t239 t240 true)) else (laws_FnNumbers.j0 k t238 t239 t240 true)))) = some r := H
    have A10 := Aside0.mk A100
    clear A100
    have HC11 := Aside0.mk H
    clear H
    go_enter Tryd.func3, Tryd.ntmps3
    go_upto_region 10 with (first | ((with_reducible refine gate_callee (f := 4) rfl ?_); refine goesL_ (some 16) rfl rfl Tryd.func4 (by kernel_rfl) rfl #[.slice A0 l0.length c0] rfl (by (try simp only [List.map_toArray, List.map_cons, List.map_nil]); first | done | rfl | (simp only [List.length_drop, List.length_take]; rfl)) ?_; (with_reducible refine (laws_big.calls _ _ l0 false _ ?side1 ?side2 A2.out).mono ?_); (case side1 => repeat (first | exact HR0.out | (with_reducible refine Kd.C_alloc ?_ _) | (with_reducible refine Kd.C_drewN ?_ _) | (with_reducible refine Kd.C_drew ?_))); (case side2 => exact HC0.out); rintro e w' ⟨rfl, ⟨nd, rfl⟩⟩; refine ⟨_, rfl, ?_⟩) | ((with_reducible refine gate_callee (f := 5) rfl ?_); refine goesL_ (some 18) rfl rfl Tryd.func5 (by kernel_rfl) rfl #[.slice A0 l0.length c0] rfl (by (try simp only [List.map_toArray, List.map_cons, List.map_nil]); first | done | rfl | (simp only [List.length_drop, List.length_take]; rfl)) ?_; (with_reducible refine (spec_DrawDigits.calls k _ _ l0 t229 _ ?side1 ?side2 A4.out).mono ?_); (case side1 => repeat (first | exact HR0.out | (with_reducible refine Kd.C_alloc ?_ _) | (with_reducible refine Kd.C_drewN ?_ _) | (with_reducible refine Kd.C_drew ?_))); (case side2 => exact HC0.out); rintro e w12 ⟨rfl, hb⟩; refine ⟨_, rfl, ?_⟩; have n0_ := Aside0.mk (below_step (by repeat (first | (with_reducible first | exact HB.out | apply below_alloc | apply pw_below_drewN | apply below_drew1) | exact HB.out)) hb); clear HB; have HB := n0_; clear n0_; (try clear hb); (try clear hb2); (try clear hk); (try clear hi)) | ((with_reducible refine gate_callee (f := 6) rfl ?_); refine goesL_ (some 20) rfl rfl Tryd.func6 (by kernel_rfl) rfl #[.slice A0 l0.length c0] rfl (by (try simp only [List.map_toArray, List.map_cons, List.map_nil]); first | done | rfl | (simp only [List.length_drop, List.length_take]; rfl)) ?_; (with_reducible refine (spec_DrawNumber.calls k _ _ l0 t230 _ ?side1 ?side2 A5.out).mono ?_); (case side1 => repeat (first | exact (Kd.C_below HR0.out HB.out) | (with_reducible refine Kd.C_alloc ?_ _) | (with_reducible refine Kd.C_drewN ?_ _) | (with_reducible refine Kd.C_drew ?_))); (case side2 => exact HC0.out); rintro e w13 ⟨rfl, hb⟩; refine ⟨_, rfl, ?_⟩; have n0_ := Aside0.mk (below_step (by repeat (first | (with_reducible first | exact HB.out | apply below_alloc | apply pw_below_drewN | apply below_drew1) | exact HB.out)) hb); clear HB; have HB := n0_; clear n0_; (try clear hb); (try clear hb2); (try clear hk); (try clear hi)) | ((with_reducible refine gate_callee (f := 7) rfl ?_); refine goesL_ (some 23) rfl rfl Tryd.func7 (by kernel_rfl) rfl #[.string t230] rfl (by (try simp only [List.map_toArray, List.map_cons, List.map_nil]); first | done | rfl | (simp only [List.length_drop, List.length_take]; rfl)) ?_; (with_reducible refine (impl_Number.calls k t230 t231 t232 _ A6.out).mono ?_); rintro e w14 ⟨rfl, hb⟩; refine ⟨_, rfl, ?_⟩; have n0_ := Aside0.mk (below_step (by repeat (first | (with_reducible first | exact HB.out | apply below_alloc | apply pw_below_drewN | apply below_drew1) | exact HB.out)) hb); clear HB; have HB := n0_; clear n0_; (try clear hb); (try clear hb2); (try clear hk); (try clear hi)) | ((with_reducible refine gate_callee (f := 8) rfl ?_); refine goesL_ (some 28) rfl rfl Tryd.func8 (by kernel_rfl) rfl #[.string t230] rfl (by (try simp only [List.map_toArray, List.map_cons, List.map_nil]); first | done | rfl | (simp only [List.length_drop, List.length_take]; rfl)) ?_; (with_reducible refine (spec_Number.calls k t230 t233 t234 _ A7.out).mono ?_); rintro e w15 ⟨rfl, hb⟩; refine ⟨_, rfl, ?_⟩; have n0_ := Aside0.mk (below_step (by repeat (first | (with_reducible first | exact HB.out | apply below_alloc | apply pw_below_drewN | apply below_drew1) | exact HB.out)) hb); clear HB; have HB := n0_; clear n0_; (try clear hb); (try clear hb2); (try clear hk); (try clear hi)) | ((with_reducible refine gate_callee (f := 9) rfl ?_); refine goesL_ (some 32) rfl rfl Tryd.func9 (by kernel_rfl) rfl #[.slice A0 l0.length c0] rfl (by (try simp only [List.map_toArray, List.map_cons, List.map_nil]); first | done | rfl | (simp only [List.length_drop, List.length_take]; rfl)) ?_; (with_reducible refine (spec_DrawNumsText.calls k _ _ l0 t235 _ ?side1 ?side2 A8.out).mono ?_); (case side1 => repeat (first | exact (Kd.C_below HR0.out HB.out) | (with_reducible refine Kd.C_alloc ?_ _) | (with_reducible refine Kd.C_drewN ?_ _) | (with_reducible refine Kd.C_drew ?_))); (case side2 => exact HC0.out); rintro e w16 ⟨v236, rfl, ho0, hb⟩; refine ⟨_, rfl, ?_⟩; have n0_ := Aside0.mk (Kd.R_lower ho0 (below_size (by repeat (first | (with_reducible first | exact HB.out | apply below_alloc | apply pw_below_drewN | apply below_drew1) | exact HB.out)))); have n1_ := Aside0.mk (below_step (by repeat (first | (with_reducible first | exact HB.out | apply below_alloc | apply pw_below_drewN | apply below_drew1) | exact HB.out)) hb); clear HB; have HO237 := n0_; have HB := n1_; clear n0_ n1_; (try clear hb); (try clear hb2); (try clear hk); (try clear hi); (try clear ho0)) | ((with_reducible refine gate_callee (f := 10) rfl ?_); refine goesL_ (some 35) rfl rfl Tryd.func10 (by kernel_rfl) rfl #[.slice A0 l0.length c0] rfl (by (try simp only [List.map_toArray, List.map_cons, List.map_nil]); first | done | rfl | (simp only [List.length_drop, List.length_take]; rfl)) ?_; (with_reducible refine (spec_DrawSplit.calls k _ _ l0 t238 t239 _ ?side1 ?side2 A9.out).mono ?_); (case side1 => repeat (first | exact (Kd.C_below HR0.out HB.out) | (with_reducible refine Kd.C_alloc ?_ _) | (with_reducible refine Kd.C_drewN ?_ _) | (with_reducible refine Kd.C_drew ?_))); (case side2 => exact HC0.out); rintro e w17 ⟨rfl, hb⟩; refine ⟨_, rfl, ?_⟩; have n0_ := Aside0.mk (Kd.R_below (by (with_reducible repeat (first | apply Kd.R_alloc | apply Kd.R_drewN | apply Kd.R_drew)); exact HO237.out) hb); have n1_ := Aside0.mk (below_step (by repeat (first | (with_reducible first | exact HB.out | apply below_alloc | apply pw_below_drewN | apply below_drew1) | exact HB.out)) hb); clear HO237; clear HB; have HO237 := n0_; have HB := n1_; clear n0_ n1_; (try clear hb); (try clear hb2); (try clear hk); (try clear hi)) | ((with_reducible refine gate_callee (f := 11) rfl ?_); refine goesL_ (some 40) rfl rfl Tryd.func11 (by kernel_rfl) rfl #[.string t238, .int .u8 t239] rfl (by (try simp only [List.map_toArray, List.map_cons, List.map_nil]); first | done | rfl | (simp only [List.length_drop, List.length_take]; rfl)) ?_; (with_reducible refine (impl_Split.calls k t238 t239 t240 m _ A10.out ?side1).mono ?_); (case side1 => exact pw_cell_below (by repeat (first | (with_reducible first | exact HB.out | apply below_alloc | apply pw_below_drewN | apply below_drew1) | exact HB.out)) HM.out); rintro e w18 ⟨v241, rfl, ho0, hb⟩; refine ⟨_, rfl, ?_⟩; have n0_ := Aside0.mk (Kd.R_below (by (with_reducible repeat (first | apply Kd.R_alloc | apply Kd.R_drewN | apply Kd.R_drew)); exact HO237.out) hb); have n1_ := Aside0.mk (Kd.R_lower ho0 (below_size (by repeat (first | (with_reducible first | exact HB.out | apply below_alloc | apply pw_below_drewN | apply below_drew1) | exact HB.out)))); have n2_ := Aside0.mk (below_step (by repeat (first | (with_reducible first | exact HB.out | apply below_alloc | apply pw_below_drewN | apply below_drew1) | exact HB.out)) hb); clear HO237; clear HB; have HO237 := n0_; have HO242 := n1_; have HB := n2_; clear n0_ n1_ n2_; (try clear hb); (try clear hb2); (try clear hk); (try clear hi); (try clear ho0)))
    (try simp only [Act.put, List.setIfInBounds_toArray, List.set_cons_zero, List.set_cons_succ])
    go_cut [71] (fun v71 wc => ∃ (kq : Nat) (x71_10 : Bool), v71 = .bool x71_10 ∧ Aside0 (laws_FnNumbers.j0 kq t238 t239 t240 x71_10 = some r) ∧ Aside0 (kq ≤ k) ∧ Aside0 (Kd.R Kd.string 9 wc w.heap.size (fun _ => True) v241 t240) ∧ Aside0 (Below w.heap.size w wc))
    case first =>
      have H := HC11.out
      clear HC11
      replace H := Option.bind_eq_some_iff.mp H
      obtain ⟨t243, A190, H⟩ := H
      replace H : ((spec_Digits.f k t229).bind fun t244 => (if t243.toList = t244.toList then (if t231 = t233 then (if (t232 != t234) = true then (laws_FnNumbers.j0 k t238 t239 t240 true) else (if t232 = true then ((impl_Digits.f k t231).bind fun t245 => (if t245.toList = t230.toList then ((impl_NumsText.f k t235).bind fun t246 => ((spec_NumsText.f k t235).bind fun t247 => (laws_FnNumbers.j0 k t238 t239 t240 (t246.toList != t247.toList)))) else (laws_FnNumbers.j0 k t238 t239 t240 true))) else ((impl_NumsText.f k t235).bind fun t248 => ((spec_NumsText.f k t235).bind fun t249 => (laws_FnNumbers.j0 k t238 t239 t240 (t248.toList != t249.toList)))))) else (laws_FnNumbers.j0 k t238 t239 t240 true)) else (laws_FnNumbers.j0 k t238 t239 t240 true))) = some r := H
      have A19 := Aside0.mk A190
      clear A190
      replace H := Option.bind_eq_some_iff.mp H
      obtain ⟨t244, A200, H⟩ := H
      replace H : (if t243.toList = t244.toList then (if t231 = t233 then (if (t232 != t234) = true then (laws_FnNumbers.j0 k t238 t239 t240 true) else (if t232 = true then ((impl_Digits.f k t231).bind fun t245 => (if t245.toList = t230.toList then ((impl_NumsText.f k t235).bind fun t246 => ((spec_NumsText.f k t235).bind fun t247 => (laws_FnNumbers.j0 k t238 t239 t240 (t246.toList != t247.toList)))) else (laws_FnNumbers.j0 k t238 t239 t240 true))) else ((impl_NumsText.f k t235).bind fun t248 => ((spec_NumsText.f k t235).bind fun t249 => (laws_FnNumbers.j0 k t238 t239 t240 (t248.toList != t249.toList)))))) else (laws_FnNumbers.j0 k t238 t239 t240 true)) else (laws_FnNumbers.j0 k t238 t239 t240 true)) = some r := H
      have A20 := Aside0.mk A200
      clear A200
      by_cases c21 : t243.toList = t244.toList
      · rw [if_pos c21] at H
        have c21b0 : (t243.toList == t244.toList) = true := beq_iff_eq.mpr c21
        have c21b1 : (t243.toList != t244.toList) = false := bne_eq_false_iff_eq.mpr c21
        clear c21
        (first | rw [c21b0] | (simp only [i64_w, i32_w]; rw [c21b0]) | skip)
        by_cases c22 : t231 = t233
        · rw [if_pos c22] at H
          have c22b0 : (t231 == t233) = true := beq_iff_eq.mpr c22
          have c22b1 : (t231 != t233) = false := bne_eq_false_iff_eq.mpr c22
          clear c22
          by_cases c23 : (t232 != t234) = true
          · rw [if_pos c23] at H
            have c23b0 : (t232 != t234) = true := c23
            (try (have c23b1 : decide (t232 = t234) = false := by simpa using c23))
            (try (have c23b2 : (t232 == t234) = false := by simpa using c23))
            (try (have c23b3 : ¬ (t232 = t234) := by simpa using c23))
            clear c23
            have H' := Aside0.mk H
            clear H
            go_wp2_with (first | ((with_reducible refine gate_callee (f := 12) rfl ?_); refine goesL_ (some 42) rfl rfl Tryd.func12 (by kernel_rfl) rfl #[.int .i64 t229] rfl (by (try simp only [List.map_toArray, List.map_cons, List.map_nil]); first | done | rfl | (simp only [List.length_drop, List.length_take]; rfl)) ?_; (with_reducible refine (impl_Digits.calls k t229 t243 _ A19.out).mono ?_); rintro e w24 ⟨rfl, hb⟩; refine ⟨_, rfl, ?_⟩; have n0_ := Aside0.mk (Kd.R_below (by (with_reducible repeat (first | apply Kd.R_alloc | apply Kd.R_drewN | apply Kd.R_drew)); exact HO237.out) hb); have n1_ := Aside0.mk (Kd.R_below (by (with_reducible repeat (first | apply Kd.R_alloc | apply Kd.R_drewN | apply Kd.R_drew)); exact HO242.out) hb); have n2_ := Aside0.mk (below_step (by repeat (first | (with_reducible first | exact HB.out | apply below_alloc | apply pw_below_drewN | apply below_drew1) | exact HB.out)) hb); clear HO237; clear HO242; clear HB; have HO237 := n0_; have HO242 := n1_; have HB := n2_; clear n0_ n1_ n2_; (try clear hb); (try clear hb2); (try clear hk); (try clear hi)) | ((with_reducible refine gate_callee (f := 13) rfl ?_); refine goesL_ (some 44) rfl rfl Tryd.func13 (by kernel_rfl) rfl #[.int .i64 t229] rfl (by (try simp only [List.map_toArray, List.map_cons, List.map_nil]); first | done | rfl | (simp only [List.length_drop, List.length_take]; rfl)) ?_; (with_reducible refine (spec_Digits.calls k t229 t244 _ A20.out).mono ?_); rintro e w25 ⟨rfl, hb⟩; refine ⟨_, rfl, ?_⟩; have n0_ := Aside0.mk (Kd.R_below (by (with_reducible repeat (first | apply Kd.R_alloc | apply Kd.R_drewN | apply Kd.R_drew)); exact HO237.out) hb); have n1_ := Aside0.mk (Kd.R_below (by (with_reducible repeat (first | apply Kd.R_alloc | apply Kd.R_drewN | apply Kd.R_drew)); exact HO242.out) hb); have n2_ := Aside0.mk (below_step (by repeat (first | (with_reducible first | exact HB.out | apply below_alloc | apply pw_below_drewN | apply below_drew1) | exact HB.out)) hb); clear HO237; clear HO242; clear HB; have HO237 := n0_; have HO242 := n1_; have HB := n2_; clear n0_ n1_ n2_; (try clear hb); (try clear hb2); (try clear hk); (try clear hi)))
            go_meet
            case rel => exact ⟨_, (true), (by first | rfl | (simp; done) | (simp [*]; done)), H', ⟨by first | omega | exact Nat.le_refl _⟩, ⟨by (with_reducible repeat (first | apply Kd.R_alloc | apply Kd.R_drewN | apply Kd.R_drew)); exact HO242.out⟩, ⟨by repeat (first | (with_reducible first | exact HB.out | apply below_alloc | apply pw_below_drewN | apply below_drew1) | exact HB.out)⟩⟩
          · rw [if_neg c23] at H
            have c23b0 : (t232 != t234) = false := by simpa using c23
            (try (have c23b1 : decide (t232 = t234) = true := by simpa using c23))
            (try (have c23b2 : (t232 == t234) = true := by simpa using c23))
            clear c23
            by_cases c26 : t232 = true
            · subst c26
              have H1 : ((impl_Digits.f k t231).bind fun t245 => (if t245.toList = t230.toList then ((impl_NumsText.f k t235).bind fun t246 => ((spec_NumsText.f k t235).bind fun t247 => (laws_FnNumbers.j0 k t238 t239 t240 (t246.toList != t247.toList)))) else (laws_FnNumbers.j0 k t238 t239 t240 true))) = some r := by rw [if_pos rfl] at H; exact H
              clear H
              have H := H1
              clear H1
              replace H := Option.bind_eq_some_iff.mp H
              obtain ⟨t245, A270, H⟩ := H
              replace H : (if t245.toList = t230.toList then ((impl_NumsText.f k t235).bind fun t246 => ((spec_NumsText.f k t235).bind fun t247 => (laws_FnNumbers.j0 k t238 t239 t240 (t246.toList != t247.toList)))) else (laws_FnNumbers.j0 k t238 t239 t240 true)) = some r := H
              have A27 := Aside0.mk A270
              clear A270
              by_cases c28 : t245.toList = t230.toList
              · rw [if_pos c28] at H
                have c28b0 : (t245.toList == t230.toList) = true := beq_iff_eq.mpr c28
                have c28b1 : (t245.toList != t230.toList) = false := bne_eq_false_iff_eq.mpr c28
                clear c28
                replace H := Option.bind_eq_some_iff.mp H
                obtain ⟨t246, A290, H⟩ := H
                replace H : ((spec_NumsText.f k t235).bind fun t247 => (laws_FnNumbers.j0 k t238 t239 t240 (t246.toList != t247.toList))) = some r := H
                have A29 := Aside0.mk A290
                clear A290
                replace H := Option.bind_eq_some_iff.mp H
                obtain ⟨t247, A300, H⟩ := H
                replace H : (laws_FnNumbers.j0 k t238 t239 t240 (t246.toList != t247.toList)) = some r := H
                have A30 := Aside0.mk A300
                clear A300
                have H' := Aside0.mk H
                clear H
                go_wp2_with (first | ((with_reducible refine gate_callee (f := 12) rfl ?_); refine goesL_ (some 42) rfl rfl Tryd.func12 (by kernel_rfl) rfl #[.int .i64 t229] rfl (by (try simp only [List.map_toArray, List.map_cons, List.map_nil]); first | done | rfl | (simp only [List.length_drop, List.length_take]; rfl)) ?_; (with_reducible refine (impl_Digits.calls k t229 t243 _ A19.out).mono ?_); rintro e w31 ⟨rfl, hb⟩; refine ⟨_, rfl, ?_⟩; have n0_ := Aside0.mk (Kd.R_below (by (with_reducible repeat (first | apply Kd.R_alloc | apply Kd.R_drewN | apply Kd.R_drew)); exact HO237.out) hb); have n1_ := Aside0.mk (Kd.R_below (by (with_reducible repeat (first | apply Kd.R_alloc | apply Kd.R_drewN | apply Kd.R_drew)); exact HO242.out) hb); have n2_ := Aside0.mk (below_step (by repeat (first | (with_reducible first | exact HB.out | apply below_alloc | apply pw_below_drewN | apply below_drew1) | exact HB.out)) hb); clear HO237; clear HO242; clear HB; have HO237 := n0_; have HO242 := n1_; have HB := n2_; clear n0_ n1_ n2_; (try clear hb); (try clear hb2); (try clear hk); (try clear hi)) | ((with_reducible refine gate_callee (f := 13) rfl ?_); refine goesL_ (some 44) rfl rfl Tryd.func13 (by kernel_rfl) rfl #[.int .i64 t229] rfl (by (try simp only [List.map_toArray, List.map_cons, List.map_nil]); first | done | rfl | (simp only [List.length_drop, List.length_take]; rfl)) ?_; (with_reducible refine (spec_Digits.calls k t229 t244 _ A20.out).mono ?_); rintro e w32 ⟨rfl, hb⟩; refine ⟨_, rfl, ?_⟩; have n0_ := Aside0.mk (Kd.R_below (by (with_reducible repeat (first | apply Kd.R_alloc | apply Kd.R_drewN | apply Kd.R_drew)); exact HO237.out) hb); have n1_ := Aside0.mk (Kd.R_below (by (with_reducible repeat (first | apply Kd.R_alloc | apply Kd.R_drewN | apply Kd.R_drew)); exact HO242.out) hb); have n2_ := Aside0.mk (below_step (by repeat (first | (with_reducible first | exact HB.out | apply below_alloc | apply pw_below_drewN | apply below_drew1) | exact HB.out)) hb); clear HO237; clear HO242; clear HB; have HO237 := n0_; have HO242 := n1_; have HB := n2_; clear n0_ n1_ n2_; (try clear hb); (try clear hb2); (try clear hk); (try clear hi)) | (go_at_call 12; (with_reducible refine (impl_Digits.calls k t231 t245 _ A27.out).mono ?_); rintro e w33 ⟨rfl, hb⟩; have n0_ := Aside0.mk (Kd.R_below (by (with_reducible repeat (first | apply Kd.R_alloc | apply Kd.R_drewN | apply Kd.R_drew)); exact HO237.out) hb); have n1_ := Aside0.mk (Kd.R_below (by (with_reducible repeat (first | apply Kd.R_alloc | apply Kd.R_drewN | apply Kd.R_drew)); exact HO242.out) hb); have n2_ := Aside0.mk (below_step (by repeat (first | (with_reducible first | exact HB.out | apply below_alloc | apply pw_below_drewN | apply below_drew1) | exact HB.out)) hb); clear HO237; clear HO242; clear HB; have HO237 := n0_; have HO242 := n1_; have HB := n2_; clear n0_ n1_ n2_; (try clear hb); (try clear hb2); (try clear hk); (try clear hi); obtain ⟨Ao34, co34, eo34⟩ := Kd.R_slice HO237.out; subst eo34) | (go_at_call 14; (with_reducible refine (impl_NumsText.calls k _ _ t235 t246 _ ?side1 ?side2 A29.out).mono ?_); (case side1 => repeat (first | exact (Kd.R_reads' HO237.out).2.2 | (with_reducible refine Kd.C_alloc ?_ _) | (with_reducible refine Kd.C_drewN ?_ _) | (with_reducible refine Kd.C_drew ?_))); (case side2 => exact (Kd.R_reads' HO237.out).2.1); rintro e w35 ⟨rfl, hb⟩; have n0_ := Aside0.mk (Kd.R_below (by (with_reducible repeat (first | apply Kd.R_alloc | apply Kd.R_drewN | apply Kd.R_drew)); exact HO237.out) hb); have n1_ := Aside0.mk (Kd.R_below (by (with_reducible repeat (first | apply Kd.R_alloc | apply Kd.R_drewN | apply Kd.R_drew)); exact HO242.out) hb); have n2_ := Aside0.mk (below_step (by repeat (first | (with_reducible first | exact HB.out | apply below_alloc | apply pw_below_drewN | apply below_drew1) | exact HB.out)) hb); clear HO237; clear HO242; clear HB; have HO237 := n0_; have HO242 := n1_; have HB := n2_; clear n0_ n1_ n2_; (try clear hb); (try clear hb2); (try clear hk); (try clear hi)) | (go_at_call 15; (with_reducible refine (spec_NumsText.calls k _ _ t235 t247 _ ?side1 ?side2 A30.out).mono ?_); (case side1 => repeat (first | exact (Kd.R_reads' HO237.out).2.2 | (with_reducible refine Kd.C_alloc ?_ _) | (with_reducible refine Kd.C_drewN ?_ _) | (with_reducible refine Kd.C_drew ?_))); (case side2 => exact (Kd.R_reads' HO237.out).2.1); rintro e w36 ⟨rfl, hb⟩; have n0_ := Aside0.mk (Kd.R_below (by (with_reducible repeat (first | apply Kd.R_alloc | apply Kd.R_drewN | apply Kd.R_drew)); exact HO237.out) hb); have n1_ := Aside0.mk (Kd.R_below (by (with_reducible repeat (first | apply Kd.R_alloc | apply Kd.R_drewN | apply Kd.R_drew)); exact HO242.out) hb); have n2_ := Aside0.mk (below_step (by repeat (first | (with_reducible first | exact HB.out | apply below_alloc | apply pw_below_drewN | apply below_drew1) | exact HB.out)) hb); clear HO237; clear HO242; clear HB; have HO237 := n0_; have HO242 := n1_; have HB := n2_; clear n0_ n1_ n2_; (try clear hb); (try clear hb2); (try clear hk); (try clear hi)))
                go_meet
                case rel => exact ⟨_, ((t246.toList != t247.toList)), (by first | rfl | (simp; done) | (simp [*]; done)), H', ⟨by first | omega | exact Nat.le_refl _⟩, ⟨by (with_reducible repeat (first | apply Kd.R_alloc | apply Kd.R_drewN | apply Kd.R_drew)); exact HO242.out⟩, ⟨by repeat (first | (with_reducible first | exact HB.out | apply below_alloc | apply pw_below_drewN | apply below_drew1) | exact HB.out)⟩⟩
              · rw [if_neg c28] at H
                have c28b0 : (t245.toList == t230.toList) = false := beq_eq_false_iff_ne.mpr c28
                have c28b1 : (t245.toList != t230.toList) = true := bne_iff_ne.mpr c28
                have H' := Aside0.mk H
                clear H
                go_wp2_with (first | ((with_reducible refine gate_callee (f := 12) rfl ?_); refine goesL_ (some 42) rfl rfl Tryd.func12 (by kernel_rfl) rfl #[.int .i64 t229] rfl (by (try simp only [List.map_toArray, List.map_cons, List.map_nil]); first | done | rfl | (simp only [List.length_drop, List.length_take]; rfl)) ?_; (with_reducible refine (impl_Digits.calls k t229 t243 _ A19.out).mono ?_); rintro e w37 ⟨rfl, hb⟩; refine ⟨_, rfl, ?_⟩; have n0_ := Aside0.mk (Kd.R_below (by (with_reducible repeat (first | apply Kd.R_alloc | apply Kd.R_drewN | apply Kd.R_drew)); exact HO237.out) hb); have n1_ := Aside0.mk (Kd.R_below (by (with_reducible repeat (first | apply Kd.R_alloc | apply Kd.R_drewN | apply Kd.R_drew)); exact HO242.out) hb); have n2_ := Aside0.mk (below_step (by repeat (first | (with_reducible first | exact HB.out | apply below_alloc | apply pw_below_drewN | apply below_drew1) | exact HB.out)) hb); clear HO237; clear HO242; clear HB; have HO237 := n0_; have HO242 := n1_; have HB := n2_; clear n0_ n1_ n2_; (try clear hb); (try clear hb2); (try clear hk); (try clear hi)) | ((with_reducible refine gate_callee (f := 13) rfl ?_); refine goesL_ (some 44) rfl rfl Tryd.func13 (by kernel_rfl) rfl #[.int .i64 t229] rfl (by (try simp only [List.map_toArray, List.map_cons, List.map_nil]); first | done | rfl | (simp only [List.length_drop, List.length_take]; rfl)) ?_; (with_reducible refine (spec_Digits.calls k t229 t244 _ A20.out).mono ?_); rintro e w38 ⟨rfl, hb⟩; refine ⟨_, rfl, ?_⟩; have n0_ := Aside0.mk (Kd.R_below (by (with_reducible repeat (first | apply Kd.R_alloc | apply Kd.R_drewN | apply Kd.R_drew)); exact HO237.out) hb); have n1_ := Aside0.mk (Kd.R_below (by (with_reducible repeat (first | apply Kd.R_alloc | apply Kd.R_drewN | apply Kd.R_drew)); exact HO242.out) hb); have n2_ := Aside0.mk (below_step (by repeat (first | (with_reducible first | exact HB.out | apply below_alloc | apply pw_below_drewN | apply below_drew1) | exact HB.out)) hb); clear HO237; clear HO242; clear HB; have HO237 := n0_; have HO242 := n1_; have HB := n2_; clear n0_ n1_ n2_; (try clear hb); (try clear hb2); (try clear hk); (try clear hi)) | (go_at_call 12; (with_reducible refine (impl_Digits.calls k t231 t245 _ A27.out).mono ?_); rintro e w39 ⟨rfl, hb⟩; have n0_ := Aside0.mk (Kd.R_below (by (with_reducible repeat (first | apply Kd.R_alloc | apply Kd.R_drewN | apply Kd.R_drew)); exact HO237.out) hb); have n1_ := Aside0.mk (Kd.R_below (by (with_reducible repeat (first | apply Kd.R_alloc | apply Kd.R_drewN | apply Kd.R_drew)); exact HO242.out) hb); have n2_ := Aside0.mk (below_step (by repeat (first | (with_reducible first | exact HB.out | apply below_alloc | apply pw_below_drewN | apply below_drew1) | exact HB.out)) hb); clear HO237; clear HO242; clear HB; have HO237 := n0_; have HO242 := n1_; have HB := n2_; clear n0_ n1_ n2_; (try clear hb); (try clear hb2); (try clear hk); (try clear hi)))
                go_meet
                case rel => exact ⟨_, (true), (by first | rfl | (simp; done) | (simp [*]; done)), H', ⟨by first | omega | exact Nat.le_refl _⟩, ⟨by (with_reducible repeat (first | apply Kd.R_alloc | apply Kd.R_drewN | apply Kd.R_drew)); exact HO242.out⟩, ⟨by repeat (first | (with_reducible first | exact HB.out | apply below_alloc | apply pw_below_drewN | apply below_drew1) | exact HB.out)⟩⟩
            · replace c26 := Bool.eq_false_iff.mpr c26
              subst c26
              have H1 : ((impl_NumsText.f k t235).bind fun t248 => ((spec_NumsText.f k t235).bind fun t249 => (laws_FnNumbers.j0 k t238 t239 t240 (t248.toList != t249.toList)))) = some r := by rw [if_neg (show ¬ (false = true) by decide)] at H; exact H
              clear H
              have H := H1
              clear H1
              replace H := Option.bind_eq_some_iff.mp H
              obtain ⟨t248, A400, H⟩ := H
              replace H : ((spec_NumsText.f k t235).bind fun t249 => (laws_FnNumbers.j0 k t238 t239 t240 (t248.toList != t249.toList))) = some r := H
              have A40 := Aside0.mk A400
              clear A400
              replace H := Option.bind_eq_some_iff.mp H
              obtain ⟨t249, A410, H⟩ := H
              replace H : (laws_FnNumbers.j0 k t238 t239 t240 (t248.toList != t249.toList)) = some r := H
              have A41 := Aside0.mk A410
              clear A410
              have H' := Aside0.mk H
              clear H
              go_wp2_with (first | ((with_reducible refine gate_callee (f := 12) rfl ?_); refine goesL_ (some 42) rfl rfl Tryd.func12 (by kernel_rfl) rfl #[.int .i64 t229] rfl (by (try simp only [List.map_toArray, List.map_cons, List.map_nil]); first | done | rfl | (simp only [List.length_drop, List.length_take]; rfl)) ?_; (with_reducible refine (impl_Digits.calls k t229 t243 _ A19.out).mono ?_); rintro e w42 ⟨rfl, hb⟩; refine ⟨_, rfl, ?_⟩; have n0_ := Aside0.mk (Kd.R_below (by (with_reducible repeat (first | apply Kd.R_alloc | apply Kd.R_drewN | apply Kd.R_drew)); exact HO237.out) hb); have n1_ := Aside0.mk (Kd.R_below (by (with_reducible repeat (first | apply Kd.R_alloc | apply Kd.R_drewN | apply Kd.R_drew)); exact HO242.out) hb); have n2_ := Aside0.mk (below_step (by repeat (first | (with_reducible first | exact HB.out | apply below_alloc | apply pw_below_drewN | apply below_drew1) | exact HB.out)) hb); clear HO237; clear HO242; clear HB; have HO237 := n0_; have HO242 := n1_; have HB := n2_; clear n0_ n1_ n2_; (try clear hb); (try clear hb2); (try clear hk); (try clear hi)) | ((with_reducible refine gate_callee (f := 13) rfl ?_); refine goesL_ (some 44) rfl rfl Tryd.func13 (by kernel_rfl) rfl #[.int .i64 t229] rfl (by (try simp only [List.map_toArray, List.map_cons, List.map_nil]); first | done | rfl | (simp only [List.length_drop, List.length_take]; rfl)) ?_; (with_reducible refine (spec_Digits.calls k t229 t244 _ A20.out).mono ?_); rintro e w43 ⟨rfl, hb⟩; refine ⟨_, rfl, ?_⟩; have n0_ := Aside0.mk (Kd.R_below (by (with_reducible repeat (first | apply Kd.R_alloc | apply Kd.R_drewN | apply Kd.R_drew)); exact HO237.out) hb); have n1_ := Aside0.mk (Kd.R_below (by (with_reducible repeat (first | apply Kd.R_alloc | apply Kd.R_drewN | apply Kd.R_drew)); exact HO242.out) hb); have n2_ := Aside0.mk (below_step (by repeat (first | (with_reducible first | exact HB.out | apply below_alloc | apply pw_below_drewN | apply below_drew1) | exact HB.out)) hb); clear HO237; clear HO242; clear HB; have HO237 := n0_; have HO242 := n1_; have HB := n2_; clear n0_ n1_ n2_; (try clear hb); (try clear hb2); (try clear hk); (try clear hi); obtain ⟨Ao44, co44, eo44⟩ := Kd.R_slice HO237.out; subst eo44) | (go_at_call 14; (with_reducible refine (impl_NumsText.calls k _ _ t235 t248 _ ?side1 ?side2 A40.out).mono ?_); (case side1 => repeat (first | exact (Kd.R_reads' HO237.out).2.2 | (with_reducible refine Kd.C_alloc ?_ _) | (with_reducible refine Kd.C_drewN ?_ _) | (with_reducible refine Kd.C_drew ?_))); (case side2 => exact (Kd.R_reads' HO237.out).2.1); rintro e w45 ⟨rfl, hb⟩; have n0_ := Aside0.mk (Kd.R_below (by (with_reducible repeat (first | apply Kd.R_alloc | apply Kd.R_drewN | apply Kd.R_drew)); exact HO237.out) hb); have n1_ := Aside0.mk (Kd.R_below (by (with_reducible repeat (first | apply Kd.R_alloc | apply Kd.R_drewN | apply Kd.R_drew)); exact HO242.out) hb); have n2_ := Aside0.mk (below_step (by repeat (first | (with_reducible first | exact HB.out | apply below_alloc | apply pw_below_drewN | apply below_drew1) | exact HB.out)) hb); clear HO237; clear HO242; clear HB; have HO237 := n0_; have HO242 := n1_; have HB := n2_; clear n0_ n1_ n2_; (try clear hb); (try clear hb2); (try clear hk); (try clear hi)) | (go_at_call 15; (with_reducible refine (spec_NumsText.calls k _ _ t235 t249 _ ?side1 ?side2 A41.out).mono ?_); (case side1 => repeat (first | exact (Kd.R_reads' HO237.out).2.2 | (with_reducible refine Kd.C_alloc ?_ _) | (with_reducible refine Kd.C_drewN ?_ _) | (with_reducible refine Kd.C_drew ?_))); (case side2 => exact (Kd.R_reads' HO237.out).2.1); rintro e w46 ⟨rfl, hb⟩; have n0_ := Aside0.mk (Kd.R_below (by (with_reducible repeat (first | apply Kd.R_alloc | apply Kd.R_drewN | apply Kd.R_drew)); exact HO237.out) hb); have n1_ := Aside0.mk (Kd.R_below (by (with_reducible repeat (first | apply Kd.R_alloc | apply Kd.R_drewN | apply Kd.R_drew)); exact HO242.out) hb); have n2_ := Aside0.mk (below_step (by repeat (first | (with_reducible first | exact HB.out | apply below_alloc | apply pw_below_drewN | apply below_drew1) | exact HB.out)) hb); clear HO237; clear HO242; clear HB; have HO237 := n0_; have HO242 := n1_; have HB := n2_; clear n0_ n1_ n2_; (try clear hb); (try clear hb2); (try clear hk); (try clear hi)))
              go_meet
              case rel => exact ⟨_, ((t248.toList != t249.toList)), (by first | rfl | (simp; done) | (simp [*]; done)), H', ⟨by first | omega | exact Nat.le_refl _⟩, ⟨by (with_reducible repeat (first | apply Kd.R_alloc | apply Kd.R_drewN | apply Kd.R_drew)); exact HO242.out⟩, ⟨by repeat (first | (with_reducible first | exact HB.out | apply below_alloc | apply pw_below_drewN | apply below_drew1) | exact HB.out)⟩⟩
        · rw [if_neg c22] at H
          have c22b0 : (t231 == t233) = false := beq_eq_false_iff_ne.mpr c22
          have c22b1 : (t231 != t233) = true := bne_iff_ne.mpr c22
          have H' := Aside0.mk H
          clear H
          go_wp2_with (first | ((with_reducible refine gate_callee (f := 12) rfl ?_); refine goesL_ (some 42) rfl rfl Tryd.func12 (by kernel_rfl) rfl #[.int .i64 t229] rfl (by (try simp only [List.map_toArray, List.map_cons, List.map_nil]); first | done | rfl | (simp only [List.length_drop, List.length_take]; rfl)) ?_; (with_reducible refine (impl_Digits.calls k t229 t243 _ A19.out).mono ?_); rintro e w47 ⟨rfl, hb⟩; refine ⟨_, rfl, ?_⟩; have n0_ := Aside0.mk (Kd.R_below (by (with_reducible repeat (first | apply Kd.R_alloc | apply Kd.R_drewN | apply Kd.R_drew)); exact HO237.out) hb); have n1_ := Aside0.mk (Kd.R_below (by (with_reducible repeat (first | apply Kd.R_alloc | apply Kd.R_drewN | apply Kd.R_drew)); exact HO242.out) hb); have n2_ := Aside0.mk (below_step (by repeat (first | (with_reducible first | exact HB.out | apply below_alloc | apply pw_below_drewN | apply below_drew1) | exact HB.out)) hb); clear HO237; clear HO242; clear HB; have HO237 := n0_; have HO242 := n1_; have HB := n2_; clear n0_ n1_ n2_; (try clear hb); (try clear hb2); (try clear hk); (try clear hi)) | ((with_reducible refine gate_callee (f := 13) rfl ?_); refine goesL_ (some 44) rfl rfl Tryd.func13 (by kernel_rfl) rfl #[.int .i64 t229] rfl (by (try simp only [List.map_toArray, List.map_cons, List.map_nil]); first | done | rfl | (simp only [List.length_drop, List.length_take]; rfl)) ?_; (with_reducible refine (spec_Digits.calls k t229 t244 _ A20.out).mono ?_); rintro e w48 ⟨rfl, hb⟩; refine ⟨_, rfl, ?_⟩; have n0_ := Aside0.mk (Kd.R_below (by (with_reducible repeat (first | apply Kd.R_alloc | apply Kd.R_drewN | apply Kd.R_drew)); exact HO237.out) hb); have n1_ := Aside0.mk (Kd.R_below (by (with_reducible repeat (first | apply Kd.R_alloc | apply Kd.R_drewN | apply Kd.R_drew)); exact HO242.out) hb); have n2_ := Aside0.mk (below_step (by repeat (first | (with_reducible first | exact HB.out | apply below_alloc | apply pw_below_drewN | apply below_drew1) | exact HB.out)) hb); clear HO237; clear HO242; clear HB; have HO237 := n0_; have HO242 := n1_; have HB := n2_; clear n0_ n1_ n2_; (try clear hb); (try clear hb2); (try clear hk); (try clear hi)))
          go_meet
          case rel => exact ⟨_, (true), (by first | rfl | (simp; done) | (simp [*]; done)), H', ⟨by first | omega | exact Nat.le_refl _⟩, ⟨by (with_reducible repeat (first | apply Kd.R_alloc | apply Kd.R_drewN | apply Kd.R_drew)); exact HO242.out⟩, ⟨by repeat (first | (with_reducible first | exact HB.out | apply below_alloc | apply pw_below_drewN | apply below_drew1) | exact HB.out)⟩⟩
      · rw [if_neg c21] at H
        have c21b0 : (t243.toList == t244.toList) = false := beq_eq_false_iff_ne.mpr c21
        have c21b1 : (t243.toList != t244.toList) = true := bne_iff_ne.mpr c21
        (first | rw [c21b0] | (simp only [i64_w, i32_w]; rw [c21b0]) | skip)
        have H' := Aside0.mk H
        clear H
        go_wp2_with (first | ((with_reducible refine gate_callee (f := 12) rfl ?_); refine goesL_ (some 42) rfl rfl Tryd.func12 (by kernel_rfl) rfl #[.int .i64 t229] rfl (by (try simp only [List.map_toArray, List.map_cons, List.map_nil]); first | done | rfl | (simp only [List.length_drop, List.length_take]; rfl)) ?_; (with_reducible refine (impl_Digits.calls k t229 t243 _ A19.out).mono ?_); rintro e w49 ⟨rfl, hb⟩; refine ⟨_, rfl, ?_⟩; have n0_ := Aside0.mk (Kd.R_below (by (with_reducible repeat (first | apply Kd.R_alloc | apply Kd.R_drewN | apply Kd.R_drew)); exact HO237.out) hb); have n1_ := Aside0.mk (Kd.R_below (by (with_reducible repeat (first | apply Kd.R_alloc | apply Kd.R_drewN | apply Kd.R_drew)); exact HO242.out) hb); have n2_ := Aside0.mk (below_step (by repeat (first | (with_reducible first | exact HB.out | apply below_alloc | apply pw_below_drewN | apply below_drew1) | exact HB.out)) hb); clear HO237; clear HO242; clear HB; have HO237 := n0_; have HO242 := n1_; have HB := n2_; clear n0_ n1_ n2_; (try clear hb); (try clear hb2); (try clear hk); (try clear hi)) | ((with_reducible refine gate_callee (f := 13) rfl ?_); refine goesL_ (some 44) rfl rfl Tryd.func13 (by kernel_rfl) rfl #[.int .i64 t229] rfl (by (try simp only [List.map_toArray, List.map_cons, List.map_nil]); first | done | rfl | (simp only [List.length_drop, List.length_take]; rfl)) ?_; (with_reducible refine (spec_Digits.calls k t229 t244 _ A20.out).mono ?_); rintro e w50 ⟨rfl, hb⟩; refine ⟨_, rfl, ?_⟩; have n0_ := Aside0.mk (Kd.R_below (by (with_reducible repeat (first | apply Kd.R_alloc | apply Kd.R_drewN | apply Kd.R_drew)); exact HO237.out) hb); have n1_ := Aside0.mk (Kd.R_below (by (with_reducible repeat (first | apply Kd.R_alloc | apply Kd.R_drewN | apply Kd.R_drew)); exact HO242.out) hb); have n2_ := Aside0.mk (below_step (by repeat (first | (with_reducible first | exact HB.out | apply below_alloc | apply pw_below_drewN | apply below_drew1) | exact HB.out)) hb); clear HO237; clear HO242; clear HB; have HO237 := n0_; have HO242 := n1_; have HB := n2_; clear n0_ n1_ n2_; (try clear hb); (try clear hb2); (try clear hk); (try clear hi)))
        go_meet
        case rel => exact ⟨_, (true), (by first | rfl | (simp; done) | (simp [*]; done)), H', ⟨by first | omega | exact Nat.le_refl _⟩, ⟨by (with_reducible repeat (first | apply Kd.R_alloc | apply Kd.R_drewN | apply Kd.R_drew)); exact HO242.out⟩, ⟨by repeat (first | (with_reducible first | exact HB.out | apply below_alloc | apply pw_below_drewN | apply below_drew1) | exact HB.out)⟩⟩
    case rest =>
      clear HC11
      try clear c1
      try clear c2
      try clear p2
      try clear c3
      try clear c4
      try clear c5
      try clear c6
      try clear c7
      try clear c8
      try clear c9
      try clear c10
      try clear c11
      try clear c12
      try clear c13
      try clear c21
      try clear c21b0
      try clear c21b1
      try clear c22
      try clear c22b0
      try clear c22b1
      try clear c23
      try clear c23b0
      try clear c23b1
      try clear c23b2
      try clear c26
      try clear c28
      try clear c28b0
      try clear c28b1
      obtain ⟨kq, x71_10, rfl, HA, HJ10, HO_12, HB⟩ := hcut
      cases kq with
      | zero => exact absurd HA.out (by simp [laws_FnNumbers.j0])
      | succ kj10 =>
        have H := HA.out
        clear HA
        simp only [laws_FnNumbers.j0] at H
        by_cases c51 : x71_10 = true
        · subst c51
          have H1 : (none) = some r := by rw [if_pos rfl] at H; exact H
          clear H
          have H := H1
          clear H1
          exact absurd H (by simp)
        · replace c51 := Bool.eq_false_iff.mpr c51
          subst c51
          have H1 : (laws_FnNumbers.l0 kj10 t238 t239 t240 (⟨#[]⟩ : ByteArray) 0) = some r := by rw [if_neg (show ¬ (false = true) by decide)] at H; exact H
          clear H
          have H := H1
          clear H1
          have H' := Aside0.mk H
          clear H
          go_wp2
          go_loopg [13, 14] kj10 (fun kq v13 v14 w' => ∃ (x13_2 : ByteArray) (x14_2 : Int), v13 = .string x13_2 ∧ v14 = .int .i64 x14_2 ∧ Aside0 (laws_FnNumbers.l0 kq t238 t239 t240 x13_2 x14_2 = some r) ∧ Aside0 (kq ≤ kj10) ∧ Aside0 (Kd.R Kd.string 9 w' w.heap.size (fun _ => True) v241 t240) ∧ Aside0 (Below w.heap.size w w'))
          case atStart => exact ⟨((⟨#[]⟩ : ByteArray)), (0), (by first | rfl | (simp; done) | (simp [*]; done)), (by first | rfl | (simp; done) | (simp [*]; done)), H', ⟨Nat.le_refl _⟩, ⟨by (with_reducible repeat (first | apply Kd.R_alloc | apply Kd.R_drewN | apply Kd.R_drew)); exact HO_12.out⟩, ⟨by repeat (first | (with_reducible first | exact HB.out | apply below_alloc | apply pw_below_drewN | apply below_drew1) | exact HB.out)⟩⟩
          case round =>
            clear H'
            try clear c1
            try clear c2
            try clear p2
            try clear c3
            try clear c4
            try clear c5
            try clear c6
            try clear c7
            try clear c8
            try clear c9
            try clear c10
            try clear c11
            try clear c12
            try clear c13
            try clear c21
            try clear c21b0
            try clear c21b1
            try clear c22
            try clear c22b0
            try clear c22b1
            try clear c23
            try clear c23b0
            try clear c23b1
            try clear c23b2
            try clear c26
            try clear c28
            try clear c28b0
            try clear c28b1
            try clear c51
            try clear p2
            obtain ⟨x13_2, x14_2, rfl, rfl, HA, HK2, HO_12, HB⟩ := hrel
            cases gk with
            | zero => exact absurd HA.out (by simp [laws_FnNumbers.l0])
            | succ k2 =>
              have H := HA.out
              clear HA
              simp only [laws_FnNumbers.l0] at H
              by_cases c52 : x14_2 < (t240.length : Int)
              · rw [if_pos c52] at H
                have c52b0 : decide (x14_2 < (t240.length : Int)) = true := decide_eq_true c52
                clear c52
                by_cases c53 : x14_2 > 0
                · rw [if_pos c53] at H
                  have c53b0 : decide (0 < x14_2) = true := decide_eq_true c53
                  clear c53
                  obtain ⟨y250, hy250⟩ : ∃ y_ : List Int, y_ = (([t239] : List Int)) := ⟨_, rfl⟩
                  replace H : (if x13_2.size + (strOfNums y250).size ≤ 9223372036854775807 then (if 0 ≤ x14_2 then (if (x13_2 ++ (strOfNums y250)).size + (rdOf ByteArray.empty t240 x14_2).size ≤ 9223372036854775807 then (laws_FnNumbers.l0 k2 t238 t239 t240 ((x13_2 ++ (strOfNums y250)) ++ (rdOf ByteArray.empty t240 x14_2)) (wrap64 (x14_2 + 1))) else (none)) else (none)) else (none)) = some r := by first | (rw [hy250]; with_reducible exact H) | (have H2_ := (Option.bind_some _ _).symm.trans H; rw [hy250]; with_reducible exact H2_) | (have H2_ := (Option.bind_some _ _).symm.trans H; with_reducible exact H2_) | with_reducible exact H | (rw [hy250]; exact H) | exact H
                  have Ny250 := Aside0.mk hy250
                  clear hy250
                  by_cases c54 : x13_2.size + (strOfNums y250).size ≤ 9223372036854775807
                  · rw [if_pos c54] at H
                    have c54b0 := eq_true c54
                    have c54b1 : decide (x13_2.size + (strOfNums y250).size ≤ 9223372036854775807) = true := decide_eq_true c54
                    try have c54b2 : (9223372036854775807 < x13_2.size + (strOfNums y250).size) = False := eq_false (Nat.not_lt.2 c54)
                    by_cases c55 : 0 ≤ x14_2
                    · rw [if_pos c55] at H
                      have c55b0 : decide (0 ≤ x14_2) = true := decide_eq_true c55
                      clear c55
                      by_cases c56 : (x13_2 ++ (strOfNums y250)).size + (rdOf ByteArray.empty t240 x14_2).size ≤ 9223372036854775807
                      · rw [if_pos c56] at H
                        have c56b0 := eq_true c56
                        have c56b1 : decide ((x13_2 ++ (strOfNums y250)).size + (rdOf ByteArray.empty t240 x14_2).size ≤ 9223372036854775807) = true := decide_eq_true c56
                        try have c56b2 : (9223372036854775807 < (x13_2 ++ (strOfNums y250)).size + (rdOf ByteArray.empty t240 x14_2).size) = False := eq_false (Nat.not_lt.2 c56)
                        have H' := Aside0.mk H
                        clear H
                        obtain ⟨Ao57, co57, eo57⟩ := Kd.R_slice HO_12.out
                        subst eo57
                        go_wp2_with (first | ((with_reducible refine gate_dst (N := 82) rfl ?_); (try (refine gate_guard (by rfl) ?_; dsimp only)); refine Kd.R_lit (Kd.int .u8) _ 5 ?hg (N := 82) ?hd (xs := ([t239] : List Int)) (inner := [.int .u8 t239]) (ok := fun _ => True) (okp := fun _ => True) ?hr ?hp (fun _ hk => hk) trivial (Below.refl _ _) (Nat.le_refl _) (by simp) ?_; (case hd => rfl); (case hg => rfl); (case hr => first | (go_simp; done) | (go_simp; rfl)); (case hp => exact (Reps.one (show Kd.M (Kd.int .u8) _ _ _ t239 [.int .u8 t239] from rfl) (Reps.none _ _))); intro v251 w58 ho59 hb hg_ hnew_; clear hg_ hnew_; (first | rw [← Ny250.out] at ho59 | (simp only [Int.reduceToNat] at ho59; rw [← Ny250.out] at ho59)); have n0_ := Aside0.mk (Kd.R_below (by (with_reducible repeat (first | apply Kd.R_alloc | apply Kd.R_drewN | apply Kd.R_drew)); exact HO_12.out) hb); have n1_ := Aside0.mk (Kd.R_lower ho59 (below_size (by repeat (first | (with_reducible first | exact HB.out | apply below_alloc | apply pw_below_drewN | apply below_drew1) | exact HB.out)))); have n2_ := Aside0.mk (below_step (by repeat (first | (with_reducible first | exact HB.out | apply below_alloc | apply pw_below_drewN | apply below_drew1) | exact HB.out)) hb); clear HO_12; clear HB; have HO_12 := n0_; have HO252 := n1_; have HB := n2_; clear n0_ n1_ n2_; clear hb ho59; have hcv60 := own_string (P := Tryd.prog) Tryd.underlying22 Tryd.underlying5 Tryd.underlying9 (Kd.own_of_R HO252.out); have p253 : 0 ≤ (x14_2 : Int) := of_decide_eq_true (by first | (with_reducible assumption) | assumption); have q253 : x14_2 < (t240.length : Int) := of_decide_eq_true (by first | (with_reducible assumption) | assumption); obtain ⟨ad253, e253, hx253_0⟩ := Kd.at_string (Kd.R_reads' HO_12.out).2.2 x14_2 p253 q253; cases e253; replace p253 := eq_true p253; replace q253 := eq_true q253))
                        go_roundg k2
                        case measure => have := HJ10.out; have := HK2.out; omega
                        case rel => exact ⟨((x13_2 ++ (strOfNums y250)) ++ (rdOf ByteArray.empty t240 x14_2)), (wrap64 (x14_2 + 1)), (by first | rfl | (simp; done) | (simp [*]; done)), (by first | rfl | (simp; done) | (simp [*]; done)), H', ⟨by have := HJ10.out; have := HK2.out; omega⟩, ⟨by (with_reducible repeat (first | apply Kd.R_alloc | apply Kd.R_drewN | apply Kd.R_drew)); exact HO_12.out⟩, ⟨by repeat (first | (with_reducible first | exact HB.out | apply below_alloc | apply pw_below_drewN | apply below_drew1) | exact HB.out)⟩⟩
                      · rw [if_neg c56] at H
                        exact absurd H (by simp)
                    · rw [if_neg c55] at H
                      exact absurd H (by simp)
                  · rw [if_neg c54] at H
                    exact absurd H (by simp)
                · rw [if_neg c53] at H
                  have c53b0 : decide (0 < x14_2) = false := decide_eq_false c53
                  clear c53
                  by_cases c61 : 0 ≤ x14_2
                  · rw [if_pos c61] at H
                    have c61b0 : decide (0 ≤ x14_2) = true := decide_eq_true c61
                    clear c61
                    by_cases c62 : x13_2.size + (rdOf ByteArray.empty t240 x14_2).size ≤ 9223372036854775807
                    · rw [if_pos c62] at H
                      have c62b0 := eq_true c62
                      have c62b1 : decide (x13_2.size + (rdOf ByteArray.empty t240 x14_2).size ≤ 9223372036854775807) = true := decide_eq_true c62
                      try have c62b2 : (9223372036854775807 < x13_2.size + (rdOf ByteArray.empty t240 x14_2).size) = False := eq_false (Nat.not_lt.2 c62)
                      have H' := Aside0.mk H
                      clear H
                      obtain ⟨Ao63, co63, eo63⟩ := Kd.R_slice HO_12.out
                      subst eo63
                      have p254 : 0 ≤ (x14_2 : Int) := of_decide_eq_true (by first | (with_reducible assumption) | assumption)
                      have q254 : x14_2 < (t240.length : Int) := of_decide_eq_true (by first | (with_reducible assumption) | assumption)
                      obtain ⟨ad254, e254, hx254_0⟩ := Kd.at_string (Kd.R_reads' HO_12.out).2.2 x14_2 p254 q254
                      cases e254
                      replace p254 := eq_true p254
                      replace q254 := eq_true q254
                      go_wp2
                      go_roundg k2
                      case measure => have := HJ10.out; have := HK2.out; omega
                      case rel => exact ⟨(x13_2 ++ (rdOf ByteArray.empty t240 x14_2)), (wrap64 (x14_2 + 1)), (by first | rfl | (simp; done) | (simp [*]; done)), (by first | rfl | (simp; done) | (simp [*]; done)), H', ⟨by have := HJ10.out; have := HK2.out; omega⟩, ⟨by (with_reducible repeat (first | apply Kd.R_alloc | apply Kd.R_drewN | apply Kd.R_drew)); exact HO_12.out⟩, ⟨by repeat (first | (with_reducible first | exact HB.out | apply below_alloc | apply pw_below_drewN | apply below_drew1) | exact HB.out)⟩⟩
                    · rw [if_neg c62] at H
                      exact absurd H (by simp)
                  · rw [if_neg c61] at H
                    exact absurd H (by simp)
              · rw [if_neg c52] at H
                have c52b0 : decide (x14_2 < (t240.length : Int)) = false := decide_eq_false c52
                clear c52
                by_cases c64 : x13_2.toList = t238.toList
                · rw [if_pos c64] at H
                  have c64b0 : (x13_2.toList == t238.toList) = true := beq_iff_eq.mpr c64
                  have c64b1 : (x13_2.toList != t238.toList) = false := bne_eq_false_iff_eq.mpr c64
                  clear c64
                  replace H := Option.bind_eq_some_iff.mp H
                  obtain ⟨t255, A650, H⟩ := H
                  replace H : (some ((t240.length : Int) == (t255.length : Int))) = some r := H
                  have A65 := Aside0.mk A650
                  clear A650
                  obtain rfl := Option.some.inj H
                  obtain ⟨Ao66, co66, eo66⟩ := Kd.R_slice HO_12.out
                  subst eo66
                  go_wp2_with (first | (go_at_call 16; (with_reducible refine (spec_Split.calls k2 t238 t239 t255 _ A65.out).mono ?_); rintro e w67 ⟨v256, rfl, ho0, hb⟩; have n0_ := Aside0.mk (Kd.R_elder' (by (with_reducible repeat (first | apply Kd.R_alloc | apply Kd.R_drewN | apply Kd.R_drew)); exact HO_12.out) (Kd.R_base ho0) hb); have n1_ := Aside0.mk (Kd.R_lower (Kd.R_new' ho0 (Kd.R_lt (by (with_reducible repeat (first | apply Kd.R_alloc | apply Kd.R_drewN | apply Kd.R_drew)); exact HO_12.out))) (below_size (by repeat (first | (with_reducible first | exact HB.out | apply below_alloc | apply pw_below_drewN | apply below_drew1) | exact HB.out)))); have n2_ := Aside0.mk (below_step (by repeat (first | (with_reducible first | exact HB.out | apply below_alloc | apply pw_below_drewN | apply below_drew1) | exact HB.out)) hb); clear HO_12; clear HB; have HO_12 := n0_; have HO257 := n1_; have HB := n2_; clear n0_ n1_ n2_; (try clear hb); (try clear hb2); (try clear hk); (try clear hi); (try clear ho0); obtain ⟨Ao68, co68, eo68⟩ := Kd.R_slice HO257.out; subst eo68))
                  go_ret
                  exact ⟨by first | rfl | (simp [errW_none, errW_some] <;> rfl) | (simp [*, errW_none, errW_some] <;> rfl), by repeat (first | (with_reducible first | exact HB.out | apply below_alloc | apply pw_below_drewN | apply below_drew1) | exact HB.out)⟩
                · rw [if_neg c64] at H
                  have c64b0 : (x13_2.toList == t238.toList) = false := beq_eq_false_iff_ne.mpr c64
                  have c64b1 : (x13_2.toList != t238.toList) = true := bne_iff_ne.mpr c64
                  obtain rfl := Option.some.inj H
                  obtain ⟨Ao69, co69, eo69⟩ := Kd.R_slice HO_12.out
                  subst eo69
                  go_wp2
                  go_ret
                  exact ⟨by first | rfl | (simp [errW_none, errW_some] <;> rfl) | (simp [*, errW_none, errW_some] <;> rfl), by repeat (first | (with_reducible first | exact HB.out | apply below_alloc | apply pw_below_drewN | apply below_drew1) | exact HB.out)⟩

/-- THE ONE PURE STATEMENT of laws_FnNumbers: yours. -/
def laws_FnNumbers.Pure : Prop := ∀ (l0 : List Int), l0.length ≤ maxLen → l0.length * 1 ≤ 140737488351232 → (∀ x ∈ l0, (Lit.int .u8 x).wf = true) → ∃ k, laws_FnNumbers.f k l0 = some true
theorem laws_FnNumbers.walk (P : laws_FnNumbers.Pure) (a0 : Option Addr) (len0 cap0 : Nat) (z0 : List Int) (m : Int) (w : World) (hm : w.cell? ⟨0, 0, none⟩ = some (.int .i64 m)) (w0 : (a0 = none ∧ len0 = 0 ∧ cap0 = 0 ∧ z0 = []) ∨ ∃ x, a0 = some x ∧ len0 ≤ cap0 ∧ cap0 ≤ maxLen ∧ z0.length = cap0 ∧ (∀ i, i < z0.length → w.cell? (x.add i) = some (.int .u8 (z0.getD i 0))) ∧ ∀ n ∈ z0, (Lit.int .u8 n).wf = true) (y0 : len0 * 1 ≤ 140737488351232) :
    Calls Tryd.prog 3 #[.slice a0 len0 cap0] w fun e w' => e = .returned (.bool true) ∧ Below w.heap.size w w' := by
  obtain ⟨l0, rfl, hr0, hm0, hw0, hc0⟩ := ReadsInt.ofRowC w0
  obtain ⟨k, h⟩ := P l0 hm0 y0 hw0
  refine (laws_FnNumbers.calls k _ _ l0 true m w ⟨hm⟩ (Kd.C_of_reads (d := (0 : Int)) (h1 := fun _ => rfl) hr0) hc0 h).mono ?_
  rintro e w' ⟨rfl, hd⟩
  exact ⟨rfl, hd⟩

end Go.Proofs.YtmkhghbalnadlaaDoor.PFnNumbers
