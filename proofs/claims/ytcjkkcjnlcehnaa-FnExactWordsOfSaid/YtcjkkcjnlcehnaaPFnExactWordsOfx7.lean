/- Contracts of functions of the program: each says that the call does what a plain Lean function tells. Made by programs of this session and of the kit. No condition beyond the hypotheses that each theorem names. -/
import Derived.Test.YtcjkkcjnlcehnaaPFnExactWordsOfx0
import Derived.Test.YtcjkkcjnlcehnaaPFnExactWordsOfx1
import Derived.Test.YtcjkkcjnlcehnaaPFnExactWordsOfx4
import Derived.Test.YtcjkkcjnlcehnaaPFnExactWordsOfx6
namespace Go.Proofs.Ytcjkkcjnlcehnaa.PFnExactWordsOf
open Go.RowKit Go.Proofs.YtcjkkcjnlcehnaaW.PrintWords Go.Proofs.YtcjkkcjnlcehnaaW.PrintLast Go.Proofs.YtcjkkcjnlcehnaaW.PrintMore
attribute [local go_sem] max2_int min2_int max_two min_two max_three min_three max_four min_four   -- for this text's walks alone
set_option linter.unusedVariables false
set_option linter.unusedSimpArgs false

/-! ### laws_FnExactWordsOf: function 14 -/
def laws_FnExactWordsOf.j0 : Nat → List Int → List Int → Bool → List Int → Int → Option (Bool)
  | 0, _, _, _, _, _ => none
  | k + 1, x4, x6, x42, x206000, x206001 => if x42 = true then (none) else ((laws_markIntS.f k x6 1).bind fun bt231 => ((laws_heldIntS.f k bt231.2 1).bind fun t233 => (if t233 < 0 then (none) else (if t233 = bt231.1 then ((laws_toRows.f k x206000 x206001).bind fun bt234 => ((impl_WordsOf.f k bt234.1 bt234.2).bind fun t238 => ((laws_eqIntS.f k t238 x4).bind fun t241 => (if t241 = true then ((laws_heldIntS.f k bt231.2 1).bind fun t242 => (if t242 < 0 then (none) else (if t242 = bt231.1 then (some true) else (none)))) else (none))))) else (none)))))
def laws_FnExactWordsOf.f (k : Nat) (l0_0 : List Int) (a0_1 : Int) : Option (Bool) := (laws_szRows.f l0_0 a0_1 1048576).bind fun t206 => (if t206 < 0 then (some true) else ((laws_toRows.f k l0_0 a0_1).bind fun bt207 => ((spec_WordsOf.f k bt207.1 bt207.2).bind fun t211 => ((laws_toRows.f k l0_0 a0_1).bind fun bt214 => ((impl_WordsOf.f k bt214.1 bt214.2).bind fun t219 => ((laws_eqIntS.f k t219 t211).bind fun t222 => (if t222 = true then ((laws_toRows.f k l0_0 a0_1).bind fun bt223 => ((laws_eqRows.f k bt214.1 bt214.2 bt223.1 bt223.2).bind fun t227 => (if t227 = true then ((laws_markRows.f k bt214.1 bt214.2 1).bind fun bt228 => (if bt228.1 < 0 then (laws_FnExactWordsOf.j0 k t211 t219 true l0_0 a0_1) else ((laws_eqIntS.f k t219 t211).bind fun t230 => (laws_FnExactWordsOf.j0 k t211 t219 (!t230) l0_0 a0_1)))) else (none)))) else (none))))))))
theorem laws_FnExactWordsOf.mono_l : ∀ k, (∀ y0 y1 y2 y3 y4, LeO (laws_FnExactWordsOf.j0 k y0 y1 y2 y3 y4) (laws_FnExactWordsOf.j0 (k + 1) y0 y1 y2 y3 y4))
  | 0 => fun _ _ _ _ _ r h => by simp [laws_FnExactWordsOf.j0] at h
  | k + 1 => by
    have ih0 := laws_FnExactWordsOf.mono_l k
    · intro y0 y1 y2 y3 y4
      unfold laws_FnExactWordsOf.j0
      repeat' first
      | (with_reducible exact ih0 _ _ _ _ _)
      | (with_reducible exact impl_WordsOf.mono _ _ _)
      | (with_reducible exact laws_eqIntS.mono _ _ _)
      | (with_reducible exact laws_eqRows.mono _ _ _ _ _)
      | (with_reducible exact laws_heldIntS.mono _ _ _)
      | (with_reducible exact laws_markIntS.mono _ _ _)
      | (with_reducible exact laws_markRows.mono _ _ _ _)
      | (with_reducible exact laws_toRows.mono _ _ _)
      | (with_reducible exact spec_WordsOf.mono _ _ _)
      | (with_reducible exact LeO.refl _)
      | (with_reducible exact LeO.none _)
      | (with_reducible refine LeO.ite ?_ ?_)
      | (with_reducible refine LeO.bind ?_ (fun _ => ?_))
      | exact ih0 _ _ _ _ _
      | exact impl_WordsOf.mono _ _ _
      | exact laws_eqIntS.mono _ _ _
      | exact laws_eqRows.mono _ _ _ _ _
      | exact laws_heldIntS.mono _ _ _
      | exact laws_markIntS.mono _ _ _
      | exact laws_markRows.mono _ _ _ _
      | exact laws_toRows.mono _ _ _
      | exact spec_WordsOf.mono _ _ _
      | exact LeO.none _
      | refine LeO.ite ?_ ?_
      | refine LeO.bind ?_ (fun _ => ?_)
theorem laws_FnExactWordsOf.mono : ∀ a0 a1 k, LeO (laws_FnExactWordsOf.f k a0 a1) (laws_FnExactWordsOf.f (k + 1) a0 a1) := by
  intro a0 a1 k
  have ih0 := laws_FnExactWordsOf.mono_l k
  unfold laws_FnExactWordsOf.f
  repeat' first
      | (with_reducible exact ih0 _ _ _ _ _)
      | (with_reducible exact impl_WordsOf.mono _ _ _)
      | (with_reducible exact laws_eqIntS.mono _ _ _)
      | (with_reducible exact laws_eqRows.mono _ _ _ _ _)
      | (with_reducible exact laws_heldIntS.mono _ _ _)
      | (with_reducible exact laws_markIntS.mono _ _ _)
      | (with_reducible exact laws_markRows.mono _ _ _ _)
      | (with_reducible exact laws_toRows.mono _ _ _)
      | (with_reducible exact spec_WordsOf.mono _ _ _)
      | (with_reducible exact LeO.refl _)
      | (with_reducible exact LeO.none _)
      | (with_reducible refine LeO.ite ?_ ?_)
      | (with_reducible refine LeO.bind ?_ (fun _ => ?_))
      | exact ih0 _ _ _ _ _
      | exact impl_WordsOf.mono _ _ _
      | exact laws_eqIntS.mono _ _ _
      | exact laws_eqRows.mono _ _ _ _ _
      | exact laws_heldIntS.mono _ _ _
      | exact laws_markIntS.mono _ _ _
      | exact laws_markRows.mono _ _ _ _
      | exact laws_toRows.mono _ _ _
      | exact spec_WordsOf.mono _ _ _
      | exact LeO.none _
      | refine LeO.ite ?_ ?_
      | refine LeO.bind ?_ (fun _ => ?_)
set_option maxHeartbeats 8000000 in
set_option maxRecDepth 100000 in
theorem laws_FnExactWordsOf.calls (k : Nat) (A0_0 : Option Addr) (c0_0 : Nat) (l0_0 : List Int) (a0_1 : Int) (r : Bool) (w : World) (hr0_0 : Kd.C (Kd.int .i64) w A0_0 l0_0.length l0_0) (hc0_0 : l0_0.length ≤ c0_0) (h : laws_FnExactWordsOf.f k l0_0 a0_1 = some r) :
    Calls Try.prog 14 #[.agg #[.slice A0_0 l0_0.length c0_0, .int .i64 a0_1]] w fun e w' => e = .returned (.bool r) ∧ Below w.heap.size w w' := by
  have hu37 := Try.underlying37
  have hu24 := Try.underlying24
  have HR0_0 := Aside0.mk hr0_0
  have HC0_0 := Aside0.mk hc0_0
  clear hr0_0 hc0_0
  have HB := Aside0.mk (Below.refl w.heap.size w)
  have H : ((laws_szRows.f l0_0 a0_1 1048576).bind fun t206 => (if t206 < 0 then (some true) else ((laws_toRows.f k l0_0 a0_1).bind fun bt207 => ((spec_WordsOf.f k bt207.1 bt207.2).bind fun t211 => ((laws_toRows.f k l0_0 a0_1).bind fun bt214 => ((impl_WordsOf.f k bt214.1 bt214.2).bind fun t219 => ((laws_eqIntS.f k t219 t211).bind fun t222 => (if t222 = true then ((laws_toRows.f k l0_0 a0_1).bind fun bt223 => ((laws_eqRows.f k bt214.1 bt214.2 bt223.1 bt223.2).bind fun t227 => (if t227 = true then ((laws_markRows.f k bt214.1 bt214.2 1).bind fun bt228 => (if bt228.1 < 0 then (laws_FnExactWordsOf.j0 k t211 t219 true l0_0 a0_1) else ((laws_eqIntS.f k t219 t211).bind fun t230 => (laws_FnExactWordsOf.j0 k t211 t219 (!t230) l0_0 a0_1)))) else (none)))) else (none))))))))) = some r := h
  clear h
  replace H := Option.bind_eq_some_iff.mp H
  obtain ⟨t206, A20, H⟩ := H
  replace H : (if t206 < 0 then (some true) else ((laws_toRows.f k l0_0 a0_1).bind fun bt207 => ((spec_WordsOf.f k bt207.1 bt207.2).bind fun t211 => ((laws_toRows.f k l0_0 a0_1).bind fun bt214 => ((impl_WordsOf.f k bt214.1 bt214.2).bind fun t219 => ((laws_eqIntS.f k t219 t211).bind fun t222 => (if t222 = true then ((laws_toRows.f k l0_0 a0_1).bind fun bt223 => ((laws_eqRows.f k bt214.1 bt214.2 bt223.1 bt223.2).bind fun t227 => (if t227 = true then ((laws_markRows.f k bt214.1 bt214.2 1).bind fun bt228 => (if bt228.1 < 0 then (laws_FnExactWordsOf.j0 k t211 t219 true l0_0 a0_1) else ((laws_eqIntS.f k t219 t211).bind fun t230 => (laws_FnExactWordsOf.j0 k t211 t219 (!t230) l0_0 a0_1)))) else (none)))) else (none)))))))) = some r := H
  have A2 := Aside0.mk A20
  clear A20
  by_cases c3 : t206 < 0
  · rw [if_pos c3] at H
    have c3b0 : decide (t206 < 0) = true := decide_eq_true c3
    clear c3
    obtain rfl := Option.some.inj H
    go_enter Try.func14, Try.ntmps14
    go_wp2_with (first | ((with_reducible refine gate_dst (N := 1) rfl ?_); refine box_event ?hg (N := 1) ?hd (cs := #[.slice A0_0 l0_0.length c0_0, .int .i64 a0_1]) (t := 37) ?hr ?_; (case hd => rfl); (case hg => rfl); (case hr => first | (go_simp; done) | (go_simp; rfl)); intro gb205 hg w4 hbox hb; have n0_ := Aside0.mk (below_step (by repeat (first | (with_reducible first | exact HB.out | apply below_alloc | apply pw_below_drewN | apply below_drew1) | exact HB.out)) hb); have n1_ := Aside0.mk (hbox); have n2_ := Aside0.mk ((by rw [hg]; exact (below_size (by repeat (first | (with_reducible first | exact HB.out | apply below_alloc | apply pw_below_drewN | apply below_drew1) | exact HB.out))) : w.heap.size ≤ gb205)); have n3_ := Aside0.mk ((by rw [hg]; exact (below_size (by repeat (first | (with_reducible first | exact HB.out | apply below_alloc | apply pw_below_drewN | apply below_drew1) | exact HB.out))) : w.heap.size ≤ gb205)); clear HB; have HB := n0_; have BK205 := n1_; have GW205 := n2_; have GE205 := n3_; clear n0_ n1_ n2_ n3_; clear hb hbox hg; have hcz5_0 : w4.cell? ⟨gb205, 0, none⟩ = some (.slice A0_0 l0_0.length c0_0) := (blk_cell BK205.out 0).trans rfl; have hcz5_1 : w4.cell? ⟨gb205, 1, none⟩ = some (.int .i64 a0_1) := (blk_cell BK205.out 1).trans rfl; have hfz5_0 := blk_frozen BK205.out 0; have hfz5_1 := blk_frozen BK205.out 1) | ((with_reducible refine gate_callee (f := 25) rfl ?_); refine goesL_ (some 13) rfl rfl Try.func25 (by kernel_rfl) rfl #[.agg #[.slice A0_0 l0_0.length c0_0, .int .i64 a0_1], .int .i64 1048576] rfl (by (try simp only [List.map_toArray, List.map_cons, List.map_nil]); first | done | rfl | (simp only [List.length_drop, List.length_take]; rfl)) ?_; (with_reducible refine (laws_szRows.calls _ _ l0_0 a0_1 1048576 t206 _ ?side1 ?side2 A2.out).mono ?_); (case side1 => repeat (first | exact (Kd.C_below HR0_0.out HB.out) | (with_reducible refine Kd.C_alloc ?_ _) | (with_reducible refine Kd.C_drewN ?_ _) | (with_reducible refine Kd.C_drew ?_))); (case side2 => exact HC0_0.out); rintro e w6 ⟨rfl, hb⟩; refine ⟨_, rfl, ?_⟩; have n0_ := Aside0.mk (blk_below (g := gb205) (o := .cells #[.slice A0_0 l0_0.length c0_0, .int .i64 a0_1] 37 (0, 0)) (by (with_reducible repeat (first | refine blk_drewN ?_ _ | refine blk_drew ?_ | refine blk_alloc ?_ _)); exact BK205.out) hb); have n1_ := Aside0.mk (below_step (by repeat (first | (with_reducible first | exact HB.out | apply below_alloc | apply pw_below_drewN | apply below_drew1 | refine below_set ?_ GE205.out) | exact HB.out)) hb); clear BK205; clear HB; have BK205 := n0_; have HB := n1_; clear n0_ n1_; (try clear hb); (try clear hb2); (try clear hk); (try clear hi)))
    go_ret
    exact ⟨by first | rfl | (simp [errW_none, errW_some] <;> rfl) | (simp [*, errW_none, errW_some] <;> rfl), by repeat (first | (with_reducible first | exact HB.out | apply below_alloc | apply pw_below_drewN | apply below_drew1 | refine below_set ?_ GE205.out) | exact HB.out)⟩
  · rw [if_neg c3] at H
    have c3b0 : decide (t206 < 0) = false := decide_eq_false c3
    clear c3
    replace H := Option.bind_eq_some_iff.mp H
    obtain ⟨⟨t207, t210⟩, A70, H⟩ := H
    replace H : ((spec_WordsOf.f k t207 t210).bind fun t211 => ((laws_toRows.f k l0_0 a0_1).bind fun bt214 => ((impl_WordsOf.f k bt214.1 bt214.2).bind fun t219 => ((laws_eqIntS.f k t219 t211).bind fun t222 => (if t222 = true then ((laws_toRows.f k l0_0 a0_1).bind fun bt223 => ((laws_eqRows.f k bt214.1 bt214.2 bt223.1 bt223.2).bind fun t227 => (if t227 = true then ((laws_markRows.f k bt214.1 bt214.2 1).bind fun bt228 => (if bt228.1 < 0 then (laws_FnExactWordsOf.j0 k t211 t219 true l0_0 a0_1) else ((laws_eqIntS.f k t219 t211).bind fun t230 => (laws_FnExactWordsOf.j0 k t211 t219 (!t230) l0_0 a0_1)))) else (none)))) else (none)))))) = some r := H
    have A7 := Aside0.mk A70
    clear A70
    replace H := Option.bind_eq_some_iff.mp H
    obtain ⟨t211, A80, H⟩ := H
    replace H : ((laws_toRows.f k l0_0 a0_1).bind fun bt214 => ((impl_WordsOf.f k bt214.1 bt214.2).bind fun t219 => ((laws_eqIntS.f k t219 t211).bind fun t222 => (if t222 = true then ((laws_toRows.f k l0_0 a0_1).bind fun bt223 => ((laws_eqRows.f k bt214.1 bt214.2 bt223.1 bt223.2).bind fun t227 => (if t227 = true then ((laws_markRows.f k bt214.1 bt214.2 1).bind fun bt228 => (if bt228.1 < 0 then (laws_FnExactWordsOf.j0 k t211 t219 true l0_0 a0_1) else ((laws_eqIntS.f k t219 t211).bind fun t230 => (laws_FnExactWordsOf.j0 k t211 t219 (!t230) l0_0 a0_1)))) else (none)))) else (none))))) = some r := H
    have A8 := Aside0.mk A80
    clear A80
    replace H := Option.bind_eq_some_iff.mp H
    obtain ⟨⟨t214, t217⟩, A90, H⟩ := H
    replace H : ((impl_WordsOf.f k t214 t217).bind fun t219 => ((laws_eqIntS.f k t219 t211).bind fun t222 => (if t222 = true then ((laws_toRows.f k l0_0 a0_1).bind fun bt223 => ((laws_eqRows.f k t214 t217 bt223.1 bt223.2).bind fun t227 => (if t227 = true then ((laws_markRows.f k t214 t217 1).bind fun bt228 => (if bt228.1 < 0 then (laws_FnExactWordsOf.j0 k t211 t219 true l0_0 a0_1) else ((laws_eqIntS.f k t219 t211).bind fun t230 => (laws_FnExactWordsOf.j0 k t211 t219 (!t230) l0_0 a0_1)))) else (none)))) else (none)))) = some r := H
    have A9 := Aside0.mk A90
    clear A90
    replace H := Option.bind_eq_some_iff.mp H
    obtain ⟨t219, A100, H⟩ := H
    replace H : ((laws_eqIntS.f k t219 t211).bind fun t222 => (if t222 = true then ((laws_toRows.f k l0_0 a0_1).bind fun bt223 => ((laws_eqRows.f k t214 t217 bt223.1 bt223.2).bind fun t227 => (if t227 = true then ((laws_markRows.f k t214 t217 1).bind fun bt228 => (if bt228.1 < 0 then (laws_FnExactWordsOf.j0 k t211 t219 true l0_0 a0_1) else ((laws_eqIntS.f k t219 t211).bind fun t230 => (laws_FnExactWordsOf.j0 k t211 t219 (!t230) l0_0 a0_1)))) else (none)))) else (none))) = some r := H
    have A10 := Aside0.mk A100
    clear A100
    replace H := Option.bind_eq_some_iff.mp H
    obtain ⟨t222, A110, H⟩ := H
    replace H : (if t222 = true then ((laws_toRows.f k l0_0 a0_1).bind fun bt223 => ((laws_eqRows.f k t214 t217 bt223.1 bt223.2).bind fun t227 => (if t227 = true then ((laws_markRows.f k t214 t217 1).bind fun bt228 => (if bt228.1 < 0 then (laws_FnExactWordsOf.j0 k t211 t219 true l0_0 a0_1) else ((laws_eqIntS.f k t219 t211).bind fun t230 => (laws_FnExactWordsOf.j0 k t211 t219 (!t230) l0_0 a0_1)))) else (none)))) else (none)) = some r := H
    have A11 := Aside0.mk A110
    clear A110
    by_cases c12 : t222 = true
    · subst c12
      have H1 : ((laws_toRows.f k l0_0 a0_1).bind fun bt223 => ((laws_eqRows.f k t214 t217 bt223.1 bt223.2).bind fun t227 => (if t227 = true then ((laws_markRows.f k t214 t217 1).bind fun bt228 => (if bt228.1 < 0 then (laws_FnExactWordsOf.j0 k t211 t219 true l0_0 a0_1) else ((laws_eqIntS.f k t219 t211).bind fun t230 => (laws_FnExactWordsOf.j0 k t211 t219 (!t230) l0_0 a0_1)))) else (none)))) = some r := by rw [if_pos rfl] at H; exact H
      clear H
      have H := H1
      clear H1
      replace H := Option.bind_eq_some_iff.mp H
      obtain ⟨⟨t223, t226⟩, A130, H⟩ := H
      replace H : ((laws_eqRows.f k t214 t217 t223 t226).bind fun t227 => (if t227 = true then ((laws_markRows.f k t214 t217 1).bind fun bt228 => (if bt228.1 < 0 then (laws_FnExactWordsOf.j0 k t211 t219 true l0_0 a0_1) else ((laws_eqIntS.f k t219 t211).bind fun t230 => (laws_FnExactWordsOf.j0 k t211 t219 (!t230) l0_0 a0_1)))) else (none))) = some r := H
      have A13 := Aside0.mk A130
      clear A130
      replace H := Option.bind_eq_some_iff.mp H
      obtain ⟨t227, A140, H⟩ := H
      replace H : (if t227 = true then ((laws_markRows.f k t214 t217 1).bind fun bt228 => (if bt228.1 < 0 then (laws_FnExactWordsOf.j0 k t211 t219 true l0_0 a0_1) else ((laws_eqIntS.f k t219 t211).bind fun t230 => (laws_FnExactWordsOf.j0 k t211 t219 (!t230) l0_0 a0_1)))) else (none)) = some r := H
      have A14 := Aside0.mk A140
      clear A140
      by_cases c15 : t227 = true
      · subst c15
        have H1 : ((laws_markRows.f k t214 t217 1).bind fun bt228 => (if bt228.1 < 0 then (laws_FnExactWordsOf.j0 k t211 t219 true l0_0 a0_1) else ((laws_eqIntS.f k t219 t211).bind fun t230 => (laws_FnExactWordsOf.j0 k t211 t219 (!t230) l0_0 a0_1)))) = some r := by rw [if_pos rfl] at H; exact H
        clear H
        have H := H1
        clear H1
        replace H := Option.bind_eq_some_iff.mp H
        obtain ⟨⟨t228, t229⟩, A160, H⟩ := H
        replace H : (if t228 < 0 then (laws_FnExactWordsOf.j0 k t211 t219 true l0_0 a0_1) else ((laws_eqIntS.f k t219 t211).bind fun t230 => (laws_FnExactWordsOf.j0 k t211 t219 (!t230) l0_0 a0_1))) = some r := H
        have A16 := Aside0.mk A160
        clear A160
        have HC17 := Aside0.mk H
        clear H
        go_enter Try.func14, Try.ntmps14
        try go_wp2_with (first | ((with_reducible refine gate_dst (N := 1) rfl ?_); refine box_event ?hg (N := 1) ?hd (cs := #[.slice A0_0 l0_0.length c0_0, .int .i64 a0_1]) (t := 37) ?hr ?_; (case hd => rfl); (case hg => rfl); (case hr => first | (go_simp; done) | (go_simp; rfl)); intro gb205 hg w18 hbox hb; have n0_ := Aside0.mk (below_step (by repeat (first | (with_reducible first | exact HB.out | apply below_alloc | apply pw_below_drewN | apply below_drew1) | exact HB.out)) hb); have n1_ := Aside0.mk (hbox); have n2_ := Aside0.mk ((by rw [hg]; exact (below_size (by repeat (first | (with_reducible first | exact HB.out | apply below_alloc | apply pw_below_drewN | apply below_drew1) | exact HB.out))) : w.heap.size ≤ gb205)); have n3_ := Aside0.mk ((by rw [hg]; exact (below_size (by repeat (first | (with_reducible first | exact HB.out | apply below_alloc | apply pw_below_drewN | apply below_drew1) | exact HB.out))) : w.heap.size ≤ gb205)); clear HB; have HB := n0_; have BK205 := n1_; have GW205 := n2_; have GE205 := n3_; clear n0_ n1_ n2_ n3_; clear hb hbox hg; have hcz19_0 : w18.cell? ⟨gb205, 0, none⟩ = some (.slice A0_0 l0_0.length c0_0) := (blk_cell BK205.out 0).trans rfl; have hcz19_1 : w18.cell? ⟨gb205, 1, none⟩ = some (.int .i64 a0_1) := (blk_cell BK205.out 1).trans rfl; have hfz19_0 := blk_frozen BK205.out 0; have hfz19_1 := blk_frozen BK205.out 1) | ((with_reducible refine gate_callee (f := 25) rfl ?_); refine goesL_ (some 13) rfl rfl Try.func25 (by kernel_rfl) rfl #[.agg #[.slice A0_0 l0_0.length c0_0, .int .i64 a0_1], .int .i64 1048576] rfl (by (try simp only [List.map_toArray, List.map_cons, List.map_nil]); first | done | rfl | (simp only [List.length_drop, List.length_take]; rfl)) ?_; (with_reducible refine (laws_szRows.calls _ _ l0_0 a0_1 1048576 t206 _ ?side1 ?side2 A2.out).mono ?_); (case side1 => repeat (first | exact (Kd.C_below HR0_0.out HB.out) | (with_reducible refine Kd.C_alloc ?_ _) | (with_reducible refine Kd.C_drewN ?_ _) | (with_reducible refine Kd.C_drew ?_))); (case side2 => exact HC0_0.out); rintro e w20 ⟨rfl, hb⟩; refine ⟨_, rfl, ?_⟩; have n0_ := Aside0.mk (blk_below (g := gb205) (o := .cells #[.slice A0_0 l0_0.length c0_0, .int .i64 a0_1] 37 (0, 0)) (by (with_reducible repeat (first | refine blk_drewN ?_ _ | refine blk_drew ?_ | refine blk_alloc ?_ _)); exact BK205.out) hb); have n1_ := Aside0.mk (below_step (by repeat (first | (with_reducible first | exact HB.out | apply below_alloc | apply pw_below_drewN | apply below_drew1 | refine below_set ?_ GE205.out) | exact HB.out)) hb); clear BK205; clear HB; have BK205 := n0_; have HB := n1_; clear n0_ n1_; (try clear hb); (try clear hb2); (try clear hk); (try clear hi); have hcz21_0 : w20.cell? ⟨gb205, 0, none⟩ = some (.slice A0_0 l0_0.length c0_0) := (blk_cell BK205.out 0).trans rfl; have hcz21_1 : w20.cell? ⟨gb205, 1, none⟩ = some (.int .i64 a0_1) := (blk_cell BK205.out 1).trans rfl; have hfz21_0 := blk_frozen BK205.out 0; have hfz21_1 := blk_frozen BK205.out 1) | ((with_reducible refine gate_callee (f := 27) rfl ?_); refine goesL_ (some 17) rfl rfl Try.func27 (by kernel_rfl) rfl #[.agg #[.slice A0_0 l0_0.length c0_0, .int .i64 a0_1]] rfl (by (try simp only [List.map_toArray, List.map_cons, List.map_nil]); first | done | rfl | (simp only [List.length_drop, List.length_take]; rfl)) ?_; (with_reducible refine (laws_toRows.calls k _ _ l0_0 a0_1 t207 t210 _ ?side1 ?side2 A7.out).mono ?_); (case side1 => repeat (first | exact (Kd.C_below HR0_0.out HB.out) | (with_reducible refine Kd.C_alloc ?_ _) | (with_reducible refine Kd.C_drewN ?_ _) | (with_reducible refine Kd.C_drew ?_))); (case side2 => exact HC0_0.out); rintro e w22 ⟨v208, rfl, ho0, hb⟩; refine ⟨_, rfl, ?_⟩; have n0_ := Aside0.mk (Kd.R_lower ho0 (below_size (by repeat (first | (with_reducible first | exact HB.out | apply below_alloc | apply pw_below_drewN | apply below_drew1 | refine below_set ?_ GE205.out) | exact HB.out)))); have n1_ := Aside0.mk (blk_below (g := gb205) (o := .cells #[.slice A0_0 l0_0.length c0_0, .int .i64 a0_1] 37 (0, 0)) (by (with_reducible repeat (first | refine blk_drewN ?_ _ | refine blk_drew ?_ | refine blk_alloc ?_ _)); exact BK205.out) hb); have n2_ := Aside0.mk (below_step (by repeat (first | (with_reducible first | exact HB.out | apply below_alloc | apply pw_below_drewN | apply below_drew1 | refine below_set ?_ GE205.out) | exact HB.out)) hb); clear BK205; clear HB; have HO209 := n0_; have BK205 := n1_; have HB := n2_; clear n0_ n1_ n2_; (try clear hb); (try clear hb2); (try clear hk); (try clear hi); (try clear ho0); obtain ⟨Ao23, co23, eo23⟩ := Kd.R_slice HO209.out; subst eo23) | ((with_reducible refine gate_callee (f := 78) rfl ?_); refine goesL_ (some 18) rfl rfl Try.func78 (by kernel_rfl) rfl #[.agg #[.slice Ao23 t207.length co23, .int .i64 t210]] rfl (by (try simp only [List.map_toArray, List.map_cons, List.map_nil]); first | done | rfl | (simp only [List.length_drop, List.length_take]; rfl)) ?_; (with_reducible refine (spec_WordsOf.calls k _ _ t207 t210 t211 _ ?side1 ?side2 A8.out).mono ?_); (case side1 => repeat (first | exact (Kd.R_reads' HO209.out).2.2 | (with_reducible refine Kd.C_alloc ?_ _) | (with_reducible refine Kd.C_drewN ?_ _) | (with_reducible refine Kd.C_drew ?_))); (case side2 => exact (Kd.R_reads' HO209.out).2.1); rintro e w24 ⟨v212, rfl, ho0, hb⟩; refine ⟨_, rfl, ?_⟩; have n0_ := Aside0.mk (Kd.R_elder' (by (with_reducible repeat (first | apply Kd.R_alloc | apply Kd.R_drewN | apply Kd.R_drew)); exact HO209.out) (Kd.R_base ho0) hb); have n1_ := Aside0.mk (Kd.R_lower (Kd.R_new' ho0 (Kd.R_lt (by (with_reducible repeat (first | apply Kd.R_alloc | apply Kd.R_drewN | apply Kd.R_drew)); exact HO209.out))) (below_size (by repeat (first | (with_reducible first | exact HB.out | apply below_alloc | apply pw_below_drewN | apply below_drew1 | refine below_set ?_ GE205.out) | exact HB.out)))); have n2_ := Aside0.mk (blk_below (g := gb205) (o := .cells #[.slice A0_0 l0_0.length c0_0, .int .i64 a0_1] 37 (0, 0)) (by (with_reducible repeat (first | refine blk_drewN ?_ _ | refine blk_drew ?_ | refine blk_alloc ?_ _)); exact BK205.out) hb); have n3_ := Aside0.mk (below_step (by repeat (first | (with_reducible first | exact HB.out | apply below_alloc | apply pw_below_drewN | apply below_drew1 | refine below_set ?_ GE205.out) | exact HB.out)) hb); clear HO209; clear BK205; clear HB; have HO209 := n0_; have HO213 := n1_; have BK205 := n2_; have HB := n3_; clear n0_ n1_ n2_ n3_; (try clear hb); (try clear hb2); (try clear hk); (try clear hi); (try clear ho0); have hcz25_0 : w24.cell? ⟨gb205, 0, none⟩ = some (.slice A0_0 l0_0.length c0_0) := (blk_cell BK205.out 0).trans rfl; have hcz25_1 : w24.cell? ⟨gb205, 1, none⟩ = some (.int .i64 a0_1) := (blk_cell BK205.out 1).trans rfl; have hfz25_0 := blk_frozen BK205.out 0; have hfz25_1 := blk_frozen BK205.out 1) | ((with_reducible refine gate_callee (f := 27) rfl ?_); refine goesL_ (some 20) rfl rfl Try.func27 (by kernel_rfl) rfl #[.agg #[.slice A0_0 l0_0.length c0_0, .int .i64 a0_1]] rfl (by (try simp only [List.map_toArray, List.map_cons, List.map_nil]); first | done | rfl | (simp only [List.length_drop, List.length_take]; rfl)) ?_; (with_reducible refine (laws_toRows.calls k _ _ l0_0 a0_1 t214 t217 _ ?side1 ?side2 A9.out).mono ?_); (case side1 => repeat (first | exact (Kd.C_below HR0_0.out HB.out) | (with_reducible refine Kd.C_alloc ?_ _) | (with_reducible refine Kd.C_drewN ?_ _) | (with_reducible refine Kd.C_drew ?_))); (case side2 => exact HC0_0.out); rintro e w26 ⟨v215, rfl, ho0, hb⟩; refine ⟨_, rfl, ?_⟩; have n0_ := Aside0.mk (Kd.R_elder' (by (with_reducible repeat (first | apply Kd.R_alloc | apply Kd.R_drewN | apply Kd.R_drew)); exact HO209.out) (Kd.R_base ho0) hb); have n1_ := Aside0.mk (Kd.R_elder' (by (with_reducible repeat (first | apply Kd.R_alloc | apply Kd.R_drewN | apply Kd.R_drew)); exact HO213.out) (Kd.R_base ho0) hb); have n2_ := Aside0.mk (Kd.R_lower (Kd.R_new' (Kd.R_new' ho0 (Kd.R_lt (by (with_reducible repeat (first | apply Kd.R_alloc | apply Kd.R_drewN | apply Kd.R_drew)); exact HO209.out))) (Kd.R_lt (by (with_reducible repeat (first | apply Kd.R_alloc | apply Kd.R_drewN | apply Kd.R_drew)); exact HO213.out))) (below_size (by repeat (first | (with_reducible first | exact HB.out | apply below_alloc | apply pw_below_drewN | apply below_drew1 | refine below_set ?_ GE205.out) | exact HB.out)))); have n3_ := Aside0.mk (blk_below (g := gb205) (o := .cells #[.slice A0_0 l0_0.length c0_0, .int .i64 a0_1] 37 (0, 0)) (by (with_reducible repeat (first | refine blk_drewN ?_ _ | refine blk_drew ?_ | refine blk_alloc ?_ _)); exact BK205.out) hb); have n4_ := Aside0.mk (below_step (by repeat (first | (with_reducible first | exact HB.out | apply below_alloc | apply pw_below_drewN | apply below_drew1 | refine below_set ?_ GE205.out) | exact HB.out)) hb); clear HO209; clear HO213; clear BK205; clear HB; have HO209 := n0_; have HO213 := n1_; have HO216 := n2_; have BK205 := n3_; have HB := n4_; clear n0_ n1_ n2_ n3_ n4_; (try clear hb); (try clear hb2); (try clear hk); (try clear hi); (try clear ho0)) | ((with_reducible refine gate_dst (N := 5) rfl ?_); refine box_event ?hg (N := 5) ?hd (cs := #[.slice none 0 0, .int .i64 0]) (t := 24) ?hr ?_; (case hd => rfl); (case hg => rfl); (case hr => first | (go_simp; done) | (go_simp; rfl)); intro gb218 hg w27 hbox hb; have n0_ := Aside0.mk (Kd.R_below (by (with_reducible repeat (first | apply Kd.R_alloc | apply Kd.R_drewN | apply Kd.R_drew)); exact HO209.out) hb); have n1_ := Aside0.mk (Kd.R_below (by (with_reducible repeat (first | apply Kd.R_alloc | apply Kd.R_drewN | apply Kd.R_drew)); exact HO213.out) hb); have n2_ := Aside0.mk (Kd.R_below (by (with_reducible repeat (first | apply Kd.R_alloc | apply Kd.R_drewN | apply Kd.R_drew)); exact HO216.out) hb); have n3_ := Aside0.mk (blk_below (g := gb205) (o := .cells #[.slice A0_0 l0_0.length c0_0, .int .i64 a0_1] 37 (0, 0)) (by (with_reducible repeat (first | refine blk_drewN ?_ _ | refine blk_drew ?_ | refine blk_alloc ?_ _)); exact BK205.out) hb); have n4_ := Aside0.mk (below_step (by repeat (first | (with_reducible first | exact HB.out | apply below_alloc | apply pw_below_drewN | apply below_drew1 | refine below_set ?_ GE205.out) | exact HB.out)) hb); have n5_ := Aside0.mk (hbox); have n6_ := Aside0.mk ((by rw [hg]; exact (below_size (by repeat (first | (with_reducible first | exact HB.out | apply below_alloc | apply pw_below_drewN | apply below_drew1 | refine below_set ?_ GE205.out) | exact HB.out))) : w.heap.size ≤ gb218)); have n7_ := Aside0.mk ((by rw [hg]; exact (below_size (by repeat (first | (with_reducible first | exact HB.out | apply below_alloc | apply pw_below_drewN | apply below_drew1 | refine below_set ?_ GE205.out) | exact HB.out))) : w.heap.size ≤ gb218)); have n8_ := Aside0.mk ((by rw [hg]; exact Nat.ne_of_lt (blk_lt (g := gb205) (o := .cells #[.slice A0_0 l0_0.length c0_0, .int .i64 a0_1] 37 (0, 0)) (by (with_reducible repeat (first | refine blk_drewN ?_ _ | refine blk_drew ?_ | refine blk_alloc ?_ _)); exact BK205.out)) : gb205 ≠ gb218)); have n9_ := Aside0.mk ((by rw [hg]; exact Nat.ne_of_gt (blk_lt (g := gb205) (o := .cells #[.slice A0_0 l0_0.length c0_0, .int .i64 a0_1] 37 (0, 0)) (by (with_reducible repeat (first | refine blk_drewN ?_ _ | refine blk_drew ?_ | refine blk_alloc ?_ _)); exact BK205.out)) : gb218 ≠ gb205)); clear HO209; clear HO213; clear HO216; clear BK205; clear HB; have HO209 := n0_; have HO213 := n1_; have HO216 := n2_; have BK205 := n3_; have HB := n4_; have BK218 := n5_; have GW218 := n6_; have GE218 := n7_; have NB205_218 := n8_; have NB218_205 := n9_; clear n0_ n1_ n2_ n3_ n4_ n5_ n6_ n7_ n8_ n9_; clear hb hbox hg; obtain ⟨Ao28, co28, eo28⟩ := Kd.R_slice HO216.out; subst eo28; have hnb29 := NB218_205.out; have hnc29 := NB205_218.out; have hcz30_0 : w27.cell? ⟨gb218, 0, none⟩ = some (.slice none 0 0) := (blk_cell BK218.out 0).trans rfl; have hcz30_1 : w27.cell? ⟨gb218, 1, none⟩ = some (.int .i64 0) := (blk_cell BK218.out 1).trans rfl; have hfz30_0 := blk_frozen BK218.out 0; have hfz30_1 := blk_frozen BK218.out 1) | ((with_reducible refine gate_callee (f := 79) rfl ?_); refine goesL_ (some 22) rfl rfl Try.func79 (by kernel_rfl) rfl #[.agg #[.slice Ao28 t214.length co28, .int .i64 t217]] rfl (by (try simp only [List.map_toArray, List.map_cons, List.map_nil]); first | done | rfl | (simp only [List.length_drop, List.length_take]; rfl)) ?_; (with_reducible refine (impl_WordsOf.calls k _ _ t214 t217 t219 _ ?side1 ?side2 A10.out).mono ?_); (case side1 => refine (Kd.R_reads' (e := 3) (base := w.heap.size) (ok := fun k_ => ((True ∧ some k_ ≠ (.slice Ao23 t207.length co23 : Value).ownBlock) ∧ some k_ ≠ (v212 : Value).ownBlock)) (n := t214.length) (c := co28) ?_).2.2; exact (by (with_reducible repeat (first | apply Kd.R_alloc | apply Kd.R_drewN | apply Kd.R_drew)); exact (Kd.R_mono (Kd.R_far (p := ⟨gb218, 1, none⟩) (Kd.R_far (p := ⟨gb218, 0, none⟩) (Kd.R_types HO216.out BK218.out (by decide)) (fun _ hk => hk.2) (.slice Ao28 t214.length co28)) (fun _ hk => hk.2) (.int .i64 t217)) (fun _ h_ => h_.1)))); (case side2 => exact (Kd.R_reads' HO216.out).2.1); rintro e w31 ⟨v220, rfl, ho0, hb⟩; refine ⟨_, rfl, ?_⟩; have n0_ := Aside0.mk (Kd.R_elder' (by (with_reducible repeat (first | apply Kd.R_alloc | apply Kd.R_drewN | apply Kd.R_drew)); exact (Kd.R_mono (Kd.R_far (p := ⟨gb218, 1, none⟩) (Kd.R_far (p := ⟨gb218, 0, none⟩) (Kd.R_types HO209.out BK218.out (by decide)) (fun _ hk => hk.2) (.slice Ao28 t214.length co28)) (fun _ hk => hk.2) (.int .i64 t217)) (fun _ h_ => h_.1))) (Kd.R_base ho0) hb); have n1_ := Aside0.mk (Kd.R_elder' (by (with_reducible repeat (first | apply Kd.R_alloc | apply Kd.R_drewN | apply Kd.R_drew)); exact (Kd.R_mono (Kd.R_far (p := ⟨gb218, 1, none⟩) (Kd.R_far (p := ⟨gb218, 0, none⟩) (Kd.R_types HO213.out BK218.out (by decide)) (fun _ hk => hk.2) (.slice Ao28 t214.length co28)) (fun _ hk => hk.2) (.int .i64 t217)) (fun _ h_ => h_.1))) (Kd.R_base ho0) hb); have n2_ := Aside0.mk (Kd.R_elder' (by (with_reducible repeat (first | apply Kd.R_alloc | apply Kd.R_drewN | apply Kd.R_drew)); exact (Kd.R_mono (Kd.R_far (p := ⟨gb218, 1, none⟩) (Kd.R_far (p := ⟨gb218, 0, none⟩) (Kd.R_types HO216.out BK218.out (by decide)) (fun _ hk => hk.2) (.slice Ao28 t214.length co28)) (fun _ hk => hk.2) (.int .i64 t217)) (fun _ h_ => h_.1))) (Kd.R_base ho0) hb); have n3_ := Aside0.mk (Kd.R_lower (Kd.R_new' (Kd.R_new' (Kd.R_new' ho0 (Kd.R_lt (by (with_reducible repeat (first | apply Kd.R_alloc | apply Kd.R_drewN | apply Kd.R_drew)); exact (Kd.R_mono (Kd.R_far (p := ⟨gb218, 1, none⟩) (Kd.R_far (p := ⟨gb218, 0, none⟩) (Kd.R_types HO209.out BK218.out (by decide)) (fun _ hk => hk.2) (.slice Ao28 t214.length co28)) (fun _ hk => hk.2) (.int .i64 t217)) (fun _ h_ => h_.1))))) (Kd.R_lt (by (with_reducible repeat (first | apply Kd.R_alloc | apply Kd.R_drewN | apply Kd.R_drew)); exact (Kd.R_mono (Kd.R_far (p := ⟨gb218, 1, none⟩) (Kd.R_far (p := ⟨gb218, 0, none⟩) (Kd.R_types HO213.out BK218.out (by decide)) (fun _ hk => hk.2) (.slice Ao28 t214.length co28)) (fun _ hk => hk.2) (.int .i64 t217)) (fun _ h_ => h_.1))))) (Kd.R_lt (by (with_reducible repeat (first | apply Kd.R_alloc | apply Kd.R_drewN | apply Kd.R_drew)); exact (Kd.R_mono (Kd.R_far (p := ⟨gb218, 1, none⟩) (Kd.R_far (p := ⟨gb218, 0, none⟩) (Kd.R_types HO216.out BK218.out (by decide)) (fun _ hk => hk.2) (.slice Ao28 t214.length co28)) (fun _ hk => hk.2) (.int .i64 t217)) (fun _ h_ => h_.1))))) (below_size (by repeat (first | (with_reducible first | exact HB.out | apply below_alloc | apply pw_below_drewN | apply below_drew1 | refine below_set ?_ GE205.out | refine below_set ?_ GE218.out) | exact HB.out)))); have n4_ := Aside0.mk (blk_below (g := gb205) (o := .cells #[.slice A0_0 l0_0.length c0_0, .int .i64 a0_1] 37 (0, 0)) (by (with_reducible repeat (first | refine blk_drewN ?_ _ | refine blk_drew ?_ | refine blk_alloc ?_ _)); refine blk_far ?_ NB205_218.out _; (with_reducible repeat (first | refine blk_drewN ?_ _ | refine blk_drew ?_ | refine blk_alloc ?_ _)); refine blk_far ?_ NB205_218.out _; (with_reducible repeat (first | refine blk_drewN ?_ _ | refine blk_drew ?_ | refine blk_alloc ?_ _)); exact BK205.out) hb); have n5_ := Aside0.mk (blk_below (g := gb218) (o := .cells #[.slice Ao28 t214.length co28, .int .i64 t217] 24 (0, 0)) (by (with_reducible repeat (first | refine blk_drewN ?_ _ | refine blk_drew ?_ | refine blk_alloc ?_ _)); refine blk_put (cs := #[.slice Ao28 t214.length co28, .int .i64 0]) ?_ 1 _ rfl; (with_reducible repeat (first | refine blk_drewN ?_ _ | refine blk_drew ?_ | refine blk_alloc ?_ _)); refine blk_put (cs := #[.slice none 0 0, .int .i64 0]) ?_ 0 _ rfl; (with_reducible repeat (first | refine blk_drewN ?_ _ | refine blk_drew ?_ | refine blk_alloc ?_ _)); exact BK218.out) hb); have n6_ := Aside0.mk (below_step (by repeat (first | (with_reducible first | exact HB.out | apply below_alloc | apply pw_below_drewN | apply below_drew1 | refine below_set ?_ GE205.out | refine below_set ?_ GE218.out) | exact HB.out)) hb); clear HO209; clear HO213; clear HO216; clear BK205; clear BK218; clear HB; have HO209 := n0_; have HO213 := n1_; have HO216 := n2_; have HO221 := n3_; have BK205 := n4_; have BK218 := n5_; have HB := n6_; clear n0_ n1_ n2_ n3_ n4_ n5_ n6_; (try clear hb); (try clear hb2); (try clear hk); (try clear hi); (try clear ho0); obtain ⟨Ao32, co32, eo32⟩ := Kd.R_slice HO221.out; subst eo32; obtain ⟨Ao33, co33, eo33⟩ := Kd.R_slice HO213.out; subst eo33) | ((with_reducible refine gate_callee (f := 80) rfl ?_); refine goesL_ (some 25) rfl rfl Try.func80 (by kernel_rfl) rfl #[.slice Ao32 t219.length co32, .slice Ao33 t211.length co33] rfl (by (try simp only [List.map_toArray, List.map_cons, List.map_nil]); first | done | rfl | (simp only [List.length_drop, List.length_take]; rfl)) ?_; (with_reducible refine (laws_eqIntS.calls k _ _ t219 _ _ t211 true _ ?side1 ?side2 ?side3 ?side4 A11.out).mono ?_); (case side1 => repeat (first | exact (Kd.R_reads' HO221.out).2.2 | (with_reducible refine Kd.C_alloc ?_ _) | (with_reducible refine Kd.C_drewN ?_ _) | (with_reducible refine Kd.C_drew ?_))); (case side2 => exact (Kd.R_reads' HO221.out).2.1); (case side3 => repeat (first | exact (Kd.R_reads' HO213.out).2.2 | (with_reducible refine Kd.C_alloc ?_ _) | (with_reducible refine Kd.C_drewN ?_ _) | (with_reducible refine Kd.C_drew ?_))); (case side4 => exact (Kd.R_reads' HO213.out).2.1); rintro e w' ⟨rfl, ⟨nd, rfl⟩⟩; refine ⟨_, rfl, ?_⟩))
        (try (rw [drewN_self w31]; generalize hq_ : World.drewN w31 _ = w31; have n0_ : Aside0 (Kd.R (Kd.int .i64) 3 w31 w.heap.size (fun k_ => some k_ ≠ (.slice Ao33 t211.length co33 : Value).ownBlock ∧ some k_ ≠ (.slice Ao28 t214.length co28 : Value).ownBlock ∧ some k_ ≠ (.slice Ao32 t219.length co32 : Value).ownBlock) (.slice Ao23 t207.length co23) t207) := ⟨by rw [← hq_]; exact (by (with_reducible repeat (first | apply Kd.R_alloc | apply Kd.R_drewN | apply Kd.R_drew)); exact Kd.R_mono HO209.out (fun k_ hk_ => by (try simp only [and_assoc, true_and] at hk_); refine ⟨?_, ?_, ?_⟩ <;> first | exact hk_ | exact hk_.1 | exact hk_.2 | exact hk_.2.1 | exact hk_.2.2 | exact hk_.2.2.1 | exact hk_.2.2.2 | exact hk_.2.2.2.1 | exact hk_.2.2.2.2 | exact hk_.2.2.2.2.1 | exact hk_.2.2.2.2.2))⟩; have n1_ : Aside0 (Kd.R (Kd.int .i64) 3 w31 w.heap.size (fun k_ => some k_ ≠ (.slice Ao23 t207.length co23 : Value).ownBlock ∧ some k_ ≠ (.slice Ao28 t214.length co28 : Value).ownBlock ∧ some k_ ≠ (.slice Ao32 t219.length co32 : Value).ownBlock) (.slice Ao33 t211.length co33) t211) := ⟨by rw [← hq_]; exact (by (with_reducible repeat (first | apply Kd.R_alloc | apply Kd.R_drewN | apply Kd.R_drew)); exact Kd.R_mono HO213.out (fun k_ hk_ => by (try simp only [and_assoc, true_and] at hk_); refine ⟨?_, ?_, ?_⟩ <;> first | exact hk_ | exact hk_.1 | exact hk_.2 | exact hk_.2.1 | exact hk_.2.2 | exact hk_.2.2.1 | exact hk_.2.2.2 | exact hk_.2.2.2.1 | exact hk_.2.2.2.2 | exact hk_.2.2.2.2.1 | exact hk_.2.2.2.2.2))⟩; have n2_ : Aside0 (Kd.R (Kd.int .i64) 3 w31 w.heap.size (fun k_ => some k_ ≠ (.slice Ao23 t207.length co23 : Value).ownBlock ∧ some k_ ≠ (.slice Ao33 t211.length co33 : Value).ownBlock ∧ some k_ ≠ (.slice Ao32 t219.length co32 : Value).ownBlock) (.slice Ao28 t214.length co28) t214) := ⟨by rw [← hq_]; exact (by (with_reducible repeat (first | apply Kd.R_alloc | apply Kd.R_drewN | apply Kd.R_drew)); exact Kd.R_mono HO216.out (fun k_ hk_ => by (try simp only [and_assoc, true_and] at hk_); refine ⟨?_, ?_, ?_⟩ <;> first | exact hk_ | exact hk_.1 | exact hk_.2 | exact hk_.2.1 | exact hk_.2.2 | exact hk_.2.2.1 | exact hk_.2.2.2 | exact hk_.2.2.2.1 | exact hk_.2.2.2.2 | exact hk_.2.2.2.2.1 | exact hk_.2.2.2.2.2))⟩; have n3_ : Aside0 (Kd.R (Kd.int .i64) 3 w31 w.heap.size (fun k_ => some k_ ≠ (.slice Ao23 t207.length co23 : Value).ownBlock ∧ some k_ ≠ (.slice Ao33 t211.length co33 : Value).ownBlock ∧ some k_ ≠ (.slice Ao28 t214.length co28 : Value).ownBlock) (.slice Ao32 t219.length co32) t219) := ⟨by rw [← hq_]; exact (by (with_reducible repeat (first | apply Kd.R_alloc | apply Kd.R_drewN | apply Kd.R_drew)); exact Kd.R_mono HO221.out (fun k_ hk_ => by (try simp only [and_assoc, true_and] at hk_); refine ⟨?_, ?_, ?_⟩ <;> first | exact hk_ | exact hk_.1 | exact hk_.2 | exact hk_.2.1 | exact hk_.2.2 | exact hk_.2.2.1 | exact hk_.2.2.2 | exact hk_.2.2.2.1 | exact hk_.2.2.2.2 | exact hk_.2.2.2.2.1 | exact hk_.2.2.2.2.2))⟩; have n4_ : Aside0 (w31.heap[gb205]? = some (.cells #[.slice A0_0 l0_0.length c0_0, .int .i64 a0_1] 37 (0, 0))) := ⟨by rw [← hq_]; exact (by (with_reducible repeat (first | refine blk_drewN ?_ _ | refine blk_drew ?_ | refine blk_alloc ?_ _)); exact BK205.out)⟩; have n5_ : Aside0 (w31.heap[gb218]? = some (.cells #[.slice Ao28 t214.length co28, .int .i64 t217] 24 (0, 0))) := ⟨by rw [← hq_]; exact (by (with_reducible repeat (first | refine blk_drewN ?_ _ | refine blk_drew ?_ | refine blk_alloc ?_ _)); exact BK218.out)⟩; have n6_ : Aside0 (Below w.heap.size w w31) := ⟨by rw [← hq_]; exact (by repeat (first | (with_reducible first | exact HB.out | apply below_alloc | apply pw_below_drewN | apply below_drew1 | refine below_set ?_ GE205.out | refine below_set ?_ GE218.out) | exact HB.out))⟩; clear HO209 HO213 HO216 HO221 BK205 BK218 HB hq_; have HO209 := n0_; have HO213 := n1_; have HO216 := n2_; have HO221 := n3_; have BK205 := n4_; have BK218 := n5_; have HB := n6_; clear n0_ n1_ n2_ n3_ n4_ n5_ n6_))
        have n0_ := Aside0.mk (Kd.R_drew HO209.out)
        have n1_ := Aside0.mk (Kd.R_drew HO213.out)
        have n2_ := Aside0.mk (Kd.R_drew HO216.out)
        have n3_ := Aside0.mk (Kd.R_drew HO221.out)
        have n4_ := Aside0.mk (blk_drew BK205.out)
        have n5_ := Aside0.mk (blk_drew BK218.out)
        have n6_ := Aside0.mk (below_drew1 HB.out)
        clear HO209
        clear HO213
        clear HO216
        clear HO221
        clear BK205
        clear BK218
        clear HB
        have HO209 := n0_
        have HO213 := n1_
        have HO216 := n2_
        have HO221 := n3_
        have BK205 := n4_
        have BK218 := n5_
        have HB := n6_
        clear n0_ n1_ n2_ n3_ n4_ n5_ n6_
        refine start_ (n := 5) (S := fun w' => w'.cell? ⟨gb218, 0, none⟩ = some (.slice Ao28 t214.length co28) ∧ w'.cell? ⟨gb218, 1, none⟩ = some (.int .i64 t217) ∧ w'.cell? ⟨gb205, 0, none⟩ = some (.slice A0_0 l0_0.length c0_0) ∧ w'.cell? ⟨gb205, 1, none⟩ = some (.int .i64 a0_1)) (ds := []) #[false, false, false, false, false] (by kernel_rfl) rfl rfl ⟨(blk_cell BK218.out 0).trans rfl, (blk_cell BK218.out 1).trans rfl, (blk_cell BK205.out 0).trans rfl, (blk_cell BK205.out 1).trans rfl⟩ (fun hHeld => ?_)
        generalize w31.drew = w34 at HO209 HO213 HO216 HO221 BK205 BK218 HB hHeld ⊢
        refine take_ (i := 0) (N := some 27) (v := ?_) (a' := ?_) #[true, false, false, false, false] rfl rfl (by kernel_rfl) (fun _ _ _ h => h) (Or.inl ⟨by rfl, ?_⟩) hHeld ?_ ?_
        rotate_left
        · rintro w' ⟨s0, s1, s2, s3⟩
          go_simp
          with_reducible rfl
        rotate_left
        · simp only [Act.put, List.setIfInBounds_toArray, List.set_cons_zero, List.set_cons_succ, i64_w, i32_w]
          rfl
        refine take_ (i := 1) (N := some 28) (v := ?_) (a' := ?_) #[true, true, false, false, false] rfl rfl (by kernel_rfl) (fun _ _ _ h => h) (Or.inl ⟨by rfl, ?_⟩) hHeld ?_ ?_
        rotate_left
        · rintro w' ⟨s0, s1, s2, s3⟩
          go_simp
          with_reducible rfl
        rotate_left
        · simp only [Act.put, List.setIfInBounds_toArray, List.set_cons_zero, List.set_cons_succ, i64_w, i32_w]
          rfl
        refine one_ (i := 2) (N := some 29) #[true, true, true, false, false] rfl rfl (by kernel_rfl) (by decide) (fun K hK => ?_)
        refine goes_ Try.func27 (by kernel_rfl) rfl #[.agg #[.slice A0_0 l0_0.length c0_0, .int .i64 a0_1]] (by rfl) rfl rfl (by (try simp only [List.map_toArray, List.map_cons, List.map_nil]); first | done | rfl | (simp only [List.length_drop, List.length_take]; rfl)) ?_
        with_reducible refine (laws_toRows.calls k _ _ l0_0 a0_1 t223 t226 _ ?side1 ?side2 A13.out).mono ?_
        (case side1 => repeat (first | exact (Kd.C_below HR0_0.out HB.out) | (with_reducible refine Kd.C_alloc ?_ _) | (with_reducible refine Kd.C_drewN ?_ _) | (with_reducible refine Kd.C_drew ?_)))
        (case side2 => exact HC0_0.out)
        rintro e w35 ⟨v224, rfl, ho0, hb⟩
        refine ⟨_, rfl, ?_⟩
        have n0_ := Aside0.mk (Kd.R_elder' (by (with_reducible repeat (first | apply Kd.R_alloc | apply Kd.R_drewN | apply Kd.R_drew)); exact HO209.out) (Kd.R_base ho0) hb)
        have n1_ := Aside0.mk (Kd.R_elder' (by (with_reducible repeat (first | apply Kd.R_alloc | apply Kd.R_drewN | apply Kd.R_drew)); exact HO213.out) (Kd.R_base ho0) hb)
        have n2_ := Aside0.mk (Kd.R_elder' (by (with_reducible repeat (first | apply Kd.R_alloc | apply Kd.R_drewN | apply Kd.R_drew)); exact HO216.out) (Kd.R_base ho0) hb)
        have n3_ := Aside0.mk (Kd.R_elder' (by (with_reducible repeat (first | apply Kd.R_alloc | apply Kd.R_drewN | apply Kd.R_drew)); exact HO221.out) (Kd.R_base ho0) hb)
        have n4_ := Aside0.mk (Kd.R_lower (Kd.R_new' (Kd.R_new' (Kd.R_new' (Kd.R_new' ho0 (Kd.R_lt (by (with_reducible repeat (first | apply Kd.R_alloc | apply Kd.R_drewN | apply Kd.R_drew)); exact HO209.out))) (Kd.R_lt (by (with_reducible repeat (first | apply Kd.R_alloc | apply Kd.R_drewN | apply Kd.R_drew)); exact HO213.out))) (Kd.R_lt (by (with_reducible repeat (first | apply Kd.R_alloc | apply Kd.R_drewN | apply Kd.R_drew)); exact HO216.out))) (Kd.R_lt (by (with_reducible repeat (first | apply Kd.R_alloc | apply Kd.R_drewN | apply Kd.R_drew)); exact HO221.out))) (below_size (by repeat (first | (with_reducible first | exact HB.out | apply below_alloc | apply pw_below_drewN | apply below_drew1 | refine below_set ?_ GE205.out | refine below_set ?_ GE218.out) | exact HB.out))))
        have n5_ := Aside0.mk (blk_below (g := gb205) (o := .cells #[.slice A0_0 l0_0.length c0_0, .int .i64 a0_1] 37 (0, 0)) (by (with_reducible repeat (first | refine blk_drewN ?_ _ | refine blk_drew ?_ | refine blk_alloc ?_ _)); exact BK205.out) hb)
        have n6_ := Aside0.mk (blk_below (g := gb218) (o := .cells #[.slice Ao28 t214.length co28, .int .i64 t217] 24 (0, 0)) (by (with_reducible repeat (first | refine blk_drewN ?_ _ | refine blk_drew ?_ | refine blk_alloc ?_ _)); exact BK218.out) hb)
        have n7_ := Aside0.mk (below_step (by repeat (first | (with_reducible first | exact HB.out | apply below_alloc | apply pw_below_drewN | apply below_drew1 | refine below_set ?_ GE205.out | refine below_set ?_ GE218.out) | exact HB.out)) hb)
        clear HO209
        clear HO213
        clear HO216
        clear HO221
        clear BK205
        clear BK218
        clear HB
        have HO209 := n0_
        have HO213 := n1_
        have HO216 := n2_
        have HO221 := n3_
        have HO225 := n4_
        have BK205 := n5_
        have BK218 := n6_
        have HB := n7_
        clear n0_ n1_ n2_ n3_ n4_ n5_ n6_ n7_
        (try clear hb)
        (try clear hb2)
        (try clear hk)
        (try clear hi)
        (try clear ho0)
        obtain ⟨Ao36, co36, eo36⟩ := Kd.R_slice HO225.out
        (first | subst eo36 | (injection eo36 with f1_ f2_ f3_; have f4_ := f1_.symm; have f5_ := f3_.symm; clear f1_ f2_ f3_; subst f4_; subst f5_))
        refine hK.out _ _ ⟨(blk_cell BK218.out 0).trans rfl, (blk_cell BK218.out 1).trans rfl, (blk_cell BK205.out 0).trans rfl, (blk_cell BK205.out 1).trans rfl⟩ (fun hHeld => ?_)
        clear hK K
        refine norm_ (a' := ?_) ?_ ?_
        rotate_left
        · show Act.put _ (some 29) _ = _
          simp only [Act.put, List.setIfInBounds_toArray, List.set_cons_zero, List.set_cons_succ, i64_w, i32_w]
          rfl
        refine one_ (i := 3) (N := some 30) #[true, true, true, true, false] rfl rfl (by kernel_rfl) (by decide) (fun K hK => ?_)
        refine goes_ Try.func17 (by kernel_rfl) rfl #[.agg #[.slice Ao28 t214.length co28, .int .i64 t217], .agg #[.slice Ao36 t223.length co36, .int .i64 t226]] (by rfl) rfl rfl (by (try simp only [List.map_toArray, List.map_cons, List.map_nil]); first | done | rfl | (simp only [List.length_drop, List.length_take]; rfl)) ?_
        with_reducible refine (laws_eqRows.calls k _ _ t214 t217 _ _ t223 t226 true _ ?side1 ?side2 ?side3 ?side4 A14.out).mono ?_
        (case side1 => repeat (first | exact (Kd.R_reads' HO216.out).2.2 | (with_reducible refine Kd.C_alloc ?_ _) | (with_reducible refine Kd.C_drewN ?_ _) | (with_reducible refine Kd.C_drew ?_)))
        (case side2 => exact (Kd.R_reads' HO216.out).2.1)
        (case side3 => repeat (first | exact (Kd.R_reads' HO225.out).2.2 | (with_reducible refine Kd.C_alloc ?_ _) | (with_reducible refine Kd.C_drewN ?_ _) | (with_reducible refine Kd.C_drew ?_)))
        (case side4 => exact (Kd.R_reads' HO225.out).2.1)
        rintro e w37 ⟨rfl, hb⟩
        refine ⟨_, rfl, ?_⟩
        have n0_ := Aside0.mk (Kd.R_below (by (with_reducible repeat (first | apply Kd.R_alloc | apply Kd.R_drewN | apply Kd.R_drew)); exact HO209.out) hb)
        have n1_ := Aside0.mk (Kd.R_below (by (with_reducible repeat (first | apply Kd.R_alloc | apply Kd.R_drewN | apply Kd.R_drew)); exact HO213.out) hb)
        have n2_ := Aside0.mk (Kd.R_below (by (with_reducible repeat (first | apply Kd.R_alloc | apply Kd.R_drewN | apply Kd.R_drew)); exact HO216.out) hb)
        have n3_ := Aside0.mk (Kd.R_below (by (with_reducible repeat (first | apply Kd.R_alloc | apply Kd.R_drewN | apply Kd.R_drew)); exact HO221.out) hb)
        have n4_ := Aside0.mk (Kd.R_below (by (with_reducible repeat (first | apply Kd.R_alloc | apply Kd.R_drewN | apply Kd.R_drew)); exact HO225.out) hb)
        have n5_ := Aside0.mk (blk_below (g := gb205) (o := .cells #[.slice A0_0 l0_0.length c0_0, .int .i64 a0_1] 37 (0, 0)) (by (with_reducible repeat (first | refine blk_drewN ?_ _ | refine blk_drew ?_ | refine blk_alloc ?_ _)); exact BK205.out) hb)
        have n6_ := Aside0.mk (blk_below (g := gb218) (o := .cells #[.slice Ao28 t214.length co28, .int .i64 t217] 24 (0, 0)) (by (with_reducible repeat (first | refine blk_drewN ?_ _ | refine blk_drew ?_ | refine blk_alloc ?_ _)); exact BK218.out) hb)
        have n7_ := Aside0.mk (below_step (by repeat (first | (with_reducible first | exact HB.out | apply below_alloc | apply pw_below_drewN | apply below_drew1 | refine below_set ?_ GE205.out | refine below_set ?_ GE218.out) | exact HB.out)) hb)
        clear HO209
        clear HO213
        clear HO216
        clear HO221
        clear HO225
        clear BK205
        clear BK218
        clear HB
        have HO209 := n0_
        have HO213 := n1_
        have HO216 := n2_
        have HO221 := n3_
        have HO225 := n4_
        have BK205 := n5_
        have BK218 := n6_
        have HB := n7_
        clear n0_ n1_ n2_ n3_ n4_ n5_ n6_ n7_
        (try clear hb)
        (try clear hb2)
        (try clear hk)
        (try clear hi)
        refine hK.out _ _ ⟨(blk_cell BK218.out 0).trans rfl, (blk_cell BK218.out 1).trans rfl, (blk_cell BK205.out 0).trans rfl, (blk_cell BK205.out 1).trans rfl⟩ (fun hHeld => ?_)
        clear hK K
        refine norm_ (a' := ?_) ?_ ?_
        rotate_left
        · show Act.put _ (some 30) _ = _
          simp only [Act.put, List.setIfInBounds_toArray, List.set_cons_zero, List.set_cons_succ, i64_w, i32_w]
          rfl
        refine pure_ (i := 4) (N := some 31) (v := ?_) (a' := ?_) #[true, true, true, true, true] rfl rfl (by kernel_rfl) (fun _ _ _ h => h) (Or.inl ⟨by rfl, ?_⟩) ?_ ?_
        rotate_left
        · intro w'
          go_simp
          with_reducible rfl
        rotate_left
        · simp only [Act.put, List.setIfInBounds_toArray, List.set_cons_zero, List.set_cons_succ, i64_w, i32_w]
          rfl
        refine done_ (by kernel_rfl) ?_
        have hcz38_0 : w37.cell? ⟨gb218, 0, none⟩ = some (.slice Ao28 t214.length co28) := (blk_cell BK218.out 0).trans rfl
        have hcz38_1 : w37.cell? ⟨gb218, 1, none⟩ = some (.int .i64 t217) := (blk_cell BK218.out 1).trans rfl
        have hfz38_0 := blk_frozen BK218.out 0
        have hfz38_1 := blk_frozen BK218.out 1
        go_upto_region 14 with (first | ((with_reducible refine gate_callee (f := 18) rfl ?_); refine goesL_ (some 34) rfl rfl Try.func18 (by kernel_rfl) rfl #[.agg #[.slice Ao28 t214.length co28, .int .i64 t217], .int .i64 1] rfl (by (try simp only [List.map_toArray, List.map_cons, List.map_nil]); first | done | rfl | (simp only [List.length_drop, List.length_take]; rfl)) ?_; (with_reducible refine (laws_markRows.calls k (fun k_ => some k_ = (.slice Ao28 t214.length co28 : Value).ownBlock) (.slice Ao28 t214.length co28) t214 t217 1 t228 t229 w _ ?side1 ?side2 A16.out).mono ?_); (case side1 => repeat (first | (with_reducible first | exact HB.out | apply below_alloc | apply pw_below_drewN | apply below_drew1 | refine below_set ?_ GE205.out | refine below_set ?_ GE218.out) | exact HB.out)); (case side2 => exact Kd.R_tight rfl HO216.out); rintro e w39 ⟨rfl, hy0, hb, hkp⟩; refine ⟨_, rfl, ?_⟩; have n0_ := Aside0.mk (blk_kept (by (with_reducible repeat (first | refine blk_drewN ?_ _ | refine blk_drew ?_ | refine blk_alloc ?_ _)); exact BK205.out) hkp (fun hs_ => (fun e_ => (Kd.R_ne HO216.out BK205.out (by decide)) e_) hs_)); have n1_ := Aside0.mk (Kd.R_mono (ok' := fun k_ => some k_ ≠ (.slice Ao33 t211.length co33 : Value).ownBlock ∧ some k_ ≠ (.slice Ao28 t214.length co28 : Value).ownBlock ∧ some k_ ≠ (.slice Ao32 t219.length co32 : Value).ownBlock ∧ some k_ ≠ (.slice Ao36 t223.length co36 : Value).ownBlock) (Kd.R_keptB (HO209.out) hkp (fun k_ hk_ hs_ => absurd hs_ (by (try simp only [and_assoc, true_and] at hk_); first | exact hk_ | exact hk_.1 | exact hk_.2 | exact hk_.2.1 | exact hk_.2.2 | exact hk_.2.2.1 | exact hk_.2.2.2 | exact hk_.2.2.2.1 | exact hk_.2.2.2.2 | exact hk_.2.2.2.2.1 | exact hk_.2.2.2.2.2))) (fun k_ hk_ => by (try simp only [and_assoc, true_and] at hk_); refine ⟨?_, ?_, ?_, ?_⟩ <;> first | exact hk_ | exact hk_.1 | exact hk_.2 | exact hk_.2.1 | exact hk_.2.2 | exact hk_.2.2.1 | exact hk_.2.2.2 | exact hk_.2.2.2.1 | exact hk_.2.2.2.2 | exact hk_.2.2.2.2.1 | exact hk_.2.2.2.2.2)); have n2_ := Aside0.mk (Kd.R_mono (ok' := fun k_ => some k_ ≠ (.slice Ao23 t207.length co23 : Value).ownBlock ∧ some k_ ≠ (.slice Ao28 t214.length co28 : Value).ownBlock ∧ some k_ ≠ (.slice Ao32 t219.length co32 : Value).ownBlock ∧ some k_ ≠ (.slice Ao36 t223.length co36 : Value).ownBlock) (Kd.R_keptB (HO213.out) hkp (fun k_ hk_ hs_ => absurd hs_ (by (try simp only [and_assoc, true_and] at hk_); first | exact hk_ | exact hk_.1 | exact hk_.2 | exact hk_.2.1 | exact hk_.2.2 | exact hk_.2.2.1 | exact hk_.2.2.2 | exact hk_.2.2.2.1 | exact hk_.2.2.2.2 | exact hk_.2.2.2.2.1 | exact hk_.2.2.2.2.2))) (fun k_ hk_ => by (try simp only [and_assoc, true_and] at hk_); refine ⟨?_, ?_, ?_, ?_⟩ <;> first | exact hk_ | exact hk_.1 | exact hk_.2 | exact hk_.2.1 | exact hk_.2.2 | exact hk_.2.2.1 | exact hk_.2.2.2 | exact hk_.2.2.2.1 | exact hk_.2.2.2.2 | exact hk_.2.2.2.2.1 | exact hk_.2.2.2.2.2)); have n3_ := Aside0.mk (Kd.R_reok rfl hy0 (fun k_ e_ => HO216.out.1 k_ e_)); have n4_ := Aside0.mk (blk_kept (by (with_reducible repeat (first | refine blk_drewN ?_ _ | refine blk_drew ?_ | refine blk_alloc ?_ _)); exact BK218.out) hkp (fun hs_ => (fun e_ => (Kd.R_ne HO216.out BK218.out (by decide)) e_) hs_)); have n5_ := Aside0.mk (Kd.R_mono (ok' := fun k_ => some k_ ≠ (.slice Ao23 t207.length co23 : Value).ownBlock ∧ some k_ ≠ (.slice Ao33 t211.length co33 : Value).ownBlock ∧ some k_ ≠ (.slice Ao28 t214.length co28 : Value).ownBlock ∧ some k_ ≠ (.slice Ao36 t223.length co36 : Value).ownBlock) (Kd.R_keptB (HO221.out) hkp (fun k_ hk_ hs_ => absurd hs_ (by (try simp only [and_assoc, true_and] at hk_); first | exact hk_ | exact hk_.1 | exact hk_.2 | exact hk_.2.1 | exact hk_.2.2 | exact hk_.2.2.1 | exact hk_.2.2.2 | exact hk_.2.2.2.1 | exact hk_.2.2.2.2 | exact hk_.2.2.2.2.1 | exact hk_.2.2.2.2.2))) (fun k_ hk_ => by (try simp only [and_assoc, true_and] at hk_); refine ⟨?_, ?_, ?_, ?_⟩ <;> first | exact hk_ | exact hk_.1 | exact hk_.2 | exact hk_.2.1 | exact hk_.2.2 | exact hk_.2.2.1 | exact hk_.2.2.2 | exact hk_.2.2.2.1 | exact hk_.2.2.2.2 | exact hk_.2.2.2.2.1 | exact hk_.2.2.2.2.2)); have n6_ := Aside0.mk (Kd.R_mono (ok' := fun k_ => some k_ ≠ (.slice Ao23 t207.length co23 : Value).ownBlock ∧ some k_ ≠ (.slice Ao33 t211.length co33 : Value).ownBlock ∧ some k_ ≠ (.slice Ao28 t214.length co28 : Value).ownBlock ∧ some k_ ≠ (.slice Ao32 t219.length co32 : Value).ownBlock) (Kd.R_keptB (HO225.out) hkp (fun k_ hk_ hs_ => absurd hs_ (by (try simp only [and_assoc, true_and] at hk_); first | exact hk_ | exact hk_.1 | exact hk_.2 | exact hk_.2.1 | exact hk_.2.2 | exact hk_.2.2.1 | exact hk_.2.2.2 | exact hk_.2.2.2.1 | exact hk_.2.2.2.2 | exact hk_.2.2.2.2.1 | exact hk_.2.2.2.2.2))) (fun k_ hk_ => by (try simp only [and_assoc, true_and] at hk_); refine ⟨?_, ?_, ?_, ?_⟩ <;> first | exact hk_ | exact hk_.1 | exact hk_.2 | exact hk_.2.1 | exact hk_.2.2 | exact hk_.2.2.1 | exact hk_.2.2.2 | exact hk_.2.2.2.1 | exact hk_.2.2.2.2 | exact hk_.2.2.2.2.1 | exact hk_.2.2.2.2.2)); have n7_ := Aside0.mk (hb); clear BK205; clear HO209; clear HO213; clear HO216; clear BK218; clear HO221; clear HO225; clear HB; have BK205 := n0_; have HO209 := n1_; have HO213 := n2_; have HO216 := n3_; have BK218 := n4_; have HO221 := n5_; have HO225 := n6_; have HB := n7_; clear n0_ n1_ n2_ n3_ n4_ n5_ n6_ n7_; (try clear hb); (try clear hkp); (try clear hy0)))
        (try simp only [Act.put, List.setIfInBounds_toArray, List.set_cons_zero, List.set_cons_succ])
        go_cut [42] (fun v42 wc => ∃ (kq : Nat) (x42_16 : Bool), v42 = .bool x42_16 ∧ Aside0 (laws_FnExactWordsOf.j0 kq t211 t219 x42_16 l0_0 a0_1 = some r) ∧ Aside0 (kq ≤ k) ∧ Aside0 (Kd.R (Kd.int .i64) 3 wc w.heap.size (fun k_ => some k_ ≠ ((.slice Ao32 t219.length co32) : Value).ownBlock ∧ some k_ ≠ ((.slice Ao28 t214.length co28) : Value).ownBlock) (.slice Ao33 t211.length co33) t211) ∧ Aside0 (Kd.R (Kd.int .i64) 3 wc w.heap.size (fun k_ => some k_ ≠ ((.slice Ao33 t211.length co33) : Value).ownBlock ∧ some k_ ≠ ((.slice Ao28 t214.length co28) : Value).ownBlock) (.slice Ao32 t219.length co32) t219) ∧ Aside0 (Kd.R (Kd.int .i64) 3 wc w.heap.size (fun k_ => some k_ ≠ ((.slice Ao33 t211.length co33) : Value).ownBlock ∧ some k_ ≠ ((.slice Ao32 t219.length co32) : Value).ownBlock) (.slice Ao28 t214.length co28) t229) ∧ Aside0 (wc.heap[gb205]? = some (.cells #[(.slice A0_0 l0_0.length c0_0), .int .i64 a0_1] 37 (0, 0))) ∧ Aside0 (wc.heap[gb218]? = some (.cells #[(.slice Ao28 t214.length co28), .int .i64 t217] 24 (0, 0))) ∧ Aside0 (Below w.heap.size w wc))
        case first =>
          have H := HC17.out
          clear HC17
          by_cases c40 : t228 < 0
          · rw [if_pos c40] at H
            have c40b0 : decide (t228 < 0) = true := decide_eq_true c40
            clear c40
            (first | rw [c40b0] | (simp only [i64_w, i32_w]; rw [c40b0]) | skip)
            have H' := Aside0.mk H
            clear H
            go_wp2
            go_meet
            case rel => exact ⟨_, (true), (by first | rfl | (simp; done) | (simp [*]; done)), H', ⟨by first | omega | exact Nat.le_refl _⟩, ⟨by (with_reducible repeat (first | apply Kd.R_alloc | apply Kd.R_drewN | apply Kd.R_drew)); exact Kd.R_mono HO213.out (fun k_ hk_ => by (try simp only [and_assoc, true_and] at hk_); refine ⟨?_, ?_⟩ <;> first | exact hk_ | exact hk_.1 | exact hk_.2 | exact hk_.2.1 | exact hk_.2.2 | exact hk_.2.2.1 | exact hk_.2.2.2 | exact hk_.2.2.2.1 | exact hk_.2.2.2.2 | exact hk_.2.2.2.2.1 | exact hk_.2.2.2.2.2)⟩, ⟨by (with_reducible repeat (first | apply Kd.R_alloc | apply Kd.R_drewN | apply Kd.R_drew)); exact Kd.R_mono HO221.out (fun k_ hk_ => by (try simp only [and_assoc, true_and] at hk_); refine ⟨?_, ?_⟩ <;> first | exact hk_ | exact hk_.1 | exact hk_.2 | exact hk_.2.1 | exact hk_.2.2 | exact hk_.2.2.1 | exact hk_.2.2.2 | exact hk_.2.2.2.1 | exact hk_.2.2.2.2 | exact hk_.2.2.2.2.1 | exact hk_.2.2.2.2.2)⟩, ⟨by (with_reducible repeat (first | apply Kd.R_alloc | apply Kd.R_drewN | apply Kd.R_drew)); exact Kd.R_mono HO216.out (fun k_ hk_ => by (try simp only [and_assoc, true_and] at hk_); refine ⟨?_, ?_⟩ <;> first | exact hk_ | exact hk_.1 | exact hk_.2 | exact hk_.2.1 | exact hk_.2.2 | exact hk_.2.2.1 | exact hk_.2.2.2 | exact hk_.2.2.2.1 | exact hk_.2.2.2.2 | exact hk_.2.2.2.2.1 | exact hk_.2.2.2.2.2)⟩, ⟨by (with_reducible repeat (first | refine blk_drewN ?_ _ | refine blk_drew ?_ | refine blk_alloc ?_ _)); exact BK205.out⟩, ⟨by (with_reducible repeat (first | refine blk_drewN ?_ _ | refine blk_drew ?_ | refine blk_alloc ?_ _)); exact BK218.out⟩, ⟨by repeat (first | (with_reducible first | exact HB.out | apply below_alloc | apply pw_below_drewN | apply below_drew1 | refine below_set ?_ GE205.out | refine below_set ?_ GE218.out) | exact HB.out)⟩⟩
          · rw [if_neg c40] at H
            have c40b0 : decide (t228 < 0) = false := decide_eq_false c40
            clear c40
            (first | rw [c40b0] | (simp only [i64_w, i32_w]; rw [c40b0]) | skip)
            replace H := Option.bind_eq_some_iff.mp H
            obtain ⟨t230, A410, H⟩ := H
            replace H : (laws_FnExactWordsOf.j0 k t211 t219 (!t230) l0_0 a0_1) = some r := H
            have A41 := Aside0.mk A410
            clear A410
            have H' := Aside0.mk H
            clear H
            go_wp2_with (first | (go_at_call 80; (with_reducible refine (laws_eqIntS.calls k _ _ t219 _ _ t211 t230 _ ?side1 ?side2 ?side3 ?side4 A41.out).mono ?_); (case side1 => repeat (first | exact (Kd.R_reads' HO221.out).2.2 | (with_reducible refine Kd.C_alloc ?_ _) | (with_reducible refine Kd.C_drewN ?_ _) | (with_reducible refine Kd.C_drew ?_))); (case side2 => exact (Kd.R_reads' HO221.out).2.1); (case side3 => repeat (first | exact (Kd.R_reads' HO213.out).2.2 | (with_reducible refine Kd.C_alloc ?_ _) | (with_reducible refine Kd.C_drewN ?_ _) | (with_reducible refine Kd.C_drew ?_))); (case side4 => exact (Kd.R_reads' HO213.out).2.1); rintro e w' ⟨rfl, ⟨nd, rfl⟩⟩))
            go_meet
            case rel => exact ⟨_, (!t230), (by first | rfl | (simp; done) | (simp [*]; done)), H', ⟨by first | omega | exact Nat.le_refl _⟩, ⟨by (with_reducible repeat (first | apply Kd.R_alloc | apply Kd.R_drewN | apply Kd.R_drew)); exact Kd.R_mono HO213.out (fun k_ hk_ => by (try simp only [and_assoc, true_and] at hk_); refine ⟨?_, ?_⟩ <;> first | exact hk_ | exact hk_.1 | exact hk_.2 | exact hk_.2.1 | exact hk_.2.2 | exact hk_.2.2.1 | exact hk_.2.2.2 | exact hk_.2.2.2.1 | exact hk_.2.2.2.2 | exact hk_.2.2.2.2.1 | exact hk_.2.2.2.2.2)⟩, ⟨by (with_reducible repeat (first | apply Kd.R_alloc | apply Kd.R_drewN | apply Kd.R_drew)); exact Kd.R_mono HO221.out (fun k_ hk_ => by (try simp only [and_assoc, true_and] at hk_); refine ⟨?_, ?_⟩ <;> first | exact hk_ | exact hk_.1 | exact hk_.2 | exact hk_.2.1 | exact hk_.2.2 | exact hk_.2.2.1 | exact hk_.2.2.2 | exact hk_.2.2.2.1 | exact hk_.2.2.2.2 | exact hk_.2.2.2.2.1 | exact hk_.2.2.2.2.2)⟩, ⟨by (with_reducible repeat (first | apply Kd.R_alloc | apply Kd.R_drewN | apply Kd.R_drew)); exact Kd.R_mono HO216.out (fun k_ hk_ => by (try simp only [and_assoc, true_and] at hk_); refine ⟨?_, ?_⟩ <;> first | exact hk_ | exact hk_.1 | exact hk_.2 | exact hk_.2.1 | exact hk_.2.2 | exact hk_.2.2.1 | exact hk_.2.2.2 | exact hk_.2.2.2.1 | exact hk_.2.2.2.2 | exact hk_.2.2.2.2.1 | exact hk_.2.2.2.2.2)⟩, ⟨by (with_reducible repeat (first | refine blk_drewN ?_ _ | refine blk_drew ?_ | refine blk_alloc ?_ _)); exact BK205.out⟩, ⟨by (with_reducible repeat (first | refine blk_drewN ?_ _ | refine blk_drew ?_ | refine blk_alloc ?_ _)); exact BK218.out⟩, ⟨by repeat (first | (with_reducible first | exact HB.out | apply below_alloc | apply pw_below_drewN | apply below_drew1 | refine below_set ?_ GE205.out | refine below_set ?_ GE218.out) | exact HB.out)⟩⟩
        case rest =>
          clear HC17
          try clear c1
          try clear c2
          try clear p2
          try clear c3
          try clear c3b0
          try clear c4
          try clear c7
          try clear c8
          try clear c12
          try clear c14
          try clear c15
          try clear c17
          try clear c18
          try clear c25
          try clear c27
          try clear c29
          try clear c40
          try clear c40b0
          try clear hcz19_0
          try clear hcz19_1
          try clear hcz21_0
          try clear hcz21_1
          try clear hcz25_0
          try clear hcz25_1
          try clear hcz30_0
          try clear hcz30_1
          try clear hcz38_0
          try clear hcz38_1
          try clear hcz5_0
          try clear hcz5_1
          try clear hfz19_0
          try clear hfz19_1
          try clear hfz21_0
          try clear hfz21_1
          try clear hfz25_0
          try clear hfz25_1
          try clear hfz30_0
          try clear hfz30_1
          try clear hfz38_0
          try clear hfz38_1
          try clear hfz5_0
          try clear hfz5_1
          obtain ⟨kq, x42_16, rfl, HA, HJ16, HO_4, HO_6, HO_219000, BK205, BK218, HB⟩ := hcut
          have hl219000_16 := (Kd.R_reads' HO_219000.out).1
          rw [hl219000_16] at HO_219000
          (try simp only [hl219000_16])
          (try simp only [hl219000_16] at BK205)
          (try simp only [hl219000_16] at BK218)
          (try simp only [hl219000_16] at HO_4)
          (try simp only [hl219000_16] at HO_6)
          cases kq with
          | zero => exact absurd HA.out (by simp [laws_FnExactWordsOf.j0])
          | succ kj16 =>
            have H := HA.out
            clear HA
            simp only [laws_FnExactWordsOf.j0] at H
            by_cases c42 : x42_16 = true
            · subst c42
              have H1 : (none) = some r := by rw [if_pos rfl] at H; exact H
              clear H
              have H := H1
              clear H1
              exact absurd H (by simp)
            · replace c42 := Bool.eq_false_iff.mpr c42
              subst c42
              have H1 : ((laws_markIntS.f kj16 t219 1).bind fun bt231 => ((laws_heldIntS.f kj16 bt231.2 1).bind fun t233 => (if t233 < 0 then (none) else (if t233 = bt231.1 then ((laws_toRows.f kj16 l0_0 a0_1).bind fun bt234 => ((impl_WordsOf.f kj16 bt234.1 bt234.2).bind fun t238 => ((laws_eqIntS.f kj16 t238 t211).bind fun t241 => (if t241 = true then ((laws_heldIntS.f kj16 bt231.2 1).bind fun t242 => (if t242 < 0 then (none) else (if t242 = bt231.1 then (some true) else (none)))) else (none))))) else (none))))) = some r := by rw [if_neg (show ¬ (false = true) by decide)] at H; exact H
              clear H
              have H := H1
              clear H1
              replace H := Option.bind_eq_some_iff.mp H
              obtain ⟨⟨t231, t232⟩, A430, H⟩ := H
              replace H : ((laws_heldIntS.f kj16 t232 1).bind fun t233 => (if t233 < 0 then (none) else (if t233 = t231 then ((laws_toRows.f kj16 l0_0 a0_1).bind fun bt234 => ((impl_WordsOf.f kj16 bt234.1 bt234.2).bind fun t238 => ((laws_eqIntS.f kj16 t238 t211).bind fun t241 => (if t241 = true then ((laws_heldIntS.f kj16 t232 1).bind fun t242 => (if t242 < 0 then (none) else (if t242 = t231 then (some true) else (none)))) else (none))))) else (none)))) = some r := H
              have A43 := Aside0.mk A430
              clear A430
              replace H := Option.bind_eq_some_iff.mp H
              obtain ⟨t233, A440, H⟩ := H
              replace H : (if t233 < 0 then (none) else (if t233 = t231 then ((laws_toRows.f kj16 l0_0 a0_1).bind fun bt234 => ((impl_WordsOf.f kj16 bt234.1 bt234.2).bind fun t238 => ((laws_eqIntS.f kj16 t238 t211).bind fun t241 => (if t241 = true then ((laws_heldIntS.f kj16 t232 1).bind fun t242 => (if t242 < 0 then (none) else (if t242 = t231 then (some true) else (none)))) else (none))))) else (none))) = some r := H
              have A44 := Aside0.mk A440
              clear A440
              by_cases c45 : t233 < 0
              · rw [if_pos c45] at H
                exact absurd H (by simp)
              · rw [if_neg c45] at H
                have c45b0 : decide (t233 < 0) = false := decide_eq_false c45
                clear c45
                by_cases c46 : t233 = t231
                · rw [if_pos c46] at H
                  have c46b0 : (t233 == t231) = true := beq_iff_eq.mpr c46
                  have c46b1 : (t233 != t231) = false := bne_eq_false_iff_eq.mpr c46
                  clear c46
                  replace H := Option.bind_eq_some_iff.mp H
                  obtain ⟨⟨t234, t237⟩, A470, H⟩ := H
                  replace H : ((impl_WordsOf.f kj16 t234 t237).bind fun t238 => ((laws_eqIntS.f kj16 t238 t211).bind fun t241 => (if t241 = true then ((laws_heldIntS.f kj16 t232 1).bind fun t242 => (if t242 < 0 then (none) else (if t242 = t231 then (some true) else (none)))) else (none)))) = some r := H
                  have A47 := Aside0.mk A470
                  clear A470
                  replace H := Option.bind_eq_some_iff.mp H
                  obtain ⟨t238, A480, H⟩ := H
                  replace H : ((laws_eqIntS.f kj16 t238 t211).bind fun t241 => (if t241 = true then ((laws_heldIntS.f kj16 t232 1).bind fun t242 => (if t242 < 0 then (none) else (if t242 = t231 then (some true) else (none)))) else (none))) = some r := H
                  have A48 := Aside0.mk A480
                  clear A480
                  replace H := Option.bind_eq_some_iff.mp H
                  obtain ⟨t241, A490, H⟩ := H
                  replace H : (if t241 = true then ((laws_heldIntS.f kj16 t232 1).bind fun t242 => (if t242 < 0 then (none) else (if t242 = t231 then (some true) else (none)))) else (none)) = some r := H
                  have A49 := Aside0.mk A490
                  clear A490
                  by_cases c50 : t241 = true
                  · subst c50
                    have H1 : ((laws_heldIntS.f kj16 t232 1).bind fun t242 => (if t242 < 0 then (none) else (if t242 = t231 then (some true) else (none)))) = some r := by rw [if_pos rfl] at H; exact H
                    clear H
                    have H := H1
                    clear H1
                    replace H := Option.bind_eq_some_iff.mp H
                    obtain ⟨t242, A510, H⟩ := H
                    replace H : (if t242 < 0 then (none) else (if t242 = t231 then (some true) else (none))) = some r := H
                    have A51 := Aside0.mk A510
                    clear A510
                    by_cases c52 : t242 < 0
                    · rw [if_pos c52] at H
                      exact absurd H (by simp)
                    · rw [if_neg c52] at H
                      have c52b0 : decide (t242 < 0) = false := decide_eq_false c52
                      clear c52
                      by_cases c53 : t242 = t231
                      · rw [if_pos c53] at H
                        have c53b0 : (t242 == t231) = true := beq_iff_eq.mpr c53
                        have c53b1 : (t242 != t231) = false := bne_eq_false_iff_eq.mpr c53
                        clear c53
                        obtain rfl := Option.some.inj H
                        go_wp2_with (first | ((with_reducible refine gate_callee (f := 81) rfl ?_); refine goesL_ (some 45) rfl rfl Try.func81 (by kernel_rfl) rfl #[.slice Ao32 t219.length co32, .int .i64 1] rfl (by (try simp only [List.map_toArray, List.map_cons, List.map_nil]); first | done | rfl | (simp only [List.length_drop, List.length_take]; rfl)) ?_; (with_reducible refine (laws_markIntS.calls kj16 (fun k_ => some k_ = (.slice Ao32 t219.length co32 : Value).ownBlock) (.slice Ao32 t219.length co32) t219 1 t231 t232 w _ ?side1 ?side2 A43.out).mono ?_); (case side1 => repeat (first | (with_reducible first | exact HB.out | apply below_alloc | apply pw_below_drewN | apply below_drew1 | refine below_set ?_ GE205.out | refine below_set ?_ GE218.out) | exact HB.out)); (case side2 => exact Kd.R_tight rfl HO_6.out); rintro e w54 ⟨rfl, hy0, hb, hkp⟩; refine ⟨_, rfl, ?_⟩; have n0_ := Aside0.mk (Kd.R_mono (ok' := fun k_ => some k_ ≠ (.slice Ao32 t219.length co32 : Value).ownBlock ∧ some k_ ≠ (.slice Ao28 t229.length co28 : Value).ownBlock) (Kd.R_keptB (HO_4.out) hkp (fun k_ hk_ hs_ => absurd hs_ (by (try simp only [and_assoc, true_and] at hk_); first | exact hk_ | exact hk_.1 | exact hk_.2 | exact hk_.2.1 | exact hk_.2.2 | exact hk_.2.2.1 | exact hk_.2.2.2 | exact hk_.2.2.2.1 | exact hk_.2.2.2.2 | exact hk_.2.2.2.2.1 | exact hk_.2.2.2.2.2))) (fun k_ hk_ => by (try simp only [and_assoc, true_and] at hk_); refine ⟨?_, ?_⟩ <;> first | exact hk_ | exact hk_.1 | exact hk_.2 | exact hk_.2.1 | exact hk_.2.2 | exact hk_.2.2.1 | exact hk_.2.2.2 | exact hk_.2.2.2.1 | exact hk_.2.2.2.2 | exact hk_.2.2.2.2.1 | exact hk_.2.2.2.2.2)); have n1_ := Aside0.mk (Kd.R_reok rfl hy0 (fun k_ e_ => HO_6.out.1 k_ e_)); have n2_ := Aside0.mk (Kd.R_mono (ok' := fun k_ => some k_ ≠ (.slice Ao33 t211.length co33 : Value).ownBlock ∧ some k_ ≠ (.slice Ao32 t219.length co32 : Value).ownBlock) (Kd.R_keptB (HO_219000.out) hkp (fun k_ hk_ hs_ => absurd hs_ (by (try simp only [and_assoc, true_and] at hk_); first | exact hk_ | exact hk_.1 | exact hk_.2 | exact hk_.2.1 | exact hk_.2.2 | exact hk_.2.2.1 | exact hk_.2.2.2 | exact hk_.2.2.2.1 | exact hk_.2.2.2.2 | exact hk_.2.2.2.2.1 | exact hk_.2.2.2.2.2))) (fun k_ hk_ => by (try simp only [and_assoc, true_and] at hk_); refine ⟨?_, ?_⟩ <;> first | exact hk_ | exact hk_.1 | exact hk_.2 | exact hk_.2.1 | exact hk_.2.2 | exact hk_.2.2.1 | exact hk_.2.2.2 | exact hk_.2.2.2.1 | exact hk_.2.2.2.2 | exact hk_.2.2.2.2.1 | exact hk_.2.2.2.2.2)); have n3_ := Aside0.mk (blk_kept (by (with_reducible repeat (first | refine blk_drewN ?_ _ | refine blk_drew ?_ | refine blk_alloc ?_ _)); exact BK205.out) hkp (fun hs_ => (fun e_ => (Kd.R_ne HO_6.out BK205.out (by decide)) e_) hs_)); have n4_ := Aside0.mk (blk_kept (by (with_reducible repeat (first | refine blk_drewN ?_ _ | refine blk_drew ?_ | refine blk_alloc ?_ _)); exact BK218.out) hkp (fun hs_ => (fun e_ => (Kd.R_ne HO_6.out BK218.out (by decide)) e_) hs_)); have n5_ := Aside0.mk (hb); clear HO_4; clear HO_6; clear HO_219000; clear BK205; clear BK218; clear HB; have HO_4 := n0_; have HO_6 := n1_; have HO_219000 := n2_; have BK205 := n3_; have BK218 := n4_; have HB := n5_; clear n0_ n1_ n2_ n3_ n4_ n5_; (try clear hb); (try clear hkp); (try clear hy0)) | ((with_reducible refine gate_callee (f := 82) rfl ?_); refine goesL_ (some 48) rfl rfl Try.func82 (by kernel_rfl) rfl #[.slice Ao32 t232.length co32, .int .i64 1] rfl (by (try simp only [List.map_toArray, List.map_cons, List.map_nil]); first | done | (rw [show t232.length = t219.length from (Kd.R_reads' HO_6.out).1.symm] <;> rfl) | rfl | (simp only [List.length_drop, List.length_take]; rfl)) ?_; (with_reducible refine (laws_heldIntS.calls kj16 _ _ t232 1 t233 _ ?side1 ?side2 A44.out).mono ?_); (case side1 => repeat (first | exact (Kd.R_reads' HO_6.out).2.2 | (with_reducible refine Kd.C_alloc ?_ _) | (with_reducible refine Kd.C_drewN ?_ _) | (with_reducible refine Kd.C_drew ?_))); (case side2 => rw [show t232.length = t219.length from (Kd.R_reads' HO_6.out).1.symm]; exact (Kd.R_reads' HO_6.out).2.1); rintro e w' ⟨rfl, ⟨nd, rfl⟩⟩; refine ⟨_, rfl, ?_⟩; have hnb55 := NB205_218.out; have hnc55 := NB218_205.out; have hcz56_0 : w54.cell? ⟨gb205, 0, none⟩ = some (.slice A0_0 l0_0.length c0_0) := (blk_cell BK205.out 0).trans rfl; have hcz56_1 : w54.cell? ⟨gb205, 1, none⟩ = some (.int .i64 a0_1) := (blk_cell BK205.out 1).trans rfl; have hfz56_0 := blk_frozen BK205.out 0; have hfz56_1 := blk_frozen BK205.out 1) | ((with_reducible refine gate_callee (f := 27) rfl ?_); refine goesL_ (some 55) rfl rfl Try.func27 (by kernel_rfl) rfl #[.agg #[.slice A0_0 l0_0.length c0_0, .int .i64 a0_1]] rfl (by (try simp only [List.map_toArray, List.map_cons, List.map_nil]); first | done | rfl | (simp only [List.length_drop, List.length_take]; rfl)) ?_; (with_reducible refine (laws_toRows.calls kj16 _ _ l0_0 a0_1 t234 t237 _ ?side1 ?side2 A47.out).mono ?_); (case side1 => repeat (first | exact (Kd.C_below HR0_0.out (by repeat (first | (with_reducible first | exact HB.out | apply below_alloc | apply pw_below_drewN | apply below_drew1 | refine below_set ?_ GE205.out | refine below_set ?_ GE218.out) | exact HB.out))) | (with_reducible refine Kd.C_alloc ?_ _) | (with_reducible refine Kd.C_drewN ?_ _) | (with_reducible refine Kd.C_drew ?_))); (case side2 => exact HC0_0.out); rintro e w57 ⟨v235, rfl, ho0, hb⟩; refine ⟨_, rfl, ?_⟩; have n0_ := Aside0.mk (Kd.R_elder' (by (with_reducible repeat (first | apply Kd.R_alloc | apply Kd.R_drewN | apply Kd.R_drew)); exact HO_4.out) (Kd.R_base ho0) hb); have n1_ := Aside0.mk (Kd.R_elder' (by (with_reducible repeat (first | apply Kd.R_alloc | apply Kd.R_drewN | apply Kd.R_drew)); exact HO_6.out) (Kd.R_base ho0) hb); have n2_ := Aside0.mk (Kd.R_elder' (by (with_reducible repeat (first | apply Kd.R_alloc | apply Kd.R_drewN | apply Kd.R_drew)); exact HO_219000.out) (Kd.R_base ho0) hb); have n3_ := Aside0.mk (Kd.R_lower (Kd.R_new' (Kd.R_new' (Kd.R_new' ho0 (Kd.R_lt (by (with_reducible repeat (first | apply Kd.R_alloc | apply Kd.R_drewN | apply Kd.R_drew)); exact HO_4.out))) (Kd.R_lt (by (with_reducible repeat (first | apply Kd.R_alloc | apply Kd.R_drewN | apply Kd.R_drew)); exact HO_6.out))) (Kd.R_lt (by (with_reducible repeat (first | apply Kd.R_alloc | apply Kd.R_drewN | apply Kd.R_drew)); exact HO_219000.out))) (below_size (by repeat (first | (with_reducible first | exact HB.out | apply below_alloc | apply pw_below_drewN | apply below_drew1 | refine below_set ?_ GE205.out | refine below_set ?_ GE218.out) | exact HB.out)))); have n4_ := Aside0.mk (blk_below (g := gb205) (o := .cells #[.slice A0_0 l0_0.length c0_0, .int .i64 a0_1] 37 (0, 0)) (by (with_reducible repeat (first | refine blk_drewN ?_ _ | refine blk_drew ?_ | refine blk_alloc ?_ _)); exact BK205.out) hb); have n5_ := Aside0.mk (blk_below (g := gb218) (o := .cells #[.slice Ao28 t229.length co28, .int .i64 t217] 24 (0, 0)) (by (with_reducible repeat (first | refine blk_drewN ?_ _ | refine blk_drew ?_ | refine blk_alloc ?_ _)); exact BK218.out) hb); have n6_ := Aside0.mk (below_step (by repeat (first | (with_reducible first | exact HB.out | apply below_alloc | apply pw_below_drewN | apply below_drew1 | refine below_set ?_ GE205.out | refine below_set ?_ GE218.out) | exact HB.out)) hb); clear HO_4; clear HO_6; clear HO_219000; clear BK205; clear BK218; clear HB; have HO_4 := n0_; have HO_6 := n1_; have HO_219000 := n2_; have HO236 := n3_; have BK205 := n4_; have BK218 := n5_; have HB := n6_; clear n0_ n1_ n2_ n3_ n4_ n5_ n6_; (try clear hb); (try clear hb2); (try clear hk); (try clear hi); (try clear ho0); obtain ⟨Ao58, co58, eo58⟩ := Kd.R_slice HO236.out; subst eo58) | ((with_reducible refine gate_callee (f := 79) rfl ?_); refine goesL_ (some 56) rfl rfl Try.func79 (by kernel_rfl) rfl #[.agg #[.slice Ao58 t234.length co58, .int .i64 t237]] rfl (by (try simp only [List.map_toArray, List.map_cons, List.map_nil]); first | done | rfl | (simp only [List.length_drop, List.length_take]; rfl)) ?_; (with_reducible refine (impl_WordsOf.calls kj16 _ _ t234 t237 t238 _ ?side1 ?side2 A48.out).mono ?_); (case side1 => repeat (first | exact (Kd.R_reads' HO236.out).2.2 | (with_reducible refine Kd.C_alloc ?_ _) | (with_reducible refine Kd.C_drewN ?_ _) | (with_reducible refine Kd.C_drew ?_))); (case side2 => exact (Kd.R_reads' HO236.out).2.1); rintro e w59 ⟨v239, rfl, ho0, hb⟩; refine ⟨_, rfl, ?_⟩; have n0_ := Aside0.mk (Kd.R_elder' (by (with_reducible repeat (first | apply Kd.R_alloc | apply Kd.R_drewN | apply Kd.R_drew)); exact HO_4.out) (Kd.R_base ho0) hb); have n1_ := Aside0.mk (Kd.R_elder' (by (with_reducible repeat (first | apply Kd.R_alloc | apply Kd.R_drewN | apply Kd.R_drew)); exact HO_6.out) (Kd.R_base ho0) hb); have n2_ := Aside0.mk (Kd.R_elder' (by (with_reducible repeat (first | apply Kd.R_alloc | apply Kd.R_drewN | apply Kd.R_drew)); exact HO_219000.out) (Kd.R_base ho0) hb); have n3_ := Aside0.mk (Kd.R_elder' (by (with_reducible repeat (first | apply Kd.R_alloc | apply Kd.R_drewN | apply Kd.R_drew)); exact HO236.out) (Kd.R_base ho0) hb); have n4_ := Aside0.mk (Kd.R_lower (Kd.R_new' (Kd.R_new' (Kd.R_new' (Kd.R_new' ho0 (Kd.R_lt (by (with_reducible repeat (first | apply Kd.R_alloc | apply Kd.R_drewN | apply Kd.R_drew)); exact HO_4.out))) (Kd.R_lt (by (with_reducible repeat (first | apply Kd.R_alloc | apply Kd.R_drewN | apply Kd.R_drew)); exact HO_6.out))) (Kd.R_lt (by (with_reducible repeat (first | apply Kd.R_alloc | apply Kd.R_drewN | apply Kd.R_drew)); exact HO_219000.out))) (Kd.R_lt (by (with_reducible repeat (first | apply Kd.R_alloc | apply Kd.R_drewN | apply Kd.R_drew)); exact HO236.out))) (below_size (by repeat (first | (with_reducible first | exact HB.out | apply below_alloc | apply pw_below_drewN | apply below_drew1 | refine below_set ?_ GE205.out | refine below_set ?_ GE218.out) | exact HB.out)))); have n5_ := Aside0.mk (blk_below (g := gb205) (o := .cells #[.slice A0_0 l0_0.length c0_0, .int .i64 a0_1] 37 (0, 0)) (by (with_reducible repeat (first | refine blk_drewN ?_ _ | refine blk_drew ?_ | refine blk_alloc ?_ _)); exact BK205.out) hb); have n6_ := Aside0.mk (blk_below (g := gb218) (o := .cells #[.slice Ao28 t229.length co28, .int .i64 t217] 24 (0, 0)) (by (with_reducible repeat (first | refine blk_drewN ?_ _ | refine blk_drew ?_ | refine blk_alloc ?_ _)); exact BK218.out) hb); have n7_ := Aside0.mk (below_step (by repeat (first | (with_reducible first | exact HB.out | apply below_alloc | apply pw_below_drewN | apply below_drew1 | refine below_set ?_ GE205.out | refine below_set ?_ GE218.out) | exact HB.out)) hb); clear HO_4; clear HO_6; clear HO_219000; clear HO236; clear BK205; clear BK218; clear HB; have HO_4 := n0_; have HO_6 := n1_; have HO_219000 := n2_; have HO236 := n3_; have HO240 := n4_; have BK205 := n5_; have BK218 := n6_; have HB := n7_; clear n0_ n1_ n2_ n3_ n4_ n5_ n6_ n7_; (try clear hb); (try clear hb2); (try clear hk); (try clear hi); (try clear ho0); obtain ⟨Ao60, co60, eo60⟩ := Kd.R_slice HO240.out; subst eo60) | ((with_reducible refine gate_callee (f := 80) rfl ?_); refine goesL_ (some 59) rfl rfl Try.func80 (by kernel_rfl) rfl #[.slice Ao60 t238.length co60, .slice Ao33 t211.length co33] rfl (by (try simp only [List.map_toArray, List.map_cons, List.map_nil]); first | done | rfl | (simp only [List.length_drop, List.length_take]; rfl)) ?_; (with_reducible refine (laws_eqIntS.calls kj16 _ _ t238 _ _ t211 true _ ?side1 ?side2 ?side3 ?side4 A49.out).mono ?_); (case side1 => repeat (first | exact (Kd.R_reads' HO240.out).2.2 | (with_reducible refine Kd.C_alloc ?_ _) | (with_reducible refine Kd.C_drewN ?_ _) | (with_reducible refine Kd.C_drew ?_))); (case side2 => exact (Kd.R_reads' HO240.out).2.1); (case side3 => repeat (first | exact (Kd.R_reads' HO_4.out).2.2 | (with_reducible refine Kd.C_alloc ?_ _) | (with_reducible refine Kd.C_drewN ?_ _) | (with_reducible refine Kd.C_drew ?_))); (case side4 => exact (Kd.R_reads' HO_4.out).2.1); rintro e w' ⟨rfl, ⟨nd, rfl⟩⟩; refine ⟨_, rfl, ?_⟩) | ((with_reducible refine gate_callee (f := 82) rfl ?_); refine goesL_ (some 63) rfl rfl Try.func82 (by kernel_rfl) rfl #[.slice Ao32 t232.length co32, .int .i64 1] rfl (by (try simp only [List.map_toArray, List.map_cons, List.map_nil]); first | done | (rw [show t232.length = t219.length from (Kd.R_reads' HO_6.out).1.symm] <;> rfl) | rfl | (simp only [List.length_drop, List.length_take]; rfl)) ?_; (with_reducible refine (laws_heldIntS.calls kj16 _ _ t232 1 t242 _ ?side1 ?side2 A51.out).mono ?_); (case side1 => repeat (first | exact (Kd.R_reads' HO_6.out).2.2 | (with_reducible refine Kd.C_alloc ?_ _) | (with_reducible refine Kd.C_drewN ?_ _) | (with_reducible refine Kd.C_drew ?_))); (case side2 => rw [show t232.length = t219.length from (Kd.R_reads' HO_6.out).1.symm]; exact (Kd.R_reads' HO_6.out).2.1); rintro e w' ⟨rfl, ⟨nd, rfl⟩⟩; refine ⟨_, rfl, ?_⟩))
                        go_ret
                        exact ⟨by first | rfl | (simp [errW_none, errW_some] <;> rfl) | (simp [*, errW_none, errW_some] <;> rfl), by repeat (first | (with_reducible first | exact HB.out | apply below_alloc | apply pw_below_drewN | apply below_drew1 | refine below_set ?_ GE205.out | refine below_set ?_ GE218.out) | exact HB.out)⟩
                      · rw [if_neg c53] at H
                        exact absurd H (by simp)
                  · replace c50 := Bool.eq_false_iff.mpr c50
                    subst c50
                    have H1 : (none) = some r := by rw [if_neg (show ¬ (false = true) by decide)] at H; exact H
                    clear H
                    have H := H1
                    clear H1
                    exact absurd H (by simp)
                · rw [if_neg c46] at H
                  exact absurd H (by simp)
      · replace c15 := Bool.eq_false_iff.mpr c15
        subst c15
        have H1 : (none) = some r := by rw [if_neg (show ¬ (false = true) by decide)] at H; exact H
        clear H
        have H := H1
        clear H1
        exact absurd H (by simp)
    · replace c12 := Bool.eq_false_iff.mpr c12
      subst c12
      have H1 : (none) = some r := by rw [if_neg (show ¬ (false = true) by decide)] at H; exact H
      clear H
      have H := H1
      clear H1
      exact absurd H (by simp)

end Go.Proofs.Ytcjkkcjnlcehnaa.PFnExactWordsOf
