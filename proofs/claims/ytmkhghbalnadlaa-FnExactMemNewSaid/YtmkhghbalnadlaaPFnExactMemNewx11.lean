/- Contracts of functions of the program: each says that the call does what a plain Lean function tells. Made by programs of this session and of the kit. No condition beyond the hypotheses that each theorem names. -/
import Derived.Laws.CopyOwn
import Derived.Test.YtmkhghbalnadlaaPFnExactMemNewx0
import Derived.Test.YtmkhghbalnadlaaPFnExactMemNewx8
import Derived.Test.YtmkhghbalnadlaaPFnExactMemNewx10
namespace Go.Proofs.Ytmkhghbalnadlaa.PFnExactMemNew
open Go.RowKit Go.Proofs.YtmkhghbalnadlaaW.PrintWords Go.Proofs.YtmkhghbalnadlaaW.PrintLast Go.Proofs.YtmkhghbalnadlaaW.PrintMore
attribute [local go_sem] max2_int min2_int max_two min_two max_three min_three max_four min_four   -- for this text's walks alone
set_option linter.unusedVariables false
set_option linter.unusedSimpArgs false

/-! ### impl_ClassOf: function 143 -/
def impl_ClassOf.f (a0 : Int) : Option (Int) := (impl_ValOk.f a0).bind fun t289 => (if t289 = true then (some (Int.tmod a0 3)) else (some (-1)))
set_option maxHeartbeats 8000000 in
set_option maxRecDepth 100000 in
theorem impl_ClassOf.calls (a0 : Int) (r : Int) (w : World) (h : impl_ClassOf.f a0 = some r) :
    Calls Try.prog 143 #[.int .i64 a0] w fun e w' => e = .returned (.int .i64 r) ∧ Drawn0 w w' := by
 have H : ((impl_ValOk.f a0).bind fun t289 => (if t289 = true then (some (Int.tmod a0 3)) else (some (-1)))) = some r := h
 clear h
 replace H := bs_ H
 obtain ⟨t289, A2, H⟩ := H
 by_cases c3 : t289 = true
 ·
  subst c3
  replace H := it_ H
  obtain rfl := Option.some.inj H
  go_enter Try.func143, Try.ntmps143
  go_wp2_with (first | ((with_reducible refine gate_callee (f := 85) rfl ?_); refine goesL_ (some 4) rfl rfl Try.func85 (by kernel_rfl) rfl #[.int .i64 a0] rfl al_ ?_; (with_reducible refine (impl_ValOk.calls a0 true _ A2.out).mono ?_); rintro e w' ⟨rfl, ⟨nd, rfl⟩⟩; refine ⟨_, rfl, ?_⟩))
  go_ret
  exact ⟨rt_, by repeat (first | exact Drawn0.refl _ | apply Drawn0.step)⟩
 obtain rfl := Bool.eq_false_iff.mpr c3
 replace H := iF_ H
 obtain rfl := Option.some.inj H
 go_enter Try.func143, Try.ntmps143
 go_wp2_with (first | ((with_reducible refine gate_callee (f := 85) rfl ?_); refine goesL_ (some 4) rfl rfl Try.func85 (by kernel_rfl) rfl #[.int .i64 a0] rfl al_ ?_; (with_reducible refine (impl_ValOk.calls a0 false _ A2.out).mono ?_); rintro e w' ⟨rfl, ⟨nd, rfl⟩⟩; refine ⟨_, rfl, ?_⟩))
 go_ret
 exact ⟨rt_, by repeat (first | exact Drawn0.refl _ | apply Drawn0.step)⟩

/-! ### impl_StateAt: function 145 -/
def impl_StateAt.f  : Option (Int) := some 13
set_option maxHeartbeats 8000000 in
set_option maxRecDepth 100000 in
theorem impl_StateAt.calls  (r : Int) (w : World) (h : impl_StateAt.f  = some r) :
    Calls Try.prog 145 #[] w fun e w' => e = .returned (.int .i64 r) ∧ Drawn0 w w' := by
 have H : (some 13) = some r := h
 clear h
 obtain rfl := Option.some.inj H
 go_enter Try.func145, Try.ntmps145
 go_wp2
 go_ret
 exact ⟨rt_, by repeat (first | exact Drawn0.refl _ | apply Drawn0.step)⟩

/-! ### impl_ViaAt: function 144 -/
def impl_ViaAt.f (a0 : Int) : Option (Int) := (impl_ValOk.f a0).bind fun t290 => ((impl_StateAt.f).bind fun t291 => ((impl_placed.f t290 (wrap64 (t291 + a0))).bind fun t292 => (some t292)))
set_option maxHeartbeats 8000000 in
set_option maxRecDepth 100000 in
theorem impl_ViaAt.calls (a0 : Int) (r : Int) (w : World) (h : impl_ViaAt.f a0 = some r) :
    Calls Try.prog 144 #[.int .i64 a0] w fun e w' => e = .returned (.int .i64 r) ∧ Drawn0 w w' := by
 have H : ((impl_ValOk.f a0).bind fun t290 => ((impl_StateAt.f).bind fun t291 => ((impl_placed.f t290 (wrap64 (t291 + a0))).bind fun t292 => (some t292)))) = some r := h
 clear h
 replace H := bs_ H
 obtain ⟨t290, A2, H⟩ := H
 replace H := bs_ H
 obtain ⟨t291, A3, H⟩ := H
 replace H := bs_ H
 obtain ⟨t292, A4, H⟩ := H
 obtain rfl := Option.some.inj H
 go_enter Try.func144, Try.ntmps144
 go_wp2_with (first | ((with_reducible refine gate_callee (f := 85) rfl ?_); refine goesL_ (some 4) rfl rfl Try.func85 (by kernel_rfl) rfl #[.int .i64 a0] rfl al_ ?_; (with_reducible refine (impl_ValOk.calls a0 t290 _ A2.out).mono ?_); rintro e w' ⟨rfl, ⟨nd, rfl⟩⟩; refine ⟨_, rfl, ?_⟩) | ((with_reducible refine gate_callee (f := 145) rfl ?_); refine goesL_ (some 5) rfl rfl Try.func145 (by kernel_rfl) rfl #[] rfl al_ ?_; (with_reducible refine (impl_StateAt.calls  t291 _ A3.out).mono ?_); rintro e w' ⟨rfl, ⟨nd, rfl⟩⟩; refine ⟨_, rfl, ?_⟩) | ((with_reducible refine gate_callee (f := 156) rfl ?_); refine goesL_ (some 8) rfl rfl Try.func156 (by kernel_rfl) rfl #[.bool t290, .int .i64 (wrap64 (t291 + a0))] rfl al_ ?_; (with_reducible refine (impl_placed.calls t290 (wrap64 (t291 + a0)) t292 _ A4.out).mono ?_); rintro e w' ⟨rfl, ⟨nd, rfl⟩⟩; refine ⟨_, rfl, ?_⟩))
 go_ret
 exact ⟨rt_, by repeat (first | exact Drawn0.refl _ | apply Drawn0.step)⟩

/-- copy into a row that the call made: the head of the row is the source's, as far as both go. -/
theorem R_copy_ {P : Program} {ops : Array Oper} {o : Oper} {a : Act} {Q : Exit → Act → World → Prop} {rest : List Oper} {α : Type} {enc : α → Value} (d : α) {h1 : ∀ x, (enc x).oneCell' = true} {w0 W : World} (base : Nat) (hgd : o.guard = none) (s x : Operand) (t e : TypeId)
  (ho : o.op = .call { callee := .builtin .copy, args := #[s, x], argTypes := #[t, t] }) (ht : P.underlying t = some (.slice e)) (hsz : (P.info? e).map (·.size) = some 1)
  (v : Value) (xs ys : List α) (A : Option Addr) (m c : Nat) (ok : Nat → Prop) (hs : a.eval s = v) (hx : a.eval x = .slice A m c)
  (HO : (Kd.scalar enc h1).R e W base ok v xs) (HR : (Kd.scalar enc h1).C W A m ys) (HB : Below base w0 W) (hpos : 0 < xs.length)
  (h : ∀ n w1, (Kd.scalar enc h1).R e w1 base ok v (ys.take xs.length ++ xs.drop ys.length) → Below base w0 w1 → W.grownBy w1 v.ownBlock → wpList P ops Q rest (a.put o.dst (goInt n)) w1) : wpList P ops Q (o :: rest) a W := by
 obtain ⟨hlen, hv⟩ := Kd.own_of_R HO
 have hok := HO.1
 have hrd := Kd.reads_of_C (d := d) HR
 rcases hv with ⟨_, h0⟩ | ⟨g, cap, cur, rfl, hbg, hg, hnc, hcm, hcs, htk⟩
 ·
  omega
 rw [Nat.mul_one] at hcs htk
 have hm : ys.length = m := hrd.1
 obtain ⟨q, hq⟩ : ∃ q, q = Nat.min m xs.length := ⟨_, rfl⟩
 have q1 : q ≤ m := hq ▸ Nat.min_le_left m xs.length
 have q2 : q ≤ xs.length := hq ▸ Nat.min_le_right m xs.length
 have q3 : q = m ∨ q = xs.length := by
  rcases Nat.le_total m xs.length with hle | hle
  ·
   exact .inl (hq.trans (Nat.min_eq_left hle))
  exact .inr (hq.trans (Nat.min_eq_right hle))
 have hcl : (encs enc (ys.take xs.length)).length = q := by
  rw [encs_length, List.length_take, hm]; exact (Nat.min_comm _ _).trans hq.symm
 have hcs2 : cur.toList.length = cap := by simpa using hcs
 have hcat : encs enc (ys.take xs.length ++ xs.drop ys.length) = encs enc (ys.take xs.length) ++ (encs enc xs).drop ys.length := by simp [encs]
 have hfin : ∀ w1 : World, w1.heap[g]? = some (.cells (encs enc (ys.take xs.length) ++ cur.toList.drop (encs enc (ys.take xs.length)).length).toArray e (0, 0)) → (Kd.scalar enc h1).R e w1 base ok (.slice (some ⟨g, 0, none⟩) xs.length cap) (ys.take xs.length ++ xs.drop ys.length) := by
  intro w1 hw
  have hl : (ys.take xs.length ++ xs.drop ys.length).length = xs.length := by
   rw [List.length_append, List.length_take, List.length_drop]; omega
  refine Kd.R_of_own ⟨by rw [encs_length, Nat.mul_one], .inr ⟨g, cap, _, by rw [hl], hbg, hw, by rw [hl]; exact hnc, hcm, ?_, ?_⟩⟩ hok
  ·
   rw [Nat.mul_one, List.size_toArray, List.length_append, List.length_drop, hcl, hcs2]
   omega
  rw [hl, Nat.mul_one, hcat]
  show (encs enc (ys.take xs.length) ++ cur.toList.drop (encs enc (ys.take xs.length)).length).take xs.length = _
  rw [List.take_append, hcl, List.take_of_length_le (by rw [hcl]; exact q2), ← htk, ← List.drop_take]
  congr 1
  have e1 : q + (xs.length - q) = xs.length := by omega
  rcases q3 with h3 | h3
  ·
   rw [h3, hm]
  rw [h3, hm, List.drop_of_length_le (by rw [List.length_take]; omega), List.drop_of_length_le (by rw [List.length_take]; omega)]
 by_cases h0 : (encs enc (ys.take xs.length)).length = 0
 ·
  refine wpList_copy_nothing hgd s x t t ho e ht hsz (some ⟨g, 0, none⟩) A xs.length cap m c hs hx (by rw [← hq, ← hcl]; exact h0) ?_
  refine h 0 W (hfin W ?_) HB (World.grownBy.refl _ _)
  rw [List.eq_nil_of_length_eq_zero h0]
  simpa using hg
 obtain ⟨ad, rfl, hcell⟩ := hrd.2.2 (by omega)
 refine wpList_copy_own hgd s x t t ho e ht hsz g 0 xs.length cap ad m c hs hx cur e hg (encs enc (ys.take xs.length)) (hcl.trans hq) ?_ ?_ ?_ ?_
 ·
  intro j u hu
  obtain ⟨hj, hju⟩ := List.getElem?_eq_some_iff.1 hu
  have hj2 : j < m := by omega
  have := hcell j hj2
  rw [this, ← hju]
  simp only [encs, List.getElem_map, List.getElem_take]
  rw [List.getD_eq_getElem?_getD, List.getElem?_eq_getElem (by omega)]
  rfl
 ·
  rw [hcl]
  omega
 ·
  intro u hu
  simp only [encs, List.mem_map] at hu
  obtain ⟨p, _, rfl⟩ := hu
  exact h1 p
 refine h _ _ (hfin _ ?_) (below_setRow HB hbg _) ⟨rfl, rfl, rfl, by simp [World.setRow], fun k hk hne => setRow_other W g k _ (fun e => hne (by rw [e]; rfl))⟩
 have := setRow_heap W g cur (cur.toList.take 0 ++ (encs enc (ys.take xs.length) ++ cur.toList.drop (0 + (encs enc (ys.take xs.length)).length))).toArray e (0, 0) hg
 rw [this]
 simp
theorem copysz_ : (Try.prog.info? 3).map (·.size) = some 1 := by kernel_rfl
/-! ### impl_WordsOf: function 95 -/
def impl_WordsOf.l0 : Nat → List Int → List Int → Int → Int → List Int → Int → Option (List Int)
 | 0, _, _, _, _, _, _ => none
 | k + 1, x3, x15, x16, x17, x294000, x294001 => if x17 < x16 then (if 0 ≤ x17 then (if x17 < (x15.length : Int) then (if (rd x15 x17) = 0 then (impl_WordsOf.l0 k x3 x15 x16 (wrap64 (x17 + 1)) x294000 x294001) else ((impl_OwnerAt.f (rd x15 x17)).bind fun t304 => (if 0 ≤ t304 then (if t304 < (x3.length : Int) then ((some (x3.set (t304 : Int).toNat (wrap64 (x17 + 1)) : List Int)).bind fun y305 => ((impl_ClassOf.f (rd x15 x17)).bind fun t306 => ((impl_CountAt.f t306).bind fun t307 => (if 0 ≤ t307 then (if t307 < (x3.length : Int) then ((some (y305.set (t307 : Int).toNat (wrap64 ((rd y305 t307) + 1)) : List Int)).bind fun y309 => (if x17 < (wrap64 (x294001 - 1)) then ((impl_ViaAt.f (rd x15 x17)).bind fun t310 => (if 0 ≤ t310 then (if t310 < (x3.length : Int) then (impl_WordsOf.l0 k (y309.set (t310 : Int).toNat (wrap64 (x17 + 1))) x15 x16 (wrap64 (x17 + 1)) x294000 x294001) else (none)) else (none))) else (impl_WordsOf.l0 k y309 x15 x16 (wrap64 (x17 + 1)) x294000 x294001))) else (none)) else (none))))) else (none)) else (none)))) else (none)) else (none)) else ((impl_StateAt.f).bind fun t301 => (if 0 ≤ t301 then (if t301 < (x3.length : Int) then (some (x3.set (t301 : Int).toNat x294001)) else (none)) else (none)))
def impl_WordsOf.f (k : Nat) (l0_0 : List Int) (a0_1 : Int) : Option (List Int) := (impl_RowsOk.f k l0_0 a0_1).bind fun t294 => (if t294 = true then (if 20 ≤ 35184372088832 then ((some (List.replicate 20 0 : List Int)).bind fun y295 => (if y295.length + l0_0.length < 17592186044416 then (impl_WordsOf.l0 k (l0_0.take y295.length ++ y295.drop l0_0.length) l0_0 (l0_0.length : Int) 0 l0_0 a0_1) else (none))) else (none)) else (some ([] : List Int)))
theorem impl_WordsOf.mono_l : ∀ k, (∀ y0 y1 y2 y3 y4 y5, LeO (impl_WordsOf.l0 k y0 y1 y2 y3 y4 y5) (impl_WordsOf.l0 (k + 1) y0 y1 y2 y3 y4 y5))
 | 0 => fun _ _ _ _ _ _ r h => by simp [impl_WordsOf.l0] at h
 | k + 1 => by
  have ih0 := impl_WordsOf.mono_l k
  ·
   intro y0 y1 y2 y3 y4 y5
   unfold impl_WordsOf.l0
   repeat' first | (with_reducible first | apply ih0 | apply impl_RowsOk.mono | apply LeO.refl | apply LeO.none | apply LeO.ite | refine LeO.bind ?_ (fun _ => ?_)) | apply ih0 | apply impl_RowsOk.mono | apply LeO.none | apply LeO.ite | refine LeO.bind ?_ (fun _ => ?_)
theorem impl_WordsOf.mono : ∀ a0 a1 k, LeO (impl_WordsOf.f k a0 a1) (impl_WordsOf.f (k + 1) a0 a1) := by
 intro a0 a1 k
 have ih0 := impl_WordsOf.mono_l k
 unfold impl_WordsOf.f
 repeat' first | (with_reducible first | apply ih0 | apply impl_RowsOk.mono | apply LeO.refl | apply LeO.none | apply LeO.ite | refine LeO.bind ?_ (fun _ => ?_)) | apply ih0 | apply impl_RowsOk.mono | apply LeO.none | apply LeO.ite | refine LeO.bind ?_ (fun _ => ?_)
set_option maxHeartbeats 8000000 in
set_option maxRecDepth 100000 in
theorem impl_WordsOf.calls (k : Nat) (A0_0 : Option Addr) (c0_0 : Nat) (l0_0 : List Int) (a0_1 : Int) (r : List Int) (w : World) (hr0_0 : Kd.C (Kd.int .i64) w A0_0 l0_0.length l0_0) (hc0_0 : l0_0.length ≤ c0_0) (h : impl_WordsOf.f k l0_0 a0_1 = some r) :
    Calls Try.prog 95 #[.agg #[.slice A0_0 l0_0.length c0_0, .int .i64 a0_1]] w fun e w' => ∃ v0_ : Value, e = .returned (v0_) ∧ Kd.R (Kd.int .i64) 3 w' w.heap.size (fun _ => True) v0_ r ∧ Below w.heap.size w w' := by
 have hu44 := Try.underlying44
 have HR0_0 := A_ hr0_0
 have HC0_0 := A_ hc0_0
 clear hr0_0 hc0_0
 have HB := A_ (Below.refl w.heap.size w)
 have H : ((impl_RowsOk.f k l0_0 a0_1).bind fun t294 => (if t294 = true then (if 20 ≤ 35184372088832 then ((some (List.replicate 20 0 : List Int)).bind fun y295 => (if y295.length + l0_0.length < 17592186044416 then (impl_WordsOf.l0 k (l0_0.take y295.length ++ y295.drop l0_0.length) l0_0 (l0_0.length : Int) 0 l0_0 a0_1) else (none))) else (none)) else (some ([] : List Int)))) = some r := h
 clear h
 replace H := bs_ H
 obtain ⟨t294, A2, H⟩ := H
 by_cases c3 : t294 = true
 ·
  subst c3
  replace H := it_ H
  by_cases c4 : 20 ≤ 35184372088832
  ·
   rw [if_pos c4] at H
   have c4b0 := eq_true c4
   have c4b1 : decide (20 ≤ 35184372088832) = true := decide_eq_true c4
   clear c4
   obtain ⟨y295, hy295⟩ : ∃ y_ : List Int, y_ = (List.replicate 20 0) := ⟨_, rfl⟩
   replace H : (if y295.length + l0_0.length < 17592186044416 then (impl_WordsOf.l0 k (l0_0.take y295.length ++ y295.drop l0_0.length) l0_0 (l0_0.length : Int) 0 l0_0 a0_1) else (none)) = some r := by first | (rw [hy295]; with_reducible exact H) | (have H2_ := (Option.bind_some _ _).symm.trans H; rw [hy295]; with_reducible exact H2_) | (have H2_ := (Option.bind_some _ _).symm.trans H; with_reducible exact H2_) | with_reducible exact H | (rw [hy295]; exact H) | exact H
   have Ny295 := A_ hy295
   clear hy295
   by_cases c5 : y295.length + l0_0.length < 17592186044416
   ·
    rw [if_pos c5] at H
    have LMc5 := A_ c5
    clear c5
    obtain ⟨y298, hy298⟩ : ∃ y_ : List Int, y_ = (l0_0.take y295.length ++ y295.drop l0_0.length) := ⟨_, rfl⟩
    replace H : (impl_WordsOf.l0 k y298 l0_0 (l0_0.length : Int) 0 l0_0 a0_1) = some r := by first | (rw [hy298]; with_reducible exact H) | (have H2_ := (Option.bind_some _ _).symm.trans H; rw [hy298]; with_reducible exact H2_) | (have H2_ := (Option.bind_some _ _).symm.trans H; with_reducible exact H2_) | with_reducible exact H | (rw [hy298]; exact H) | exact H
    have Ny298 := A_ hy298
    clear hy298
    replace H' := A_ H; clear H
    go_enter Try.func95, Try.ntmps95
    go_wp2_with (first | ((with_reducible refine gate_dst (N := 1) rfl ?_); refine bx_ HB rfl (N := 1) rfl (cs := #[.slice A0_0 l0_0.length c0_0, .int .i64 a0_1]) (t := 44) hr_ ?_; clear HB; intro gb293 w6 hg hb BK293 GW293 HB; clear hb hg; obtain ⟨hcz7_0, hcz7_1, hfz7_0, hfz7_1⟩ := cz2_ BK293) | ((with_reducible refine gate_callee (f := 37) rfl ?_); refine goesL_ (some 7) rfl rfl Try.func37 (by kernel_rfl) rfl #[.agg #[.slice A0_0 l0_0.length c0_0, .int .i64 a0_1]] rfl al_ ?_; (with_reducible refine (impl_RowsOk.calls k _ _ l0_0 a0_1 true _ ?side1 ?side2 A2.out).mono ?_); (case side1 => exact cb_ (Kd.C_below HR0_0.out HB.out)); (case side2 => exact HC0_0.out); rintro e w8 ⟨rfl, hb⟩; refine ⟨_, rfl, ?_⟩; replace BK293 := bb_ BK293 hb; replace HB := hs_ HB hb; (try clear hb); (try clear hb2); (try clear hk); (try clear hi)) | ((with_reducible refine gate_dst (N := 9) rfl ?_); refine Kd.R_make (Kd.int .i64) _ 3 rfl (N := 9) rfl 35 _ _ rfl 20 rfl rfl Try.underlying35 (.int .i64 0) 8 info3 rfl (by decide) (by omega) 0 (ok := fun _ => True) (okp := fun _ => True) rfl (fun _ hk => hk) trivial (by omega) (by omega) (Below.refl _ _) (Nat.le_refl _) ?_; intro v296 w9 ho10 hb hg_ hnew_; clear hg_ hnew_; (first | rw [← Ny295.out] at ho10 | (simp only [Int.reduceToNat] at ho10; rw [← Ny295.out] at ho10)); have HO297 := A_ (Kd.R_lower ho10 (below_size (hb_ HB))); replace BK293 := bb_ BK293 hb; replace HB := hs_ HB hb; clear hb ho10; obtain ⟨hcz11_0, hcz11_1, hfz11_0, hfz11_1⟩ := cz2_ BK293) | ((with_reducible refine gate_builtin (b := .copy) (xs := #[.tmp 10, .tmp 12]) rfl ?_); refine R_copy_ (enc := fun n : Int => Value.int .i64 n) (0 : Int) (h1 := fun _ => rfl) (w0 := w) w.heap.size rfl (.tmp 10) (.tmp 12) 35 3 rfl Try.underlying35 copysz_ v296 y295 l0_0 _ _ _ (fun _ => True) rfl rfl ?aO ?aR ?aB ?aP ?_; (case aR => exact cb_ (Kd.C_below HR0_0.out HB.out)); (case aB => exact (hb_ HB)); (case aO => exact (rb_ HO297.out)); (case aP => rw [Ny295.out]; decide); intro n_ w12 ho hb hg; rw [← Ny298.out] at ho; have HO300 := A_ ho; replace BK293 := A_ (blk_grown (g := gb293) (o := .cells #[.slice A0_0 l0_0.length c0_0, .int .i64 a0_1] 44 (0, 0)) (bk_ BK293) hg (Kd.R_ne HO297.out BK293.out (by decide))); replace HB := A_ hb; clear HO297; clear ho hb hg; obtain ⟨hcz13_0, hcz13_1, hfz13_0, hfz13_1⟩ := cz2_ BK293))
    go_loopg [17] k (fun kq v17 w' => ∃ (x3_1 : List Int) (x17_1 : Int), v17 = .int .i64 x17_1 ∧ Aside0 (impl_WordsOf.l0 kq x3_1 l0_0 (l0_0.length : Int) x17_1 l0_0 a0_1 = some r) ∧ Aside0 (kq ≤ k) ∧ Aside0 (Kd.R (Kd.int .i64) 3 w' w.heap.size (fun _ => True) v296 x3_1) ∧ Aside0 (w'.heap[gb293]? = some (.cells #[(.slice A0_0 l0_0.length c0_0), .int .i64 a0_1] 44 (0, 0))) ∧ Aside0 (Below w.heap.size w w'))
    case atStart => exact ⟨(y298), (0), rt_, H', ⟨Nat.le_refl _⟩, ⟨rb_ HO300.out⟩, ⟨bk_ BK293⟩, ⟨hb_ HB⟩⟩
    case round =>
     clear H'
     try clear c3
     try clear c4
     try clear c4b0
     try clear c4b1
     try clear c5
     obtain ⟨x3_1, x17_1, rfl, HA, HK1, HO_3, BK293, HB⟩ := hrel
     cases gk with
     | zero => exact absurd HA.out (by simp [impl_WordsOf.l0])
     | succ k1 =>
      have H := HA.out
      clear HA
      simp only [impl_WordsOf.l0] at H
      replace H := ic_ H
      rcases H with ⟨c14b0, H⟩ | ⟨c14b0, H⟩
      ·
       replace H := ix_ H
       obtain ⟨c15b0, H⟩ := H
       replace H := ix_ H
       obtain ⟨c16b0, H⟩ := H
       by_cases c17 : (rd l0_0 x17_1) = 0
       ·
        rw [if_pos c17] at H
        have c17b0 : ((rd l0_0 x17_1) == 0) = true := beq_iff_eq.mpr c17
        have c17b1 : ((rd l0_0 x17_1) != 0) = false := bne_eq_false_iff_eq.mpr c17
        clear c17
        replace H' := A_ H; clear H
        obtain ⟨ad303, p303, q303, rfl, hx303_0⟩ := ab_int HB HR0_0 x17_1
        go_wp2
        go_roundg k1
        case measure => have := HK1.out; omega
        case rel => exact ⟨(x3_1), (wrap64 (x17_1 + 1)), rt_, H', ⟨by have := HK1.out; omega⟩, ⟨rb_ HO_3.out⟩, ⟨bk_ BK293⟩, ⟨hb_ HB⟩⟩
       rw [if_neg c17] at H
       have c17b0 : ((rd l0_0 x17_1) == 0) = false := beq_eq_false_iff_ne.mpr c17
       have c17b1 : ((rd l0_0 x17_1) != 0) = true := bne_iff_ne.mpr c17
       replace H := bs_ H
       obtain ⟨t304, A18, H⟩ := H
       replace H := ix_ H
       obtain ⟨c19b0, H⟩ := H
       replace H := ix_ H
       obtain ⟨c20b0, H⟩ := H
       obtain ⟨y305, hy305⟩ : ∃ y_ : List Int, y_ = (x3_1.set (t304 : Int).toNat (wrap64 (x17_1 + 1))) := ⟨_, rfl⟩
       replace H : ((impl_ClassOf.f (rd l0_0 x17_1)).bind fun t306 => ((impl_CountAt.f t306).bind fun t307 => (if 0 ≤ t307 then (if t307 < (x3_1.length : Int) then ((some (y305.set (t307 : Int).toNat (wrap64 ((rd y305 t307) + 1)) : List Int)).bind fun y309 => (if x17_1 < (wrap64 (a0_1 - 1)) then ((impl_ViaAt.f (rd l0_0 x17_1)).bind fun t310 => (if 0 ≤ t310 then (if t310 < (x3_1.length : Int) then (impl_WordsOf.l0 k1 (y309.set (t310 : Int).toNat (wrap64 (x17_1 + 1))) l0_0 (l0_0.length : Int) (wrap64 (x17_1 + 1)) l0_0 a0_1) else (none)) else (none))) else (impl_WordsOf.l0 k1 y309 l0_0 (l0_0.length : Int) (wrap64 (x17_1 + 1)) l0_0 a0_1))) else (none)) else (none)))) = some r := by first | (rw [hy305]; with_reducible exact H) | (have H2_ := (Option.bind_some _ _).symm.trans H; rw [hy305]; with_reducible exact H2_) | (have H2_ := (Option.bind_some _ _).symm.trans H; with_reducible exact H2_) | with_reducible exact H | (rw [hy305]; exact H) | exact H
       have Ny305 := A_ hy305
       clear hy305
       replace H := bs_ H
       obtain ⟨t306, A22, H⟩ := H
       replace H := bs_ H
       obtain ⟨t307, A23, H⟩ := H
       replace H := ix_ H
       obtain ⟨c24b0, H⟩ := H
       replace H := ix_ H
       obtain ⟨c25b0, H⟩ := H
       obtain ⟨y309, hy309⟩ : ∃ y_ : List Int, y_ = (y305.set (t307 : Int).toNat (wrap64 ((rd y305 t307) + 1))) := ⟨_, rfl⟩
       replace H : (if x17_1 < (wrap64 (a0_1 - 1)) then ((impl_ViaAt.f (rd l0_0 x17_1)).bind fun t310 => (if 0 ≤ t310 then (if t310 < (x3_1.length : Int) then (impl_WordsOf.l0 k1 (y309.set (t310 : Int).toNat (wrap64 (x17_1 + 1))) l0_0 (l0_0.length : Int) (wrap64 (x17_1 + 1)) l0_0 a0_1) else (none)) else (none))) else (impl_WordsOf.l0 k1 y309 l0_0 (l0_0.length : Int) (wrap64 (x17_1 + 1)) l0_0 a0_1)) = some r := by first | (rw [hy309]; with_reducible exact H) | (have H2_ := (Option.bind_some _ _).symm.trans H; rw [hy309]; with_reducible exact H2_) | (have H2_ := (Option.bind_some _ _).symm.trans H; with_reducible exact H2_) | with_reducible exact H | (rw [hy309]; exact H) | exact H
       have Ny309 := A_ hy309
       clear hy309
       replace H := ic_ H
       rcases H with ⟨c27b0, H⟩ | ⟨c27b0, H⟩
       ·
        replace H := bs_ H
        obtain ⟨t310, A28, H⟩ := H
        replace H := ix_ H
        obtain ⟨c29b0, H⟩ := H
        replace H := ix_ H
        obtain ⟨c30b0, H⟩ := H
        obtain ⟨y311, hy311⟩ : ∃ y_ : List Int, y_ = (y309.set (t310 : Int).toNat (wrap64 (x17_1 + 1))) := ⟨_, rfl⟩
        replace H : (impl_WordsOf.l0 k1 y311 l0_0 (l0_0.length : Int) (wrap64 (x17_1 + 1)) l0_0 a0_1) = some r := by first | (rw [hy311]; with_reducible exact H) | (have H2_ := (Option.bind_some _ _).symm.trans H; rw [hy311]; with_reducible exact H2_) | (have H2_ := (Option.bind_some _ _).symm.trans H; with_reducible exact H2_) | with_reducible exact H | (rw [hy311]; exact H) | exact H
        have Ny311 := A_ hy311
        clear hy311
        replace H' := A_ H; clear H
        obtain ⟨ad303, p303, q303, rfl, hx303_0⟩ := ab_int HB HR0_0 x17_1
        go_wp2_with (first | ((with_reducible refine gate_callee (f := 141) rfl ?_); refine goesL_ (some 26) rfl rfl Try.func141 (by kernel_rfl) rfl #[.int .i64 (rd l0_0 x17_1)] rfl al_ ?_; (with_reducible refine (impl_OwnerAt.calls (rd l0_0 x17_1) t304 _ A18.out).mono ?_); rintro e w' ⟨rfl, ⟨nd, rfl⟩⟩; refine ⟨_, rfl, ?_⟩; (try (rw [drewN_self wr]; generalize hq_ : World.drewN wr _ = wr; have n0_ : Aside0 (Kd.R (Kd.int .i64) 3 wr w.heap.size (fun _ => True) v296 x3_1) := ⟨by rw [← hq_]; exact (rb_ HO_3.out)⟩; have n1_ : Aside0 (wr.heap[gb293]? = some (.cells #[.slice (some ad303) l0_0.length c0_0, .int .i64 a0_1] 44 (0, 0))) := ⟨by rw [← hq_]; exact (bk_ BK293)⟩; have n2_ : Aside0 (Below w.heap.size w wr) := ⟨by rw [← hq_]; exact (hb_ HB)⟩; clear HO_3 BK293 HB hq_; have HO_3 := n0_; have BK293 := n1_; have HB := n2_; clear n0_ n1_ n2_)); have p21 : 0 ≤ (t304 : Int) := od_; have q21 : (t304 : Int) < ((x3_1.length : Int) : Int) := od_; obtain ⟨go21, co21, eo21, gb21, gl21, cl21, HG21⟩ := Kd.R_form HO_3.out (by omega); (first | cases eo21 | (injection eo21 with ea_ en_ ec_; (first | subst ea_ | (injection ea_ with ea_; subst ea_)); subst ec_; clear en_)); have GB21 := A_ gb21; have GG21 := A_ HG21; clear gb21 gl21 HG21; obtain ⟨hx21_0, hf21_0⟩ := Kd.R_celln 0 HO_3.out (t304 : Int) p21 q21; replace p21 := eq_true p21; replace q21 := eq_true q21; obtain ⟨hy32_, hz32_⟩ := Kd.R_celln 0 HO_3.out (t304 : Int) (od_) (od_); have HP32 := Kd.R_putg HO_3.out (t304 : Int) (wrap64 (x17_1 + 1))) | ((with_reducible refine gate_store (t := 3) (p := 29) rfl ?_); refine store_event (t := 3) (p := 29) (v := ?vo_w33) (w1 := (wr.setCell ⟨go21, (t304 : Int).toNat, none⟩ (.int .i64 (wrap64 (x17_1 + 1))))) ?hg ?ho ?hn ?hr ?_; (case ho => rfl); (case hg => rfl); (case hn => rfl); (case hr => first | (go_simp; done) | (go_simp; rfl)); intro w33 hw; have hg : wr.grownBy w33 (some go21) := (by rw [hw]; exact HP32.2); have hp_ : Kd.R (Kd.int .i64) 3 w33 w.heap.size (fun _ => True) (.slice (some ⟨go21, 0, none⟩) x3_1.length co21) y305 := (by rw [hw, Ny305.out]; exact HP32.1); clear HP32; have n0_ := A_ hp_; have n1_ := A_ (blk_grown (g := gb293) (o := .cells #[.slice (some ad303) l0_0.length c0_0, .int .i64 a0_1] 44 (0, 0)) (bk_ BK293) hg (Kd.R_ne HO_3.out BK293.out (by decide))); have n2_ := A_ ((by rw [hw]; exact below_set (HB.out) GB21.out : Below w.heap.size w w33)); clear HO_3; clear BK293; clear HB; have HO_3 := n0_; have BK293 := n1_; have HB := n2_; clear n0_ n1_ n2_; clear hg hw hp_) | ((with_reducible refine gate_callee (f := 143) rfl ?_); refine goesL_ (some 32) rfl rfl Try.func143 (by kernel_rfl) rfl #[.int .i64 (rd l0_0 x17_1)] rfl al_ ?_; (with_reducible refine (impl_ClassOf.calls (rd l0_0 x17_1) t306 _ A22.out).mono ?_); rintro e w' ⟨rfl, ⟨nd, rfl⟩⟩; refine ⟨_, rfl, ?_⟩; (try (rw [drewN_self w33]; generalize hq_ : World.drewN w33 _ = w33; have n0_ : Aside0 (Kd.R (Kd.int .i64) 3 w33 w.heap.size (fun _ => True) (.slice (some ⟨go21, 0, none⟩) x3_1.length co21) y305) := ⟨by rw [← hq_]; exact (rb_ HO_3.out)⟩; have n1_ : Aside0 (w33.heap[gb293]? = some (.cells #[.slice (some ad303) l0_0.length c0_0, .int .i64 a0_1] 44 (0, 0))) := ⟨by rw [← hq_]; exact (bk_ BK293)⟩; have n2_ : Aside0 (Below w.heap.size w w33) := ⟨by rw [← hq_]; exact (hb_ HB)⟩; clear HO_3 BK293 HB hq_; have HO_3 := n0_; have BK293 := n1_; have HB := n2_; clear n0_ n1_ n2_))) | ((with_reducible refine gate_callee (f := 142) rfl ?_); refine goesL_ (some 33) rfl rfl Try.func142 (by kernel_rfl) rfl #[.int .i64 t306] rfl al_ ?_; (with_reducible refine (impl_CountAt.calls t306 t307 _ A23.out).mono ?_); rintro e w' ⟨rfl, ⟨nd, rfl⟩⟩; refine ⟨_, rfl, ?_⟩; (try (rw [drewN_self w33]; generalize hq_ : World.drewN w33 _ = w33; have n0_ : Aside0 (Kd.R (Kd.int .i64) 3 w33 w.heap.size (fun _ => True) (.slice (some ⟨go21, 0, none⟩) x3_1.length co21) y305) := ⟨by rw [← hq_]; exact (rb_ HO_3.out)⟩; have n1_ : Aside0 (w33.heap[gb293]? = some (.cells #[.slice (some ad303) l0_0.length c0_0, .int .i64 a0_1] 44 (0, 0))) := ⟨by rw [← hq_]; exact (bk_ BK293)⟩; have n2_ : Aside0 (Below w.heap.size w w33) := ⟨by rw [← hq_]; exact (hb_ HB)⟩; clear HO_3 BK293 HB hq_; have HO_3 := n0_; have BK293 := n1_; have HB := n2_; clear n0_ n1_ n2_)); have p308 : 0 ≤ (t307 : Int) := od_; have q308 : t307 < (y305.length : Int) := (by have h_ : (t307 : Int) < ((x3_1.length : Int) : Int) := od_; first | (have e_ := (Kd.R_reads' HO_3.out).1; omega) | simpa only [Ny305.out, List.length_set] using h_); have ql308 : ((t307 : Int) < ((x3_1.length : Int) : Int)) = True := eq_true (od_); obtain ⟨ad308, e308, hx308_0⟩ := Kd.at_int (Kd.R_reads' HO_3.out).2.2 t307 p308 q308; obtain rfl : (⟨go21, 0, none⟩ : Addr) = ad308 := (by injection e308); (first | simp only [add_plain] at hx308_0 | simp only [add_at] at hx308_0 | simp only [Addr.add, Nat.zero_add] at hx308_0 | skip); replace p308 := eq_true p308; replace q308 := eq_true q308; have p26 : 0 ≤ (t307 : Int) := od_; have q26 : (t307 : Int) < ((x3_1.length : Int) : Int) := od_; obtain ⟨hx26_0, hf26_0⟩ := Kd.R_celln 0 HO_3.out (t307 : Int) p26 q26; replace p26 := eq_true p26; replace q26 := eq_true q26; obtain ⟨hy34_, hz34_⟩ := Kd.R_celln 0 HO_3.out (t307 : Int) (od_) (od_); have HP34 := Kd.R_putg HO_3.out (t307 : Int) (wrap64 ((rd y305 t307) + 1))) | ((with_reducible refine gate_store (t := 3) (p := 37) rfl ?_); refine store_event (t := 3) (p := 37) (v := ?vo_w35) (w1 := (w33.setCell ⟨go21, (t307 : Int).toNat, none⟩ (.int .i64 (wrap64 ((rd y305 t307) + 1))))) ?hg ?ho ?hn ?hr ?_; (case ho => rfl); (case hg => rfl); (case hn => rfl); (case hr => first | (go_simp; done) | (go_simp; rfl)); intro w35 hw; have hg : w33.grownBy w35 (some go21) := (by rw [hw]; exact HP34.2); have hp_ : Kd.R (Kd.int .i64) 3 w35 w.heap.size (fun _ => True) (.slice (some ⟨go21, 0, none⟩) x3_1.length co21) y309 := (by rw [hw, Ny309.out]; exact HP34.1); clear HP34; have n0_ := A_ hp_; have n1_ := A_ (blk_grown (g := gb293) (o := .cells #[.slice (some ad303) l0_0.length c0_0, .int .i64 a0_1] 44 (0, 0)) (bk_ BK293) hg (Kd.R_ne HO_3.out BK293.out (by decide))); have n2_ := A_ ((by rw [hw]; exact below_set (HB.out) GB21.out : Below w.heap.size w w35)); clear HO_3; clear BK293; clear HB; have HO_3 := n0_; have BK293 := n1_; have HB := n2_; clear n0_ n1_ n2_; clear hg hw hp_; obtain ⟨hcz36_0, hcz36_1, hfz36_0, hfz36_1⟩ := cz2_ BK293) | ((with_reducible refine gate_callee (f := 144) rfl ?_); refine goesL_ (some 45) rfl rfl Try.func144 (by kernel_rfl) rfl #[.int .i64 (rd l0_0 x17_1)] rfl al_ ?_; (with_reducible refine (impl_ViaAt.calls (rd l0_0 x17_1) t310 _ A28.out).mono ?_); rintro e w' ⟨rfl, ⟨nd, rfl⟩⟩; refine ⟨_, rfl, ?_⟩; (try (rw [drewN_self w35]; generalize hq_ : World.drewN w35 _ = w35; have n0_ : Aside0 (Kd.R (Kd.int .i64) 3 w35 w.heap.size (fun _ => True) (.slice (some ⟨go21, 0, none⟩) x3_1.length co21) y309) := ⟨by rw [← hq_]; exact (rb_ HO_3.out)⟩; have n1_ : Aside0 (w35.heap[gb293]? = some (.cells #[.slice (some ad303) l0_0.length c0_0, .int .i64 a0_1] 44 (0, 0))) := ⟨by rw [← hq_]; exact (bk_ BK293)⟩; have n2_ : Aside0 (Below w.heap.size w w35) := ⟨by rw [← hq_]; exact (hb_ HB)⟩; clear HO_3 BK293 HB hq_; have HO_3 := n0_; have BK293 := n1_; have HB := n2_; clear n0_ n1_ n2_)); have p31 : 0 ≤ (t310 : Int) := od_; have q31 : (t310 : Int) < ((x3_1.length : Int) : Int) := od_; obtain ⟨hx31_0, hf31_0⟩ := Kd.R_celln 0 HO_3.out (t310 : Int) p31 q31; replace p31 := eq_true p31; replace q31 := eq_true q31; obtain ⟨hy37_, hz37_⟩ := Kd.R_celln 0 HO_3.out (t310 : Int) (od_) (od_); have HP37 := Kd.R_putg HO_3.out (t310 : Int) (wrap64 (x17_1 + 1))) | ((with_reducible refine gate_store (t := 3) (p := 48) rfl ?_); refine store_event (t := 3) (p := 48) (v := ?vo_w38) (w1 := (w35.setCell ⟨go21, (t310 : Int).toNat, none⟩ (.int .i64 (wrap64 (x17_1 + 1))))) ?hg ?ho ?hn ?hr ?_; (case ho => rfl); (case hg => rfl); (case hn => rfl); (case hr => first | (go_simp; done) | (go_simp; rfl)); intro w38 hw; have hg : w35.grownBy w38 (some go21) := (by rw [hw]; exact HP37.2); have hp_ : Kd.R (Kd.int .i64) 3 w38 w.heap.size (fun _ => True) (.slice (some ⟨go21, 0, none⟩) x3_1.length co21) y311 := (by rw [hw, Ny311.out]; exact HP37.1); clear HP37; have n0_ := A_ hp_; have n1_ := A_ (blk_grown (g := gb293) (o := .cells #[.slice (some ad303) l0_0.length c0_0, .int .i64 a0_1] 44 (0, 0)) (bk_ BK293) hg (Kd.R_ne HO_3.out BK293.out (by decide))); have n2_ := A_ ((by rw [hw]; exact below_set (HB.out) GB21.out : Below w.heap.size w w38)); clear HO_3; clear BK293; clear HB; have HO_3 := n0_; have BK293 := n1_; have HB := n2_; clear n0_ n1_ n2_; clear hg hw hp_))
        go_roundg k1
        case measure => have := HK1.out; omega
        case rel => exact ⟨(y311), (wrap64 (x17_1 + 1)), rt_, H', ⟨by have := HK1.out; omega⟩, ⟨rb_ HO_3.out⟩, ⟨bk_ BK293⟩, ⟨hb_ HB⟩⟩
       replace H' := A_ H; clear H
       obtain ⟨ad303, p303, q303, rfl, hx303_0⟩ := ab_int HB HR0_0 x17_1
       go_wp2_with (first | ((with_reducible refine gate_callee (f := 141) rfl ?_); refine goesL_ (some 26) rfl rfl Try.func141 (by kernel_rfl) rfl #[.int .i64 (rd l0_0 x17_1)] rfl al_ ?_; (with_reducible refine (impl_OwnerAt.calls (rd l0_0 x17_1) t304 _ A18.out).mono ?_); rintro e w' ⟨rfl, ⟨nd, rfl⟩⟩; refine ⟨_, rfl, ?_⟩; (try (rw [drewN_self wr]; generalize hq_ : World.drewN wr _ = wr; have n0_ : Aside0 (Kd.R (Kd.int .i64) 3 wr w.heap.size (fun _ => True) v296 x3_1) := ⟨by rw [← hq_]; exact (rb_ HO_3.out)⟩; have n1_ : Aside0 (wr.heap[gb293]? = some (.cells #[.slice (some ad303) l0_0.length c0_0, .int .i64 a0_1] 44 (0, 0))) := ⟨by rw [← hq_]; exact (bk_ BK293)⟩; have n2_ : Aside0 (Below w.heap.size w wr) := ⟨by rw [← hq_]; exact (hb_ HB)⟩; clear HO_3 BK293 HB hq_; have HO_3 := n0_; have BK293 := n1_; have HB := n2_; clear n0_ n1_ n2_)); have p21 : 0 ≤ (t304 : Int) := od_; have q21 : (t304 : Int) < ((x3_1.length : Int) : Int) := od_; obtain ⟨go21, co21, eo21, gb21, gl21, cl21, HG21⟩ := Kd.R_form HO_3.out (by omega); (first | cases eo21 | (injection eo21 with ea_ en_ ec_; (first | subst ea_ | (injection ea_ with ea_; subst ea_)); subst ec_; clear en_)); have GB21 := A_ gb21; have GG21 := A_ HG21; clear gb21 gl21 HG21; obtain ⟨hx21_0, hf21_0⟩ := Kd.R_celln 0 HO_3.out (t304 : Int) p21 q21; replace p21 := eq_true p21; replace q21 := eq_true q21; obtain ⟨hy39_, hz39_⟩ := Kd.R_celln 0 HO_3.out (t304 : Int) (od_) (od_); have HP39 := Kd.R_putg HO_3.out (t304 : Int) (wrap64 (x17_1 + 1))) | ((with_reducible refine gate_store (t := 3) (p := 29) rfl ?_); refine store_event (t := 3) (p := 29) (v := ?vo_w40) (w1 := (wr.setCell ⟨go21, (t304 : Int).toNat, none⟩ (.int .i64 (wrap64 (x17_1 + 1))))) ?hg ?ho ?hn ?hr ?_; (case ho => rfl); (case hg => rfl); (case hn => rfl); (case hr => first | (go_simp; done) | (go_simp; rfl)); intro w40 hw; have hg : wr.grownBy w40 (some go21) := (by rw [hw]; exact HP39.2); have hp_ : Kd.R (Kd.int .i64) 3 w40 w.heap.size (fun _ => True) (.slice (some ⟨go21, 0, none⟩) x3_1.length co21) y305 := (by rw [hw, Ny305.out]; exact HP39.1); clear HP39; have n0_ := A_ hp_; have n1_ := A_ (blk_grown (g := gb293) (o := .cells #[.slice (some ad303) l0_0.length c0_0, .int .i64 a0_1] 44 (0, 0)) (bk_ BK293) hg (Kd.R_ne HO_3.out BK293.out (by decide))); have n2_ := A_ ((by rw [hw]; exact below_set (HB.out) GB21.out : Below w.heap.size w w40)); clear HO_3; clear BK293; clear HB; have HO_3 := n0_; have BK293 := n1_; have HB := n2_; clear n0_ n1_ n2_; clear hg hw hp_) | ((with_reducible refine gate_callee (f := 143) rfl ?_); refine goesL_ (some 32) rfl rfl Try.func143 (by kernel_rfl) rfl #[.int .i64 (rd l0_0 x17_1)] rfl al_ ?_; (with_reducible refine (impl_ClassOf.calls (rd l0_0 x17_1) t306 _ A22.out).mono ?_); rintro e w' ⟨rfl, ⟨nd, rfl⟩⟩; refine ⟨_, rfl, ?_⟩; (try (rw [drewN_self w40]; generalize hq_ : World.drewN w40 _ = w40; have n0_ : Aside0 (Kd.R (Kd.int .i64) 3 w40 w.heap.size (fun _ => True) (.slice (some ⟨go21, 0, none⟩) x3_1.length co21) y305) := ⟨by rw [← hq_]; exact (rb_ HO_3.out)⟩; have n1_ : Aside0 (w40.heap[gb293]? = some (.cells #[.slice (some ad303) l0_0.length c0_0, .int .i64 a0_1] 44 (0, 0))) := ⟨by rw [← hq_]; exact (bk_ BK293)⟩; have n2_ : Aside0 (Below w.heap.size w w40) := ⟨by rw [← hq_]; exact (hb_ HB)⟩; clear HO_3 BK293 HB hq_; have HO_3 := n0_; have BK293 := n1_; have HB := n2_; clear n0_ n1_ n2_))) | ((with_reducible refine gate_callee (f := 142) rfl ?_); refine goesL_ (some 33) rfl rfl Try.func142 (by kernel_rfl) rfl #[.int .i64 t306] rfl al_ ?_; (with_reducible refine (impl_CountAt.calls t306 t307 _ A23.out).mono ?_); rintro e w' ⟨rfl, ⟨nd, rfl⟩⟩; refine ⟨_, rfl, ?_⟩; (try (rw [drewN_self w40]; generalize hq_ : World.drewN w40 _ = w40; have n0_ : Aside0 (Kd.R (Kd.int .i64) 3 w40 w.heap.size (fun _ => True) (.slice (some ⟨go21, 0, none⟩) x3_1.length co21) y305) := ⟨by rw [← hq_]; exact (rb_ HO_3.out)⟩; have n1_ : Aside0 (w40.heap[gb293]? = some (.cells #[.slice (some ad303) l0_0.length c0_0, .int .i64 a0_1] 44 (0, 0))) := ⟨by rw [← hq_]; exact (bk_ BK293)⟩; have n2_ : Aside0 (Below w.heap.size w w40) := ⟨by rw [← hq_]; exact (hb_ HB)⟩; clear HO_3 BK293 HB hq_; have HO_3 := n0_; have BK293 := n1_; have HB := n2_; clear n0_ n1_ n2_)); have p308 : 0 ≤ (t307 : Int) := od_; have q308 : t307 < (y305.length : Int) := (by have h_ : (t307 : Int) < ((x3_1.length : Int) : Int) := od_; first | (have e_ := (Kd.R_reads' HO_3.out).1; omega) | simpa only [Ny305.out, List.length_set] using h_); have ql308 : ((t307 : Int) < ((x3_1.length : Int) : Int)) = True := eq_true (od_); obtain ⟨ad308, e308, hx308_0⟩ := Kd.at_int (Kd.R_reads' HO_3.out).2.2 t307 p308 q308; obtain rfl : (⟨go21, 0, none⟩ : Addr) = ad308 := (by injection e308); (first | simp only [add_plain] at hx308_0 | simp only [add_at] at hx308_0 | simp only [Addr.add, Nat.zero_add] at hx308_0 | skip); replace p308 := eq_true p308; replace q308 := eq_true q308; have p26 : 0 ≤ (t307 : Int) := od_; have q26 : (t307 : Int) < ((x3_1.length : Int) : Int) := od_; obtain ⟨hx26_0, hf26_0⟩ := Kd.R_celln 0 HO_3.out (t307 : Int) p26 q26; replace p26 := eq_true p26; replace q26 := eq_true q26; obtain ⟨hy41_, hz41_⟩ := Kd.R_celln 0 HO_3.out (t307 : Int) (od_) (od_); have HP41 := Kd.R_putg HO_3.out (t307 : Int) (wrap64 ((rd y305 t307) + 1))) | ((with_reducible refine gate_store (t := 3) (p := 37) rfl ?_); refine store_event (t := 3) (p := 37) (v := ?vo_w42) (w1 := (w40.setCell ⟨go21, (t307 : Int).toNat, none⟩ (.int .i64 (wrap64 ((rd y305 t307) + 1))))) ?hg ?ho ?hn ?hr ?_; (case ho => rfl); (case hg => rfl); (case hn => rfl); (case hr => first | (go_simp; done) | (go_simp; rfl)); intro w42 hw; have hg : w40.grownBy w42 (some go21) := (by rw [hw]; exact HP41.2); have hp_ : Kd.R (Kd.int .i64) 3 w42 w.heap.size (fun _ => True) (.slice (some ⟨go21, 0, none⟩) x3_1.length co21) y309 := (by rw [hw, Ny309.out]; exact HP41.1); clear HP41; have n0_ := A_ hp_; have n1_ := A_ (blk_grown (g := gb293) (o := .cells #[.slice (some ad303) l0_0.length c0_0, .int .i64 a0_1] 44 (0, 0)) (bk_ BK293) hg (Kd.R_ne HO_3.out BK293.out (by decide))); have n2_ := A_ ((by rw [hw]; exact below_set (HB.out) GB21.out : Below w.heap.size w w42)); clear HO_3; clear BK293; clear HB; have HO_3 := n0_; have BK293 := n1_; have HB := n2_; clear n0_ n1_ n2_; clear hg hw hp_; obtain ⟨hcz43_0, hcz43_1, hfz43_0, hfz43_1⟩ := cz2_ BK293))
       go_roundg k1
       case measure => have := HK1.out; omega
       case rel => exact ⟨(y309), (wrap64 (x17_1 + 1)), rt_, H', ⟨by have := HK1.out; omega⟩, ⟨rb_ HO_3.out⟩, ⟨bk_ BK293⟩, ⟨hb_ HB⟩⟩
      replace H := bs_ H
      obtain ⟨t301, A44, H⟩ := H
      replace H := ix_ H
      obtain ⟨c45b0, H⟩ := H
      replace H := ix_ H
      obtain ⟨c46b0, H⟩ := H
      obtain ⟨y302, hy302⟩ : ∃ y_ : List Int, y_ = (x3_1.set (t301 : Int).toNat a0_1) := ⟨_, rfl⟩
      replace H : (some y302) = some r := by first | (rw [hy302]; with_reducible exact H) | (have H2_ := (Option.bind_some _ _).symm.trans H; rw [hy302]; with_reducible exact H2_) | (have H2_ := (Option.bind_some _ _).symm.trans H; with_reducible exact H2_) | with_reducible exact H | (rw [hy302]; exact H) | exact H
      have Ny302 := A_ hy302
      clear hy302
      obtain rfl := Option.some.inj H
      try go_wp2
      replace HO_3 := A_ (Kd.R_drew HO_3.out)
      replace BK293 := A_ (blk_drew BK293.out)
      replace HB := A_ (below_drew1 HB.out)
      refine start_ (n := 6) (S := fun w' => w'.cell? ⟨gb293, 0, none⟩ = some (.slice A0_0 l0_0.length c0_0) ∧ w'.cell? ⟨gb293, 1, none⟩ = some (.int .i64 a0_1)) (ds := [5]) (bt_ 0 6) (by kernel_rfl) rfl rfl ⟨(blk_cell BK293.out 0).trans rfl, (blk_cell BK293.out 1).trans rfl⟩ (fun hHeld => ?_)
      generalize wr.drew = w48 at HO_3 BK293 HB hHeld ⊢
      refine pure_ (i := 0) (N := some 50) (v := ?_) (a' := ?_) (bt_ 1 6) rfl rfl (by kernel_rfl) (fun _ _ _ h => h) (Or.inl ⟨by rfl, ?_⟩) ?_ ?_
      rotate_left
      ·
       intro w'
       go_simp
       with_reducible rfl
      rotate_left
      ·
       simp only [Act.put, List.setIfInBounds_toArray, List.set_cons_zero, List.set_cons_succ, i64_w, i32_w]
       rfl
      refine pure_ (i := 2) (N := some 52) (v := ?_) (a' := ?_) (bt_ 5 6) rfl rfl (by kernel_rfl) (fun _ _ _ h => h) (Or.inl ⟨by rfl, ?_⟩) ?_ ?_
      rotate_left
      ·
       intro w'
       go_simp
       with_reducible rfl
      rotate_left
      ·
       simp only [Act.put, List.setIfInBounds_toArray, List.set_cons_zero, List.set_cons_succ, i64_w, i32_w]
       rfl
      refine take_ (i := 3) (N := some 53) (v := ?_) (a' := ?_) (bt_ 13 6) rfl rfl (by kernel_rfl) (fun _ _ _ h => h) (Or.inl ⟨by rfl, ?_⟩) hHeld ?_ ?_
      rotate_left
      ·
       rintro w' ⟨s0, s1⟩
       go_simp
       with_reducible rfl
      rotate_left
      ·
       simp only [Act.put, List.setIfInBounds_toArray, List.set_cons_zero, List.set_cons_succ, i64_w, i32_w]
       rfl
      refine one_ (i := 1) (N := some 51) (bt_ 15 6) rfl rfl (by kernel_rfl) (by decide) (fun K hK => ?_)
      refine goes_ Try.func145 (by kernel_rfl) rfl #[] (by rfl) rfl rfl al_ ?_
      with_reducible refine (impl_StateAt.calls  t301 _ A44.out).mono ?_
      rintro e w' ⟨rfl, ⟨nd, rfl⟩⟩
      refine ⟨_, rfl, ?_⟩
      have p47 : 0 ≤ (t301 : Int) := od_
      have q47 : (t301 : Int) < ((x3_1.length : Int) : Int) := od_
      obtain ⟨go47, co47, eo47, gb47, gl47, cl47, HG47⟩ := Kd.R_form HO_3.out (by omega)
      (first | cases eo47 | (injection eo47 with ea_ en_ ec_; (first | subst ea_ | (injection ea_ with ea_; subst ea_)); subst ec_; clear en_))
      have GB47 := A_ gb47
      have GG47 := A_ HG47
      clear gb47 gl47 HG47
      obtain ⟨hx47_0, hf47_0⟩ := Kd.R_celln 0 HO_3.out (t301 : Int) p47 q47
      replace p47 := eq_true p47
      replace q47 := eq_true q47
      have HP49 := Kd.R_putn HO_3.out (t301 : Int) a0_1
      rw [← Ny302.out] at HP49
      have HQ49 := A_ HP49
      clear HP49
      refine hK.out _ _ ⟨(blk_cell BK293.out 0).trans rfl, (blk_cell BK293.out 1).trans rfl⟩ (fun hHeld => ?_)
      clear hK K
      refine norm_ (a' := ?_) ?_ ?_
      rotate_left
      ·
       show Act.put _ (some 51) _ = _
       simp only [Act.put, List.setIfInBounds_toArray, List.set_cons_zero, List.set_cons_succ, i64_w, i32_w]
       rfl
      refine pure_ (i := 4) (N := some 54) (v := ?_) (a' := ?_) (bt_ 31 6) rfl rfl (by kernel_rfl) (fun _ _ _ h => h) (Or.inl ⟨by rfl, ?_⟩) ?_ ?_
      rotate_left
      ·
       intro w'
       go_simp
       with_reducible rfl
      rotate_left
      ·
       simp only [Act.put, List.setIfInBounds_toArray, List.set_cons_zero, List.set_cons_succ, i64_w, i32_w]
       rfl
      refine last_ (i := 5) (N := none) (bt_ 63 6) rfl rfl (by kernel_rfl) (by decide) (fun K hK => ?_)
      refine skip_ (w1 := ?_) (by rfl) rfl ?_ ?_
      rotate_left
      ·
       go_simp
       rfl
      refine hK.out _ _ ?_
      clear hK K
      refine done_ (by kernel_rfl) ?_
      try go_wp2
      go_ret
      exact ⟨_, rs_, rb_ HQ49.out, hb_ HB⟩
   rw [if_neg c5] at H
   exact absurd H (by simp)
  rw [if_neg c4] at H
  exact absurd H (by simp)
 obtain rfl := Bool.eq_false_iff.mpr c3
 replace H := iF_ H
 obtain rfl := Option.some.inj H
 go_enter Try.func95, Try.ntmps95
 go_wp2_with (first | ((with_reducible refine gate_dst (N := 1) rfl ?_); refine bx_ HB rfl (N := 1) rfl (cs := #[.slice A0_0 l0_0.length c0_0, .int .i64 a0_1]) (t := 44) hr_ ?_; clear HB; intro gb293 w50 hg hb BK293 GW293 HB; clear hb hg; obtain ⟨hcz51_0, hcz51_1, hfz51_0, hfz51_1⟩ := cz2_ BK293) | ((with_reducible refine gate_callee (f := 37) rfl ?_); refine goesL_ (some 7) rfl rfl Try.func37 (by kernel_rfl) rfl #[.agg #[.slice A0_0 l0_0.length c0_0, .int .i64 a0_1]] rfl al_ ?_; (with_reducible refine (impl_RowsOk.calls k _ _ l0_0 a0_1 false _ ?side1 ?side2 A2.out).mono ?_); (case side1 => exact cb_ (Kd.C_below HR0_0.out HB.out)); (case side2 => exact HC0_0.out); rintro e w52 ⟨rfl, hb⟩; refine ⟨_, rfl, ?_⟩; replace BK293 := bb_ BK293 hb; replace HB := hs_ HB hb; (try clear hb); (try clear hb2); (try clear hk); (try clear hi)))
 go_ret
 exact ⟨_, rs_, by first | exact Kd.R_nil _ _ _ _ _ | exact Kd.N_nil _ _ _ _ _ | exact Kd.V_nil _ _ _ _ _ | exact Kd.Q_nil _ _ _ _ _ | exact Kd.S_nil _ _ _ _ _, hb_ HB⟩

/-! ### impl_MemNew: function 39 -/
def impl_MemNew.l0 : Nat → List Int → Int → Int → List (S95) → List (S119) → Option ((List (S95)) × (List (S119)) × Bool)
 | 0, _, _, _, _, _ => none
 | k + 1, x17, x18, x19, x319000, x319001 => if x19 < x18 then (if 0 ≤ x19 then (if x19 < (x17.length : Int) then (if x319000.length < 5864062014805 then (impl_MemNew.l0 k x17 x18 (wrap64 (x19 + 1)) (x319000 ++ [(⟨rd x17 x19, 0, 0⟩ : S95)]) x319001) else (none)) else (none)) else (none)) else ((impl_MemOk.f k x319000 x319001).bind fun t326 => (if t326 = true then (some (x319000, x319001, true)) else (some (([] : List (S95)), ([] : List (S119)), false))))
def impl_MemNew.f (k : Nat) (l0_0 : List Int) (a0_1 : Int) (a1 : Int) : Option ((List (S95)) × (List (S119)) × Bool) := (impl_from.f a1 1 4).bind fun t314 => (if t314 = true then (if 0 ≤ a1 then (if (a1 : Int).toNat ≤ 3909374676536 then ((impl_WordsOf.f k l0_0 a0_1).bind fun t319 => (impl_MemNew.l0 k t319 (t319.length : Int) 0 ([] : List (S95)) (List.replicate (a1 : Int).toNat z119))) else (none)) else (none)) else (some (([] : List (S95)), ([] : List (S119)), false)))
theorem impl_MemNew.mono_l : ∀ k, (∀ y0 y1 y2 y3 y4, LeO (impl_MemNew.l0 k y0 y1 y2 y3 y4) (impl_MemNew.l0 (k + 1) y0 y1 y2 y3 y4))
 | 0 => fun _ _ _ _ _ r h => by simp [impl_MemNew.l0] at h
 | k + 1 => by
  have ih0 := impl_MemNew.mono_l k
  ·
   intro y0 y1 y2 y3 y4
   unfold impl_MemNew.l0
   repeat' first | (with_reducible first | apply ih0 | apply impl_MemOk.mono | apply impl_WordsOf.mono | apply LeO.refl | apply LeO.none | apply LeO.ite | refine LeO.bind ?_ (fun _ => ?_)) | apply ih0 | apply impl_MemOk.mono | apply impl_WordsOf.mono | apply LeO.none | apply LeO.ite | refine LeO.bind ?_ (fun _ => ?_)
theorem impl_MemNew.mono : ∀ a0 a1 a2 k, LeO (impl_MemNew.f k a0 a1 a2) (impl_MemNew.f (k + 1) a0 a1 a2) := by
 intro a0 a1 a2 k
 have ih0 := impl_MemNew.mono_l k
 unfold impl_MemNew.f
 repeat' first | (with_reducible first | apply ih0 | apply impl_MemOk.mono | apply impl_WordsOf.mono | apply LeO.refl | apply LeO.none | apply LeO.ite | refine LeO.bind ?_ (fun _ => ?_)) | apply ih0 | apply impl_MemOk.mono | apply impl_WordsOf.mono | apply LeO.none | apply LeO.ite | refine LeO.bind ?_ (fun _ => ?_)
set_option maxHeartbeats 8000000 in
set_option maxRecDepth 100000 in
theorem impl_MemNew.calls (k : Nat) (A0_0 : Option Addr) (c0_0 : Nat) (l0_0 : List Int) (a0_1 : Int) (a1 : Int) (r1 : List (S95)) (r2 : List (S119)) (r3 : Bool) (w : World) (hr0_0 : Kd.C (Kd.int .i64) w A0_0 l0_0.length l0_0) (hc0_0 : l0_0.length ≤ c0_0) (h : impl_MemNew.f k l0_0 a0_1 a1 = some (r1, r2, r3)) :
    Calls Try.prog 39 #[.agg #[.slice A0_0 l0_0.length c0_0, .int .i64 a0_1], .int .i64 a1] w fun e w' => ∃ v0_ v1_ : Value, e = .returned (.tuple #[.agg #[v0_, v1_], .bool r3]) ∧ Kd.R k95 95 w' w.heap.size (fun _ => True) v0_ r1 ∧ Kd.S k119 119 w' w.heap.size (fun _ => True) v1_ r2 ∧ Below w.heap.size w w' := by
 have hu44 := Try.underlying44
 have hu31 := Try.underlying31
 have hu95 := Try.underlying95
 have HR0_0 := A_ hr0_0
 have HC0_0 := A_ hc0_0
 clear hr0_0 hc0_0
 have HB := A_ (Below.refl w.heap.size w)
 have H : ((impl_from.f a1 1 4).bind fun t314 => (if t314 = true then (if 0 ≤ a1 then (if (a1 : Int).toNat ≤ 3909374676536 then ((impl_WordsOf.f k l0_0 a0_1).bind fun t319 => (impl_MemNew.l0 k t319 (t319.length : Int) 0 ([] : List (S95)) (List.replicate (a1 : Int).toNat z119))) else (none)) else (none)) else (some (([] : List (S95)), ([] : List (S119)), false)))) = some (r1, r2, r3) := h
 clear h
 replace H := bs_ H
 obtain ⟨t314, A3, H⟩ := H
 by_cases c4 : t314 = true
 ·
  subst c4
  replace H := it_ H
  by_cases c5 : 0 ≤ a1
  ·
   rw [if_pos c5] at H
   have c5b0 := eq_true c5
   have c5b1 : decide (0 ≤ a1) = true := decide_eq_true c5
   clear c5
   by_cases c6 : (a1 : Int).toNat ≤ 3909374676536
   ·
    rw [if_pos c6] at H
    have c6b0 := eq_true c6
    have c6b1 : decide ((a1 : Int).toNat ≤ 3909374676536) = true := decide_eq_true c6
    clear c6
    obtain ⟨y315, hy315⟩ : ∃ y_ : List (S119), y_ = (List.replicate (a1 : Int).toNat z119) := ⟨_, rfl⟩
    replace H : ((impl_WordsOf.f k l0_0 a0_1).bind fun t319 => (impl_MemNew.l0 k t319 (t319.length : Int) 0 ([] : List (S95)) y315)) = some (r1, r2, r3) := by first | (rw [hy315]; with_reducible exact H) | (have H2_ := (Option.bind_some _ _).symm.trans H; rw [hy315]; with_reducible exact H2_) | (have H2_ := (Option.bind_some _ _).symm.trans H; with_reducible exact H2_) | with_reducible exact H | (rw [hy315]; exact H) | exact H
    have Ny315 := A_ hy315
    clear hy315
    replace H := bs_ H
    obtain ⟨t319, A7, H⟩ := H
    replace H' := A_ H; clear H
    go_enter Try.func39, Try.ntmps39
    go_wp2_with (first | ((with_reducible refine gate_dst (N := 2) rfl ?_); refine bx_ HB rfl (N := 2) rfl (cs := #[.slice A0_0 l0_0.length c0_0, .int .i64 a0_1]) (t := 44) hr_ ?_; clear HB; intro gb312 w8 hg hb BK312 GW312 HB; clear hb hg) | ((with_reducible refine gate_dst (N := 4) rfl ?_); refine bx_ HB rfl (N := 4) rfl (cs := #[.slice none 0 0, .slice none 0 0]) (t := 31) hr_ ?_; clear HB; intro gb313 w9 hg hb BK313 GW313 HB; have NB312_313 := ng_ BK312 hg; have NB313_312 := ns_ (ng_ BK312 hg); replace BK312 := bb_ BK312 hb; clear hb hg) | ((with_reducible refine gate_callee (f := 93) rfl ?_); refine goesL_ (some 10) rfl rfl Try.func93 (by kernel_rfl) rfl #[.int .i64 a1, .int .i64 1, .int .i64 4] rfl al_ ?_; (with_reducible refine (impl_from.calls a1 1 4 true _ A3.out).mono ?_); rintro e w' ⟨rfl, ⟨nd, rfl⟩⟩; refine ⟨_, rfl, ?_⟩; (try (rw [drewN_self w9]; generalize hq_ : World.drewN w9 _ = w9; have n0_ : Aside0 (w9.heap[gb312]? = some (.cells #[.slice A0_0 l0_0.length c0_0, .int .i64 a0_1] 44 (0, 0))) := ⟨by rw [← hq_]; exact (bk_ BK312)⟩; have n1_ : Aside0 (w9.heap[gb313]? = some (.cells #[.slice none 0 0, .slice none 0 0] 31 (0, 0))) := ⟨by rw [← hq_]; exact (bk_ BK313)⟩; have n2_ : Aside0 (Below w.heap.size w w9) := ⟨by rw [← hq_]; exact (hb_ HB)⟩; clear BK312 BK313 HB hq_; have BK312 := n0_; have BK313 := n1_; have HB := n2_; clear n0_ n1_ n2_))) | ((with_reducible refine gate_dst (N := 14) rfl ?_); refine Kd.S_make k119 _ 119 rfl (N := 14) rfl 29 _ _ rfl a1 rfl rfl Try.underlying29 (.agg #[(.int .i64 0), (.int .i64 0), (.slice none 0 0), (.int .i64 0), (.slice none 0 0)]) 72 info119 rfl (by decide) (by omega) z119 (ok := fun _ => True) (okp := fun _ => True) (k119_mkM _ _ _ z119 (Kd.R_nil _ _ _ _ _) (Kd.R_nil _ _ _ _ _)) (fun _ hk => hk) trivial (od_) (Nat.le_trans (Nat.mul_le_mul_right _ (od_ : a1.toNat ≤ 3909374676536)) (by omega)) (Below.refl _ _) (Nat.le_refl _) ?_; intro v316 w10 ho11 hb hg_ hnew_; clear hg_ hnew_; (first | rw [← Ny315.out] at ho11 | (simp only [Int.reduceToNat] at ho11; rw [← Ny315.out] at ho11)); have HO317 := A_ (Kd.S_lower ho11 (below_size (hb_ HB))); replace BK312 := bb_ BK312 hb; replace BK313 := bb_ BK313 hb; replace HB := hs_ HB hb; clear hb ho11; obtain ⟨Ao12, co12, eo12⟩ := Kd.S_slice HO317.out; subst eo12) | ((with_reducible refine gate_dst (N := 6) rfl ?_); refine bx_ HB rfl (N := 6) rfl (cs := #[.slice none 0 0, .slice none 0 0]) (t := 31) hr_ ?_; clear HB; intro gb318 w13 hg hb BK318 GW318 HB; have NB312_318 := ng_ BK312 hg; have NB318_312 := ns_ (ng_ BK312 hg); have NB313_318 := ng_ BK313 hg; have NB318_313 := ns_ (ng_ BK313 hg); replace HO317 := A_ (Kd.S_below (sb_ HO317.out) hb); replace BK312 := bb_ BK312 hb; replace BK313 := bb_ BK313 hb; clear hb hg; have hnb14 := NB318_312.out; have hnc14 := NB312_318.out; have hnb15 := NB318_313.out; have hnc15 := NB313_318.out; obtain ⟨hcz16_0, hcz16_1, hfz16_0, hfz16_1⟩ := cz2_ BK318; have hnb17 := NB312_313.out; have hnc17 := NB313_312.out; obtain ⟨hcz18_0, hcz18_1, hfz18_0, hfz18_1⟩ := cz2_ BK312) | ((with_reducible refine gate_callee (f := 95) rfl ?_); refine goesL_ (some 17) rfl rfl Try.func95 (by kernel_rfl) rfl #[.agg #[.slice A0_0 l0_0.length c0_0, .int .i64 a0_1]] rfl al_ ?_; (with_reducible refine (impl_WordsOf.calls k _ _ l0_0 a0_1 t319 _ ?side1 ?side2 A7.out).mono ?_); (case side1 => exact Kd.C_below HR0_0.out (hb_ HB)); (case side2 => exact HC0_0.out); rintro e w19 ⟨v320, rfl, ho0, hb⟩; refine ⟨_, rfl, ?_⟩; have HO321 := A_ (Kd.R_lower ho0 (below_size (hb_ HB))); replace HO317 := A_ (Kd.S_elder' (by (with_reducible repeat (first | apply Kd.S_alloc | apply Kd.S_drewN | apply Kd.S_drew)); exact (Kd.S_mono (Kd.S_far (p := ⟨gb318, 1, none⟩) (Kd.S_far (p := ⟨gb318, 0, none⟩) (Kd.S_types HO317.out BK318.out (by decide)) (fun _ hk => hk.2) (.slice none 0 0)) (fun _ hk => hk.2) (.slice Ao12 y315.length co12)) (fun _ h_ => h_.1))) (Kd.R_base ho0) hb); replace BK312 := bb_ BK312 hb; replace BK313 := bb_ BK313 hb; replace BK318 := bq_ (o' := .cells #[.slice none 0 0, .slice Ao12 y315.length co12] 31 (0, 0)) BK318 hb; replace HB := hs_ HB hb; (try clear hb); (try clear hb2); (try clear hk); (try clear hi); (try clear ho0); obtain ⟨Ao20, co20, eo20⟩ := Kd.R_slice HO321.out; subst eo20))
    go_loopg [19] k (fun kq v19 w' => ∃ (x19_1 : Int) (x319000_1 : List (S95)) (u319000 : Value), v19 = .int .i64 x19_1 ∧ Aside0 (impl_MemNew.l0 kq t319 (t319.length : Int) x19_1 x319000_1 y315 = some (r1, r2, r3)) ∧ Aside0 (kq ≤ k) ∧ Aside0 (Kd.R (Kd.int .i64) 3 w' w.heap.size (fun _ => True) (.slice Ao20 t319.length co20) t319) ∧ Aside0 (Kd.R k95 95 w' w.heap.size (fun _ => True) u319000 x319000_1) ∧ Aside0 (Kd.S k119 119 w' w.heap.size (fun k_ => some k_ ≠ ((.slice Ao20 t319.length co20) : Value).ownBlock) (.slice Ao12 y315.length co12) y315) ∧ Aside0 (w'.heap[gb312]? = some (.cells #[(.slice A0_0 l0_0.length c0_0), .int .i64 a0_1] 44 (0, 0))) ∧ Aside0 (w'.heap[gb313]? = some (.cells #[(.slice none 0 0), (.slice none 0 0)] 31 (0, 0))) ∧ Aside0 (w'.heap[gb318]? = some (.cells #[u319000, (.slice Ao12 y315.length co12)] 31 (0, 0))) ∧ Aside0 (Below w.heap.size w w'))
    case atStart => exact ⟨(0), (([] : List (S95))), (.slice none 0 0), rt_, H', ⟨Nat.le_refl _⟩, ⟨rb_ HO321.out⟩, ⟨by first | exact Kd.R_nil _ _ _ _ _ | exact Kd.N_nil _ _ _ _ _ | exact Kd.V_nil _ _ _ _ _ | exact Kd.Q_nil _ _ _ _ _ | exact Kd.S_nil _ _ _ _ _⟩, ⟨by (with_reducible repeat (first | apply Kd.S_alloc | apply Kd.S_drewN | apply Kd.S_drew)); exact Kd.S_mono HO317.out (fun _ hk => hk.2)⟩, ⟨bk_ BK312⟩, ⟨bk_ BK313⟩, ⟨bk_ BK318⟩, ⟨hb_ HB⟩⟩
    case round =>
     clear H'
     try clear c3
     try clear c4
     try clear c5
     try clear c5b0
     try clear c5b1
     try clear c6
     try clear c6b0
     try clear c6b1
     try clear c17
     obtain ⟨x19_1, x319000_1, u319000, rfl, HA, HK1, HO_17, HO_319000, HO_319001, BK312, BK313, BK318, HB⟩ := hrel
     cases gk with
     | zero => exact absurd HA.out (by simp [impl_MemNew.l0])
     | succ k1 =>
      have H := HA.out
      clear HA
      simp only [impl_MemNew.l0] at H
      replace H := ic_ H
      rcases H with ⟨c21b0, H⟩ | ⟨c21b0, H⟩
      ·
       replace H := ix_ H
       obtain ⟨c22b0, H⟩ := H
       replace H := ix_ H
       obtain ⟨c23b0, H⟩ := H
       by_cases c24 : x319000_1.length < 5864062014805
       ·
        rw [if_pos c24] at H
        have LMc24 := A_ c24
        clear c24
        obtain ⟨y323, hy323⟩ : ∃ y_ : List (S95), y_ = (x319000_1 ++ [(⟨rd t319 x19_1, 0, 0⟩ : S95)]) := ⟨_, rfl⟩
        replace H : (impl_MemNew.l0 k1 t319 (t319.length : Int) (wrap64 (x19_1 + 1)) y323 y315) = some (r1, r2, r3) := by first | (rw [hy323]; with_reducible exact H) | (have H2_ := (Option.bind_some _ _).symm.trans H; rw [hy323]; with_reducible exact H2_) | (have H2_ := (Option.bind_some _ _).symm.trans H; with_reducible exact H2_) | with_reducible exact H | (rw [hy323]; exact H) | exact H
        have Ny323 := A_ hy323
        clear hy323
        replace H' := A_ H; clear H
        have p322 : 0 ≤ (x19_1 : Int) := od_
        have q322 : x19_1 < (t319.length : Int) := od_
        obtain ⟨ad322, e322, hx322_0⟩ := Kd.at_int (Kd.R_reads' HO_17.out).2.2 x19_1 p322 q322
        cases e322
        replace p322 := eq_true p322
        replace q322 := eq_true q322
        have hnb25 := NB318_312.out
        have hnc25 := NB312_318.out
        have hnb26 := NB318_313.out
        have hnc26 := NB313_318.out
        obtain ⟨hcz27_0, hcz27_1, hfz27_0, hfz27_1⟩ := cz2_ BK318
        go_wp2_with (first | ((with_reducible refine gate_builtin (b := .append) (xs := #[.tmp 24, .tmp 27]) rfl ?_); at_builtin; refine Kd.R_append k95 (w0 := w) w.heap.size rfl (.tmp 24) (.tmp 27) 28 95 (.agg #[(.int .i64 0), (.int .i64 0), (.int .i64 0)]) 24 rfl Try.underlying28 info95 rfl (by decide) (by omega) u319000 x319000_1 (⟨rd t319 x19_1, 0, 0⟩ : S95) [.int .i64 (rd t319 x19_1), .int .i64 0, .int .i64 0] (fun _ => True) (fun _ => False) rfl rfl ?aP (fun _ hk => hk.elim) ?aF ?aO ?aB ?aS ?aL ?_; (case aP => exact k95_mkM _ _ _ (⟨rd t319 x19_1, 0, 0⟩ : S95)); (case aB => exact (hb_ HB)); (case aF => exact (fun _ _ => trivial)); (case aO => exact (rb_ HO_319000.out)); (case aS => exact (below_size (hb_ HB))); (case aL => have := LMc24.out; omega); intro v324 w28 ho hb hg hat; rw [← Ny323.out] at ho; have HO325 := A_ ho; replace HO_17 := A_ (Kd.R_over' (rb_ HO_17.out) (Kd.R_typed (rb_ HO_319000.out)) (by decide) hg); replace HO_319001 := A_ (Kd.S_over' (sb_ HO_319001.out) (Kd.R_typed (rb_ HO_319000.out)) (by decide) hg); replace BK312 := A_ (blk_grown (g := gb312) (o := .cells #[.slice A0_0 l0_0.length c0_0, .int .i64 a0_1] 44 (0, 0)) (bk_ BK312) hg (Kd.R_ne HO_319000.out BK312.out (by decide))); replace BK313 := A_ (blk_grown (g := gb313) (o := .cells #[.slice none 0 0, .slice none 0 0] 31 (0, 0)) (bk_ BK313) hg (Kd.R_ne HO_319000.out BK313.out (by decide))); replace BK318 := A_ (blk_grown (g := gb318) (o := .cells #[u319000, .slice Ao12 y315.length co12] 31 (0, 0)) (bk_ BK318) hg (Kd.R_ne HO_319000.out BK318.out (by decide))); replace HB := A_ hb; clear HO_319000; clear ho hb hg hat; obtain ⟨Ao29, co29, eo29⟩ := Kd.R_slice HO325.out; subst eo29; obtain ⟨hcz30_0, hcz30_1, hfz30_0, hfz30_1⟩ := cz2_ BK318))
        go_roundg k1
        case measure => have := HK1.out; omega
        case rel => exact ⟨(wrap64 (x19_1 + 1)), (y323), (.slice Ao29 y323.length co29), rt_, H', ⟨by have := HK1.out; omega⟩, ⟨by (with_reducible repeat (first | apply Kd.R_alloc | apply Kd.R_drewN | apply Kd.R_drew)); exact Kd.R_mono (Kd.R_far (p := ⟨gb318, 0, none⟩) (Kd.R_types HO_17.out BK318.out (by decide)) (fun _ hk => hk.2) (.slice Ao29 y323.length co29)) (fun _ hk => trivial)⟩, ⟨by (with_reducible repeat (first | apply Kd.R_alloc | apply Kd.R_drewN | apply Kd.R_drew)); exact Kd.R_mono (Kd.R_far (p := ⟨gb318, 0, none⟩) (Kd.R_types HO325.out BK318.out (by decide)) (fun _ hk => hk.2) (.slice Ao29 y323.length co29)) (fun _ hk => trivial)⟩, ⟨by (with_reducible repeat (first | apply Kd.S_alloc | apply Kd.S_drewN | apply Kd.S_drew)); exact Kd.S_mono (Kd.S_far (p := ⟨gb318, 0, none⟩) (Kd.S_types HO_319001.out BK318.out (by decide)) (fun _ hk => hk.2) (.slice Ao29 y323.length co29)) (fun _ hk => hk.1)⟩, ⟨bk_ BK312⟩, ⟨bk_ BK313⟩, ⟨bp_ BK318⟩, ⟨hb_ HB⟩⟩
       rw [if_neg c24] at H
       exact absurd H (by simp)
      replace H := bs_ H
      obtain ⟨t326, A31, H⟩ := H
      by_cases c32 : t326 = true
      ·
       subst c32
       replace H := it_ H
       simp only [Option.some.injEq, Prod.mk.injEq] at H
       obtain ⟨rfl, rfl, rfl⟩ := H
       have hnb33 := NB318_312.out
       have hnc33 := NB312_318.out
       have hnb34 := NB318_313.out
       have hnc34 := NB313_318.out
       obtain ⟨hcz35_0, hcz35_1, hfz35_0, hfz35_1⟩ := cz2_ BK318
       obtain ⟨Ao36, co36, eo36⟩ := Kd.R_slice HO_319000.out
       subst eo36
       go_wp2_with (first | ((with_reducible refine gate_callee (f := 58) rfl ?_); refine goesL_ (some 32) rfl rfl Try.func58 (by kernel_rfl) rfl #[.agg #[.slice Ao36 x319000_1.length co36, .slice Ao12 y315.length co12]] rfl al_ ?_; (with_reducible refine (impl_MemOk.calls k1 _ _ x319000_1 _ _ y315 true _ ?side1 ?side2 ?side3 ?side4 A31.out).mono ?_); (case side1 => repeat (first | exact (Kd.R_reads' HO_319000.out).2.2 | (with_reducible refine Kd.C_alloc ?_ _) | (with_reducible refine Kd.C_drewN ?_ _) | (with_reducible refine Kd.C_drew ?_))); (case side2 => exact (Kd.R_reads' HO_319000.out).2.1); (case side3 => repeat (first | exact (Kd.S_reads' HO_319001.out).2.2 | (with_reducible refine Kd.C_alloc ?_ _) | (with_reducible refine Kd.C_drewN ?_ _) | (with_reducible refine Kd.C_drew ?_))); (case side4 => exact (Kd.S_reads' HO_319001.out).2.1); rintro e w37 ⟨rfl, hb⟩; refine ⟨_, rfl, ?_⟩; replace HO_17 := A_ (Kd.R_below (rb_ HO_17.out) hb); replace HO_319000 := A_ (Kd.R_below (rb_ HO_319000.out) hb); replace HO_319001 := A_ (Kd.S_below (sb_ HO_319001.out) hb); replace BK312 := bb_ BK312 hb; replace BK313 := bb_ BK313 hb; replace BK318 := bb_ BK318 hb; replace HB := hs_ HB hb; (try clear hb); (try clear hb2); (try clear hk); (try clear hi); obtain ⟨hcz38_0, hcz38_1, hfz38_0, hfz38_1⟩ := cz2_ BK318; have hnb39 := NB313_312.out; have hnc39 := NB312_313.out; obtain ⟨hcz40_0, hcz40_1, hfz40_0, hfz40_1⟩ := cz2_ BK313))
       refine bodyPost_ret (results_ct rfl _ _ gb313 31 #[.slice Ao36 x319000_1.length co36, .slice Ao12 y315.length co12] (0, 0) _ rfl (bp_ BK313) Try.underlying31 rfl (by kernel_rfl)) rfl ?_
       exact ⟨_, _, rs_, by (with_reducible repeat (first | apply Kd.R_alloc | apply Kd.R_drewN | apply Kd.R_drew)); exact Kd.R_mono (Kd.R_far (p := ⟨gb313, 1, none⟩) (Kd.R_far (p := ⟨gb313, 0, none⟩) (Kd.R_types HO_319000.out BK313.out (by decide)) (fun _ hk => hk.2) (.slice Ao36 x319000_1.length co36)) (fun _ hk => hk.2) (.slice Ao12 y315.length co12)) (fun _ hk => trivial), by (with_reducible repeat (first | apply Kd.S_alloc | apply Kd.S_drewN | apply Kd.S_drew)); exact Kd.S_mono (Kd.S_far (p := ⟨gb313, 1, none⟩) (Kd.S_far (p := ⟨gb313, 0, none⟩) (Kd.S_types HO_319001.out BK313.out (by decide)) (fun _ hk => hk.2) (.slice Ao36 x319000_1.length co36)) (fun _ hk => hk.2) (.slice Ao12 y315.length co12)) (fun _ hk => trivial), hb_ HB⟩
      obtain rfl := Bool.eq_false_iff.mpr c32
      replace H := iF_ H
      simp only [Option.some.injEq, Prod.mk.injEq] at H
      obtain ⟨rfl, rfl, rfl⟩ := H
      have hnb41 := NB318_312.out
      have hnc41 := NB312_318.out
      have hnb42 := NB318_313.out
      have hnc42 := NB313_318.out
      obtain ⟨hcz43_0, hcz43_1, hfz43_0, hfz43_1⟩ := cz2_ BK318
      obtain ⟨Ao44, co44, eo44⟩ := Kd.R_slice HO_319000.out
      subst eo44
      go_wp2_with (first | ((with_reducible refine gate_callee (f := 58) rfl ?_); refine goesL_ (some 32) rfl rfl Try.func58 (by kernel_rfl) rfl #[.agg #[.slice Ao44 x319000_1.length co44, .slice Ao12 y315.length co12]] rfl al_ ?_; (with_reducible refine (impl_MemOk.calls k1 _ _ x319000_1 _ _ y315 false _ ?side1 ?side2 ?side3 ?side4 A31.out).mono ?_); (case side1 => repeat (first | exact (Kd.R_reads' HO_319000.out).2.2 | (with_reducible refine Kd.C_alloc ?_ _) | (with_reducible refine Kd.C_drewN ?_ _) | (with_reducible refine Kd.C_drew ?_))); (case side2 => exact (Kd.R_reads' HO_319000.out).2.1); (case side3 => repeat (first | exact (Kd.S_reads' HO_319001.out).2.2 | (with_reducible refine Kd.C_alloc ?_ _) | (with_reducible refine Kd.C_drewN ?_ _) | (with_reducible refine Kd.C_drew ?_))); (case side4 => exact (Kd.S_reads' HO_319001.out).2.1); rintro e w45 ⟨rfl, hb⟩; refine ⟨_, rfl, ?_⟩; replace HO_17 := A_ (Kd.R_below (rb_ HO_17.out) hb); replace HO_319000 := A_ (Kd.R_below (rb_ HO_319000.out) hb); replace HO_319001 := A_ (Kd.S_below (sb_ HO_319001.out) hb); replace BK312 := bb_ BK312 hb; replace BK313 := bb_ BK313 hb; replace BK318 := bb_ BK318 hb; replace HB := hs_ HB hb; (try clear hb); (try clear hb2); (try clear hk); (try clear hi); have hnb46 := NB313_312.out; have hnc46 := NB312_313.out; obtain ⟨hcz47_0, hcz47_1, hfz47_0, hfz47_1⟩ := cz2_ BK313))
      refine bodyPost_ret (results_ct rfl _ _ gb313 31 #[.slice none 0 0, .slice none 0 0] (0, 0) _ rfl (bp_ BK313) Try.underlying31 rfl (by kernel_rfl)) rfl ?_
      exact ⟨_, _, rs_, by first | exact Kd.R_nil _ _ _ _ _ | exact Kd.N_nil _ _ _ _ _ | exact Kd.V_nil _ _ _ _ _ | exact Kd.Q_nil _ _ _ _ _ | exact Kd.S_nil _ _ _ _ _, by first | exact Kd.S_nil _ _ _ _ _ | exact Kd.N_nil _ _ _ _ _ | exact Kd.V_nil _ _ _ _ _ | exact Kd.Q_nil _ _ _ _ _ | exact Kd.R_nil _ _ _ _ _, hb_ HB⟩
   rw [if_neg c6] at H
   exact absurd H (by simp)
  rw [if_neg c5] at H
  exact absurd H (by simp)
 obtain rfl := Bool.eq_false_iff.mpr c4
 replace H := iF_ H
 simp only [Option.some.injEq, Prod.mk.injEq] at H
 obtain ⟨rfl, rfl, rfl⟩ := H
 go_enter Try.func39, Try.ntmps39
 go_wp2_with (first | ((with_reducible refine gate_dst (N := 2) rfl ?_); refine bx_ HB rfl (N := 2) rfl (cs := #[.slice A0_0 l0_0.length c0_0, .int .i64 a0_1]) (t := 44) hr_ ?_; clear HB; intro gb312 w48 hg hb BK312 GW312 HB; clear hb hg) | ((with_reducible refine gate_dst (N := 4) rfl ?_); refine bx_ HB rfl (N := 4) rfl (cs := #[.slice none 0 0, .slice none 0 0]) (t := 31) hr_ ?_; clear HB; intro gb313 w49 hg hb BK313 GW313 HB; have NB312_313 := ng_ BK312 hg; have NB313_312 := ns_ (ng_ BK312 hg); replace BK312 := bb_ BK312 hb; clear hb hg) | ((with_reducible refine gate_callee (f := 93) rfl ?_); refine goesL_ (some 10) rfl rfl Try.func93 (by kernel_rfl) rfl #[.int .i64 a1, .int .i64 1, .int .i64 4] rfl al_ ?_; (with_reducible refine (impl_from.calls a1 1 4 false _ A3.out).mono ?_); rintro e w' ⟨rfl, ⟨nd, rfl⟩⟩; refine ⟨_, rfl, ?_⟩; (try (rw [drewN_self w49]; generalize hq_ : World.drewN w49 _ = w49; have n0_ : Aside0 (w49.heap[gb312]? = some (.cells #[.slice A0_0 l0_0.length c0_0, .int .i64 a0_1] 44 (0, 0))) := ⟨by rw [← hq_]; exact (bk_ BK312)⟩; have n1_ : Aside0 (w49.heap[gb313]? = some (.cells #[.slice none 0 0, .slice none 0 0] 31 (0, 0))) := ⟨by rw [← hq_]; exact (bk_ BK313)⟩; have n2_ : Aside0 (Below w.heap.size w w49) := ⟨by rw [← hq_]; exact (hb_ HB)⟩; clear BK312 BK313 HB hq_; have BK312 := n0_; have BK313 := n1_; have HB := n2_; clear n0_ n1_ n2_)); have hnb50 := NB313_312.out; have hnc50 := NB312_313.out; obtain ⟨hcz51_0, hcz51_1, hfz51_0, hfz51_1⟩ := cz2_ BK313))
 refine bodyPost_ret (results_ct rfl _ _ gb313 31 #[.slice none 0 0, .slice none 0 0] (0, 0) _ rfl (bp_ BK313) Try.underlying31 rfl (by kernel_rfl)) rfl ?_
 exact ⟨_, _, rs_, by first | exact Kd.R_nil _ _ _ _ _ | exact Kd.N_nil _ _ _ _ _ | exact Kd.V_nil _ _ _ _ _ | exact Kd.Q_nil _ _ _ _ _ | exact Kd.S_nil _ _ _ _ _, by first | exact Kd.S_nil _ _ _ _ _ | exact Kd.N_nil _ _ _ _ _ | exact Kd.V_nil _ _ _ _ _ | exact Kd.Q_nil _ _ _ _ _ | exact Kd.R_nil _ _ _ _ _, hb_ HB⟩

/-! ### laws_markWordS: function 96 -/
def laws_markWordS.l0 : Nat → List (S95) → Int → Int → Option (Int × (List (S95)))
 | 0, _, _, _ => none
 | k + 1, x0, x1, x5 => if x5 < (x0.length : Int) then (if 0 ≤ x5 then ((some (x0.set (x5 : Int).toNat (⟨x1, (rd_T95 x0 x5).f1, (rd_T95 x0 x5).f2⟩ : S95) : List (S95))).bind fun y327 => ((some (y327.set (x5 : Int).toNat (⟨(rd_T95 y327 x5).f0, wrap64 (x1 + 1), (rd_T95 y327 x5).f2⟩ : S95) : List (S95))).bind fun y328 => (laws_markWordS.l0 k (y328.set (x5 : Int).toNat (⟨(rd_T95 y328 x5).f0, (rd_T95 y328 x5).f1, wrap64 ((wrap64 (x1 + 1)) + 1)⟩ : S95)) (wrap64 ((wrap64 ((wrap64 (x1 + 1)) + 1)) + 1)) (wrap64 (x5 + 1))))) else (none)) else (some (x1, x0))
def laws_markWordS.f (k : Nat) (l0 : List (S95)) (a1 : Int) : Option (Int × (List (S95))) := laws_markWordS.l0 k l0 a1 0
theorem laws_markWordS.mono_l : ∀ k, (∀ y0 y1 y2, LeO (laws_markWordS.l0 k y0 y1 y2) (laws_markWordS.l0 (k + 1) y0 y1 y2))
 | 0 => fun _ _ _ r h => by simp [laws_markWordS.l0] at h
 | k + 1 => by
  have ih0 := laws_markWordS.mono_l k
  ·
   intro y0 y1 y2
   unfold laws_markWordS.l0
   repeat' first | (with_reducible first | apply ih0 | apply LeO.refl | apply LeO.none | apply LeO.ite | refine LeO.bind ?_ (fun _ => ?_)) | apply ih0 | apply LeO.none | apply LeO.ite | refine LeO.bind ?_ (fun _ => ?_)
theorem laws_markWordS.mono : ∀ a0 a1 k, LeO (laws_markWordS.f k a0 a1) (laws_markWordS.f (k + 1) a0 a1) := by
 intro a0 a1 k
 have ih0 := laws_markWordS.mono_l k
 unfold laws_markWordS.f
 repeat' first | (with_reducible first | apply ih0 | apply LeO.refl | apply LeO.none | apply LeO.ite | refine LeO.bind ?_ (fun _ => ?_)) | apply ih0 | apply LeO.none | apply LeO.ite | refine LeO.bind ?_ (fun _ => ?_)
set_option maxHeartbeats 8000000 in
set_option maxRecDepth 100000 in
theorem laws_markWordS.calls (k : Nat) (P0_ : Nat → Prop) (u9000_ : Value) (l0 : List (S95)) (a1 : Int) (r1 : Int) (r2 : List (S95)) (w0 w : World) (hB : Below w0.heap.size w0 w) (ho0 : Kd.R k95 95 w w0.heap.size P0_ u9000_ l0) (h : laws_markWordS.f k l0 a1 = some (r1, r2)) :
    Calls Try.prog 96 #[u9000_, .int .i64 a1] w fun e w' => e = .returned (.int .i64 r1) ∧ Kd.R k95 95 w' w0.heap.size (fun k_ => (P0_ k_ ∨ w.heap.size ≤ k_)) u9000_ r2 ∧ Below w0.heap.size w0 w' ∧ Kept w w' (fun k_ => P0_ k_) := by
 have HO0 := A_ (show Kd.R k95 95 w w0.heap.size (fun k_ => (P0_ k_ ∨ w.heap.size ≤ k_)) u9000_ l0 from Kd.R_mono ho0 (fun k_ hk => (.inl hk)))
 have HK := A_ (Kept.refl w (fun k_ => P0_ k_))
 have HW0 := A_ hB.size
 have HB := A_ hB
 clear hB
 have H : (laws_markWordS.l0 k l0 a1 0) = some (r1, r2) := h
 clear h
 replace H' := A_ H; clear H
 go_enter Try.func96, Try.ntmps96
 go_wp2
 go_loopg [1, 5] k (fun kq v1 v5 w' => ∃ (x0_1 : List (S95)) (x1_1 : Int) (x5_1 : Int), v1 = .int .i64 x1_1 ∧ v5 = .int .i64 x5_1 ∧ Aside0 (laws_markWordS.l0 kq x0_1 x1_1 x5_1 = some (r1, r2)) ∧ Aside0 (kq ≤ k) ∧ Aside0 (Kd.R k95 95 w' w0.heap.size (fun k_ => (P0_ k_ ∨ w.heap.size ≤ k_)) u9000_ x0_1) ∧ Aside0 (Kept w w' (fun k_ => P0_ k_)) ∧ Aside0 (Below w0.heap.size w0 w'))
 case atStart => exact ⟨(l0), (a1), (0), rt_, rt_, H', ⟨Nat.le_refl _⟩, ⟨rb_ HO0.out⟩, ⟨by repeat (first | (with_reducible first | exact HK.out | apply Kept.alloc | apply Kept.drewN | apply Kept.drew) | exact HK.out)⟩, ⟨hb_ HB⟩⟩
 case round =>
  clear H'
  obtain ⟨x0_1, x1_1, x5_1, rfl, rfl, HA, HK1, HO_0, HK, HB⟩ := hrel
  cases gk with
  | zero => exact absurd HA.out (by simp [laws_markWordS.l0])
  | succ k1 =>
   have H := HA.out
   clear HA
   simp only [laws_markWordS.l0] at H
   replace H := ic_ H
   rcases H with ⟨c3b0, H⟩ | ⟨c3b0, H⟩
   ·
    replace H := ix_ H
    obtain ⟨c4b0, H⟩ := H
    obtain ⟨y327, hy327⟩ : ∃ y_ : List (S95), y_ = (x0_1.set (x5_1 : Int).toNat (⟨x1_1, (rd_T95 x0_1 x5_1).f1, (rd_T95 x0_1 x5_1).f2⟩ : S95)) := ⟨_, rfl⟩
    replace H : ((some (y327.set (x5_1 : Int).toNat (⟨(rd_T95 y327 x5_1).f0, wrap64 (x1_1 + 1), (rd_T95 y327 x5_1).f2⟩ : S95) : List (S95))).bind fun y328 => (laws_markWordS.l0 k1 (y328.set (x5_1 : Int).toNat (⟨(rd_T95 y328 x5_1).f0, (rd_T95 y328 x5_1).f1, wrap64 ((wrap64 (x1_1 + 1)) + 1)⟩ : S95)) (wrap64 ((wrap64 ((wrap64 (x1_1 + 1)) + 1)) + 1)) (wrap64 (x5_1 + 1)))) = some (r1, r2) := by first | (rw [hy327]; with_reducible exact H) | (have H2_ := (Option.bind_some _ _).symm.trans H; rw [hy327]; with_reducible exact H2_) | (have H2_ := (Option.bind_some _ _).symm.trans H; with_reducible exact H2_) | with_reducible exact H | (rw [hy327]; exact H) | exact H
    have Ny327 := A_ hy327
    clear hy327
    obtain ⟨y328, hy328⟩ : ∃ y_ : List (S95), y_ = (y327.set (x5_1 : Int).toNat (⟨(rd_T95 y327 x5_1).f0, wrap64 (x1_1 + 1), (rd_T95 y327 x5_1).f2⟩ : S95)) := ⟨_, rfl⟩
    replace H : (laws_markWordS.l0 k1 (y328.set (x5_1 : Int).toNat (⟨(rd_T95 y328 x5_1).f0, (rd_T95 y328 x5_1).f1, wrap64 ((wrap64 (x1_1 + 1)) + 1)⟩ : S95)) (wrap64 ((wrap64 ((wrap64 (x1_1 + 1)) + 1)) + 1)) (wrap64 (x5_1 + 1))) = some (r1, r2) := by first | (rw [hy328]; with_reducible exact H) | (have H2_ := (Option.bind_some _ _).symm.trans H; rw [hy328]; with_reducible exact H2_) | (have H2_ := (Option.bind_some _ _).symm.trans H; with_reducible exact H2_) | with_reducible exact H | (rw [hy328]; exact H) | exact H
    have Ny328 := A_ hy328
    clear hy328
    obtain ⟨y329, hy329⟩ : ∃ y_ : List (S95), y_ = (y328.set (x5_1 : Int).toNat (⟨(rd_T95 y328 x5_1).f0, (rd_T95 y328 x5_1).f1, wrap64 ((wrap64 (x1_1 + 1)) + 1)⟩ : S95)) := ⟨_, rfl⟩
    replace H : (laws_markWordS.l0 k1 y329 (wrap64 ((wrap64 ((wrap64 (x1_1 + 1)) + 1)) + 1)) (wrap64 (x5_1 + 1))) = some (r1, r2) := by first | (rw [hy329]; with_reducible exact H) | (have H2_ := (Option.bind_some _ _).symm.trans H; rw [hy329]; with_reducible exact H2_) | (have H2_ := (Option.bind_some _ _).symm.trans H; with_reducible exact H2_) | with_reducible exact H | (rw [hy329]; exact H) | exact H
    have Ny329 := A_ hy329
    clear hy329
    replace H' := A_ H; clear H
    obtain ⟨Ao8, co8, eo8⟩ := Kd.R_slice HO_0.out
    subst eo8
    have p5 : 0 ≤ (x5_1 : Int) := od_
    have q5 : (x5_1 : Int) < ((x0_1.length : Int) : Int) := od_
    obtain ⟨go5, co5, eo5, gb5, gl5, cl5, HG5⟩ := Kd.R_form HO_0.out (by omega)
    (first | cases eo5 | (injection eo5 with ea_ en_ ec_; (first | subst ea_ | (injection ea_ with ea_; subst ea_)); subst ec_; clear en_))
    have GB5 := A_ gb5
    have GG5 := A_ HG5
    clear gb5 gl5 HG5
    have HMgo5 := A_ (show (P0_ go5 ∨ w.heap.size ≤ go5) from (HO_0.out.1 _ rfl))
    obtain ⟨ce5, hcl5, hM5, hcc5, hfr5⟩ := Kd.R_elem HO_0.out z95 (x5_1 : Int) p5 q5
    obtain rfl := k95_openM hM5
    have hx5_0 : wr.cell? ⟨go5, (x5_1 : Int).toNat * 3, none⟩ = some (.int .i64 ((rd_T95 x0_1 x5_1).f0)) := hcc5 0 _ rfl
    have hx5_1 : wr.cell? ⟨go5, (x5_1 : Int).toNat * 3 + 1, none⟩ = some (.int .i64 ((rd_T95 x0_1 x5_1).f1)) := hcc5 1 _ rfl
    have hx5_2 : wr.cell? ⟨go5, (x5_1 : Int).toNat * 3 + 2, none⟩ = some (.int .i64 ((rd_T95 x0_1 x5_1).f2)) := hcc5 2 _ rfl
    have hf5_0 : wr.frozen? ⟨go5, (x5_1 : Int).toNat * 3, none⟩ = false := hfr5 0
    have hf5_1 : wr.frozen? ⟨go5, (x5_1 : Int).toNat * 3 + 1, none⟩ = false := hfr5 1
    have hf5_2 : wr.frozen? ⟨go5, (x5_1 : Int).toNat * 3 + 2, none⟩ = false := hfr5 2
    clear hcl5 hcc5 hfr5 hM5
    replace p5 := eq_true p5
    replace q5 := eq_true q5
    have HX9 := A_ (show Kd.R k95 95 wr w0.heap.size (fun k_ => (P0_ k_ ∨ w.heap.size ≤ k_)) (.slice (some ⟨go5, 0, none⟩) x0_1.length co8) x0_1 from (rb_ HO_0.out))
    obtain ⟨ce9, hcl9, hM9, hcc9, hfr9⟩ := Kd.R_elem HX9.out z95 (x5_1 : Int) (od_) (by have h_ : (x5_1 : Int) < ((x0_1.length : Int) : Int) := od_; first | exact h_ | (have e_ := (Kd.R_reads' HO_0.out).1; omega) | simpa using h_)
    obtain rfl := k95_openM hM9
    have HP9 := Kd.R_seg HX9.out (x5_1 : Int) (od_) (by have h_ : (x5_1 : Int) < ((x0_1.length : Int) : Int) := od_; first | exact h_ | (have e_ := (Kd.R_reads' HO_0.out).1; omega) | simpa using h_) (seg := [.int .i64 x1_1]) (j := 0) hcl9 hcc9 (show 1 ≤ 3 from by decide) (x' := (⟨x1_1, (rd_T95 x0_1 x5_1).f1, (rd_T95 x0_1 x5_1).f2⟩ : S95)) (k95_mkM _ _ _ (⟨x1_1, (rd_T95 x0_1 x5_1).f1, (rd_T95 x0_1 x5_1).f2⟩ : S95) ) (fun _ hk => hk)
    have hx9_0 := hcc9 0 _ rfl
    (try simp only [show (k95).sz = 3 from rfl, Nat.mul_one, Nat.add_zero] at hx9_0)
    have hf9_0 := hfr9 0
    (try simp only [show (k95).sz = 3 from rfl, Nat.mul_one, Nat.add_zero] at hf9_0)
    clear hcl9 hcc9 hfr9 hM9
    go_wp2_with (first | ((with_reducible refine gate_store (t := 3) (p := 16) rfl ?_); refine store_event (t := 3) (p := 16) (v := ?vo_w10) (w1 := (wr.setCell ⟨go5, (x5_1 : Int).toNat * 3, none⟩ (.int .i64 x1_1))) ?hg ?ho ?hn ?hr ?_; (case ho => rfl); (case hg => rfl); (case hn => rfl); (case hr => first | (go_simp; done) | (go_simp; rfl)); intro w10 hw; have hg : wr.grownBy w10 (some go5) := (by rw [hw]; exact HP9.2); have hp_ : Kd.R k95 95 w10 w0.heap.size (fun k_ => (P0_ k_ ∨ w.heap.size ≤ k_)) (.slice (some ⟨go5, 0, none⟩) x0_1.length co8) y327 := (by rw [hw, Ny327.out]; exact HP9.1); clear HP9; have n0_ := A_ hp_; have n1_ := A_ ((by rw [hw]; exact below_set (HB.out) GB5.out : Below w0.heap.size w0 w10)); have n2_ := A_ (Kept.of_grown (S := (fun k_ => P0_ k_)) hg (by repeat (first | (with_reducible first | exact HK.out | apply Kept.alloc | apply Kept.drewN | apply Kept.drew) | exact HK.out)) (fun k_ e_ => (HO_0.out.1 k_ e_))); clear HO_0; clear HB; clear HK; have HO_0 := n0_; have HB := n1_; have HK := n2_; clear n0_ n1_ n2_; clear hg hw hp_; have p6 : 0 ≤ (x5_1 : Int) := od_; have q6 : (x5_1 : Int) < ((x0_1.length : Int) : Int) := od_; obtain ⟨ce6, hcl6, hM6, hcc6, hfr6⟩ := Kd.R_elem HO_0.out z95 (x5_1 : Int) p6 q6; obtain rfl := k95_openM hM6; have hx6_0 : w10.cell? ⟨go5, (x5_1 : Int).toNat * 3, none⟩ = some (.int .i64 ((rd_T95 y327 x5_1).f0)) := hcc6 0 _ rfl; have hx6_1 : w10.cell? ⟨go5, (x5_1 : Int).toNat * 3 + 1, none⟩ = some (.int .i64 ((rd_T95 y327 x5_1).f1)) := hcc6 1 _ rfl; have hx6_2 : w10.cell? ⟨go5, (x5_1 : Int).toNat * 3 + 2, none⟩ = some (.int .i64 ((rd_T95 y327 x5_1).f2)) := hcc6 2 _ rfl; have hf6_0 : w10.frozen? ⟨go5, (x5_1 : Int).toNat * 3, none⟩ = false := hfr6 0; have hf6_1 : w10.frozen? ⟨go5, (x5_1 : Int).toNat * 3 + 1, none⟩ = false := hfr6 1; have hf6_2 : w10.frozen? ⟨go5, (x5_1 : Int).toNat * 3 + 2, none⟩ = false := hfr6 2; clear hcl6 hcc6 hfr6 hM6; replace p6 := eq_true p6; replace q6 := eq_true q6; have HX11 := A_ (show Kd.R k95 95 w10 w0.heap.size (fun k_ => (P0_ k_ ∨ w.heap.size ≤ k_)) (.slice (some ⟨go5, 0, none⟩) x0_1.length co8) y327 from (rb_ HO_0.out)); obtain ⟨ce11, hcl11, hM11, hcc11, hfr11⟩ := Kd.R_elem HX11.out z95 (x5_1 : Int) (od_) (by have h_ : (x5_1 : Int) < ((x0_1.length : Int) : Int) := od_; first | exact h_ | (have e_ := (Kd.R_reads' HO_0.out).1; omega) | simpa using h_); obtain rfl := k95_openM hM11; have HP11 := Kd.R_seg HX11.out (x5_1 : Int) (od_) (by have h_ : (x5_1 : Int) < ((x0_1.length : Int) : Int) := od_; first | exact h_ | (have e_ := (Kd.R_reads' HO_0.out).1; omega) | simpa using h_) (seg := [.int .i64 (wrap64 (x1_1 + 1))]) (j := 1) hcl11 hcc11 (show 2 ≤ 3 from by decide) (x' := (⟨(rd_T95 y327 x5_1).f0, wrap64 (x1_1 + 1), (rd_T95 y327 x5_1).f2⟩ : S95)) (k95_mkM _ _ _ (⟨(rd_T95 y327 x5_1).f0, wrap64 (x1_1 + 1), (rd_T95 y327 x5_1).f2⟩ : S95) ) (fun _ hk => hk); have hx11_1 := hcc11 1 _ rfl; (try simp only [show (k95).sz = 3 from rfl, Nat.mul_one, Nat.add_zero] at hx11_1); have hf11_1 := hfr11 1; (try simp only [show (k95).sz = 3 from rfl, Nat.mul_one, Nat.add_zero] at hf11_1); clear hcl11 hcc11 hfr11 hM11) | ((with_reducible refine gate_store (t := 3) (p := 23) rfl ?_); refine store_event (t := 3) (p := 23) (v := ?vo_w12) (w1 := (w10.setCell ⟨go5, (x5_1 : Int).toNat * 3 + 1, none⟩ (.int .i64 (wrap64 (x1_1 + 1))))) ?hg ?ho ?hn ?hr ?_; (case ho => rfl); (case hg => rfl); (case hn => rfl); (case hr => first | (go_simp; done) | (go_simp; rfl)); intro w12 hw; have hg : w10.grownBy w12 (some go5) := (by rw [hw]; exact HP11.2); have hp_ : Kd.R k95 95 w12 w0.heap.size (fun k_ => (P0_ k_ ∨ w.heap.size ≤ k_)) (.slice (some ⟨go5, 0, none⟩) x0_1.length co8) y328 := (by rw [hw, Ny328.out]; exact HP11.1); clear HP11; have n0_ := A_ hp_; have n1_ := A_ ((by rw [hw]; exact below_set (HB.out) GB5.out : Below w0.heap.size w0 w12)); have n2_ := A_ (Kept.of_grown (S := (fun k_ => P0_ k_)) hg (by repeat (first | (with_reducible first | exact HK.out | apply Kept.alloc | apply Kept.drewN | apply Kept.drew) | exact HK.out)) (fun k_ e_ => (HO_0.out.1 k_ e_))); clear HO_0; clear HB; clear HK; have HO_0 := n0_; have HB := n1_; have HK := n2_; clear n0_ n1_ n2_; clear hg hw hp_; have p7 : 0 ≤ (x5_1 : Int) := od_; have q7 : (x5_1 : Int) < ((x0_1.length : Int) : Int) := od_; obtain ⟨ce7, hcl7, hM7, hcc7, hfr7⟩ := Kd.R_elem HO_0.out z95 (x5_1 : Int) p7 q7; obtain rfl := k95_openM hM7; have hx7_0 : w12.cell? ⟨go5, (x5_1 : Int).toNat * 3, none⟩ = some (.int .i64 ((rd_T95 y328 x5_1).f0)) := hcc7 0 _ rfl; have hx7_1 : w12.cell? ⟨go5, (x5_1 : Int).toNat * 3 + 1, none⟩ = some (.int .i64 ((rd_T95 y328 x5_1).f1)) := hcc7 1 _ rfl; have hx7_2 : w12.cell? ⟨go5, (x5_1 : Int).toNat * 3 + 2, none⟩ = some (.int .i64 ((rd_T95 y328 x5_1).f2)) := hcc7 2 _ rfl; have hf7_0 : w12.frozen? ⟨go5, (x5_1 : Int).toNat * 3, none⟩ = false := hfr7 0; have hf7_1 : w12.frozen? ⟨go5, (x5_1 : Int).toNat * 3 + 1, none⟩ = false := hfr7 1; have hf7_2 : w12.frozen? ⟨go5, (x5_1 : Int).toNat * 3 + 2, none⟩ = false := hfr7 2; clear hcl7 hcc7 hfr7 hM7; replace p7 := eq_true p7; replace q7 := eq_true q7; have HX13 := A_ (show Kd.R k95 95 w12 w0.heap.size (fun k_ => (P0_ k_ ∨ w.heap.size ≤ k_)) (.slice (some ⟨go5, 0, none⟩) x0_1.length co8) y328 from (rb_ HO_0.out)); obtain ⟨ce13, hcl13, hM13, hcc13, hfr13⟩ := Kd.R_elem HX13.out z95 (x5_1 : Int) (od_) (by have h_ : (x5_1 : Int) < ((x0_1.length : Int) : Int) := od_; first | exact h_ | (have e_ := (Kd.R_reads' HO_0.out).1; omega) | simpa using h_); obtain rfl := k95_openM hM13; have HP13 := Kd.R_seg HX13.out (x5_1 : Int) (od_) (by have h_ : (x5_1 : Int) < ((x0_1.length : Int) : Int) := od_; first | exact h_ | (have e_ := (Kd.R_reads' HO_0.out).1; omega) | simpa using h_) (seg := [.int .i64 (wrap64 ((wrap64 (x1_1 + 1)) + 1))]) (j := 2) hcl13 hcc13 (show 3 ≤ 3 from by decide) (x' := (⟨(rd_T95 y328 x5_1).f0, (rd_T95 y328 x5_1).f1, wrap64 ((wrap64 (x1_1 + 1)) + 1)⟩ : S95)) (k95_mkM _ _ _ (⟨(rd_T95 y328 x5_1).f0, (rd_T95 y328 x5_1).f1, wrap64 ((wrap64 (x1_1 + 1)) + 1)⟩ : S95) ) (fun _ hk => hk); have hx13_2 := hcc13 2 _ rfl; (try simp only [show (k95).sz = 3 from rfl, Nat.mul_one, Nat.add_zero] at hx13_2); have hf13_2 := hfr13 2; (try simp only [show (k95).sz = 3 from rfl, Nat.mul_one, Nat.add_zero] at hf13_2); clear hcl13 hcc13 hfr13 hM13) | ((with_reducible refine gate_store (t := 3) (p := 30) rfl ?_); refine store_event (t := 3) (p := 30) (v := ?vo_w14) (w1 := (w12.setCell ⟨go5, (x5_1 : Int).toNat * 3 + 2, none⟩ (.int .i64 (wrap64 ((wrap64 (x1_1 + 1)) + 1))))) ?hg ?ho ?hn ?hr ?_; (case ho => rfl); (case hg => rfl); (case hn => rfl); (case hr => first | (go_simp; done) | (go_simp; rfl)); intro w14 hw; have hg : w12.grownBy w14 (some go5) := (by rw [hw]; exact HP13.2); have hp_ : Kd.R k95 95 w14 w0.heap.size (fun k_ => (P0_ k_ ∨ w.heap.size ≤ k_)) (.slice (some ⟨go5, 0, none⟩) x0_1.length co8) y329 := (by rw [hw, Ny329.out]; exact HP13.1); clear HP13; have n0_ := A_ hp_; have n1_ := A_ ((by rw [hw]; exact below_set (HB.out) GB5.out : Below w0.heap.size w0 w14)); have n2_ := A_ (Kept.of_grown (S := (fun k_ => P0_ k_)) hg (by repeat (first | (with_reducible first | exact HK.out | apply Kept.alloc | apply Kept.drewN | apply Kept.drew) | exact HK.out)) (fun k_ e_ => (HO_0.out.1 k_ e_))); clear HO_0; clear HB; clear HK; have HO_0 := n0_; have HB := n1_; have HK := n2_; clear n0_ n1_ n2_; clear hg hw hp_))
    go_roundg k1
    case measure => have := HK1.out; omega
    case rel => exact ⟨(y329), (wrap64 ((wrap64 ((wrap64 (x1_1 + 1)) + 1)) + 1)), (wrap64 (x5_1 + 1)), rt_, rt_, H', ⟨by have := HK1.out; omega⟩, ⟨rb_ HO_0.out⟩, ⟨by repeat (first | (with_reducible first | exact HK.out | apply Kept.alloc | apply Kept.drewN | apply Kept.drew) | exact HK.out)⟩, ⟨hb_ HB⟩⟩
   simp only [Option.some.injEq, Prod.mk.injEq] at H
   obtain ⟨rfl, rfl⟩ := H
   obtain ⟨Ao15, co15, eo15⟩ := Kd.R_slice HO_0.out
   subst eo15
   go_wp2
   go_ret
   exact ⟨rs_, rb_ HO_0.out, hb_ HB, by repeat (first | (with_reducible first | exact HK.out | apply Kept.alloc | apply Kept.drewN | apply Kept.drew) | exact HK.out)⟩

end Go.Proofs.Ytmkhghbalnadlaa.PFnExactMemNew
