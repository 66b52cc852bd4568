/- Contracts of functions of the program: each says that the call does what a plain Lean function tells. Made by programs of this session and of the kit. No condition beyond the hypotheses that each theorem names. -/
import Derived.Test.YtmkhghbalnadlaaVFnExactBeginv0
import Derived.Test.YtmkhghbalnadlaaProg
import Derived.Below
import Derived.Deep.Draws
import Derived.Deep.AppendLies
import Derived.Maps.AppendAt
import Derived.OwnWalk
import Derived.Laws.BytesArg
import Derived.Laws.MakeOwn
import Derived.Laws.OwnMore
import Derived.Deep.OwnRows
import Derived.Tactics
import Derived.Lib.ConvBytes
import Derived.Laws.Slices
import Derived.WalkKit
import Derived.KernelRfl
import Derived.RowKit3
import Derived.Deep.LoopGhost
import Derived.Deep.QuietTactic
import Derived.BigQuiet
import Derived.WideLaws
import Derived.Deep.DeepCutAuto
import Derived.Deep.CutBlock
import Derived.Deep.RegionHeld3
import Derived.Laws.Rows
import Derived.Lib.AppendStr
import Derived.ArgAppend
import Derived.Laws.IdiomCopy
import Derived.OrdersHeld
import Derived.Laws.BitsLemmas
import Derived.RowKit
namespace Go.Proofs.Ytmkhghbalnadlaa.PFnExactBegin
open Go.RowKit Go.Proofs.YtmkhghbalnadlaaW.PrintWords Go.Proofs.YtmkhghbalnadlaaW.PrintLast Go.Proofs.YtmkhghbalnadlaaW.PrintMore
attribute [local go_sem] max2_int min2_int max_two min_two max_three min_three max_four min_four   -- for this text's walks alone
set_option linter.unusedVariables false
set_option linter.unusedSimpArgs false



def errW : Option Int → Value
 | none => .nilIface
 | some c => .iface 0 (.int .i64 c)
theorem errW_none : errW none = .nilIface := rfl
theorem errW_some (c : Int) : errW (some c) = .iface 0 (.int .i64 c) := rfl
theorem hr_ {p : Prop} (h : p := by first | (go_simp; done) | (go_simp; rfl)) : p := h
theorem od_ {p : Prop} [Decidable p] (h : decide p = true := by first | (with_reducible assumption) | assumption) : p := of_decide_eq_true h
theorem rs_ {p : Prop} (h : p := by first | rfl | (simp [errW_none, errW_some] <;> rfl) | (simp [*, errW_none, errW_some] <;> rfl)) : p := h
theorem rt_ {p : Prop} (h : p := by first | rfl | (simp; done) | (simp [*]; done)) : p := h
theorem al_ {p : Prop} (h : p := by (try simp only [List.map_toArray, List.map_cons, List.map_nil]); first | done | rfl | (simp only [List.length_drop, List.length_take]; rfl)) : p := h
theorem A_ {p : Prop} (h : p) : Aside0 p := ⟨h⟩
theorem bk_ {w W : World} {g : Nat} {o : Obj} (x : Aside0 (w.heap[g]? = some o)) (f : w.heap[g]? = some o → W.heap[g]? = some o := by intro HX_; repeat (first | (with_reducible first | exact HX_ | refine blk_drewN ?_ _ | refine blk_drew ?_ | refine blk_alloc ?_ _) | refine blk_far ?_ (Aside0.out (by assumption)) _ | exact HX_)) : W.heap[g]? = some o := f x.out
theorem bp_ {w W : World} {g : Nat} {o o' : Obj} (x : Aside0 (w.heap[g]? = some o)) (f : w.heap[g]? = some o → W.heap[g]? = some o' := by intro HX_; (repeat (first | (with_reducible first | exact HX_ | apply blk_drewN | apply blk_drew | apply blk_alloc | apply blk_put) | apply blk_far | exact HX_)); all_goals first | rfl | exact Aside0.out (by assumption)) : W.heap[g]? = some o' := f x.out
theorem bb_ {w W w' : World} {g : Nat} {o : Obj} (x : Aside0 (w.heap[g]? = some o)) (hb : Below W.heap.size W w') (f : w.heap[g]? = some o → W.heap[g]? = some o := by intro HX_; repeat (first | (with_reducible first | exact HX_ | refine blk_drewN ?_ _ | refine blk_drew ?_ | refine blk_alloc ?_ _) | refine blk_far ?_ (Aside0.out (by assumption)) _ | exact HX_)) : Aside0 (w'.heap[g]? = some o) := ⟨blk_below (f x.out) hb⟩
theorem bq_ {w W w' : World} {g : Nat} {o o' : Obj} (x : Aside0 (w.heap[g]? = some o)) (hb : Below W.heap.size W w') (f : w.heap[g]? = some o → W.heap[g]? = some o' := by intro HX_; (repeat (first | (with_reducible first | exact HX_ | apply blk_drewN | apply blk_drew | apply blk_alloc | apply blk_put) | apply blk_far | exact HX_)); all_goals first | rfl | exact Aside0.out (by assumption)) : Aside0 (w'.heap[g]? = some o') := ⟨blk_below (f x.out) hb⟩
theorem hb_ {w0 w1 W : World} (x : Aside0 (Below w0.heap.size w0 w1)) (f : Below w0.heap.size w0 w1 → Below w0.heap.size w0 W := by intro HX_; repeat (first | (with_reducible first | exact HX_ | apply below_alloc | apply pw_below_drewN | apply below_drew1 | refine below_set ?_ (Aside0.out (by assumption))) | exact HX_)) : Below w0.heap.size w0 W := f x.out
theorem hs_ {w0 w1 W w2 : World} (x : Aside0 (Below w0.heap.size w0 w1)) (hb : Below W.heap.size W w2) (f : Below w0.heap.size w0 w1 → Below w0.heap.size w0 W := by intro HX_; repeat (first | (with_reducible first | exact HX_ | apply below_alloc | apply pw_below_drewN | apply below_drew1 | refine below_set ?_ (Aside0.out (by assumption))) | exact HX_)) : Aside0 (Below w0.heap.size w0 w2) := ⟨below_step (f x.out) hb⟩
theorem gs_ {w0 w1 W : World} {g : Nat} (x : Aside0 (Below w0.heap.size w0 w1)) (hg : g = W.heap.size) (f : Below w0.heap.size w0 w1 → Below w0.heap.size w0 W := by intro HX_; repeat (first | (with_reducible first | exact HX_ | apply below_alloc | apply pw_below_drewN | apply below_drew1 | refine below_set ?_ (Aside0.out (by assumption))) | exact HX_)) : Aside0 (w0.heap.size ≤ g) := ⟨hg ▸ below_size (f x.out)⟩
theorem ng_ {w W : World} {g g' : Nat} {o : Obj} (x : Aside0 (w.heap[g]? = some o)) (hg : g' = W.heap.size) (f : w.heap[g]? = some o → W.heap[g]? = some o := by intro HX_; repeat (first | (with_reducible first | exact HX_ | refine blk_drewN ?_ _ | refine blk_drew ?_ | refine blk_alloc ?_ _) | refine blk_far ?_ (Aside0.out (by assumption)) _ | exact HX_)) : Aside0 (g ≠ g') := ⟨hg ▸ Nat.ne_of_lt (blk_lt (f x.out))⟩
theorem ns_ {g g' : Nat} (h : Aside0 (g ≠ g')) : Aside0 (g' ≠ g) := ⟨fun e => h.out e.symm⟩
theorem hx_ {w w' : World} {B : Nat} {a : Addr} {v : Value} (x : Aside0 (Below B w w')) (h : w.cell? a = some v) (e : B = w.heap.size := by rfl) : w'.cell? a = some v := (x.out.cell (e ▸ World.block_lt_of_cell? w _ h)).trans h
theorem hy_ {w w' W : World} {B : Nat} {a : Addr} {v : Value} (x : Aside0 (Below B w w')) (h : w.cell? a = some v) (e : B = w.heap.size := by rfl) (f : w'.cell? a = some v → W.cell? a = some v := by intro HX_; exact HX_) : W.cell? a = some v := f ((x.out.cell (e ▸ World.block_lt_of_cell? w _ h)).trans h)
theorem cf_ {W : World} {g : Nat} (i : Nat) {a : Addr} {u : Value} {p : Prop} (hn : p) (v : Value) (h : W.cell? a = some u) (f : p → a.block ≠ g := by intro HX_; first | (rw [add_block]; exact HX_) | (show (Addr.add _ _).block ≠ _; rw [add_block]; exact HX_) | exact HX_) : (W.setCell ⟨g, i, none⟩ v).cell? a = some u := (cell_far (p := ⟨g, i, none⟩) (f hn) v).trans h
theorem ab_int {w w' : World} {B : Nat} {k : IntKind} {A : Option Addr} {n : Nat} {xs : List Int} (x : Aside0 (Below B w w')) (h : Aside0 (Kd.C (Kd.int k) w A n xs)) (i : Int) (h0 : 0 ≤ i := by exact od_) (h1 : i < n := by exact od_) (e : B = w.heap.size := by rfl) : ∃ ad, ((0 ≤ i) = True) ∧ ((i < n) = True) ∧ A = some ad ∧ w'.cell? (ad.add i.toNat) = some (.int k (rd xs i)) := by
  obtain ⟨ad, c0, c1⟩ := Kd.at_int h.out i h0 h1
  exact ⟨ad, eq_true h0, eq_true h1, c0, hx_ x c1 e⟩
theorem bs_ {α β : Type} {x : Option α} {f : α → Option β} {b : β} (h : x.bind f = some b) : ∃ a, Aside0 (x = some a) ∧ f a = some b := by
  obtain ⟨a, h1, h2⟩ := Option.bind_eq_some_iff.mp h
  exact ⟨a, ⟨h1⟩, h2⟩
theorem it_ {α : Type} {a b r : α} (h : (if true = true then a else b) = r) : a = r := by rw [if_pos rfl] at h; exact h
theorem iF_ {α : Type} {a b r : α} (h : (if false = true then a else b) = r) : b = r := by rw [if_neg (by decide)] at h; exact h
theorem ic_ {α : Type} {c : Prop} [Decidable c] {a b r : α} (h : (if c then a else b) = r) : (decide c = true ∧ a = r) ∨ (decide c = false ∧ b = r) := by
  by_cases k : c
  · rw [if_pos k] at h; exact .inl ⟨decide_eq_true k, h⟩
  · rw [if_neg k] at h; exact .inr ⟨decide_eq_false k, h⟩
theorem ix_ {α : Type} {c : Prop} [Decidable c] {a : Option α} {r : α} (h : (if c then a else none) = some r) : decide c = true ∧ a = some r := by
  by_cases k : c
  · rw [if_pos k] at h; exact ⟨decide_eq_true k, h⟩
  · rw [if_neg k] at h; cases h
theorem iy_ {α β : Type} [BEq β] [LawfulBEq β] [DecidableEq β] {x y : β} {a : Option α} {r : α} (h : (if x = y then a else none) = some r) : (x == y) = true ∧ (x != y) = false ∧ a = some r := by
  by_cases k : x = y
  · rw [if_pos k] at h; exact ⟨beq_iff_eq.mpr k, bne_eq_false_iff_eq.mpr k, h⟩
  · rw [if_neg k] at h; cases h
theorem cb_ {p q : Prop} (hx : q) (f : q → p := by intro HX_; repeat (first | exact HX_ | (with_reducible refine Kd.C_alloc ?_ _) | (with_reducible refine Kd.C_drewN ?_ _) | (with_reducible refine Kd.C_drew ?_))) : p := f hx
theorem rb_ {p q : Prop} (hx : q) (f : q → p := by intro HX_; (with_reducible repeat (first | apply Kd.R_alloc | apply Kd.R_drewN | apply Kd.R_drew)); exact HX_) : p := f hx
theorem sb_ {p q : Prop} (hx : q) (f : q → p := by intro HX_; (with_reducible repeat (first | apply Kd.S_alloc | apply Kd.S_drewN | apply Kd.S_drew)); exact HX_) : p := f hx
theorem nm_ {p : Prop} (h : p := by first | (simp only [putAll, Act.put, List.setIfInBounds_toArray, List.set_cons_zero, List.set_cons_succ]; done) | (simp only [putAll, Act.put, List.setIfInBounds_toArray, List.set_cons_zero, List.set_cons_succ]; rfl)) : p := h
theorem dd_ {p : Prop} (h : p := by first | exact ⟨rfl, _, World.drewN_drewN _ _ _⟩ | exact ⟨rfl, _, Eq.trans (World.drewN_drewN _ _ _) (congrArg (World.drewN _) (Nat.add_assoc _ _ _))⟩) : p := h
section
variable {P : Program} {ops : Array Oper} {rest : List Oper} {o : Oper} {a : Act} {Q : Exit → Act → World → Prop}
theorem bx_ {w0 w1 W : World} (x : Aside0 (Below w0.heap.size w0 w1)) (hgd : o.guard = none) {N : Tmp} (hd : o.dst = some N) {cs : Array Value} {t : TypeId}
    (hrun : (execOp a.eval o).run P W = .ok (.value (.pointer (some ⟨W.heap.size, 0, none⟩))) (W.alloc (.cells cs t (0, 0))))
    (h : ∀ g w2, g = W.heap.size → Below W.heap.size W w2 → Aside0 (w2.heap[g]? = some (.cells cs t (0, 0))) → Aside0 (w0.heap.size ≤ g) → Aside0 (Below w0.heap.size w0 w2) → wpList P ops Q rest (a.put o.dst (.pointer (some ⟨g, 0, none⟩))) w2)
    (f : Below w0.heap.size w0 w1 → Below w0.heap.size w0 W := by intro HX_; repeat (first | (with_reducible first | exact HX_ | apply below_alloc | apply pw_below_drewN | apply below_drew1 | refine below_set ?_ (Aside0.out (by assumption))) | exact HX_)) : wpList P ops Q (o :: rest) a W :=
  box_event hgd hd hrun fun g hg w2 hb h2 => h g w2 hg h2 ⟨hb⟩ ⟨hg ▸ below_size (f x.out)⟩ ⟨below_step (f x.out) h2⟩
end

def bt_ (m n : Nat) : Array Bool := ((List.range n).map (fun i => m.testBit i)).toArray
section
variable {P : Program} {md : Region.Mode} {ops : Array Oper} {Q : Exit → Act → World → Prop} {S : World → Prop} {ds : List Nat} {fuel : Nat} {l : Array Bool} {a a' : Act} {w : World} {oi : Oper} {v : Value}
theorem pu_ (i N : Nat) (l' : Array Bool) (h : wpAnyLast P md ops Q S ds fuel l' a' w) (hi : ops[i]? = some oi := by rfl) (hN : oi.dst = some N := by rfl) (hc : anyB md ops l l' i = true := by exact any_of HT_.out (by kernel_rfl)) (hQ : ∀ c a w, Q (.panic c) (a.put oi.dst v) w → Q (.panic c) a w := by exact fun _ _ _ h => h) (hw : Region.wanted oi (yielded ops a.tmps) = true := by rfl) (hr : ∀ w', (execOp a.eval oi).run P w' = .ok (.value v) w' := by intro w'; go_simp; with_reducible rfl) (ha : a.put (some N) v = a' := by simp only [Act.put, List.setIfInBounds_toArray, List.set_cons_zero, List.set_cons_succ, i64_w, i32_w]; rfl) : wpAnyLast P md ops Q S ds (fuel + 1) l a w := pure_ l' hi hN hc hQ (Or.inl ⟨hw, hr⟩) ha h
theorem tk2_ (i N : Nat) (l' : Array Bool) (hS : S w) (h : wpAnyLast P md ops Q S ds fuel l' a' w) (hi : ops[i]? = some oi := by rfl) (hN : oi.dst = some N := by rfl) (hc : takeB md ops ds l l' i = true := by exact take_ofW HT_.out HW_.out (by kernel_rfl)) (hQ : ∀ c a w, Q (.panic c) (a.put oi.dst v) w → Q (.panic c) a w := by exact fun _ _ _ h => h) (hw : Region.wanted oi (yielded ops a.tmps) = true := by rfl) (hr : ∀ w', S w' → (execOp a.eval oi).run P w' = .ok (.value v) w' := by rintro w' ⟨s0, s1⟩; go_simp; with_reducible rfl) (ha : a.put (some N) v = a' := by simp only [Act.put, List.setIfInBounds_toArray, List.set_cons_zero, List.set_cons_succ, i64_w, i32_w]; rfl) : wpAnyLast P md ops Q S ds (fuel + 1) l a w := take_ l' hi hN hc hQ (Or.inl ⟨hw, hr⟩) hS ha h
theorem tk4_ (i N : Nat) (l' : Array Bool) (hS : S w) (h : wpAnyLast P md ops Q S ds fuel l' a' w) (hi : ops[i]? = some oi := by rfl) (hN : oi.dst = some N := by rfl) (hc : takeB md ops ds l l' i = true := by exact take_ofW HT_.out HW_.out (by kernel_rfl)) (hQ : ∀ c a w, Q (.panic c) (a.put oi.dst v) w → Q (.panic c) a w := by exact fun _ _ _ h => h) (hw : Region.wanted oi (yielded ops a.tmps) = true := by rfl) (hr : ∀ w', S w' → (execOp a.eval oi).run P w' = .ok (.value v) w' := by rintro w' ⟨s0, s1, s2, s3⟩; go_simp; with_reducible rfl) (ha : a.put (some N) v = a' := by simp only [Act.put, List.setIfInBounds_toArray, List.set_cons_zero, List.set_cons_succ, i64_w, i32_w]; rfl) : wpAnyLast P md ops Q S ds (fuel + 1) l a w := take_ l' hi hN hc hQ (Or.inl ⟨hw, hr⟩) hS ha h
theorem tk5_ (i N : Nat) (l' : Array Bool) (hS : S w) (h : wpAnyLast P md ops Q S ds fuel l' a' w) (hi : ops[i]? = some oi := by rfl) (hN : oi.dst = some N := by rfl) (hc : takeB md ops ds l l' i = true := by exact take_ofW HT_.out HW_.out (by kernel_rfl)) (hQ : ∀ c a w, Q (.panic c) (a.put oi.dst v) w → Q (.panic c) a w := by exact fun _ _ _ h => h) (hw : Region.wanted oi (yielded ops a.tmps) = true := by rfl) (hr : ∀ w', S w' → (execOp a.eval oi).run P w' = .ok (.value v) w' := by rintro w' ⟨s0, s1, s2, s3, s4⟩; go_simp; with_reducible rfl) (ha : a.put (some N) v = a' := by simp only [Act.put, List.setIfInBounds_toArray, List.set_cons_zero, List.set_cons_succ, i64_w, i32_w]; rfl) : wpAnyLast P md ops Q S ds (fuel + 1) l a w := take_ l' hi hN hc hQ (Or.inl ⟨hw, hr⟩) hS ha h
theorem tk6_ (i N : Nat) (l' : Array Bool) (hS : S w) (h : wpAnyLast P md ops Q S ds fuel l' a' w) (hi : ops[i]? = some oi := by rfl) (hN : oi.dst = some N := by rfl) (hc : takeB md ops ds l l' i = true := by exact take_ofW HT_.out HW_.out (by kernel_rfl)) (hQ : ∀ c a w, Q (.panic c) (a.put oi.dst v) w → Q (.panic c) a w := by exact fun _ _ _ h => h) (hw : Region.wanted oi (yielded ops a.tmps) = true := by rfl) (hr : ∀ w', S w' → (execOp a.eval oi).run P w' = .ok (.value v) w' := by rintro w' ⟨s0, s1, s2, s3, s4, s5⟩; go_simp; with_reducible rfl) (ha : a.put (some N) v = a' := by simp only [Act.put, List.setIfInBounds_toArray, List.set_cons_zero, List.set_cons_succ, i64_w, i32_w]; rfl) : wpAnyLast P md ops Q S ds (fuel + 1) l a w := take_ l' hi hN hc hQ (Or.inl ⟨hw, hr⟩) hS ha h
theorem tk10_ (i N : Nat) (l' : Array Bool) (hS : S w) (h : wpAnyLast P md ops Q S ds fuel l' a' w) (hi : ops[i]? = some oi := by rfl) (hN : oi.dst = some N := by rfl) (hc : takeB md ops ds l l' i = true := by exact take_ofW HT_.out HW_.out (by kernel_rfl)) (hQ : ∀ c a w, Q (.panic c) (a.put oi.dst v) w → Q (.panic c) a w := by exact fun _ _ _ h => h) (hw : Region.wanted oi (yielded ops a.tmps) = true := by rfl) (hr : ∀ w', S w' → (execOp a.eval oi).run P w' = .ok (.value v) w' := by rintro w' ⟨s0, s1, s2, s3, s4, s5, s6, s7, s8, s9⟩; go_simp; with_reducible rfl) (ha : a.put (some N) v = a' := by simp only [Act.put, List.setIfInBounds_toArray, List.set_cons_zero, List.set_cons_succ, i64_w, i32_w]; rfl) : wpAnyLast P md ops Q S ds (fuel + 1) l a w := take_ l' hi hN hc hQ (Or.inl ⟨hw, hr⟩) hS ha h
end
theorem cz1_ {w : World} {g : Nat} {t : TypeId} {v0 : Value} (x : Aside0 (w.heap[g]? = some (.cells #[v0] t (0, 0)))) : w.cell? ⟨g, 0, none⟩ = some v0 ∧ w.frozen? ⟨g, 0, none⟩ = false := ⟨(blk_cell x.out 0).trans rfl, blk_frozen x.out 0⟩
theorem cz2_ {w : World} {g : Nat} {t : TypeId} {v0 v1 : Value} (x : Aside0 (w.heap[g]? = some (.cells #[v0, v1] t (0, 0)))) : w.cell? ⟨g, 0, none⟩ = some v0 ∧ w.cell? ⟨g, 1, none⟩ = some v1 ∧ w.frozen? ⟨g, 0, none⟩ = false ∧ w.frozen? ⟨g, 1, none⟩ = false := ⟨(blk_cell x.out 0).trans rfl, (blk_cell x.out 1).trans rfl, blk_frozen x.out 0, blk_frozen x.out 1⟩
theorem cz3_ {w : World} {g : Nat} {t : TypeId} {v0 v1 v2 : Value} (x : Aside0 (w.heap[g]? = some (.cells #[v0, v1, v2] t (0, 0)))) : w.cell? ⟨g, 0, none⟩ = some v0 ∧ w.cell? ⟨g, 1, none⟩ = some v1 ∧ w.cell? ⟨g, 2, none⟩ = some v2 ∧ w.frozen? ⟨g, 0, none⟩ = false ∧ w.frozen? ⟨g, 1, none⟩ = false ∧ w.frozen? ⟨g, 2, none⟩ = false := ⟨(blk_cell x.out 0).trans rfl, (blk_cell x.out 1).trans rfl, (blk_cell x.out 2).trans rfl, blk_frozen x.out 0, blk_frozen x.out 1, blk_frozen x.out 2⟩
theorem cz4_ {w : World} {g : Nat} {t : TypeId} {v0 v1 v2 v3 : Value} (x : Aside0 (w.heap[g]? = some (.cells #[v0, v1, v2, v3] t (0, 0)))) : w.cell? ⟨g, 0, none⟩ = some v0 ∧ w.cell? ⟨g, 1, none⟩ = some v1 ∧ w.cell? ⟨g, 2, none⟩ = some v2 ∧ w.cell? ⟨g, 3, none⟩ = some v3 ∧ w.frozen? ⟨g, 0, none⟩ = false ∧ w.frozen? ⟨g, 1, none⟩ = false ∧ w.frozen? ⟨g, 2, none⟩ = false ∧ w.frozen? ⟨g, 3, none⟩ = false := ⟨(blk_cell x.out 0).trans rfl, (blk_cell x.out 1).trans rfl, (blk_cell x.out 2).trans rfl, (blk_cell x.out 3).trans rfl, blk_frozen x.out 0, blk_frozen x.out 1, blk_frozen x.out 2, blk_frozen x.out 3⟩
theorem cz5_ {w : World} {g : Nat} {t : TypeId} {v0 v1 v2 v3 v4 : Value} (x : Aside0 (w.heap[g]? = some (.cells #[v0, v1, v2, v3, v4] t (0, 0)))) : w.cell? ⟨g, 0, none⟩ = some v0 ∧ w.cell? ⟨g, 1, none⟩ = some v1 ∧ w.cell? ⟨g, 2, none⟩ = some v2 ∧ w.cell? ⟨g, 3, none⟩ = some v3 ∧ w.cell? ⟨g, 4, none⟩ = some v4 ∧ w.frozen? ⟨g, 0, none⟩ = false ∧ w.frozen? ⟨g, 1, none⟩ = false ∧ w.frozen? ⟨g, 2, none⟩ = false ∧ w.frozen? ⟨g, 3, none⟩ = false ∧ w.frozen? ⟨g, 4, none⟩ = false := ⟨(blk_cell x.out 0).trans rfl, (blk_cell x.out 1).trans rfl, (blk_cell x.out 2).trans rfl, (blk_cell x.out 3).trans rfl, (blk_cell x.out 4).trans rfl, blk_frozen x.out 0, blk_frozen x.out 1, blk_frozen x.out 2, blk_frozen x.out 3, blk_frozen x.out 4⟩

theorem info3 : (Try.prog.info? 3).map (fun i => (i.zero, i.size, i.bytes)) = some (some (.int .i64 0), 1, 8) := by kernel_rfl
theorem info95 : (Try.prog.info? 95).map (fun i => (i.zero, i.size, i.bytes)) = some (some (.agg #[(.int .i64 0), (.int .i64 0), (.int .i64 0)]), 3, 24) := by kernel_rfl
theorem info119 : (Try.prog.info? 119).map (fun i => (i.zero, i.size, i.bytes)) = some (some (.agg #[(.int .i64 0), (.int .i64 0), (.slice none 0 0), (.int .i64 0), (.slice none 0 0)]), 5, 72) := by kernel_rfl
theorem info122 : (Try.prog.info? 122).map (fun i => (i.zero, i.size, i.bytes)) = some (some (.agg #[(.int .i64 0), (.int .i64 0), (.int .i64 0)]), 3, 24) := by kernel_rfl
-- the values' own types
/-! #### struct type 140 -/
structure S140 where
 f0 : Int
 f1 : Int
 f2 : Int
def z140 : S140 := ⟨(0 : Int), (0 : Int), (0 : Int)⟩
def k140 : Kd S140 := Kd.iso (Kd.pair (Kd.int .i64) (Kd.pair (Kd.int .i64) (Kd.int .i64))) (fun x : S140 => (x.f0, x.f1, x.f2))
theorem k140_open {w : World} {x : S140} {cs : List Value} (h : k140.K w x cs) : cs = [.int .i64 x.f0, .int .i64 x.f1, .int .i64 x.f2] := by
 obtain ⟨_, _, rfl, rfl, ⟨_, _, rfl, rfl, rfl⟩⟩ := h
 exact rfl
def rd_T140 (xs : List S140) (i : Int) : S140 := xs.getD i.toNat z140
theorem at_T140 {w : World} {A : Option Addr} {n : Nat} {xs : List S140} (h : Kd.C k140 w A n xs) (i : Int) (h0 : 0 ≤ i) (h1 : i < n) : ∃ ad , A = some ad ∧ w.cell? (ad.add (i.toNat * 3)) = some (.int .i64 (rd_T140 xs i).f0) ∧ w.cell? ⟨(ad.add (i.toNat * 3)).block, (ad.add (i.toNat * 3)).off + 1, none⟩ = some (.int .i64 (rd_T140 xs i).f1) ∧ w.cell? ⟨(ad.add (i.toNat * 3)).block, (ad.add (i.toNat * 3)).off + 2, none⟩ = some (.int .i64 (rd_T140 xs i).f2) := by
 obtain ⟨ad, c, e, _, hK, hc0⟩ := Kd.C_get h z140 i h0 h1
 have hc : ∀ j u, c[j]? = some u → w.cell? (ad.add (i.toNat * 3 + j)) = some u := hc0
 obtain rfl := k140_open hK
 exact ⟨ad, e, hc 0 _ rfl, by rw [← add_field _ _ 1 (by omega)]; exact hc 1 _ rfl, by rw [← add_field _ _ 2 (by omega)]; exact hc 2 _ rfl⟩
theorem ab_T140 {w w' : World} {B : Nat} {A : Option Addr} {n : Nat} {xs : List S140} (x : Aside0 (Below B w w')) (h : Aside0 (Kd.C k140 w A n xs)) (i : Int) (h0 : 0 ≤ i := by exact od_) (h1 : i < n := by exact od_) (e : B = w.heap.size := by rfl) : ∃ ad , ((0 ≤ i) = True) ∧ ((i < n) = True) ∧ A = some ad ∧ w'.cell? (ad.add (i.toNat * 3)) = some (.int .i64 (rd_T140 xs i).f0) ∧ w'.cell? ⟨(ad.add (i.toNat * 3)).block, (ad.add (i.toNat * 3)).off + 1, none⟩ = some (.int .i64 (rd_T140 xs i).f1) ∧ w'.cell? ⟨(ad.add (i.toNat * 3)).block, (ad.add (i.toNat * 3)).off + 2, none⟩ = some (.int .i64 (rd_T140 xs i).f2) := by
 obtain ⟨ad, c0_, c1_, c2_, c3_⟩ := at_T140 h.out i h0 h1
 exact ⟨ad, eq_true h0, eq_true h1, c0_, hx_ x c1_ e, hx_ x c2_ e, hx_ x c3_ e⟩

/-! #### struct type 124 -/
structure S124 where
 f0 : Int
 f1 : Int
 f2 : Int
def z124 : S124 := ⟨(0 : Int), (0 : Int), (0 : Int)⟩
def k124 : Kd S124 := Kd.iso (Kd.pair (Kd.int .i64) (Kd.pair (Kd.int .i64) (Kd.int .i64))) (fun x : S124 => (x.f0, x.f1, x.f2))
theorem k124_open {w : World} {x : S124} {cs : List Value} (h : k124.K w x cs) : cs = [.int .i64 x.f0, .int .i64 x.f1, .int .i64 x.f2] := by
 obtain ⟨_, _, rfl, rfl, ⟨_, _, rfl, rfl, rfl⟩⟩ := h
 exact rfl
def rd_T124 (xs : List S124) (i : Int) : S124 := xs.getD i.toNat z124
theorem at_T124 {w : World} {A : Option Addr} {n : Nat} {xs : List S124} (h : Kd.C k124 w A n xs) (i : Int) (h0 : 0 ≤ i) (h1 : i < n) : ∃ ad , A = some ad ∧ w.cell? (ad.add (i.toNat * 3)) = some (.int .i64 (rd_T124 xs i).f0) ∧ w.cell? ⟨(ad.add (i.toNat * 3)).block, (ad.add (i.toNat * 3)).off + 1, none⟩ = some (.int .i64 (rd_T124 xs i).f1) ∧ w.cell? ⟨(ad.add (i.toNat * 3)).block, (ad.add (i.toNat * 3)).off + 2, none⟩ = some (.int .i64 (rd_T124 xs i).f2) := by
 obtain ⟨ad, c, e, _, hK, hc0⟩ := Kd.C_get h z124 i h0 h1
 have hc : ∀ j u, c[j]? = some u → w.cell? (ad.add (i.toNat * 3 + j)) = some u := hc0
 obtain rfl := k124_open hK
 exact ⟨ad, e, hc 0 _ rfl, by rw [← add_field _ _ 1 (by omega)]; exact hc 1 _ rfl, by rw [← add_field _ _ 2 (by omega)]; exact hc 2 _ rfl⟩
theorem ab_T124 {w w' : World} {B : Nat} {A : Option Addr} {n : Nat} {xs : List S124} (x : Aside0 (Below B w w')) (h : Aside0 (Kd.C k124 w A n xs)) (i : Int) (h0 : 0 ≤ i := by exact od_) (h1 : i < n := by exact od_) (e : B = w.heap.size := by rfl) : ∃ ad , ((0 ≤ i) = True) ∧ ((i < n) = True) ∧ A = some ad ∧ w'.cell? (ad.add (i.toNat * 3)) = some (.int .i64 (rd_T124 xs i).f0) ∧ w'.cell? ⟨(ad.add (i.toNat * 3)).block, (ad.add (i.toNat * 3)).off + 1, none⟩ = some (.int .i64 (rd_T124 xs i).f1) ∧ w'.cell? ⟨(ad.add (i.toNat * 3)).block, (ad.add (i.toNat * 3)).off + 2, none⟩ = some (.int .i64 (rd_T124 xs i).f2) := by
 obtain ⟨ad, c0_, c1_, c2_, c3_⟩ := at_T124 h.out i h0 h1
 exact ⟨ad, eq_true h0, eq_true h1, c0_, hx_ x c1_ e, hx_ x c2_ e, hx_ x c3_ e⟩

def rd_L3 (xs : List (List S124)) (i : Int) : (List S124) := xs.getD i.toNat ([] : List S124)
def rd_L4 (xs : List (List Int)) (i : Int) : (List Int) := xs.getD i.toNat ([] : List Int)
/-! #### struct type 41 -/
structure S41 where
 f0 : Int
 f1 : (List Int)
def z41 : S41 := ⟨(0 : Int), ([] : List Int)⟩
def k41 : Kd S41 := Kd.iso (Kd.pair (Kd.int .i64) (Kd.slice 3 (Kd.int .i64))) (fun x : S41 => (x.f0, x.f1))
theorem k41_open {w : World} {x : S41} {cs : List Value} (h : k41.K w x cs) : ∃ A1 c1, cs = [.int .i64 x.f0, .slice A1 x.f1.length c1] ∧ x.f1.length ≤ c1 ∧ (Kd.int .i64).C w A1 x.f1.length x.f1 := by
 obtain ⟨_, _, rfl, rfl, ⟨A1, c1, rfl, l1, g1⟩⟩ := h
 exact ⟨A1, c1, rfl, l1, g1⟩
def rd_T41 (xs : List S41) (i : Int) : S41 := xs.getD i.toNat z41
/-! #### struct type 134 -/
structure S134 where
 f0 : Int
 f1 : Int
 f2 : (List S124)
 f3 : S41
def z134 : S134 := ⟨(0 : Int), (0 : Int), ([] : List S124), z41⟩
def k134 : Kd S134 := Kd.iso (Kd.pair (Kd.int .i64) (Kd.pair (Kd.int .i64) (Kd.pair (Kd.slice 124 k124) k41))) (fun x : S134 => (x.f0, x.f1, x.f2, x.f3))
theorem k134_open {w : World} {x : S134} {cs : List Value} (h : k134.K w x cs) : ∃ A2 c2 A4 c4, cs = [.int .i64 x.f0, .int .i64 x.f1, .slice A2 x.f2.length c2, .int .i64 x.f3.f0, .slice A4 x.f3.f1.length c4] ∧ x.f2.length ≤ c2 ∧ k124.C w A2 x.f2.length x.f2 ∧ x.f3.f1.length ≤ c4 ∧ (Kd.int .i64).C w A4 x.f3.f1.length x.f3.f1 := by
 obtain ⟨_, _, rfl, rfl, ⟨_, _, rfl, rfl, ⟨_, _, rfl, ⟨A2, c2, rfl, l2, g2⟩, s3⟩⟩⟩ := h
 obtain ⟨A4, c4, rfl, l4, g4⟩ := k41_open s3
 exact ⟨A2, c2, A4, c4, rfl, l2, g2, l4, g4⟩
def rd_T134 (xs : List S134) (i : Int) : S134 := xs.getD i.toNat z134
theorem at_T134 {w : World} {A : Option Addr} {n : Nat} {xs : List S134} (h : Kd.C k134 w A n xs) (i : Int) (h0 : 0 ≤ i) (h1 : i < n) : ∃ ad A2 c2 A4 c4, A = some ad ∧ w.cell? (ad.add (i.toNat * 5)) = some (.int .i64 (rd_T134 xs i).f0) ∧ w.cell? ⟨(ad.add (i.toNat * 5)).block, (ad.add (i.toNat * 5)).off + 1, none⟩ = some (.int .i64 (rd_T134 xs i).f1) ∧ w.cell? ⟨(ad.add (i.toNat * 5)).block, (ad.add (i.toNat * 5)).off + 2, none⟩ = some (.slice A2 (rd_T134 xs i).f2.length c2) ∧ w.cell? ⟨(ad.add (i.toNat * 5)).block, (ad.add (i.toNat * 5)).off + 3, none⟩ = some (.int .i64 (rd_T134 xs i).f3.f0) ∧ w.cell? ⟨(ad.add (i.toNat * 5)).block, (ad.add (i.toNat * 5)).off + 4, none⟩ = some (.slice A4 (rd_T134 xs i).f3.f1.length c4) ∧ (rd_T134 xs i).f2.length ≤ c2 ∧ k124.C w A2 (rd_T134 xs i).f2.length (rd_T134 xs i).f2 ∧ (rd_T134 xs i).f3.f1.length ≤ c4 ∧ (Kd.int .i64).C w A4 (rd_T134 xs i).f3.f1.length (rd_T134 xs i).f3.f1 := by
 obtain ⟨ad, c, e, _, hK, hc0⟩ := Kd.C_get h z134 i h0 h1
 have hc : ∀ j u, c[j]? = some u → w.cell? (ad.add (i.toNat * 5 + j)) = some u := hc0
 obtain ⟨A2, c2, A4, c4, rfl, l2, g2, l4, g4⟩ := k134_open hK
 exact ⟨ad, A2, c2, A4, c4, e, hc 0 _ rfl, by rw [← add_field _ _ 1 (by omega)]; exact hc 1 _ rfl, by rw [← add_field _ _ 2 (by omega)]; exact hc 2 _ rfl, by rw [← add_field _ _ 3 (by omega)]; exact hc 3 _ rfl, by rw [← add_field _ _ 4 (by omega)]; exact hc 4 _ rfl, l2, g2, l4, g4⟩
theorem ab_T134 {w w' : World} {B : Nat} {A : Option Addr} {n : Nat} {xs : List S134} (x : Aside0 (Below B w w')) (h : Aside0 (Kd.C k134 w A n xs)) (i : Int) (h0 : 0 ≤ i := by exact od_) (h1 : i < n := by exact od_) (e : B = w.heap.size := by rfl) : ∃ ad A2 c2 A4 c4, ((0 ≤ i) = True) ∧ ((i < n) = True) ∧ A = some ad ∧ w'.cell? (ad.add (i.toNat * 5)) = some (.int .i64 (rd_T134 xs i).f0) ∧ w'.cell? ⟨(ad.add (i.toNat * 5)).block, (ad.add (i.toNat * 5)).off + 1, none⟩ = some (.int .i64 (rd_T134 xs i).f1) ∧ w'.cell? ⟨(ad.add (i.toNat * 5)).block, (ad.add (i.toNat * 5)).off + 2, none⟩ = some (.slice A2 (rd_T134 xs i).f2.length c2) ∧ w'.cell? ⟨(ad.add (i.toNat * 5)).block, (ad.add (i.toNat * 5)).off + 3, none⟩ = some (.int .i64 (rd_T134 xs i).f3.f0) ∧ w'.cell? ⟨(ad.add (i.toNat * 5)).block, (ad.add (i.toNat * 5)).off + 4, none⟩ = some (.slice A4 (rd_T134 xs i).f3.f1.length c4) ∧ Aside0 ((rd_T134 xs i).f2.length ≤ c2) ∧ Aside0 (k124.C w A2 (rd_T134 xs i).f2.length (rd_T134 xs i).f2) ∧ Aside0 ((rd_T134 xs i).f3.f1.length ≤ c4) ∧ Aside0 ((Kd.int .i64).C w A4 (rd_T134 xs i).f3.f1.length (rd_T134 xs i).f3.f1) := by
 obtain ⟨ad, A2, c2, A4, c4, c0_, c1_, c2_, c3_, c4_, c5_, c6_, c7_, c8_, c9_⟩ := at_T134 h.out i h0 h1
 exact ⟨ad, A2, c2, A4, c4, eq_true h0, eq_true h1, c0_, hx_ x c1_ e, hx_ x c2_ e, hx_ x c3_ e, hx_ x c4_ e, hx_ x c5_ e, ⟨c6_⟩, ⟨c7_⟩, ⟨c8_⟩, ⟨c9_⟩⟩

/-! #### struct type 95 -/
structure S95 where
 f0 : Int
 f1 : Int
 f2 : Int
def z95 : S95 := ⟨(0 : Int), (0 : Int), (0 : Int)⟩
def k95 : Kd S95 := Kd.iso (Kd.pair (Kd.int .i64) (Kd.pair (Kd.int .i64) (Kd.int .i64))) (fun x : S95 => (x.f0, x.f1, x.f2))
theorem k95_open {w : World} {x : S95} {cs : List Value} (h : k95.K w x cs) : cs = [.int .i64 x.f0, .int .i64 x.f1, .int .i64 x.f2] := by
 obtain ⟨_, _, rfl, rfl, ⟨_, _, rfl, rfl, rfl⟩⟩ := h
 exact rfl
theorem k95_openM {w : World} {base : Nat} {ok : Nat → Prop} {x : S95} {cs : List Value} (h : k95.M w base ok x cs) : cs = [.int .i64 x.f0, .int .i64 x.f1, .int .i64 x.f2] := by
 obtain ⟨_, _, rfl, rfl, ⟨_, _, rfl, rfl, rfl⟩⟩ := h
 exact rfl
theorem k95_mkM (w : World) (base : Nat) (ok : Nat → Prop) (x : S95)  : k95.M w base ok x [.int .i64 x.f0, .int .i64 x.f1, .int .i64 x.f2] := ⟨[.int .i64 x.f0], [.int .i64 x.f1, .int .i64 x.f2], rfl, rfl, ⟨[.int .i64 x.f1], [.int .i64 x.f2], rfl, rfl, rfl⟩⟩
def rd_T95 (xs : List S95) (i : Int) : S95 := xs.getD i.toNat z95
theorem at_T95 {w : World} {A : Option Addr} {n : Nat} {xs : List S95} (h : Kd.C k95 w A n xs) (i : Int) (h0 : 0 ≤ i) (h1 : i < n) : ∃ ad , A = some ad ∧ w.cell? (ad.add (i.toNat * 3)) = some (.int .i64 (rd_T95 xs i).f0) ∧ w.cell? ⟨(ad.add (i.toNat * 3)).block, (ad.add (i.toNat * 3)).off + 1, none⟩ = some (.int .i64 (rd_T95 xs i).f1) ∧ w.cell? ⟨(ad.add (i.toNat * 3)).block, (ad.add (i.toNat * 3)).off + 2, none⟩ = some (.int .i64 (rd_T95 xs i).f2) := by
 obtain ⟨ad, c, e, _, hK, hc0⟩ := Kd.C_get h z95 i h0 h1
 have hc : ∀ j u, c[j]? = some u → w.cell? (ad.add (i.toNat * 3 + j)) = some u := hc0
 obtain rfl := k95_open hK
 exact ⟨ad, e, hc 0 _ rfl, by rw [← add_field _ _ 1 (by omega)]; exact hc 1 _ rfl, by rw [← add_field _ _ 2 (by omega)]; exact hc 2 _ rfl⟩
theorem ab_T95 {w w' : World} {B : Nat} {A : Option Addr} {n : Nat} {xs : List S95} (x : Aside0 (Below B w w')) (h : Aside0 (Kd.C k95 w A n xs)) (i : Int) (h0 : 0 ≤ i := by exact od_) (h1 : i < n := by exact od_) (e : B = w.heap.size := by rfl) : ∃ ad , ((0 ≤ i) = True) ∧ ((i < n) = True) ∧ A = some ad ∧ w'.cell? (ad.add (i.toNat * 3)) = some (.int .i64 (rd_T95 xs i).f0) ∧ w'.cell? ⟨(ad.add (i.toNat * 3)).block, (ad.add (i.toNat * 3)).off + 1, none⟩ = some (.int .i64 (rd_T95 xs i).f1) ∧ w'.cell? ⟨(ad.add (i.toNat * 3)).block, (ad.add (i.toNat * 3)).off + 2, none⟩ = some (.int .i64 (rd_T95 xs i).f2) := by
 obtain ⟨ad, c0_, c1_, c2_, c3_⟩ := at_T95 h.out i h0 h1
 exact ⟨ad, eq_true h0, eq_true h1, c0_, hx_ x c1_ e, hx_ x c2_ e, hx_ x c3_ e⟩

/-! #### struct type 122 -/
structure S122 where
 f0 : Int
 f1 : Int
 f2 : Int
def z122 : S122 := ⟨(0 : Int), (0 : Int), (0 : Int)⟩
def k122 : Kd S122 := Kd.iso (Kd.pair (Kd.int .i64) (Kd.pair (Kd.int .i64) (Kd.int .i64))) (fun x : S122 => (x.f0, x.f1, x.f2))
theorem k122_open {w : World} {x : S122} {cs : List Value} (h : k122.K w x cs) : cs = [.int .i64 x.f0, .int .i64 x.f1, .int .i64 x.f2] := by
 obtain ⟨_, _, rfl, rfl, ⟨_, _, rfl, rfl, rfl⟩⟩ := h
 exact rfl
theorem k122_openM {w : World} {base : Nat} {ok : Nat → Prop} {x : S122} {cs : List Value} (h : k122.M w base ok x cs) : cs = [.int .i64 x.f0, .int .i64 x.f1, .int .i64 x.f2] := by
 obtain ⟨_, _, rfl, rfl, ⟨_, _, rfl, rfl, rfl⟩⟩ := h
 exact rfl
theorem k122_mkM (w : World) (base : Nat) (ok : Nat → Prop) (x : S122)  : k122.M w base ok x [.int .i64 x.f0, .int .i64 x.f1, .int .i64 x.f2] := ⟨[.int .i64 x.f0], [.int .i64 x.f1, .int .i64 x.f2], rfl, rfl, ⟨[.int .i64 x.f1], [.int .i64 x.f2], rfl, rfl, rfl⟩⟩
def rd_T122 (xs : List S122) (i : Int) : S122 := xs.getD i.toNat z122
theorem at_T122 {w : World} {A : Option Addr} {n : Nat} {xs : List S122} (h : Kd.C k122 w A n xs) (i : Int) (h0 : 0 ≤ i) (h1 : i < n) : ∃ ad , A = some ad ∧ w.cell? (ad.add (i.toNat * 3)) = some (.int .i64 (rd_T122 xs i).f0) ∧ w.cell? ⟨(ad.add (i.toNat * 3)).block, (ad.add (i.toNat * 3)).off + 1, none⟩ = some (.int .i64 (rd_T122 xs i).f1) ∧ w.cell? ⟨(ad.add (i.toNat * 3)).block, (ad.add (i.toNat * 3)).off + 2, none⟩ = some (.int .i64 (rd_T122 xs i).f2) := by
 obtain ⟨ad, c, e, _, hK, hc0⟩ := Kd.C_get h z122 i h0 h1
 have hc : ∀ j u, c[j]? = some u → w.cell? (ad.add (i.toNat * 3 + j)) = some u := hc0
 obtain rfl := k122_open hK
 exact ⟨ad, e, hc 0 _ rfl, by rw [← add_field _ _ 1 (by omega)]; exact hc 1 _ rfl, by rw [← add_field _ _ 2 (by omega)]; exact hc 2 _ rfl⟩
theorem ab_T122 {w w' : World} {B : Nat} {A : Option Addr} {n : Nat} {xs : List S122} (x : Aside0 (Below B w w')) (h : Aside0 (Kd.C k122 w A n xs)) (i : Int) (h0 : 0 ≤ i := by exact od_) (h1 : i < n := by exact od_) (e : B = w.heap.size := by rfl) : ∃ ad , ((0 ≤ i) = True) ∧ ((i < n) = True) ∧ A = some ad ∧ w'.cell? (ad.add (i.toNat * 3)) = some (.int .i64 (rd_T122 xs i).f0) ∧ w'.cell? ⟨(ad.add (i.toNat * 3)).block, (ad.add (i.toNat * 3)).off + 1, none⟩ = some (.int .i64 (rd_T122 xs i).f1) ∧ w'.cell? ⟨(ad.add (i.toNat * 3)).block, (ad.add (i.toNat * 3)).off + 2, none⟩ = some (.int .i64 (rd_T122 xs i).f2) := by
 obtain ⟨ad, c0_, c1_, c2_, c3_⟩ := at_T122 h.out i h0 h1
 exact ⟨ad, eq_true h0, eq_true h1, c0_, hx_ x c1_ e, hx_ x c2_ e, hx_ x c3_ e⟩

def rd_L9 (xs : List (List S122)) (i : Int) : (List S122) := xs.getD i.toNat ([] : List S122)
/-! #### struct type 49 -/
structure S49 where
 f0 : Int
 f1 : (List Int)
def z49 : S49 := ⟨(0 : Int), ([] : List Int)⟩
def k49 : Kd S49 := Kd.iso (Kd.pair (Kd.int .i64) (Kd.slice 3 (Kd.int .i64))) (fun x : S49 => (x.f0, x.f1))
theorem k49_open {w : World} {x : S49} {cs : List Value} (h : k49.K w x cs) : ∃ A1 c1, cs = [.int .i64 x.f0, .slice A1 x.f1.length c1] ∧ x.f1.length ≤ c1 ∧ (Kd.int .i64).C w A1 x.f1.length x.f1 := by
 obtain ⟨_, _, rfl, rfl, ⟨A1, c1, rfl, l1, g1⟩⟩ := h
 exact ⟨A1, c1, rfl, l1, g1⟩
theorem k49_openM {w : World} {base : Nat} {ok : Nat → Prop} {x : S49} {cs : List Value} (h : k49.M w base ok x cs) : ∃ v1, cs = [.int .i64 x.f0, v1] ∧ (Kd.int .i64).R 3 w base ok v1 x.f1 := by
 obtain ⟨_, _, rfl, rfl, ⟨v1, rfl, g1⟩⟩ := h
 exact ⟨v1, rfl, g1⟩
theorem k49_mkM (w : World) (base : Nat) (ok : Nat → Prop) (x : S49) {v1 : Value} (g1 : (Kd.int .i64).R 3 w base ok v1 x.f1) : k49.M w base ok x [.int .i64 x.f0, v1] := ⟨[.int .i64 x.f0], [v1], rfl, rfl, ⟨v1, rfl, g1⟩⟩
def rd_T49 (xs : List S49) (i : Int) : S49 := xs.getD i.toNat z49
/-! #### struct type 119 -/
structure S119 where
 f0 : Int
 f1 : Int
 f2 : (List S122)
 f3 : S49
def z119 : S119 := ⟨(0 : Int), (0 : Int), ([] : List S122), z49⟩
def k119 : Kd S119 := Kd.iso (Kd.pair (Kd.int .i64) (Kd.pair (Kd.int .i64) (Kd.pair (Kd.slice 122 k122) k49))) (fun x : S119 => (x.f0, x.f1, x.f2, x.f3))
theorem k119_open {w : World} {x : S119} {cs : List Value} (h : k119.K w x cs) : ∃ A2 c2 A4 c4, cs = [.int .i64 x.f0, .int .i64 x.f1, .slice A2 x.f2.length c2, .int .i64 x.f3.f0, .slice A4 x.f3.f1.length c4] ∧ x.f2.length ≤ c2 ∧ k122.C w A2 x.f2.length x.f2 ∧ x.f3.f1.length ≤ c4 ∧ (Kd.int .i64).C w A4 x.f3.f1.length x.f3.f1 := by
 obtain ⟨_, _, rfl, rfl, ⟨_, _, rfl, rfl, ⟨_, _, rfl, ⟨A2, c2, rfl, l2, g2⟩, s3⟩⟩⟩ := h
 obtain ⟨A4, c4, rfl, l4, g4⟩ := k49_open s3
 exact ⟨A2, c2, A4, c4, rfl, l2, g2, l4, g4⟩
theorem k119_openM {w : World} {base : Nat} {ok : Nat → Prop} {x : S119} {cs : List Value} (h : k119.M w base ok x cs) : ∃ v2 v4, cs = [.int .i64 x.f0, .int .i64 x.f1, v2, .int .i64 x.f3.f0, v4] ∧ k122.R 122 w base ok v2 x.f2 ∧ (Kd.int .i64).R 3 w base ok v4 x.f3.f1 := by
 obtain ⟨_, _, rfl, rfl, ⟨_, _, rfl, rfl, ⟨_, _, rfl, ⟨v2, rfl, g2⟩, s3⟩⟩⟩ := h
 obtain ⟨v4, rfl, g4⟩ := k49_openM s3
 exact ⟨v2, v4, rfl, g2, g4⟩
theorem k119_mkM (w : World) (base : Nat) (ok : Nat → Prop) (x : S119) {v2 : Value} (g2 : k122.R 122 w base ok v2 x.f2) {v4 : Value} (g4 : (Kd.int .i64).R 3 w base ok v4 x.f3.f1) : k119.M w base ok x [.int .i64 x.f0, .int .i64 x.f1, v2, .int .i64 x.f3.f0, v4] := ⟨[.int .i64 x.f0], [.int .i64 x.f1, v2, .int .i64 x.f3.f0, v4], rfl, rfl, ⟨[.int .i64 x.f1], [v2, .int .i64 x.f3.f0, v4], rfl, rfl, ⟨[v2], [.int .i64 x.f3.f0, v4], rfl, ⟨v2, rfl, g2⟩, (k49_mkM w base ok x.f3 g4)⟩⟩⟩
def rd_T119 (xs : List S119) (i : Int) : S119 := xs.getD i.toNat z119
theorem at_T119 {w : World} {A : Option Addr} {n : Nat} {xs : List S119} (h : Kd.C k119 w A n xs) (i : Int) (h0 : 0 ≤ i) (h1 : i < n) : ∃ ad A2 c2 A4 c4, A = some ad ∧ w.cell? (ad.add (i.toNat * 5)) = some (.int .i64 (rd_T119 xs i).f0) ∧ w.cell? ⟨(ad.add (i.toNat * 5)).block, (ad.add (i.toNat * 5)).off + 1, none⟩ = some (.int .i64 (rd_T119 xs i).f1) ∧ w.cell? ⟨(ad.add (i.toNat * 5)).block, (ad.add (i.toNat * 5)).off + 2, none⟩ = some (.slice A2 (rd_T119 xs i).f2.length c2) ∧ w.cell? ⟨(ad.add (i.toNat * 5)).block, (ad.add (i.toNat * 5)).off + 3, none⟩ = some (.int .i64 (rd_T119 xs i).f3.f0) ∧ w.cell? ⟨(ad.add (i.toNat * 5)).block, (ad.add (i.toNat * 5)).off + 4, none⟩ = some (.slice A4 (rd_T119 xs i).f3.f1.length c4) ∧ (rd_T119 xs i).f2.length ≤ c2 ∧ k122.C w A2 (rd_T119 xs i).f2.length (rd_T119 xs i).f2 ∧ (rd_T119 xs i).f3.f1.length ≤ c4 ∧ (Kd.int .i64).C w A4 (rd_T119 xs i).f3.f1.length (rd_T119 xs i).f3.f1 := by
 obtain ⟨ad, c, e, _, hK, hc0⟩ := Kd.C_get h z119 i h0 h1
 have hc : ∀ j u, c[j]? = some u → w.cell? (ad.add (i.toNat * 5 + j)) = some u := hc0
 obtain ⟨A2, c2, A4, c4, rfl, l2, g2, l4, g4⟩ := k119_open hK
 exact ⟨ad, A2, c2, A4, c4, e, hc 0 _ rfl, by rw [← add_field _ _ 1 (by omega)]; exact hc 1 _ rfl, by rw [← add_field _ _ 2 (by omega)]; exact hc 2 _ rfl, by rw [← add_field _ _ 3 (by omega)]; exact hc 3 _ rfl, by rw [← add_field _ _ 4 (by omega)]; exact hc 4 _ rfl, l2, g2, l4, g4⟩
theorem ab_T119 {w w' : World} {B : Nat} {A : Option Addr} {n : Nat} {xs : List S119} (x : Aside0 (Below B w w')) (h : Aside0 (Kd.C k119 w A n xs)) (i : Int) (h0 : 0 ≤ i := by exact od_) (h1 : i < n := by exact od_) (e : B = w.heap.size := by rfl) : ∃ ad A2 c2 A4 c4, ((0 ≤ i) = True) ∧ ((i < n) = True) ∧ A = some ad ∧ w'.cell? (ad.add (i.toNat * 5)) = some (.int .i64 (rd_T119 xs i).f0) ∧ w'.cell? ⟨(ad.add (i.toNat * 5)).block, (ad.add (i.toNat * 5)).off + 1, none⟩ = some (.int .i64 (rd_T119 xs i).f1) ∧ w'.cell? ⟨(ad.add (i.toNat * 5)).block, (ad.add (i.toNat * 5)).off + 2, none⟩ = some (.slice A2 (rd_T119 xs i).f2.length c2) ∧ w'.cell? ⟨(ad.add (i.toNat * 5)).block, (ad.add (i.toNat * 5)).off + 3, none⟩ = some (.int .i64 (rd_T119 xs i).f3.f0) ∧ w'.cell? ⟨(ad.add (i.toNat * 5)).block, (ad.add (i.toNat * 5)).off + 4, none⟩ = some (.slice A4 (rd_T119 xs i).f3.f1.length c4) ∧ Aside0 ((rd_T119 xs i).f2.length ≤ c2) ∧ Aside0 (k122.C w A2 (rd_T119 xs i).f2.length (rd_T119 xs i).f2) ∧ Aside0 ((rd_T119 xs i).f3.f1.length ≤ c4) ∧ Aside0 ((Kd.int .i64).C w A4 (rd_T119 xs i).f3.f1.length (rd_T119 xs i).f3.f1) := by
 obtain ⟨ad, A2, c2, A4, c4, c0_, c1_, c2_, c3_, c4_, c5_, c6_, c7_, c8_, c9_⟩ := at_T119 h.out i h0 h1
 exact ⟨ad, A2, c2, A4, c4, eq_true h0, eq_true h1, c0_, hx_ x c1_ e, hx_ x c2_ e, hx_ x c3_ e, hx_ x c4_ e, hx_ x c5_ e, ⟨c6_⟩, ⟨c7_⟩, ⟨c8_⟩, ⟨c9_⟩⟩

/-- A call of a function that a variable holds. -/
theorem goesV_ {P : Program} {ops : Array Oper} {Q : Exit → Act → World → Prop} {rest : List Oper} {oi : Oper} {a : Act} {w : World} {c : Operand} (N : Option Tmp) (hd : oi.dst = N) (hg : oi.guard = none) {f : FuncId} {fn : Func} {xs : Array Operand} {ts : Array TypeId} (hf : P.funcs[f]? = some fn) (hname : (fn.name == "runtime.NumGoroutine") = false) (hb : fn.body.isSome = true) (args : Array Value)
  (hop : oi.op = .call { callee := .value c, args := xs, argTypes := ts }) (hc : a.eval c = .func (.func f) #[] #[]) (hargs : xs.map a.eval = args)
  (h : Calls P f args w fun e w' => ∃ v, e = .returned v ∧ wpList P ops Q rest (a.put N v) w') : wpList P ops Q (oi :: rest) a w := by
 refine wpList_plain hg fun K hK => ?_
 have he := enters_ hf hname hb args w
 have hrun : (execOp a.eval oi).run P w = .ok (.enter f args) w := by
  unfold execOp
  simp [hop, resolve, Deferred.ofValue, invoke, hc, hargs, he]
 unfold Oper.wp
 rw [hrun, Oper.upon_enter]
 refine h.mono fun e w'' hh => ?_
 obtain ⟨v, rfl, hk⟩ := hh
 subst hd
 exact hK _ _ hk
/-- A call of a function that a variable holds, with what it captured. -/
theorem goesW_ {P : Program} {ops : Array Oper} {Q : Exit → Act → World → Prop} {rest : List Oper} {oi : Oper} {a : Act} {w : World} {c : Operand} (N : Option Tmp) (hd : oi.dst = N) (hg : oi.guard = none) {f : FuncId} {fn : Func} {xs : Array Operand} {ts : Array TypeId} (hf : P.funcs[f]? = some fn) (hname : (fn.name == "runtime.NumGoroutine") = false) (hb : fn.body.isSome = true) (fr args : Array Value)
  (hop : oi.op = .call { callee := .value c, args := xs, argTypes := ts }) (hc : a.eval c = .func (.func f) #[] fr) (hargs : xs.map a.eval ++ fr = args)
  (h : Calls P f args w fun e w' => ∃ v, e = .returned v ∧ wpList P ops Q rest (a.put N v) w') : wpList P ops Q (oi :: rest) a w := by
 refine wpList_plain hg fun K hK => ?_
 have he := enters_ hf hname hb args w
 have hrun : (execOp a.eval oi).run P w = .ok (.enter f args) w := by
  unfold execOp
  simp [hop, resolve, Deferred.ofValue, invoke, hc, hargs, he]
 unfold Oper.wp
 rw [hrun, Oper.upon_enter]
 refine h.mono fun e w'' hh => ?_
 obtain ⟨v, rfl, hk⟩ := hh
 subst hd
 exact hK _ _ hk

end Go.Proofs.Ytmkhghbalnadlaa.PFnExactBegin
