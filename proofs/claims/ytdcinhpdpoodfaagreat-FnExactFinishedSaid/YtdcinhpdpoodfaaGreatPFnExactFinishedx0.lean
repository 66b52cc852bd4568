/- Contracts of functions of the program. No condition beyond the hypotheses that each theorem names. -/
import Derived.Test.YtdcinhpdpoodfaaGreatVFnExactFinishedv0
import Derived.Test.YtdcinhpdpoodfaaGreatProg
import Derived.Below
import Derived.Deep.Draws
import Derived.Deep.AppendLies
import Derived.Maps.AppendAt
import Derived.OwnWalk
import Derived.Laws.BytesArg
import Derived.Laws.MakeOwn
import Derived.Laws.OwnMore
import Derived.Deep.OwnRows
import Derived.Tactics
import Derived.Lib.ConvBytes
import Derived.Laws.Slices
import Derived.WalkKit
import Derived.KernelRfl
import Derived.RowKit3
import Derived.Deep.LoopGhost
import Derived.Deep.QuietTactic
import Derived.BigQuiet
import Derived.WideLaws
import Derived.Deep.DeepCutAuto
import Derived.Deep.CutBlock
import Derived.Deep.RegionHeld3
import Derived.Laws.Rows
import Derived.Lib.AppendStr
import Derived.ArgAppend
import Derived.Laws.IdiomCopy
import Derived.OrdersHeld
import Derived.Laws.BitsLemmas
import Derived.RowKit
namespace Go.Proofs.YtdcinhpdpoodfaaGreat.PFnExactFinished
open Go.RowKit Go.Proofs.YtdcinhpdpoodfaaGreatW.PrintWords Go.Proofs.YtdcinhpdpoodfaaGreatW.PrintLast Go.Proofs.YtdcinhpdpoodfaaGreatW.PrintMore
attribute [local go_sem] max2_int min2_int max_two min_two max_three min_three max_four min_four
set_option linter.unusedVariables false
set_option linter.unusedSimpArgs false
def errW : Option Int → Value
 | none => .nilIface
 | some c => .iface 0 (.int .i64 c)
theorem errW_none : errW none = .nilIface := rfl
theorem errW_some (c : Int) : errW (some c) = .iface 0 (.int .i64 c) := rfl
theorem hr_ {p : Prop} (h : p := by first | (go_simp; done) | (go_simp; rfl)) : p := h
theorem od_ {p : Prop} [Decidable p] (h : decide p = true := by first | (with_reducible assumption) | assumption) : p := of_decide_eq_true h
theorem rs_ {p : Prop} (h : p := by first | rfl | (simp [errW_none, errW_some] <;> rfl) | (simp [*, errW_none, errW_some] <;> rfl)) : p := h
theorem rt_ {p : Prop} (h : p := by first | rfl | (simp; done) | (simp [*]; done)) : p := h
theorem al_ {p : Prop} (h : p := by (try simp only [List.map_toArray, List.map_cons, List.map_nil]); first | done | rfl | (simp only [List.length_drop, List.length_take]; rfl)) : p := h
theorem A_ {p : Prop} (h : p) : Aside0 p := ⟨h⟩
theorem bk_ {w W : World} {g : Nat} {o : Obj} (x : Aside0 (w.heap[g]? = some o)) (f : w.heap[g]? = some o → W.heap[g]? = some o := by intro HX_; repeat (first | (with_reducible first | exact HX_ | refine blk_drewN ?_ _ | refine blk_drew ?_ | refine blk_alloc ?_ _) | refine blk_far ?_ (Aside0.out (by assumption)) _ | exact HX_)) : W.heap[g]? = some o := f x.out
theorem bp_ {w W : World} {g : Nat} {o o' : Obj} (x : Aside0 (w.heap[g]? = some o)) (f : w.heap[g]? = some o → W.heap[g]? = some o' := by intro HX_; (repeat (first | (with_reducible first | exact HX_ | apply blk_drewN | apply blk_drew | apply blk_alloc | apply blk_put) | apply blk_far | exact HX_)); all_goals first | rfl | exact Aside0.out (by assumption)) : W.heap[g]? = some o' := f x.out
theorem bb_ {w W w' : World} {g : Nat} {o : Obj} (x : Aside0 (w.heap[g]? = some o)) (hb : Below W.heap.size W w') (f : w.heap[g]? = some o → W.heap[g]? = some o := by intro HX_; repeat (first | (with_reducible first | exact HX_ | refine blk_drewN ?_ _ | refine blk_drew ?_ | refine blk_alloc ?_ _) | refine blk_far ?_ (Aside0.out (by assumption)) _ | exact HX_)) : Aside0 (w'.heap[g]? = some o) := ⟨blk_below (f x.out) hb⟩
theorem bq_ {w W w' : World} {g : Nat} {o o' : Obj} (x : Aside0 (w.heap[g]? = some o)) (hb : Below W.heap.size W w') (f : w.heap[g]? = some o → W.heap[g]? = some o' := by intro HX_; (repeat (first | (with_reducible first | exact HX_ | apply blk_drewN | apply blk_drew | apply blk_alloc | apply blk_put) | apply blk_far | exact HX_)); all_goals first | rfl | exact Aside0.out (by assumption)) : Aside0 (w'.heap[g]? = some o') := ⟨blk_below (f x.out) hb⟩
theorem hb_ {w0 w1 W : World} (x : Aside0 (Below w0.heap.size w0 w1)) (f : Below w0.heap.size w0 w1 → Below w0.heap.size w0 W := by intro HX_; repeat (first | (with_reducible first | exact HX_ | apply below_alloc | apply pw_below_drewN | apply below_drew1 | refine below_set ?_ (Aside0.out (by assumption))) | exact HX_)) : Below w0.heap.size w0 W := f x.out
theorem hs_ {w0 w1 W w2 : World} (x : Aside0 (Below w0.heap.size w0 w1)) (hb : Below W.heap.size W w2) (f : Below w0.heap.size w0 w1 → Below w0.heap.size w0 W := by intro HX_; repeat (first | (with_reducible first | exact HX_ | apply below_alloc | apply pw_below_drewN | apply below_drew1 | refine below_set ?_ (Aside0.out (by assumption))) | exact HX_)) : Aside0 (Below w0.heap.size w0 w2) := ⟨below_step (f x.out) hb⟩
theorem gs_ {w0 w1 W : World} {g : Nat} (x : Aside0 (Below w0.heap.size w0 w1)) (hg : g = W.heap.size) (f : Below w0.heap.size w0 w1 → Below w0.heap.size w0 W := by intro HX_; repeat (first | (with_reducible first | exact HX_ | apply below_alloc | apply pw_below_drewN | apply below_drew1 | refine below_set ?_ (Aside0.out (by assumption))) | exact HX_)) : Aside0 (w0.heap.size ≤ g) := ⟨hg ▸ below_size (f x.out)⟩
theorem ng_ {w W : World} {g g' : Nat} {o : Obj} (x : Aside0 (w.heap[g]? = some o)) (hg : g' = W.heap.size) (f : w.heap[g]? = some o → W.heap[g]? = some o := by intro HX_; repeat (first | (with_reducible first | exact HX_ | refine blk_drewN ?_ _ | refine blk_drew ?_ | refine blk_alloc ?_ _) | refine blk_far ?_ (Aside0.out (by assumption)) _ | exact HX_)) : Aside0 (g ≠ g') := ⟨hg ▸ Nat.ne_of_lt (blk_lt (f x.out))⟩
theorem ns_ {g g' : Nat} (h : Aside0 (g ≠ g')) : Aside0 (g' ≠ g) := ⟨fun e => h.out e.symm⟩
theorem hx_ {w w' : World} {B : Nat} {a : Addr} {v : Value} (x : Aside0 (Below B w w')) (h : w.cell? a = some v) (e : B = w.heap.size := by rfl) : w'.cell? a = some v := (x.out.cell (e ▸ World.block_lt_of_cell? w _ h)).trans h
theorem hy_ {w w' W : World} {B : Nat} {a : Addr} {v : Value} (x : Aside0 (Below B w w')) (h : w.cell? a = some v) (e : B = w.heap.size := by rfl) (f : w'.cell? a = some v → W.cell? a = some v := by intro HX_; exact HX_) : W.cell? a = some v := f ((x.out.cell (e ▸ World.block_lt_of_cell? w _ h)).trans h)
theorem cf_ {W : World} {g : Nat} (i : Nat) {a : Addr} {u : Value} {p : Prop} (hn : p) (v : Value) (h : W.cell? a = some u) (f : p → a.block ≠ g := by intro HX_; first | (rw [add_block]; exact HX_) | (show (Addr.add _ _).block ≠ _; rw [add_block]; exact HX_) | exact HX_) : (W.setCell ⟨g, i, none⟩ v).cell? a = some u := (cell_far (p := ⟨g, i, none⟩) (f hn) v).trans h
theorem ab_int {w w' : World} {B : Nat} {k : IntKind} {A : Option Addr} {n : Nat} {xs : List Int} (x : Aside0 (Below B w w')) (h : Aside0 (Kd.C (Kd.int k) w A n xs)) (i : Int) (h0 : 0 ≤ i := by exact od_) (h1 : i < n := by exact od_) (e : B = w.heap.size := by rfl) : ∃ ad, ((0 ≤ i) = True) ∧ ((i < n) = True) ∧ A = some ad ∧ w'.cell? (ad.add i.toNat) = some (.int k (rd xs i)) := by
  obtain ⟨ad, c0, c1⟩ := Kd.at_int h.out i h0 h1
  exact ⟨ad, eq_true h0, eq_true h1, c0, hx_ x c1 e⟩
theorem bs_ {α β : Type} {x : Option α} {f : α → Option β} {b : β} (h : x.bind f = some b) : ∃ a, Aside0 (x = some a) ∧ f a = some b := by
  obtain ⟨a, h1, h2⟩ := Option.bind_eq_some_iff.mp h
  exact ⟨a, ⟨h1⟩, h2⟩
theorem it_ {α : Type} {a b r : α} (h : (if true = true then a else b) = r) : a = r := by rw [if_pos rfl] at h; exact h
theorem iF_ {α : Type} {a b r : α} (h : (if false = true then a else b) = r) : b = r := by rw [if_neg (by decide)] at h; exact h
theorem ic_ {α : Type} {c : Prop} [Decidable c] {a b r : α} (h : (if c then a else b) = r) : (decide c = true ∧ a = r) ∨ (decide c = false ∧ b = r) := by
  by_cases k : c
  · rw [if_pos k] at h; exact .inl ⟨decide_eq_true k, h⟩
  · rw [if_neg k] at h; exact .inr ⟨decide_eq_false k, h⟩
theorem ix_ {α : Type} {c : Prop} [Decidable c] {a : Option α} {r : α} (h : (if c then a else none) = some r) : decide c = true ∧ a = some r := by
  by_cases k : c
  · rw [if_pos k] at h; exact ⟨decide_eq_true k, h⟩
  · rw [if_neg k] at h; cases h
theorem iy_ {α β : Type} [BEq β] [LawfulBEq β] [DecidableEq β] {x y : β} {a : Option α} {r : α} (h : (if x = y then a else none) = some r) : (x == y) = true ∧ (x != y) = false ∧ a = some r := by
  by_cases k : x = y
  · rw [if_pos k] at h; exact ⟨beq_iff_eq.mpr k, bne_eq_false_iff_eq.mpr k, h⟩
  · rw [if_neg k] at h; cases h
theorem cb_ {p q : Prop} (hx : q) (f : q → p := by intro HX_; repeat (first | exact HX_ | (with_reducible refine Kd.C_alloc ?_ _) | (with_reducible refine Kd.C_drewN ?_ _) | (with_reducible refine Kd.C_drew ?_))) : p := f hx
theorem rb_ {p q : Prop} (hx : q) (f : q → p := by intro HX_; (with_reducible repeat (first | apply Kd.R_alloc | apply Kd.R_drewN | apply Kd.R_drew)); exact HX_) : p := f hx
theorem sb_ {p q : Prop} (hx : q) (f : q → p := by intro HX_; (with_reducible repeat (first | apply Kd.S_alloc | apply Kd.S_drewN | apply Kd.S_drew)); exact HX_) : p := f hx
theorem dd_ {p : Prop} (h : p := by first | exact ⟨rfl, _, World.drewN_drewN _ _ _⟩ | exact ⟨rfl, _, Eq.trans (World.drewN_drewN _ _ _) (congrArg (World.drewN _) (Nat.add_assoc _ _ _))⟩) : p := h
section
variable {P : Program} {ops : Array Oper} {rest : List Oper} {o : Oper} {a : Act} {Q : Exit → Act → World → Prop}
theorem bx_ {w0 w1 W : World} (x : Aside0 (Below w0.heap.size w0 w1)) (hgd : o.guard = none) {N : Tmp} (hd : o.dst = some N) {cs : Array Value} {t : TypeId}
    (hrun : (execOp a.eval o).run P W = .ok (.value (.pointer (some ⟨W.heap.size, 0, none⟩))) (W.alloc (.cells cs t (0, 0))))
    (h : ∀ g w2, g = W.heap.size → Below W.heap.size W w2 → Aside0 (w2.heap[g]? = some (.cells cs t (0, 0))) → Aside0 (w0.heap.size ≤ g) → Aside0 (Below w0.heap.size w0 w2) → wpList P ops Q rest (a.put o.dst (.pointer (some ⟨g, 0, none⟩))) w2)
    (f : Below w0.heap.size w0 w1 → Below w0.heap.size w0 W := by intro HX_; repeat (first | (with_reducible first | exact HX_ | apply below_alloc | apply pw_below_drewN | apply below_drew1 | refine below_set ?_ (Aside0.out (by assumption))) | exact HX_)) : wpList P ops Q (o :: rest) a W :=
  box_event hgd hd hrun fun g hg w2 hb h2 => h g w2 hg h2 ⟨hb⟩ ⟨hg ▸ below_size (f x.out)⟩ ⟨below_step (f x.out) h2⟩
end
def bt_ (m n : Nat) : Array Bool := ((List.range n).map (fun i => m.testBit i)).toArray
section
variable {P : Program} {md : Region.Mode} {ops : Array Oper} {Q : Exit → Act → World → Prop} {S : World → Prop} {ds : List Nat} {fuel : Nat} {l : Array Bool} {a a' : Act} {w : World} {oi : Oper} {v : Value}
theorem pu_ (i N : Nat) (l' : Array Bool) (h : wpAnyLast P md ops Q S ds fuel l' a' w) (hi : ops[i]? = some oi := by rfl) (hN : oi.dst = some N := by rfl) (hc : anyB md ops l l' i = true := by exact any_of HT_.out (by kernel_rfl)) (hQ : ∀ c a w, Q (.panic c) (a.put oi.dst v) w → Q (.panic c) a w := by exact fun _ _ _ h => h) (hw : Region.wanted oi (yielded ops a.tmps) = true := by rfl) (hr : ∀ w', (execOp a.eval oi).run P w' = .ok (.value v) w' := by intro w'; go_simp; with_reducible rfl) (ha : a.put (some N) v = a' := by simp only [Act.put, List.setIfInBounds_toArray, List.set_cons_zero, List.set_cons_succ, i64_w, i32_w]; rfl) : wpAnyLast P md ops Q S ds (fuel + 1) l a w := pure_ l' hi hN hc hQ (Or.inl ⟨hw, hr⟩) ha h
theorem pn_ (i N : Nat) (l' : Array Bool) (h : wpAnyLast P md ops Q S ds fuel l' a' w) (hi : ops[i]? = some oi := by rfl) (hN : oi.dst = some N := by rfl) (hc : anyB md ops l l' i = true := by exact any_of HT_.out (by kernel_rfl)) (hQ : ∀ c a w, Q (.panic c) (a.put oi.dst undef) w → Q (.panic c) a w := by exact fun _ _ _ h => h) (hw : Region.wanted oi (yielded ops a.tmps) = false := by rfl) (ha : a.put (some N) undef = a' := by simp only [Act.put, List.setIfInBounds_toArray, List.set_cons_zero, List.set_cons_succ, i64_w, i32_w]; rfl) : wpAnyLast P md ops Q S ds (fuel + 1) l a w := pure_ l' hi hN hc hQ (Or.inr ⟨hw, rfl⟩) ha h
theorem tk3_ (i N : Nat) (l' : Array Bool) (hS : S w) (h : wpAnyLast P md ops Q S ds fuel l' a' w) (hi : ops[i]? = some oi := by rfl) (hN : oi.dst = some N := by rfl) (hc : takeB md ops ds l l' i = true := by exact take_ofW HT_.out HW_.out (by kernel_rfl)) (hQ : ∀ c a w, Q (.panic c) (a.put oi.dst v) w → Q (.panic c) a w := by exact fun _ _ _ h => h) (hw : Region.wanted oi (yielded ops a.tmps) = true := by rfl) (hr : ∀ w', S w' → (execOp a.eval oi).run P w' = .ok (.value v) w' := by rintro w' ⟨s0, s1, s2⟩; go_simp; with_reducible rfl) (ha : a.put (some N) v = a' := by simp only [Act.put, List.setIfInBounds_toArray, List.set_cons_zero, List.set_cons_succ, i64_w, i32_w]; rfl) : wpAnyLast P md ops Q S ds (fuel + 1) l a w := take_ l' hi hN hc hQ (Or.inl ⟨hw, hr⟩) hS ha h
theorem tk4_ (i N : Nat) (l' : Array Bool) (hS : S w) (h : wpAnyLast P md ops Q S ds fuel l' a' w) (hi : ops[i]? = some oi := by rfl) (hN : oi.dst = some N := by rfl) (hc : takeB md ops ds l l' i = true := by exact take_ofW HT_.out HW_.out (by kernel_rfl)) (hQ : ∀ c a w, Q (.panic c) (a.put oi.dst v) w → Q (.panic c) a w := by exact fun _ _ _ h => h) (hw : Region.wanted oi (yielded ops a.tmps) = true := by rfl) (hr : ∀ w', S w' → (execOp a.eval oi).run P w' = .ok (.value v) w' := by rintro w' ⟨s0, s1, s2, s3⟩; go_simp; with_reducible rfl) (ha : a.put (some N) v = a' := by simp only [Act.put, List.setIfInBounds_toArray, List.set_cons_zero, List.set_cons_succ, i64_w, i32_w]; rfl) : wpAnyLast P md ops Q S ds (fuel + 1) l a w := take_ l' hi hN hc hQ (Or.inl ⟨hw, hr⟩) hS ha h
theorem tk5_ (i N : Nat) (l' : Array Bool) (hS : S w) (h : wpAnyLast P md ops Q S ds fuel l' a' w) (hi : ops[i]? = some oi := by rfl) (hN : oi.dst = some N := by rfl) (hc : takeB md ops ds l l' i = true := by exact take_ofW HT_.out HW_.out (by kernel_rfl)) (hQ : ∀ c a w, Q (.panic c) (a.put oi.dst v) w → Q (.panic c) a w := by exact fun _ _ _ h => h) (hw : Region.wanted oi (yielded ops a.tmps) = true := by rfl) (hr : ∀ w', S w' → (execOp a.eval oi).run P w' = .ok (.value v) w' := by rintro w' ⟨s0, s1, s2, s3, s4⟩; go_simp; with_reducible rfl) (ha : a.put (some N) v = a' := by simp only [Act.put, List.setIfInBounds_toArray, List.set_cons_zero, List.set_cons_succ, i64_w, i32_w]; rfl) : wpAnyLast P md ops Q S ds (fuel + 1) l a w := take_ l' hi hN hc hQ (Or.inl ⟨hw, hr⟩) hS ha h
theorem tk6_ (i N : Nat) (l' : Array Bool) (hS : S w) (h : wpAnyLast P md ops Q S ds fuel l' a' w) (hi : ops[i]? = some oi := by rfl) (hN : oi.dst = some N := by rfl) (hc : takeB md ops ds l l' i = true := by exact take_ofW HT_.out HW_.out (by kernel_rfl)) (hQ : ∀ c a w, Q (.panic c) (a.put oi.dst v) w → Q (.panic c) a w := by exact fun _ _ _ h => h) (hw : Region.wanted oi (yielded ops a.tmps) = true := by rfl) (hr : ∀ w', S w' → (execOp a.eval oi).run P w' = .ok (.value v) w' := by rintro w' ⟨s0, s1, s2, s3, s4, s5⟩; go_simp; with_reducible rfl) (ha : a.put (some N) v = a' := by simp only [Act.put, List.setIfInBounds_toArray, List.set_cons_zero, List.set_cons_succ, i64_w, i32_w]; rfl) : wpAnyLast P md ops Q S ds (fuel + 1) l a w := take_ l' hi hN hc hQ (Or.inl ⟨hw, hr⟩) hS ha h
theorem tk8_ (i N : Nat) (l' : Array Bool) (hS : S w) (h : wpAnyLast P md ops Q S ds fuel l' a' w) (hi : ops[i]? = some oi := by rfl) (hN : oi.dst = some N := by rfl) (hc : takeB md ops ds l l' i = true := by exact take_ofW HT_.out HW_.out (by kernel_rfl)) (hQ : ∀ c a w, Q (.panic c) (a.put oi.dst v) w → Q (.panic c) a w := by exact fun _ _ _ h => h) (hw : Region.wanted oi (yielded ops a.tmps) = true := by rfl) (hr : ∀ w', S w' → (execOp a.eval oi).run P w' = .ok (.value v) w' := by rintro w' ⟨s0, s1, s2, s3, s4, s5, s6, s7⟩; go_simp; with_reducible rfl) (ha : a.put (some N) v = a' := by simp only [Act.put, List.setIfInBounds_toArray, List.set_cons_zero, List.set_cons_succ, i64_w, i32_w]; rfl) : wpAnyLast P md ops Q S ds (fuel + 1) l a w := take_ l' hi hN hc hQ (Or.inl ⟨hw, hr⟩) hS ha h
theorem tk10_ (i N : Nat) (l' : Array Bool) (hS : S w) (h : wpAnyLast P md ops Q S ds fuel l' a' w) (hi : ops[i]? = some oi := by rfl) (hN : oi.dst = some N := by rfl) (hc : takeB md ops ds l l' i = true := by exact take_ofW HT_.out HW_.out (by kernel_rfl)) (hQ : ∀ c a w, Q (.panic c) (a.put oi.dst v) w → Q (.panic c) a w := by exact fun _ _ _ h => h) (hw : Region.wanted oi (yielded ops a.tmps) = true := by rfl) (hr : ∀ w', S w' → (execOp a.eval oi).run P w' = .ok (.value v) w' := by rintro w' ⟨s0, s1, s2, s3, s4, s5, s6, s7, s8, s9⟩; go_simp; with_reducible rfl) (ha : a.put (some N) v = a' := by simp only [Act.put, List.setIfInBounds_toArray, List.set_cons_zero, List.set_cons_succ, i64_w, i32_w]; rfl) : wpAnyLast P md ops Q S ds (fuel + 1) l a w := take_ l' hi hN hc hQ (Or.inl ⟨hw, hr⟩) hS ha h
theorem tk13_ (i N : Nat) (l' : Array Bool) (hS : S w) (h : wpAnyLast P md ops Q S ds fuel l' a' w) (hi : ops[i]? = some oi := by rfl) (hN : oi.dst = some N := by rfl) (hc : takeB md ops ds l l' i = true := by exact take_ofW HT_.out HW_.out (by kernel_rfl)) (hQ : ∀ c a w, Q (.panic c) (a.put oi.dst v) w → Q (.panic c) a w := by exact fun _ _ _ h => h) (hw : Region.wanted oi (yielded ops a.tmps) = true := by rfl) (hr : ∀ w', S w' → (execOp a.eval oi).run P w' = .ok (.value v) w' := by rintro w' ⟨s0, s1, s2, s3, s4, s5, s6, s7, s8, s9, s10, s11, s12⟩; go_simp; with_reducible rfl) (ha : a.put (some N) v = a' := by simp only [Act.put, List.setIfInBounds_toArray, List.set_cons_zero, List.set_cons_succ, i64_w, i32_w]; rfl) : wpAnyLast P md ops Q S ds (fuel + 1) l a w := take_ l' hi hN hc hQ (Or.inl ⟨hw, hr⟩) hS ha h
theorem tk17_ (i N : Nat) (l' : Array Bool) (hS : S w) (h : wpAnyLast P md ops Q S ds fuel l' a' w) (hi : ops[i]? = some oi := by rfl) (hN : oi.dst = some N := by rfl) (hc : takeB md ops ds l l' i = true := by exact take_ofW HT_.out HW_.out (by kernel_rfl)) (hQ : ∀ c a w, Q (.panic c) (a.put oi.dst v) w → Q (.panic c) a w := by exact fun _ _ _ h => h) (hw : Region.wanted oi (yielded ops a.tmps) = true := by rfl) (hr : ∀ w', S w' → (execOp a.eval oi).run P w' = .ok (.value v) w' := by rintro w' ⟨s0, s1, s2, s3, s4, s5, s6, s7, s8, s9, s10, s11, s12, s13, s14, s15, s16⟩; go_simp; with_reducible rfl) (ha : a.put (some N) v = a' := by simp only [Act.put, List.setIfInBounds_toArray, List.set_cons_zero, List.set_cons_succ, i64_w, i32_w]; rfl) : wpAnyLast P md ops Q S ds (fuel + 1) l a w := take_ l' hi hN hc hQ (Or.inl ⟨hw, hr⟩) hS ha h
theorem tk18_ (i N : Nat) (l' : Array Bool) (hS : S w) (h : wpAnyLast P md ops Q S ds fuel l' a' w) (hi : ops[i]? = some oi := by rfl) (hN : oi.dst = some N := by rfl) (hc : takeB md ops ds l l' i = true := by exact take_ofW HT_.out HW_.out (by kernel_rfl)) (hQ : ∀ c a w, Q (.panic c) (a.put oi.dst v) w → Q (.panic c) a w := by exact fun _ _ _ h => h) (hw : Region.wanted oi (yielded ops a.tmps) = true := by rfl) (hr : ∀ w', S w' → (execOp a.eval oi).run P w' = .ok (.value v) w' := by rintro w' ⟨s0, s1, s2, s3, s4, s5, s6, s7, s8, s9, s10, s11, s12, s13, s14, s15, s16, s17⟩; go_simp; with_reducible rfl) (ha : a.put (some N) v = a' := by simp only [Act.put, List.setIfInBounds_toArray, List.set_cons_zero, List.set_cons_succ, i64_w, i32_w]; rfl) : wpAnyLast P md ops Q S ds (fuel + 1) l a w := take_ l' hi hN hc hQ (Or.inl ⟨hw, hr⟩) hS ha h
theorem tk36_ (i N : Nat) (l' : Array Bool) (hS : S w) (h : wpAnyLast P md ops Q S ds fuel l' a' w) (hi : ops[i]? = some oi := by rfl) (hN : oi.dst = some N := by rfl) (hc : takeB md ops ds l l' i = true := by exact take_ofW HT_.out HW_.out (by kernel_rfl)) (hQ : ∀ c a w, Q (.panic c) (a.put oi.dst v) w → Q (.panic c) a w := by exact fun _ _ _ h => h) (hw : Region.wanted oi (yielded ops a.tmps) = true := by rfl) (hr : ∀ w', S w' → (execOp a.eval oi).run P w' = .ok (.value v) w' := by rintro w' ⟨s0, s1, s2, s3, s4, s5, s6, s7, s8, s9, s10, s11, s12, s13, s14, s15, s16, s17, s18, s19, s20, s21, s22, s23, s24, s25, s26, s27, s28, s29, s30, s31, s32, s33, s34, s35⟩; go_simp; with_reducible rfl) (ha : a.put (some N) v = a' := by simp only [Act.put, List.setIfInBounds_toArray, List.set_cons_zero, List.set_cons_succ, i64_w, i32_w]; rfl) : wpAnyLast P md ops Q S ds (fuel + 1) l a w := take_ l' hi hN hc hQ (Or.inl ⟨hw, hr⟩) hS ha h
end
theorem cz2_ {w : World} {g : Nat} {t : TypeId} {v0 v1 : Value} (x : Aside0 (w.heap[g]? = some (.cells #[v0, v1] t (0, 0)))) : w.cell? ⟨g, 0, none⟩ = some v0 ∧ w.cell? ⟨g, 1, none⟩ = some v1 ∧ w.frozen? ⟨g, 0, none⟩ = false ∧ w.frozen? ⟨g, 1, none⟩ = false := ⟨(blk_cell x.out 0).trans rfl, (blk_cell x.out 1).trans rfl, blk_frozen x.out 0, blk_frozen x.out 1⟩
theorem cz3_ {w : World} {g : Nat} {t : TypeId} {v0 v1 v2 : Value} (x : Aside0 (w.heap[g]? = some (.cells #[v0, v1, v2] t (0, 0)))) : w.cell? ⟨g, 0, none⟩ = some v0 ∧ w.cell? ⟨g, 1, none⟩ = some v1 ∧ w.cell? ⟨g, 2, none⟩ = some v2 ∧ w.frozen? ⟨g, 0, none⟩ = false ∧ w.frozen? ⟨g, 1, none⟩ = false ∧ w.frozen? ⟨g, 2, none⟩ = false := ⟨(blk_cell x.out 0).trans rfl, (blk_cell x.out 1).trans rfl, (blk_cell x.out 2).trans rfl, blk_frozen x.out 0, blk_frozen x.out 1, blk_frozen x.out 2⟩
theorem cz4_ {w : World} {g : Nat} {t : TypeId} {v0 v1 v2 v3 : Value} (x : Aside0 (w.heap[g]? = some (.cells #[v0, v1, v2, v3] t (0, 0)))) : w.cell? ⟨g, 0, none⟩ = some v0 ∧ w.cell? ⟨g, 1, none⟩ = some v1 ∧ w.cell? ⟨g, 2, none⟩ = some v2 ∧ w.cell? ⟨g, 3, none⟩ = some v3 ∧ w.frozen? ⟨g, 0, none⟩ = false ∧ w.frozen? ⟨g, 1, none⟩ = false ∧ w.frozen? ⟨g, 2, none⟩ = false ∧ w.frozen? ⟨g, 3, none⟩ = false := ⟨(blk_cell x.out 0).trans rfl, (blk_cell x.out 1).trans rfl, (blk_cell x.out 2).trans rfl, (blk_cell x.out 3).trans rfl, blk_frozen x.out 0, blk_frozen x.out 1, blk_frozen x.out 2, blk_frozen x.out 3⟩
theorem cz5_ {w : World} {g : Nat} {t : TypeId} {v0 v1 v2 v3 v4 : Value} (x : Aside0 (w.heap[g]? = some (.cells #[v0, v1, v2, v3, v4] t (0, 0)))) : w.cell? ⟨g, 0, none⟩ = some v0 ∧ w.cell? ⟨g, 1, none⟩ = some v1 ∧ w.cell? ⟨g, 2, none⟩ = some v2 ∧ w.cell? ⟨g, 3, none⟩ = some v3 ∧ w.cell? ⟨g, 4, none⟩ = some v4 ∧ w.frozen? ⟨g, 0, none⟩ = false ∧ w.frozen? ⟨g, 1, none⟩ = false ∧ w.frozen? ⟨g, 2, none⟩ = false ∧ w.frozen? ⟨g, 3, none⟩ = false ∧ w.frozen? ⟨g, 4, none⟩ = false := ⟨(blk_cell x.out 0).trans rfl, (blk_cell x.out 1).trans rfl, (blk_cell x.out 2).trans rfl, (blk_cell x.out 3).trans rfl, (blk_cell x.out 4).trans rfl, blk_frozen x.out 0, blk_frozen x.out 1, blk_frozen x.out 2, blk_frozen x.out 3, blk_frozen x.out 4⟩
theorem cz8_ {w : World} {g : Nat} {t : TypeId} {v0 v1 v2 v3 v4 v5 v6 v7 : Value} (x : Aside0 (w.heap[g]? = some (.cells #[v0, v1, v2, v3, v4, v5, v6, v7] t (0, 0)))) : w.cell? ⟨g, 0, none⟩ = some v0 ∧ w.cell? ⟨g, 1, none⟩ = some v1 ∧ w.cell? ⟨g, 2, none⟩ = some v2 ∧ w.cell? ⟨g, 3, none⟩ = some v3 ∧ w.cell? ⟨g, 4, none⟩ = some v4 ∧ w.cell? ⟨g, 5, none⟩ = some v5 ∧ w.cell? ⟨g, 6, none⟩ = some v6 ∧ w.cell? ⟨g, 7, none⟩ = some v7 ∧ w.frozen? ⟨g, 0, none⟩ = false ∧ w.frozen? ⟨g, 1, none⟩ = false ∧ w.frozen? ⟨g, 2, none⟩ = false ∧ w.frozen? ⟨g, 3, none⟩ = false ∧ w.frozen? ⟨g, 4, none⟩ = false ∧ w.frozen? ⟨g, 5, none⟩ = false ∧ w.frozen? ⟨g, 6, none⟩ = false ∧ w.frozen? ⟨g, 7, none⟩ = false := ⟨(blk_cell x.out 0).trans rfl, (blk_cell x.out 1).trans rfl, (blk_cell x.out 2).trans rfl, (blk_cell x.out 3).trans rfl, (blk_cell x.out 4).trans rfl, (blk_cell x.out 5).trans rfl, (blk_cell x.out 6).trans rfl, (blk_cell x.out 7).trans rfl, blk_frozen x.out 0, blk_frozen x.out 1, blk_frozen x.out 2, blk_frozen x.out 3, blk_frozen x.out 4, blk_frozen x.out 5, blk_frozen x.out 6, blk_frozen x.out 7⟩
theorem cz9_ {w : World} {g : Nat} {t : TypeId} {v0 v1 v2 v3 v4 v5 v6 v7 v8 : Value} (x : Aside0 (w.heap[g]? = some (.cells #[v0, v1, v2, v3, v4, v5, v6, v7, v8] t (0, 0)))) : w.cell? ⟨g, 0, none⟩ = some v0 ∧ w.cell? ⟨g, 1, none⟩ = some v1 ∧ w.cell? ⟨g, 2, none⟩ = some v2 ∧ w.cell? ⟨g, 3, none⟩ = some v3 ∧ w.cell? ⟨g, 4, none⟩ = some v4 ∧ w.cell? ⟨g, 5, none⟩ = some v5 ∧ w.cell? ⟨g, 6, none⟩ = some v6 ∧ w.cell? ⟨g, 7, none⟩ = some v7 ∧ w.cell? ⟨g, 8, none⟩ = some v8 ∧ w.frozen? ⟨g, 0, none⟩ = false ∧ w.frozen? ⟨g, 1, none⟩ = false ∧ w.frozen? ⟨g, 2, none⟩ = false ∧ w.frozen? ⟨g, 3, none⟩ = false ∧ w.frozen? ⟨g, 4, none⟩ = false ∧ w.frozen? ⟨g, 5, none⟩ = false ∧ w.frozen? ⟨g, 6, none⟩ = false ∧ w.frozen? ⟨g, 7, none⟩ = false ∧ w.frozen? ⟨g, 8, none⟩ = false := ⟨(blk_cell x.out 0).trans rfl, (blk_cell x.out 1).trans rfl, (blk_cell x.out 2).trans rfl, (blk_cell x.out 3).trans rfl, (blk_cell x.out 4).trans rfl, (blk_cell x.out 5).trans rfl, (blk_cell x.out 6).trans rfl, (blk_cell x.out 7).trans rfl, (blk_cell x.out 8).trans rfl, blk_frozen x.out 0, blk_frozen x.out 1, blk_frozen x.out 2, blk_frozen x.out 3, blk_frozen x.out 4, blk_frozen x.out 5, blk_frozen x.out 6, blk_frozen x.out 7, blk_frozen x.out 8⟩
theorem Y0_ {p q : Prop} (k : q) (h : q → p := by intro k_; refine goesL_ (some 8) rfl rfl Tryz.func100 (by kernel_rfl) rfl #[.slice A0_1 l0_1.length c0_1, .int .i64 a1] rfl al_ ?_; (with_reducible refine (laws_szIntS.calls _ _ l0_1 a1 t102 _ ?s1 ?s2 A3.out).mono ?_); (case s1 => exact cb_ (Kd.C_below HR0_1.out HB.out)); (case s2 => exact HC0_1.out); rintro e w' ⟨rfl, ⟨u0_, rfl⟩⟩; refine ⟨_, rfl, ?_⟩; revert u0_; exact k_) : p := h k
theorem Y1_ {p q : Prop} (k : q) (h : q → p := by intro k_; refine bx_ HB rfl (N := 2) rfl (cs := #[.int .i64 a0_0, .int .i64 a0_1, .slice A0_2 l0_2.length c0_2, .int .i64 a0_3, .slice A0_4 l0_4.length c0_4]) (t := 201) hr_ ?_; intro u0_ u1_ u2_ u3_ u4_ u5_ HB; clear u3_ u2_; obtain ⟨u6_, u7_, u8_, u9_, u10_, u11_, u12_, u13_, u14_, u15_⟩ := cz5_ u4_; revert u0_ u1_ u4_ u5_ HB u6_ u7_ u8_ u9_ u10_ u11_ u12_ u13_ u14_ u15_; exact k_) : p := h k
theorem Y2_ {p q : Prop} (k : q) (h : q → p := by intro k_; refine goesL_ (some 8) rfl rfl Tryz.func190 (by kernel_rfl) rfl #[.slice A0_2 l0_2.length c0_2, .int .i64 a1] rfl al_ ?_; (with_reducible refine (laws_szEntryS.calls _ _ l0_2 a1 t104 _ ?s1 ?s2 A3.out).mono ?_); (case s1 => exact cb_ (Kd.C_below HR0_2.out HB.out)); (case s2 => exact HC0_2.out); rintro e w' ⟨rfl, ⟨u0_, rfl⟩⟩; refine ⟨_, rfl, ?_⟩; revert u0_; exact k_) : p := h k
theorem Y3_ {p q : Prop} (k : q) (h : q → p := by intro k_; refine goesL_ (some 14) rfl rfl Tryz.func173 (by kernel_rfl) rfl #[.agg #[.int .i64 a0_3, .slice A0_4 l0_4.length c0_4], .int .i64 t104] rfl al_ ?_; (with_reducible refine (laws_szRes.calls a0_3 _ _ l0_4 t104 t105 _ ?s1 ?s2 A7.out).mono ?_); (case s1 => exact cb_ (Kd.C_below HR0_4.out (hb_ HB))); (case s2 => exact HC0_4.out); rintro e u0_ ⟨rfl, u1_⟩; refine ⟨_, rfl, ?_⟩; replace BK103 := bb_ BK103 u1_; replace HB := hs_ HB u1_; (try clear u1_); (try clear hb2); (try clear hk); (try clear hi); revert u0_ BK103 HB; exact k_) : p := h k
theorem Y4_ {p q : Prop} (k : q) (h : q → p := by intro k_; refine goesL_ (some 23) rfl rfl Tryz.func169 (by kernel_rfl) rfl #[.agg #[.int .i64 ((rd_T201 l0 x5_1).f0), .int .i64 ((rd_T201 l0 x5_1).f1), .slice A106_2 ((rd_T201 l0 x5_1).f2).length c106_2, .int .i64 ((rd_T201 l0 x5_1).f3.f0), .slice A106_4 ((rd_T201 l0 x5_1).f3.f1).length c106_4], .int .i64 x1_1] rfl al_ ?_; (with_reducible refine (laws_szDesc.calls ((rd_T201 l0 x5_1).f0) ((rd_T201 l0 x5_1).f1) _ _ ((rd_T201 l0 x5_1).f2) ((rd_T201 l0 x5_1).f3.f0) _ _ ((rd_T201 l0 x5_1).f3.f1) x1_1 t107 _ ?s1 ?s2 ?s3 ?s4 A6.out).mono ?_); (case s1 => exact cb_ (Kd.C_below HR106_2.out HB.out)); (case s2 => exact HC106_2.out); (case s3 => exact cb_ (Kd.C_below HR106_4.out HB.out)); (case s4 => exact HC106_4.out); rintro e u0_ ⟨rfl, u1_⟩; refine ⟨_, rfl, ?_⟩; replace HB := hs_ HB u1_; (try clear u1_); (try clear hb2); (try clear hk); (try clear hi); revert u0_ HB; exact k_) : p := h k
theorem Y5_ {p q : Prop} (k : q) (h : q → p := by intro k_; refine bx_ HB rfl (N := 2) rfl (cs := #[.slice A0_0 l0_0.length c0_0, .slice A0_1 l0_1.length c0_1]) (t := 80) hr_ ?_; intro u0_ u1_ u2_ u3_ u4_ u5_ HB; clear u3_ u2_; obtain ⟨u6_, u7_, u8_, u9_⟩ := cz2_ u4_; revert u0_ u1_ u4_ u5_ HB u6_ u7_ u8_ u9_; exact k_) : p := h k
theorem Y6_ {p q : Prop} (k : q) (h : q → p := by intro k_; refine goesL_ (some 8) rfl rfl Tryz.func149 (by kernel_rfl) rfl #[.slice A0_0 l0_0.length c0_0, .int .i64 a1] rfl al_ ?_; (with_reducible refine (laws_szWordS.calls _ _ l0_0 a1 t109 _ ?s1 ?s2 A3.out).mono ?_); (case s1 => exact cb_ (Kd.C_below HR0_0.out HB.out)); (case s2 => exact HC0_0.out); rintro e w' ⟨rfl, ⟨u0_, rfl⟩⟩; refine ⟨_, rfl, ?_⟩; revert u0_; exact k_) : p := h k
theorem Y7_ {p q : Prop} (k : q) (h : q → p := by intro k_; refine goesL_ (some 14) rfl rfl Tryz.func150 (by kernel_rfl) rfl #[.slice A0_1 l0_1.length c0_1, .int .i64 t109] rfl al_ ?_; (with_reducible refine (laws_szDescS.calls k _ _ l0_1 t109 t110 _ ?s1 ?s2 A7.out).mono ?_); (case s1 => exact cb_ (Kd.C_below HR0_1.out (hb_ HB))); (case s2 => exact HC0_1.out); rintro e u0_ ⟨rfl, u1_⟩; refine ⟨_, rfl, ?_⟩; replace BK108 := bb_ BK108 u1_; replace HB := hs_ HB u1_; (try clear u1_); (try clear hb2); (try clear hk); (try clear hi); revert u0_ BK108 HB; exact k_) : p := h k
theorem Y8_ {p q : Prop} (k : q) (h : q → p := by intro k_; refine bx_ HB rfl (N := 2) rfl (cs := #[.slice A0_0 l0_0.length c0_0, .int .i64 a0_1, .bool a0_2, .slice A0_3 l0_3.length c0_3, .slice A0_4 l0_4.length c0_4]) (t := 176) hr_ ?_; intro u0_ u1_ u2_ u3_ u4_ u5_ HB; clear u3_ u2_; obtain ⟨u6_, u7_, u8_, u9_, u10_, u11_, u12_, u13_, u14_, u15_⟩ := cz5_ u4_; revert u0_ u1_ u4_ u5_ HB u6_ u7_ u8_ u9_ u10_ u11_ u12_ u13_ u14_ u15_; exact k_) : p := h k
theorem Y9_ {p q : Prop} (k : q) (h : q → p := by intro k_; refine goesL_ (some 8) rfl rfl Tryz.func170 (by kernel_rfl) rfl #[.slice A0_0 l0_0.length c0_0, .int .i64 a1] rfl al_ ?_; (with_reducible refine (laws_szOpS.calls _ _ l0_0 a1 t112 _ ?s1 ?s2 A3.out).mono ?_); (case s1 => exact cb_ (Kd.C_below HR0_0.out HB.out)); (case s2 => exact HC0_0.out); rintro e w' ⟨rfl, ⟨u0_, rfl⟩⟩; refine ⟨_, rfl, ?_⟩; revert u0_; exact k_) : p := h k
theorem Y10_ {p q : Prop} (k : q) (h : q → p := by intro k_; refine goesL_ (some 14) rfl rfl Tryz.func171 (by kernel_rfl) rfl #[.slice A0_3 l0_3.length c0_3, .int .i64 t112] rfl al_ ?_; (with_reducible refine (laws_szPairS.calls _ _ l0_3 t112 t113 _ ?s1 ?s2 A7.out).mono ?_); (case s1 => exact cb_ (Kd.C_below HR0_3.out (hb_ HB))); (case s2 => exact HC0_3.out); rintro e w' ⟨rfl, ⟨u0_, rfl⟩⟩; refine ⟨_, rfl, ?_⟩; revert u0_; exact k_) : p := h k
theorem Y11_ {p q : Prop} (k : q) (h : q → p := by intro k_; refine goesL_ (some 20) rfl rfl Tryz.func172 (by kernel_rfl) rfl #[.slice A0_4 l0_4.length c0_4, .int .i64 t113] rfl al_ ?_; (with_reducible refine (laws_szHelpS.calls _ _ l0_4 t113 t114 _ ?s1 ?s2 A11.out).mono ?_); (case s1 => exact cb_ (Kd.C_below HR0_4.out (hb_ HB))); (case s2 => exact HC0_4.out); rintro e w' ⟨rfl, ⟨u0_, rfl⟩⟩; refine ⟨_, rfl, ?_⟩; revert u0_; exact k_) : p := h k
theorem Y12_ {p q : Prop} (k : q) (h : q → p := by intro k_; refine goesL_ (some 23) rfl rfl Tryz.func151 (by kernel_rfl) rfl #[.agg #[.slice A115_0 ((rd_T176 l0 x5_1).f0).length c115_0, .int .i64 ((rd_T176 l0 x5_1).f1), .bool ((rd_T176 l0 x5_1).f2), .slice A115_3 ((rd_T176 l0 x5_1).f3).length c115_3, .slice A115_4 ((rd_T176 l0 x5_1).f4).length c115_4], .int .i64 x1_1] rfl al_ ?_; (with_reducible refine (laws_szThread.calls _ _ ((rd_T176 l0 x5_1).f0) ((rd_T176 l0 x5_1).f1) ((rd_T176 l0 x5_1).f2) _ _ ((rd_T176 l0 x5_1).f3) _ _ ((rd_T176 l0 x5_1).f4) x1_1 t116 _ ?s1 ?s2 ?s3 ?s4 ?s5 ?s6 A6.out).mono ?_); (case s1 => exact cb_ (Kd.C_below HR115_0.out HB.out)); (case s2 => exact HC115_0.out); (case s3 => exact cb_ (Kd.C_below HR115_3.out HB.out)); (case s4 => exact HC115_3.out); (case s5 => exact cb_ (Kd.C_below HR115_4.out HB.out)); (case s6 => exact HC115_4.out); rintro e u0_ ⟨rfl, u1_⟩; refine ⟨_, rfl, ?_⟩; replace HB := hs_ HB u1_; (try clear u1_); (try clear hb2); (try clear hk); (try clear hi); revert u0_ HB; exact k_) : p := h k
theorem Y13_ {p q : Prop} (k : q) (h : q → p := by intro k_; refine goesL_ (some 8) rfl rfl Tryz.func173 (by kernel_rfl) rfl #[.agg #[.int .i64 a0_7, .slice A0_8 l0_8.length c0_8], .int .i64 a1] rfl al_ ?_; (with_reducible refine (laws_szRes.calls a0_7 _ _ l0_8 a1 t118 _ ?s1 ?s2 A3.out).mono ?_); (case s1 => exact cb_ (Kd.C_below HR0_8.out HB.out)); (case s2 => exact HC0_8.out); rintro e u0_ ⟨rfl, u1_⟩; refine ⟨_, rfl, ?_⟩; replace BK117 := bb_ BK117 u1_; replace HB := hs_ HB u1_; (try clear u1_); (try clear hb2); (try clear hk); (try clear hi); revert u0_ BK117 HB; exact k_) : p := h k
theorem Y14_ {p q : Prop} (k : q) (h : q → p := by intro k_; refine goesL_ (some 23) rfl rfl Tryz.func152 (by kernel_rfl) rfl #[.agg #[.int .i64 ((rd_T181 l0 x5_1).f0), .int .i64 ((rd_T181 l0 x5_1).f1.f0), .int .i64 ((rd_T181 l0 x5_1).f1.f1), .int .i64 ((rd_T181 l0 x5_1).f1.f2), .int .i64 ((rd_T181 l0 x5_1).f2), .int .i64 ((rd_T181 l0 x5_1).f3), .int .i64 ((rd_T181 l0 x5_1).f4), .int .i64 ((rd_T181 l0 x5_1).f5.f0), .slice A119_8 ((rd_T181 l0 x5_1).f5.f1).length c119_8], .int .i64 x1_1] rfl al_ ?_; (with_reducible refine (laws_szCall.calls ((rd_T181 l0 x5_1).f0) ((rd_T181 l0 x5_1).f1.f0) ((rd_T181 l0 x5_1).f1.f1) ((rd_T181 l0 x5_1).f1.f2) ((rd_T181 l0 x5_1).f2) ((rd_T181 l0 x5_1).f3) ((rd_T181 l0 x5_1).f4) ((rd_T181 l0 x5_1).f5.f0) _ _ ((rd_T181 l0 x5_1).f5.f1) x1_1 t120 _ ?s1 ?s2 A6.out).mono ?_); (case s1 => exact cb_ (Kd.C_below HR119_8.out HB.out)); (case s2 => exact HC119_8.out); rintro e u0_ ⟨rfl, u1_⟩; refine ⟨_, rfl, ?_⟩; replace HB := hs_ HB u1_; (try clear u1_); (try clear hb2); (try clear hk); (try clear hi); revert u0_ HB; exact k_) : p := h k
theorem Y15_ {p q : Prop} (k : q) (h : q → p := by intro k_; refine goesL_ (some 8) rfl rfl Tryz.func100 (by kernel_rfl) rfl #[.slice A0_0 l0_0.length c0_0, .int .i64 a1] rfl al_ ?_; (with_reducible refine (laws_szIntS.calls _ _ l0_0 a1 t122 _ ?s1 ?s2 A3.out).mono ?_); (case s1 => exact cb_ (Kd.C_below HR0_0.out HB.out)); (case s2 => exact HC0_0.out); rintro e w' ⟨rfl, ⟨u0_, rfl⟩⟩; refine ⟨_, rfl, ?_⟩; revert u0_; exact k_) : p := h k
theorem Y16_ {p q : Prop} (k : q) (h : q → p := by intro k_; refine bx_ HB rfl (N := 2) rfl (cs := #[.slice A0_0 l0_0.length c0_0, .slice A0_1 l0_1.length c0_1, .slice A0_2 l0_2.length c0_2, .int .i64 a0_3, .slice A0_4 l0_4.length c0_4, .slice A0_5 l0_5.length c0_5, .slice A0_6 l0_6.length c0_6, .int .i64 a0_7]) (t := 86) hr_ ?_; intro u0_ u1_ u2_ u3_ u4_ u5_ HB; clear u3_ u2_; obtain ⟨u6_, u7_, u8_, u9_, u10_, u11_, u12_, u13_, u14_, u15_, u16_, u17_, u18_, u19_, u20_, u21_⟩ := cz8_ u4_; revert u0_ u1_ u4_ u5_ HB u6_ u7_ u8_ u9_ u10_ u11_ u12_ u13_ u14_ u15_ u16_ u17_ u18_ u19_ u20_ u21_; exact k_) : p := h k
theorem Y17_ {p q : Prop} (k : q) (h : q → p := by intro k_; refine goesL_ (some 8) rfl rfl Tryz.func97 (by kernel_rfl) rfl #[.agg #[.slice A0_0 l0_0.length c0_0, .slice A0_1 l0_1.length c0_1], .int .i64 a1] rfl al_ ?_; (with_reducible refine (laws_szMem.calls k _ _ l0_0 _ _ l0_1 a1 t124 _ ?s1 ?s2 ?s3 ?s4 A3.out).mono ?_); (case s1 => exact cb_ (Kd.C_below HR0_0.out HB.out)); (case s2 => exact HC0_0.out); (case s3 => exact cb_ (Kd.C_below HR0_1.out HB.out)); (case s4 => exact HC0_1.out); rintro e u0_ ⟨rfl, u1_⟩; refine ⟨_, rfl, ?_⟩; replace BK123 := bb_ BK123 u1_; replace HB := hs_ HB u1_; (try clear u1_); (try clear hb2); (try clear hk); (try clear hi); obtain ⟨u2_, u3_, u4_, u5_, u6_, u7_, u8_, u9_, u10_, u11_, u12_, u13_, u14_, u15_, u16_, u17_⟩ := cz8_ BK123; revert u0_ BK123 HB u2_ u3_ u4_ u5_ u6_ u7_ u8_ u9_ u10_ u11_ u12_ u13_ u14_ u15_ u16_ u17_; exact k_) : p := h k
theorem Y18_ {p q : Prop} (k : q) (h : q → p := by intro k_; refine goesL_ (some 14) rfl rfl Tryz.func98 (by kernel_rfl) rfl #[.slice A0_2 l0_2.length c0_2, .int .i64 t124] rfl al_ ?_; (with_reducible refine (laws_szThreadS.calls k _ _ l0_2 t124 t125 _ ?s1 ?s2 A8.out).mono ?_); (case s1 => exact cb_ (Kd.C_below HR0_2.out HB.out)); (case s2 => exact HC0_2.out); rintro e u0_ ⟨rfl, u1_⟩; refine ⟨_, rfl, ?_⟩; replace BK123 := bb_ BK123 u1_; replace HB := hs_ HB u1_; (try clear u1_); (try clear hb2); (try clear hk); (try clear hi); obtain ⟨u2_, u3_, u4_, u5_, u6_, u7_, u8_, u9_, u10_, u11_, u12_, u13_, u14_, u15_, u16_, u17_⟩ := cz8_ BK123; revert u0_ BK123 HB u2_ u3_ u4_ u5_ u6_ u7_ u8_ u9_ u10_ u11_ u12_ u13_ u14_ u15_ u16_ u17_; exact k_) : p := h k
theorem Y19_ {p q : Prop} (k : q) (h : q → p := by intro k_; refine goesL_ (some 20) rfl rfl Tryz.func99 (by kernel_rfl) rfl #[.slice A0_4 l0_4.length c0_4, .int .i64 t125] rfl al_ ?_; (with_reducible refine (laws_szCallS.calls k _ _ l0_4 t125 t126 _ ?s1 ?s2 A15.out).mono ?_); (case s1 => exact cb_ (Kd.C_below HR0_4.out HB.out)); (case s2 => exact HC0_4.out); rintro e u0_ ⟨rfl, u1_⟩; refine ⟨_, rfl, ?_⟩; replace BK123 := bb_ BK123 u1_; replace HB := hs_ HB u1_; (try clear u1_); (try clear hb2); (try clear hk); (try clear hi); obtain ⟨u2_, u3_, u4_, u5_, u6_, u7_, u8_, u9_, u10_, u11_, u12_, u13_, u14_, u15_, u16_, u17_⟩ := cz8_ BK123; revert u0_ BK123 HB u2_ u3_ u4_ u5_ u6_ u7_ u8_ u9_ u10_ u11_ u12_ u13_ u14_ u15_ u16_ u17_; exact k_) : p := h k
theorem Y20_ {p q : Prop} (k : q) (h : q → p := by intro k_; refine goesL_ (some 26) rfl rfl Tryz.func100 (by kernel_rfl) rfl #[.slice A0_5 l0_5.length c0_5, .int .i64 t126] rfl al_ ?_; (with_reducible refine (laws_szIntS.calls _ _ l0_5 t126 t127 _ ?s1 ?s2 A24.out).mono ?_); (case s1 => exact cb_ (Kd.C_below HR0_5.out HB.out)); (case s2 => exact HC0_5.out); rintro e w' ⟨rfl, ⟨u0_, rfl⟩⟩; refine ⟨_, rfl, ?_⟩; revert u0_; exact k_) : p := h k
theorem Y21_ {p q : Prop} (k : q) (h : q → p := by intro k_; refine goesL_ (some 32) rfl rfl Tryz.func101 (by kernel_rfl) rfl #[.agg #[.slice A0_6 l0_6.length c0_6, .int .i64 a0_7], .int .i64 t127] rfl al_ ?_; (with_reducible refine (laws_szRows.calls _ _ l0_6 a0_7 t127 t128 _ ?s1 ?s2 A34.out).mono ?_); (case s1 => exact cb_ (Kd.C_below HR0_6.out (hb_ HB))); (case s2 => exact HC0_6.out); rintro e u0_ ⟨rfl, u1_⟩; refine ⟨_, rfl, ?_⟩; replace BK123 := bb_ BK123 u1_; replace HB := hs_ HB u1_; (try clear u1_); (try clear hb2); (try clear hk); (try clear hi); revert u0_ BK123 HB; exact k_) : p := h k
theorem Y22_ {p q : Prop} (k : q) (h : q → p := by intro k_; refine bx_ HB rfl (N := 1) rfl (cs := #[.int .i64 a0_0, .int .i64 a0_1, .int .i64 a0_2]) (t := 122) hr_ ?_; intro u0_ u1_ u2_ u3_ u4_ u5_ HB; clear u3_ u2_; obtain ⟨u6_, u7_, u8_, u9_, u10_, u11_⟩ := cz3_ u4_; revert u0_ u1_ u4_ u5_ HB u6_ u7_ u8_ u9_ u10_ u11_; exact k_) : p := h k
theorem Y23_ {p q : Prop} (k : q) (h : q → p := by intro k_; refine goesL_ (some 25) rfl rfl Tryz.func147 (by kernel_rfl) rfl #[.int .i64 a0_0] rfl al_ ?_; (with_reducible refine (spec_l4Val.calls a0_0 true _ A16.out).mono ?_); rintro e w' ⟨rfl, ⟨u0_, rfl⟩⟩; refine ⟨_, rfl, ?_⟩; revert u0_; exact k_) : p := h k
theorem Y24_ {p q : Prop} (k : q) (h : q → p := by intro k_; refine goesL_ (some 25) rfl rfl Tryz.func147 (by kernel_rfl) rfl #[.int .i64 a0_0] rfl al_ ?_; (with_reducible refine (spec_l4Val.calls a0_0 false _ A16.out).mono ?_); rintro e w' ⟨rfl, ⟨u0_, rfl⟩⟩; refine ⟨_, rfl, ?_⟩; revert u0_; exact k_) : p := h k
theorem Y25_ {p q : Prop} (k : q) (h : q → p := by intro k_; (try (refine gate_guard (by rfl) ?_; dsimp only)); refine bx_ HB rfl (N := 2) rfl (cs := #[.slice A0_0 l0_0.length c0_0, .int .i64 a0_1, .bool a0_2, .slice A0_3 l0_3.length c0_3, .slice A0_4 l0_4.length c0_4]) (t := 62) hr_ ?_; intro u0_ u1_ u2_ u3_ u4_ u5_ HB; clear u3_ u2_; revert u0_ u1_ u4_ u5_ HB; exact k_) : p := h k
theorem Y30_ {p q : Prop} (k : q) (h : q → p := by intro k_; (try (refine gate_guard (by rfl) ?_; dsimp only)); refine bx_ HB rfl (N := 1) rfl (cs := #[.int .i64 a0_0, .int .i64 a0_1, .slice A0_2 l0_2.length c0_2, .int .i64 a0_3, .slice A0_4 l0_4.length c0_4]) (t := 52) hr_ ?_; intro u0_ u1_ u2_ u3_ u4_ u5_ HB; clear u3_ u2_; obtain ⟨u6_, u7_, u8_, u9_, u10_, u11_, u12_, u13_, u14_, u15_⟩ := cz5_ u4_; revert u0_ u1_ u4_ u5_ HB u6_ u7_ u8_ u9_ u10_ u11_ u12_ u13_ u14_ u15_; exact k_) : p := h k
theorem Y31_ {p q : Prop} (k : q) (h : q → p := by intro k_; (with_reducible refine (spec_l1In.calls a0_0 1 1000000 true _ A17.out).mono ?_); rintro e w' ⟨rfl, ⟨u0_, rfl⟩⟩; revert u0_; exact k_) : p := h k
theorem Y32_ {p q : Prop} (k : q) (h : q → p := by intro k_; (try (refine gate_guard (by rfl) ?_; dsimp only)); refine bx_ HB rfl (N := 4) rfl (cs := #[.int .i64 0, .int .i64 0, .int .i64 0]) (t := 37) hr_ ?_; intro u0_ u1_ u2_ u3_ u4_ u5_ HB; have u6_ := ng_ BK152 u2_; have u7_ := ns_ (ng_ BK152 u2_); replace BK152 := bb_ BK152 u3_; clear u3_ u2_; have u8_ := u7_.out; have u9_ := u6_.out; obtain ⟨u10_, u11_, u12_, u13_, u14_, u15_⟩ := cz3_ u4_; revert u0_ u1_ u4_ u5_ HB u6_ u7_ BK152 u8_ u9_ u10_ u11_ u12_ u13_ u14_ u15_; exact k_) : p := h k
theorem Y33_ {p q : Prop} (k : q) (h : q → p := by intro k_; (with_reducible refine (spec_l1In.calls ((rd_T37 l0_2 x3_2).f0) 0 19 true _ A27.out).mono ?_); rintro e w' ⟨rfl, ⟨u0_, rfl⟩⟩; revert u0_; exact k_) : p := h k
theorem Y34_ {p q : Prop} (k : q) (h : q → p := by intro k_; (with_reducible refine (spec_l1In.calls ((rd_T37 l0_2 x3_2).f1) 0 1000 true _ A29.out).mono ?_); rintro e w' ⟨rfl, ⟨u0_, rfl⟩⟩; revert u0_; exact k_) : p := h k
theorem Y35_ {p q : Prop} (k : q) (h : q → p := by intro k_; (with_reducible refine (spec_l1In.calls ((rd_T37 l0_2 x3_2).f2) 0 1000 true _ A31.out).mono ?_); rintro e w' ⟨rfl, ⟨u0_, rfl⟩⟩; revert u0_; exact k_) : p := h k
theorem Y36_ {p q : Prop} (k : q) (h : q → p := by intro k_; (with_reducible refine (spec_l1In.calls ((rd_T37 l0_2 x3_2).f2) 0 1000 false _ A31.out).mono ?_); rintro e w' ⟨rfl, ⟨u0_, rfl⟩⟩; revert u0_; exact k_) : p := h k
theorem Y37_ {p q : Prop} (k : q) (h : q → p := by intro k_; (with_reducible refine (spec_l1In.calls ((rd_T37 l0_2 x3_2).f1) 0 1000 false _ A29.out).mono ?_); rintro e w' ⟨rfl, ⟨u0_, rfl⟩⟩; revert u0_; exact k_) : p := h k
theorem Y38_ {p q : Prop} (k : q) (h : q → p := by intro k_; (with_reducible refine (spec_l1In.calls ((rd_T37 l0_2 x3_2).f0) 0 19 false _ A27.out).mono ?_); rintro e w' ⟨rfl, ⟨u0_, rfl⟩⟩; revert u0_; exact k_) : p := h k
theorem Y39_ {p q : Prop} (k : q) (h : q → p := by intro k_; refine bx_ HB rfl (N := 2) rfl (cs := #[.int .i64 a0_0, .int .i64 a0_1, .int .i64 a0_2]) (t := 39) hr_ ?_; intro u0_ u1_ u2_ u3_ u4_ u5_ HB; clear u3_ u2_; obtain ⟨u6_, u7_, u8_, u9_, u10_, u11_⟩ := cz3_ u4_; revert u0_ u1_ u4_ u5_ HB u6_ u7_ u8_ u9_ u10_ u11_; exact k_) : p := h k
theorem Y40_ {p q : Prop} (k : q) (h : q → p := by intro k_; refine bx_ HB rfl (N := 2) rfl (cs := #[.int .i64 a0_0, .int .i64 a0_1, .slice A0_2 l0_2.length c0_2, .int .i64 a0_3, .slice A0_4 l0_4.length c0_4]) (t := 52) hr_ ?_; intro u0_ u1_ u2_ u3_ u4_ u5_ HB; clear u3_ u2_; revert u0_ u1_ u4_ u5_ HB; exact k_) : p := h k
theorem Y51_ {p q : Prop} (k : q) (h : q → p := by intro k_; refine bx_ HB rfl (N := 2) rfl (cs := #[.slice A0_0 l0_0.length c0_0, .slice A0_1 l0_1.length c0_1, .slice A0_2 l0_2.length c0_2, .int .i64 a0_3, .slice A0_4 l0_4.length c0_4, .slice A0_5 l0_5.length c0_5, .slice A0_6 l0_6.length c0_6, .int .i64 a0_7]) (t := 93) hr_ ?_; intro u0_ u1_ u2_ u3_ u4_ u5_ HB; clear u3_ u2_; revert u0_ u1_ u4_ u5_ HB; exact k_) : p := h k
theorem Y52_ {p q : Prop} (k : q) (h : q → p := by intro k_; refine bx_ HB rfl (N := 3) rfl (cs := #[.int .i64 a1_0, .int .i64 a1_1, .int .i64 a1_2, .int .i64 a1_3, .int .i64 a1_4, .int .i64 a1_5, .int .i64 a1_6, .int .i64 a1_7, .slice A1_8 l1_8.length c1_8]) (t := 147) hr_ ?_; intro u0_ u1_ u2_ u3_ u4_ u5_ HB; have u6_ := ng_ BK192 u2_; have u7_ := ns_ (ng_ BK192 u2_); replace BK192 := bb_ BK192 u3_; clear u3_ u2_; have u8_ := u7_.out; have u9_ := u6_.out; obtain ⟨u10_, u11_, u12_, u13_, u14_, u15_, u16_, u17_, u18_, u19_, u20_, u21_, u22_, u23_, u24_, u25_, u26_, u27_⟩ := cz9_ u4_; obtain ⟨u28_, u29_, u30_, u31_, u32_, u33_, u34_, u35_, u36_, u37_, u38_, u39_, u40_, u41_, u42_, u43_⟩ := cz8_ BK192; revert u0_ u1_ u4_ u5_ HB u6_ u7_ BK192 u8_ u9_ u10_ u11_ u12_ u13_ u14_ u15_ u16_ u17_ u18_ u19_ u20_ u21_ u22_ u23_ u24_ u25_ u26_ u27_ u28_ u29_ u30_ u31_ u32_ u33_ u34_ u35_ u36_ u37_ u38_ u39_ u40_ u41_ u42_ u43_; exact k_) : p := h k
theorem Y53_ {p q : Prop} (k : q) (h : q → p := by intro k_; refine goesL_ (some 11) rfl rfl Tryz.func70 (by kernel_rfl) rfl #[.int .i64 a1_0, .int .i64 0, .int .i64 (wrap64 ((l0_2.length : Int) - 1))] rfl al_ ?_; (with_reducible refine (spec_l1In.calls a1_0 0 (wrap64 ((l0_2.length : Int) - 1)) true _ A3.out).mono ?_); rintro e w' ⟨rfl, ⟨u0_, rfl⟩⟩; refine ⟨_, rfl, ?_⟩; revert u0_; exact k_) : p := h k
theorem Y54_ {p q : Prop} (k : q) (h : q → p := by intro k_; (with_reducible refine (spec_OpOk.calls k a1_1 a1_2 a1_3 true _ A5.out).mono ?_); rintro e u0_ ⟨rfl, u1_⟩; replace BK192 := bb_ BK192 u1_; replace BK193 := bb_ BK193 u1_; replace HB := hs_ HB u1_; (try clear u1_); (try clear hb2); (try clear hk); (try clear hi); obtain ⟨u2_, u3_, u4_, u5_, u6_, u7_, u8_, u9_, u10_, u11_, u12_, u13_, u14_, u15_, u16_, u17_, u18_, u19_⟩ := cz9_ BK193; obtain ⟨u20_, u21_, u22_, u23_, u24_, u25_, u26_, u27_, u28_, u29_, u30_, u31_, u32_, u33_, u34_, u35_⟩ := cz8_ BK192; revert u0_ BK192 BK193 HB u2_ u3_ u4_ u5_ u6_ u7_ u8_ u9_ u10_ u11_ u12_ u13_ u14_ u15_ u16_ u17_ u18_ u19_ u20_ u21_ u22_ u23_ u24_ u25_ u26_ u27_ u28_ u29_ u30_ u31_ u32_ u33_ u34_ u35_; exact k_) : p := h k
theorem Y55_ {p q : Prop} (k : q) (h : q → p := by intro k_; (with_reducible refine (spec_l1In.calls a1_4 0 a0_3 true _ A7.out).mono ?_); rintro e w' ⟨rfl, ⟨u0_, rfl⟩⟩; revert u0_; exact k_) : p := h k
theorem Y56_ {p q : Prop} (k : q) (h : q → p := by intro k_; (try (refine gate_guard (by rfl) ?_; dsimp only)); refine bx_ HB rfl (N := 1) rfl (cs := #[.slice A0_0 l0_0.length c0_0, .slice A0_1 l0_1.length c0_1, .slice A0_2 l0_2.length c0_2, .int .i64 a0_3, .slice A0_4 l0_4.length c0_4, .slice A0_5 l0_5.length c0_5, .slice A0_6 l0_6.length c0_6, .int .i64 a0_7]) (t := 93) hr_ ?_; intro u0_ u1_ u2_ u3_ u4_ u5_ HB; clear u3_ u2_; revert u0_ u1_ u4_ u5_ HB; exact k_) : p := h k
theorem Y59_ {p q : Prop} (k : q) (h : q → p := by intro k_; refine goesL_ (some 6) rfl rfl Tryz.func59 (by kernel_rfl) rfl #[.agg #[.slice A0_0 l0_0.length c0_0, .slice A0_1 l0_1.length c0_1]] rfl al_ ?_; (with_reducible refine (spec_MemOk.calls k _ _ l0_0 _ _ l0_1 true _ ?s1 ?s2 ?s3 ?s4 A4.out).mono ?_); (case s1 => exact cb_ (Kd.C_below HR0_0.out HB.out)); (case s2 => exact HC0_0.out); (case s3 => exact cb_ (Kd.C_below HR0_1.out HB.out)); (case s4 => exact HC0_1.out); rintro e u0_ ⟨rfl, u1_⟩; refine ⟨_, rfl, ?_⟩; replace BK223 := bb_ BK223 u1_; replace HB := hs_ HB u1_; (try clear u1_); (try clear hb2); (try clear hk); (try clear hi); obtain ⟨u2_, u3_, u4_, u5_, u6_, u7_, u8_, u9_, u10_, u11_, u12_, u13_, u14_, u15_, u16_, u17_⟩ := cz8_ BK223; revert u0_ BK223 HB u2_ u3_ u4_ u5_ u6_ u7_ u8_ u9_ u10_ u11_ u12_ u13_ u14_ u15_ u16_ u17_; exact k_) : p := h k
theorem Y60_ {p q : Prop} (k : q) (h : q → p := by intro k_; (try (refine gate_guard (by rfl) ?_; dsimp only)); refine bx_ HB rfl (N := 4) rfl (cs := #[.int .i64 0, .int .i64 0, .int .i64 0]) (t := 37) hr_ ?_; intro u0_ u1_ u2_ u3_ u4_ u5_ HB; have u6_ := ng_ BK422 u2_; have u7_ := ns_ (ng_ BK422 u2_); replace BK422 := bb_ BK422 u3_; clear u3_ u2_; have u8_ := u7_.out; have u9_ := u6_.out; obtain ⟨u10_, u11_, u12_, u13_, u14_, u15_⟩ := cz3_ u4_; revert u0_ u1_ u4_ u5_ HB u6_ u7_ BK422 u8_ u9_ u10_ u11_ u12_ u13_ u14_ u15_; exact k_) : p := h k
theorem Y61_ {p q : Prop} (k : q) (h : q → p := by intro k_; (with_reducible refine (impl_isPlace.calls ((rd_T37 l0_2 x33_1).f0) true _ A19.out).mono ?_); rintro e w' ⟨rfl, ⟨u0_, rfl⟩⟩; revert u0_; exact k_) : p := h k
theorem Y62_ {p q : Prop} (k : q) (h : q → p := by intro k_; (with_reducible refine (impl_isWordNum.calls ((rd_T37 l0_2 x33_1).f1) true _ A21.out).mono ?_); rintro e w' ⟨rfl, ⟨u0_, rfl⟩⟩; revert u0_; exact k_) : p := h k
theorem Y63_ {p q : Prop} (k : q) (h : q → p := by intro k_; (with_reducible refine (impl_isWordNum.calls ((rd_T37 l0_2 x33_1).f2) true _ A23.out).mono ?_); rintro e w' ⟨rfl, ⟨u0_, rfl⟩⟩; revert u0_; exact k_) : p := h k
theorem Y64_ {p q : Prop} (k : q) (h : q → p := by intro k_; (with_reducible refine (impl_isWordNum.calls ((rd_T37 l0_2 x33_1).f2) false _ A23.out).mono ?_); rintro e w' ⟨rfl, ⟨u0_, rfl⟩⟩; revert u0_; exact k_) : p := h k
theorem Y65_ {p q : Prop} (k : q) (h : q → p := by intro k_; (with_reducible refine (impl_isWordNum.calls ((rd_T37 l0_2 x33_1).f1) false _ A21.out).mono ?_); rintro e w' ⟨rfl, ⟨u0_, rfl⟩⟩; revert u0_; exact k_) : p := h k
theorem Y66_ {p q : Prop} (k : q) (h : q → p := by intro k_; (with_reducible refine (impl_isPlace.calls ((rd_T37 l0_2 x33_1).f0) false _ A19.out).mono ?_); rintro e w' ⟨rfl, ⟨u0_, rfl⟩⟩; revert u0_; exact k_) : p := h k
theorem Y67_ {p q : Prop} (k : q) (h : q → p := by intro k_; (with_reducible refine (impl_from.calls a0_0 1 1000000 true _ A50.out).mono ?_); rintro e w' ⟨rfl, ⟨u0_, rfl⟩⟩; revert u0_; exact k_) : p := h k
theorem Y72_ {p q : Prop} (k : q) (h : q → p := by intro k_; refine goesL_ (some 8) rfl rfl Tryz.func62 (by kernel_rfl) rfl #[.int .i64 a0_0, .int .i64 0, .int .i64 (wrap64 (a1 - 1))] rfl al_ ?_; (with_reducible refine (impl_from.calls a0_0 0 (wrap64 (a1 - 1)) true _ A3.out).mono ?_); rintro e w' ⟨rfl, ⟨u0_, rfl⟩⟩; refine ⟨_, rfl, ?_⟩; revert u0_; exact k_) : p := h k
theorem Y73_ {p q : Prop} (k : q) (h : q → p := by intro k_; (with_reducible refine (slices_ContainsFuncThreadOk_c1.calls k _ _ l0_0 false _ ?s1 ?s2 A7.out).mono ?_); (case s1 => exact cb_ (Kd.C_below HR0_0.out HB.out)); (case s2 => exact HC0_0.out); rintro e u0_ ⟨rfl, u1_⟩; have u2_ := bb_ BK477 u1_; have u3_ := bb_ BKT_ u1_; have u4_ := hs_ HB u1_; have BK477 := u2_; have BKT_ := u3_; have HB := u4_; clear u2_ u4_ u3_; (try clear u1_); (try clear hb2); (try clear hk); (try clear hi); obtain ⟨u5_, u6_, u7_, u8_, u9_, u10_, u11_, u12_, u13_, u14_⟩ := cz5_ BK477; revert u0_ BK477 BKT_ HB u5_ u6_ u7_ u8_ u9_ u10_ u11_ u12_ u13_ u14_; exact k_) : p := h k
theorem Y74_ {p q : Prop} (k : q) (h : q → p := by intro k_; (with_reducible refine (impl_from.calls a0_1 0 (l0_0.length : Int) true _ A11.out).mono ?_); rintro e w' ⟨rfl, ⟨u0_, rfl⟩⟩; revert u0_; exact k_) : p := h k
theorem Y75_ {p q : Prop} (k : q) (h : q → p := by intro k_; refine bx_ HB rfl (N := 5) rfl (cs := #[.slice none 0 0, .int .i64 0, .bool false, .slice none 0 0, .slice none 0 0]) (t := 62) hr_ ?_; intro u0_ u1_ u2_ u3_ u4_ u5_ HB; have u6_ := ng_ BK490 u2_; have u7_ := ns_ (ng_ BK490 u2_); replace BK490 := bb_ BK490 u3_; clear u3_ u2_; have u8_ := u7_.out; have u9_ := u6_.out; obtain ⟨u10_, u11_, u12_, u13_, u14_, u15_, u16_, u17_, u18_, u19_⟩ := cz5_ u4_; obtain ⟨u20_, u21_, u22_, u23_, u24_, u25_, u26_, u27_, u28_, u29_, u30_, u31_, u32_, u33_, u34_, u35_⟩ := cz8_ BK490; revert u0_ u1_ u4_ u5_ HB u6_ u7_ BK490 u8_ u9_ u10_ u11_ u12_ u13_ u14_ u15_ u16_ u17_ u18_ u19_ u20_ u21_ u22_ u23_ u24_ u25_ u26_ u27_ u28_ u29_ u30_ u31_ u32_ u33_ u34_ u35_; exact k_) : p := h k
theorem Y76_ {p q : Prop} (k : q) (h : q → p := by intro k_; refine bx_ HB rfl (N := 10) rfl (cs := #[.int .i64 0, .int .i64 0, .int .i64 0, .int .i64 0, .int .i64 0, .int .i64 0, .int .i64 0, .int .i64 0, .slice none 0 0]) (t := 147) hr_ ?_; intro u0_ u1_ u2_ u3_ u4_ u5_ HB; have u6_ := ng_ BK490 u2_; have u7_ := ns_ (ng_ BK490 u2_); have u8_ := ng_ BK492 u2_; have u9_ := ns_ (ng_ BK492 u2_); replace BK490 := bb_ BK490 u3_; replace BK492 := bb_ BK492 u3_; clear u3_ u2_; have u10_ := u7_.out; have u11_ := u6_.out; have u12_ := u9_.out; have u13_ := u8_.out; obtain ⟨u14_, u15_, u16_, u17_, u18_, u19_, u20_, u21_, u22_, u23_, u24_, u25_, u26_, u27_, u28_, u29_, u30_, u31_⟩ := cz9_ u4_; revert u0_ u1_ u4_ u5_ HB u6_ u7_ u8_ u9_ BK490 BK492 u10_ u11_ u12_ u13_ u14_ u15_ u16_ u17_ u18_ u19_ u20_ u21_ u22_ u23_ u24_ u25_ u26_ u27_ u28_ u29_ u30_ u31_; exact k_) : p := h k
theorem info3 : (Tryz.prog.info? 3).map (fun i => (i.zero, i.size, i.bytes)) = some (some (.int .i64 0), 1, 8) := by kernel_rfl
theorem info37 : (Tryz.prog.info? 37).map (fun i => (i.zero, i.size, i.bytes)) = some (some (.agg #[(.int .i64 0), (.int .i64 0), (.int .i64 0)]), 3, 24) := by kernel_rfl
theorem info39 : (Tryz.prog.info? 39).map (fun i => (i.zero, i.size, i.bytes)) = some (some (.agg #[(.int .i64 0), (.int .i64 0), (.int .i64 0)]), 3, 24) := by kernel_rfl
theorem info42 : (Tryz.prog.info? 42).map (fun i => (i.zero, i.size, i.bytes)) = some (some (.agg #[(.int .i64 0), (.int .i64 0), (.int .i64 0), (.int .i64 0)]), 4, 32) := by kernel_rfl
theorem info52 : (Tryz.prog.info? 52).map (fun i => (i.zero, i.size, i.bytes)) = some (some (.agg #[(.int .i64 0), (.int .i64 0), (.slice none 0 0), (.int .i64 0), (.slice none 0 0)]), 5, 72) := by kernel_rfl
theorem info62 : (Tryz.prog.info? 62).map (fun i => (i.zero, i.size, i.bytes)) = some (some (.agg #[(.slice none 0 0), (.int .i64 0), (.bool false), (.slice none 0 0), (.slice none 0 0)]), 5, 88) := by kernel_rfl
theorem info122 : (Tryz.prog.info? 122).map (fun i => (i.zero, i.size, i.bytes)) = some (some (.agg #[(.int .i64 0), (.int .i64 0), (.int .i64 0)]), 3, 24) := by kernel_rfl
theorem info125 : (Tryz.prog.info? 125).map (fun i => (i.zero, i.size, i.bytes)) = some (some (.agg #[(.int .i64 0), (.int .i64 0)]), 2, 16) := by kernel_rfl
theorem info147 : (Tryz.prog.info? 147).map (fun i => (i.zero, i.size, i.bytes)) = some (some (.agg #[(.int .i64 0), (.int .i64 0), (.int .i64 0), (.int .i64 0), (.int .i64 0), (.int .i64 0), (.int .i64 0), (.int .i64 0), (.slice none 0 0)]), 9, 88) := by kernel_rfl
-- the values' own types
structure S207 where
 f0 : Int
 f1 : Int
 f2 : Int
def z207 : S207 := ⟨(0 : Int), (0 : Int), (0 : Int)⟩
def k207 : Kd S207 := Kd.iso (Kd.pair (Kd.int .i64) (Kd.pair (Kd.int .i64) (Kd.int .i64))) (fun x : S207 => (x.f0, x.f1, x.f2))
theorem k207_open {w : World} {x : S207} {cs : List Value} (h : k207.K w x cs) : cs = [.int .i64 x.f0, .int .i64 x.f1, .int .i64 x.f2] := by
 obtain ⟨_, _, rfl, rfl, ⟨_, _, rfl, rfl, rfl⟩⟩ := h
 exact rfl
def rd_T207 (xs : List S207) (i : Int) : S207 := xs.getD i.toNat z207
theorem at_T207 {w : World} {A : Option Addr} {n : Nat} {xs : List S207} (h : Kd.C k207 w A n xs) (i : Int) (h0 : 0 ≤ i) (h1 : i < n) : ∃ ad , A = some ad ∧ w.cell? (ad.add (i.toNat * 3)) = some (.int .i64 (rd_T207 xs i).f0) ∧ w.cell? ⟨(ad.add (i.toNat * 3)).block, (ad.add (i.toNat * 3)).off + 1, none⟩ = some (.int .i64 (rd_T207 xs i).f1) ∧ w.cell? ⟨(ad.add (i.toNat * 3)).block, (ad.add (i.toNat * 3)).off + 2, none⟩ = some (.int .i64 (rd_T207 xs i).f2) := by
 obtain ⟨ad, c, e, _, hK, hc0⟩ := Kd.C_get h z207 i h0 h1
 have hc : ∀ j u, c[j]? = some u → w.cell? (ad.add (i.toNat * 3 + j)) = some u := hc0
 obtain rfl := k207_open hK
 exact ⟨ad, e, hc 0 _ rfl, by rw [← add_field _ _ 1 (by omega)]; exact hc 1 _ rfl, by rw [← add_field _ _ 2 (by omega)]; exact hc 2 _ rfl⟩
theorem ab_T207 {w w' : World} {B : Nat} {A : Option Addr} {n : Nat} {xs : List S207} (x : Aside0 (Below B w w')) (h : Aside0 (Kd.C k207 w A n xs)) (i : Int) (h0 : 0 ≤ i := by exact od_) (h1 : i < n := by exact od_) (e : B = w.heap.size := by rfl) : ∃ ad , ((0 ≤ i) = True) ∧ ((i < n) = True) ∧ A = some ad ∧ w'.cell? (ad.add (i.toNat * 3)) = some (.int .i64 (rd_T207 xs i).f0) ∧ w'.cell? ⟨(ad.add (i.toNat * 3)).block, (ad.add (i.toNat * 3)).off + 1, none⟩ = some (.int .i64 (rd_T207 xs i).f1) ∧ w'.cell? ⟨(ad.add (i.toNat * 3)).block, (ad.add (i.toNat * 3)).off + 2, none⟩ = some (.int .i64 (rd_T207 xs i).f2) := by
 obtain ⟨ad, c0_, c1_, c2_, c3_⟩ := at_T207 h.out i h0 h1
 exact ⟨ad, eq_true h0, eq_true h1, c0_, hx_ x c1_ e, hx_ x c2_ e, hx_ x c3_ e⟩
structure S236 where
 f0 : Int
 f1 : Int
 f2 : Int
def z236 : S236 := ⟨(0 : Int), (0 : Int), (0 : Int)⟩
def k236 : Kd S236 := Kd.iso (Kd.pair (Kd.int .i64) (Kd.pair (Kd.int .i64) (Kd.int .i64))) (fun x : S236 => (x.f0, x.f1, x.f2))
theorem k236_open {w : World} {x : S236} {cs : List Value} (h : k236.K w x cs) : cs = [.int .i64 x.f0, .int .i64 x.f1, .int .i64 x.f2] := by
 obtain ⟨_, _, rfl, rfl, ⟨_, _, rfl, rfl, rfl⟩⟩ := h
 exact rfl
def rd_T236 (xs : List S236) (i : Int) : S236 := xs.getD i.toNat z236
theorem at_T236 {w : World} {A : Option Addr} {n : Nat} {xs : List S236} (h : Kd.C k236 w A n xs) (i : Int) (h0 : 0 ≤ i) (h1 : i < n) : ∃ ad , A = some ad ∧ w.cell? (ad.add (i.toNat * 3)) = some (.int .i64 (rd_T236 xs i).f0) ∧ w.cell? ⟨(ad.add (i.toNat * 3)).block, (ad.add (i.toNat * 3)).off + 1, none⟩ = some (.int .i64 (rd_T236 xs i).f1) ∧ w.cell? ⟨(ad.add (i.toNat * 3)).block, (ad.add (i.toNat * 3)).off + 2, none⟩ = some (.int .i64 (rd_T236 xs i).f2) := by
 obtain ⟨ad, c, e, _, hK, hc0⟩ := Kd.C_get h z236 i h0 h1
 have hc : ∀ j u, c[j]? = some u → w.cell? (ad.add (i.toNat * 3 + j)) = some u := hc0
 obtain rfl := k236_open hK
 exact ⟨ad, e, hc 0 _ rfl, by rw [← add_field _ _ 1 (by omega)]; exact hc 1 _ rfl, by rw [← add_field _ _ 2 (by omega)]; exact hc 2 _ rfl⟩
theorem ab_T236 {w w' : World} {B : Nat} {A : Option Addr} {n : Nat} {xs : List S236} (x : Aside0 (Below B w w')) (h : Aside0 (Kd.C k236 w A n xs)) (i : Int) (h0 : 0 ≤ i := by exact od_) (h1 : i < n := by exact od_) (e : B = w.heap.size := by rfl) : ∃ ad , ((0 ≤ i) = True) ∧ ((i < n) = True) ∧ A = some ad ∧ w'.cell? (ad.add (i.toNat * 3)) = some (.int .i64 (rd_T236 xs i).f0) ∧ w'.cell? ⟨(ad.add (i.toNat * 3)).block, (ad.add (i.toNat * 3)).off + 1, none⟩ = some (.int .i64 (rd_T236 xs i).f1) ∧ w'.cell? ⟨(ad.add (i.toNat * 3)).block, (ad.add (i.toNat * 3)).off + 2, none⟩ = some (.int .i64 (rd_T236 xs i).f2) := by
 obtain ⟨ad, c0_, c1_, c2_, c3_⟩ := at_T236 h.out i h0 h1
 exact ⟨ad, eq_true h0, eq_true h1, c0_, hx_ x c1_ e, hx_ x c2_ e, hx_ x c3_ e⟩
def rd_L3 (xs : List (List S236)) (i : Int) : (List S236) := xs.getD i.toNat ([] : List S236)
def rd_L4 (xs : List (List Int)) (i : Int) : (List Int) := xs.getD i.toNat ([] : List Int)
structure S179 where
 f0 : Int
 f1 : (List Int)
def z179 : S179 := ⟨(0 : Int), ([] : List Int)⟩
def k179 : Kd S179 := Kd.iso (Kd.pair (Kd.int .i64) (Kd.slice 3 (Kd.int .i64))) (fun x : S179 => (x.f0, x.f1))
theorem k179_open {w : World} {x : S179} {cs : List Value} (h : k179.K w x cs) : ∃ A1 c1, cs = [.int .i64 x.f0, .slice A1 x.f1.length c1] ∧ x.f1.length ≤ c1 ∧ (Kd.int .i64).C w A1 x.f1.length x.f1 := by
 obtain ⟨_, _, rfl, rfl, ⟨A1, c1, rfl, l1, g1⟩⟩ := h
 exact ⟨A1, c1, rfl, l1, g1⟩
def rd_T179 (xs : List S179) (i : Int) : S179 := xs.getD i.toNat z179
structure S201 where
 f0 : Int
 f1 : Int
 f2 : (List S236)
 f3 : S179
def z201 : S201 := ⟨(0 : Int), (0 : Int), ([] : List S236), z179⟩
def k201 : Kd S201 := Kd.iso (Kd.pair (Kd.int .i64) (Kd.pair (Kd.int .i64) (Kd.pair (Kd.slice 236 k236) k179))) (fun x : S201 => (x.f0, x.f1, x.f2, x.f3))
theorem k201_open {w : World} {x : S201} {cs : List Value} (h : k201.K w x cs) : ∃ A2 c2 A4 c4, cs = [.int .i64 x.f0, .int .i64 x.f1, .slice A2 x.f2.length c2, .int .i64 x.f3.f0, .slice A4 x.f3.f1.length c4] ∧ x.f2.length ≤ c2 ∧ k236.C w A2 x.f2.length x.f2 ∧ x.f3.f1.length ≤ c4 ∧ (Kd.int .i64).C w A4 x.f3.f1.length x.f3.f1 := by
 obtain ⟨_, _, rfl, rfl, ⟨_, _, rfl, rfl, ⟨_, _, rfl, ⟨A2, c2, rfl, l2, g2⟩, s3⟩⟩⟩ := h
 obtain ⟨A4, c4, rfl, l4, g4⟩ := k179_open s3
 exact ⟨A2, c2, A4, c4, rfl, l2, g2, l4, g4⟩
def rd_T201 (xs : List S201) (i : Int) : S201 := xs.getD i.toNat z201
theorem at_T201 {w : World} {A : Option Addr} {n : Nat} {xs : List S201} (h : Kd.C k201 w A n xs) (i : Int) (h0 : 0 ≤ i) (h1 : i < n) : ∃ ad A2 c2 A4 c4, A = some ad ∧ w.cell? (ad.add (i.toNat * 5)) = some (.int .i64 (rd_T201 xs i).f0) ∧ w.cell? ⟨(ad.add (i.toNat * 5)).block, (ad.add (i.toNat * 5)).off + 1, none⟩ = some (.int .i64 (rd_T201 xs i).f1) ∧ w.cell? ⟨(ad.add (i.toNat * 5)).block, (ad.add (i.toNat * 5)).off + 2, none⟩ = some (.slice A2 (rd_T201 xs i).f2.length c2) ∧ w.cell? ⟨(ad.add (i.toNat * 5)).block, (ad.add (i.toNat * 5)).off + 3, none⟩ = some (.int .i64 (rd_T201 xs i).f3.f0) ∧ w.cell? ⟨(ad.add (i.toNat * 5)).block, (ad.add (i.toNat * 5)).off + 4, none⟩ = some (.slice A4 (rd_T201 xs i).f3.f1.length c4) ∧ (rd_T201 xs i).f2.length ≤ c2 ∧ k236.C w A2 (rd_T201 xs i).f2.length (rd_T201 xs i).f2 ∧ (rd_T201 xs i).f3.f1.length ≤ c4 ∧ (Kd.int .i64).C w A4 (rd_T201 xs i).f3.f1.length (rd_T201 xs i).f3.f1 := by
 obtain ⟨ad, c, e, _, hK, hc0⟩ := Kd.C_get h z201 i h0 h1
 have hc : ∀ j u, c[j]? = some u → w.cell? (ad.add (i.toNat * 5 + j)) = some u := hc0
 obtain ⟨A2, c2, A4, c4, rfl, l2, g2, l4, g4⟩ := k201_open hK
 exact ⟨ad, A2, c2, A4, c4, e, hc 0 _ rfl, by rw [← add_field _ _ 1 (by omega)]; exact hc 1 _ rfl, by rw [← add_field _ _ 2 (by omega)]; exact hc 2 _ rfl, by rw [← add_field _ _ 3 (by omega)]; exact hc 3 _ rfl, by rw [← add_field _ _ 4 (by omega)]; exact hc 4 _ rfl, l2, g2, l4, g4⟩
theorem ab_T201 {w w' : World} {B : Nat} {A : Option Addr} {n : Nat} {xs : List S201} (x : Aside0 (Below B w w')) (h : Aside0 (Kd.C k201 w A n xs)) (i : Int) (h0 : 0 ≤ i := by exact od_) (h1 : i < n := by exact od_) (e : B = w.heap.size := by rfl) : ∃ ad A2 c2 A4 c4, ((0 ≤ i) = True) ∧ ((i < n) = True) ∧ A = some ad ∧ w'.cell? (ad.add (i.toNat * 5)) = some (.int .i64 (rd_T201 xs i).f0) ∧ w'.cell? ⟨(ad.add (i.toNat * 5)).block, (ad.add (i.toNat * 5)).off + 1, none⟩ = some (.int .i64 (rd_T201 xs i).f1) ∧ w'.cell? ⟨(ad.add (i.toNat * 5)).block, (ad.add (i.toNat * 5)).off + 2, none⟩ = some (.slice A2 (rd_T201 xs i).f2.length c2) ∧ w'.cell? ⟨(ad.add (i.toNat * 5)).block, (ad.add (i.toNat * 5)).off + 3, none⟩ = some (.int .i64 (rd_T201 xs i).f3.f0) ∧ w'.cell? ⟨(ad.add (i.toNat * 5)).block, (ad.add (i.toNat * 5)).off + 4, none⟩ = some (.slice A4 (rd_T201 xs i).f3.f1.length c4) ∧ Aside0 ((rd_T201 xs i).f2.length ≤ c2) ∧ Aside0 (k236.C w A2 (rd_T201 xs i).f2.length (rd_T201 xs i).f2) ∧ Aside0 ((rd_T201 xs i).f3.f1.length ≤ c4) ∧ Aside0 ((Kd.int .i64).C w A4 (rd_T201 xs i).f3.f1.length (rd_T201 xs i).f3.f1) := by
 obtain ⟨ad, A2, c2, A4, c4, c0_, c1_, c2_, c3_, c4_, c5_, c6_, c7_, c8_, c9_⟩ := at_T201 h.out i h0 h1
 exact ⟨ad, A2, c2, A4, c4, eq_true h0, eq_true h1, c0_, hx_ x c1_ e, hx_ x c2_ e, hx_ x c3_ e, hx_ x c4_ e, hx_ x c5_ e, ⟨c6_⟩, ⟨c7_⟩, ⟨c8_⟩, ⟨c9_⟩⟩
structure S178 where
 f0 : Int
 f1 : Int
 f2 : Int
def z178 : S178 := ⟨(0 : Int), (0 : Int), (0 : Int)⟩
def k178 : Kd S178 := Kd.iso (Kd.pair (Kd.int .i64) (Kd.pair (Kd.int .i64) (Kd.int .i64))) (fun x : S178 => (x.f0, x.f1, x.f2))
theorem k178_open {w : World} {x : S178} {cs : List Value} (h : k178.K w x cs) : cs = [.int .i64 x.f0, .int .i64 x.f1, .int .i64 x.f2] := by
 obtain ⟨_, _, rfl, rfl, ⟨_, _, rfl, rfl, rfl⟩⟩ := h
 exact rfl
def rd_T178 (xs : List S178) (i : Int) : S178 := xs.getD i.toNat z178
theorem at_T178 {w : World} {A : Option Addr} {n : Nat} {xs : List S178} (h : Kd.C k178 w A n xs) (i : Int) (h0 : 0 ≤ i) (h1 : i < n) : ∃ ad , A = some ad ∧ w.cell? (ad.add (i.toNat * 3)) = some (.int .i64 (rd_T178 xs i).f0) ∧ w.cell? ⟨(ad.add (i.toNat * 3)).block, (ad.add (i.toNat * 3)).off + 1, none⟩ = some (.int .i64 (rd_T178 xs i).f1) ∧ w.cell? ⟨(ad.add (i.toNat * 3)).block, (ad.add (i.toNat * 3)).off + 2, none⟩ = some (.int .i64 (rd_T178 xs i).f2) := by
 obtain ⟨ad, c, e, _, hK, hc0⟩ := Kd.C_get h z178 i h0 h1
 have hc : ∀ j u, c[j]? = some u → w.cell? (ad.add (i.toNat * 3 + j)) = some u := hc0
 obtain rfl := k178_open hK
 exact ⟨ad, e, hc 0 _ rfl, by rw [← add_field _ _ 1 (by omega)]; exact hc 1 _ rfl, by rw [← add_field _ _ 2 (by omega)]; exact hc 2 _ rfl⟩
theorem ab_T178 {w w' : World} {B : Nat} {A : Option Addr} {n : Nat} {xs : List S178} (x : Aside0 (Below B w w')) (h : Aside0 (Kd.C k178 w A n xs)) (i : Int) (h0 : 0 ≤ i := by exact od_) (h1 : i < n := by exact od_) (e : B = w.heap.size := by rfl) : ∃ ad , ((0 ≤ i) = True) ∧ ((i < n) = True) ∧ A = some ad ∧ w'.cell? (ad.add (i.toNat * 3)) = some (.int .i64 (rd_T178 xs i).f0) ∧ w'.cell? ⟨(ad.add (i.toNat * 3)).block, (ad.add (i.toNat * 3)).off + 1, none⟩ = some (.int .i64 (rd_T178 xs i).f1) ∧ w'.cell? ⟨(ad.add (i.toNat * 3)).block, (ad.add (i.toNat * 3)).off + 2, none⟩ = some (.int .i64 (rd_T178 xs i).f2) := by
 obtain ⟨ad, c0_, c1_, c2_, c3_⟩ := at_T178 h.out i h0 h1
 exact ⟨ad, eq_true h0, eq_true h1, c0_, hx_ x c1_ e, hx_ x c2_ e, hx_ x c3_ e⟩
structure S224 where
 f0 : Int
 f1 : Int
def z224 : S224 := ⟨(0 : Int), (0 : Int)⟩
def k224 : Kd S224 := Kd.iso (Kd.pair (Kd.int .i64) (Kd.int .i64)) (fun x : S224 => (x.f0, x.f1))
theorem k224_open {w : World} {x : S224} {cs : List Value} (h : k224.K w x cs) : cs = [.int .i64 x.f0, .int .i64 x.f1] := by
 obtain ⟨_, _, rfl, rfl, rfl⟩ := h
 exact rfl
def rd_T224 (xs : List S224) (i : Int) : S224 := xs.getD i.toNat z224
theorem at_T224 {w : World} {A : Option Addr} {n : Nat} {xs : List S224} (h : Kd.C k224 w A n xs) (i : Int) (h0 : 0 ≤ i) (h1 : i < n) : ∃ ad , A = some ad ∧ w.cell? (ad.add (i.toNat * 2)) = some (.int .i64 (rd_T224 xs i).f0) ∧ w.cell? ⟨(ad.add (i.toNat * 2)).block, (ad.add (i.toNat * 2)).off + 1, none⟩ = some (.int .i64 (rd_T224 xs i).f1) := by
 obtain ⟨ad, c, e, _, hK, hc0⟩ := Kd.C_get h z224 i h0 h1
 have hc : ∀ j u, c[j]? = some u → w.cell? (ad.add (i.toNat * 2 + j)) = some u := hc0
 obtain rfl := k224_open hK
 exact ⟨ad, e, hc 0 _ rfl, by rw [← add_field _ _ 1 (by omega)]; exact hc 1 _ rfl⟩
theorem ab_T224 {w w' : World} {B : Nat} {A : Option Addr} {n : Nat} {xs : List S224} (x : Aside0 (Below B w w')) (h : Aside0 (Kd.C k224 w A n xs)) (i : Int) (h0 : 0 ≤ i := by exact od_) (h1 : i < n := by exact od_) (e : B = w.heap.size := by rfl) : ∃ ad , ((0 ≤ i) = True) ∧ ((i < n) = True) ∧ A = some ad ∧ w'.cell? (ad.add (i.toNat * 2)) = some (.int .i64 (rd_T224 xs i).f0) ∧ w'.cell? ⟨(ad.add (i.toNat * 2)).block, (ad.add (i.toNat * 2)).off + 1, none⟩ = some (.int .i64 (rd_T224 xs i).f1) := by
 obtain ⟨ad, c0_, c1_, c2_⟩ := at_T224 h.out i h0 h1
 exact ⟨ad, eq_true h0, eq_true h1, c0_, hx_ x c1_ e, hx_ x c2_ e⟩
structure S226 where
 f0 : Int
 f1 : Int
 f2 : Int
 f3 : Int
def z226 : S226 := ⟨(0 : Int), (0 : Int), (0 : Int), (0 : Int)⟩
def k226 : Kd S226 := Kd.iso (Kd.pair (Kd.int .i64) (Kd.pair (Kd.int .i64) (Kd.pair (Kd.int .i64) (Kd.int .i64)))) (fun x : S226 => (x.f0, x.f1, x.f2, x.f3))
theorem k226_open {w : World} {x : S226} {cs : List Value} (h : k226.K w x cs) : cs = [.int .i64 x.f0, .int .i64 x.f1, .int .i64 x.f2, .int .i64 x.f3] := by
 obtain ⟨_, _, rfl, rfl, ⟨_, _, rfl, rfl, ⟨_, _, rfl, rfl, rfl⟩⟩⟩ := h
 exact rfl
def rd_T226 (xs : List S226) (i : Int) : S226 := xs.getD i.toNat z226
theorem at_T226 {w : World} {A : Option Addr} {n : Nat} {xs : List S226} (h : Kd.C k226 w A n xs) (i : Int) (h0 : 0 ≤ i) (h1 : i < n) : ∃ ad , A = some ad ∧ w.cell? (ad.add (i.toNat * 4)) = some (.int .i64 (rd_T226 xs i).f0) ∧ w.cell? ⟨(ad.add (i.toNat * 4)).block, (ad.add (i.toNat * 4)).off + 1, none⟩ = some (.int .i64 (rd_T226 xs i).f1) ∧ w.cell? ⟨(ad.add (i.toNat * 4)).block, (ad.add (i.toNat * 4)).off + 2, none⟩ = some (.int .i64 (rd_T226 xs i).f2) ∧ w.cell? ⟨(ad.add (i.toNat * 4)).block, (ad.add (i.toNat * 4)).off + 3, none⟩ = some (.int .i64 (rd_T226 xs i).f3) := by
 obtain ⟨ad, c, e, _, hK, hc0⟩ := Kd.C_get h z226 i h0 h1
 have hc : ∀ j u, c[j]? = some u → w.cell? (ad.add (i.toNat * 4 + j)) = some u := hc0
 obtain rfl := k226_open hK
 exact ⟨ad, e, hc 0 _ rfl, by rw [← add_field _ _ 1 (by omega)]; exact hc 1 _ rfl, by rw [← add_field _ _ 2 (by omega)]; exact hc 2 _ rfl, by rw [← add_field _ _ 3 (by omega)]; exact hc 3 _ rfl⟩
theorem ab_T226 {w w' : World} {B : Nat} {A : Option Addr} {n : Nat} {xs : List S226} (x : Aside0 (Below B w w')) (h : Aside0 (Kd.C k226 w A n xs)) (i : Int) (h0 : 0 ≤ i := by exact od_) (h1 : i < n := by exact od_) (e : B = w.heap.size := by rfl) : ∃ ad , ((0 ≤ i) = True) ∧ ((i < n) = True) ∧ A = some ad ∧ w'.cell? (ad.add (i.toNat * 4)) = some (.int .i64 (rd_T226 xs i).f0) ∧ w'.cell? ⟨(ad.add (i.toNat * 4)).block, (ad.add (i.toNat * 4)).off + 1, none⟩ = some (.int .i64 (rd_T226 xs i).f1) ∧ w'.cell? ⟨(ad.add (i.toNat * 4)).block, (ad.add (i.toNat * 4)).off + 2, none⟩ = some (.int .i64 (rd_T226 xs i).f2) ∧ w'.cell? ⟨(ad.add (i.toNat * 4)).block, (ad.add (i.toNat * 4)).off + 3, none⟩ = some (.int .i64 (rd_T226 xs i).f3) := by
 obtain ⟨ad, c0_, c1_, c2_, c3_, c4_⟩ := at_T226 h.out i h0 h1
 exact ⟨ad, eq_true h0, eq_true h1, c0_, hx_ x c1_ e, hx_ x c2_ e, hx_ x c3_ e, hx_ x c4_ e⟩
def rd_L10 (xs : List (List S178)) (i : Int) : (List S178) := xs.getD i.toNat ([] : List S178)
def rd_L12 (xs : List (List S224)) (i : Int) : (List S224) := xs.getD i.toNat ([] : List S224)
def rd_L13 (xs : List (List S226)) (i : Int) : (List S226) := xs.getD i.toNat ([] : List S226)
structure S176 where
 f0 : (List S178)
 f1 : Int
 f2 : Bool
 f3 : (List S224)
 f4 : (List S226)
def z176 : S176 := ⟨([] : List S178), (0 : Int), false, ([] : List S224), ([] : List S226)⟩
def k176 : Kd S176 := Kd.iso (Kd.pair (Kd.slice 178 k178) (Kd.pair (Kd.int .i64) (Kd.pair Kd.bool (Kd.pair (Kd.slice 224 k224) (Kd.slice 226 k226))))) (fun x : S176 => (x.f0, x.f1, x.f2, x.f3, x.f4))
theorem k176_open {w : World} {x : S176} {cs : List Value} (h : k176.K w x cs) : ∃ A0 c0 A3 c3 A4 c4, cs = [.slice A0 x.f0.length c0, .int .i64 x.f1, .bool x.f2, .slice A3 x.f3.length c3, .slice A4 x.f4.length c4] ∧ x.f0.length ≤ c0 ∧ k178.C w A0 x.f0.length x.f0 ∧ x.f3.length ≤ c3 ∧ k224.C w A3 x.f3.length x.f3 ∧ x.f4.length ≤ c4 ∧ k226.C w A4 x.f4.length x.f4 := by
 obtain ⟨_, _, rfl, ⟨A0, c0, rfl, l0, g0⟩, ⟨_, _, rfl, rfl, ⟨_, _, rfl, rfl, ⟨_, _, rfl, ⟨A3, c3, rfl, l3, g3⟩, ⟨A4, c4, rfl, l4, g4⟩⟩⟩⟩⟩ := h
 exact ⟨A0, c0, A3, c3, A4, c4, rfl, l0, g0, l3, g3, l4, g4⟩
def rd_T176 (xs : List S176) (i : Int) : S176 := xs.getD i.toNat z176
theorem at_T176 {w : World} {A : Option Addr} {n : Nat} {xs : List S176} (h : Kd.C k176 w A n xs) (i : Int) (h0 : 0 ≤ i) (h1 : i < n) : ∃ ad A0 c0 A3 c3 A4 c4, A = some ad ∧ w.cell? (ad.add (i.toNat * 5)) = some (.slice A0 (rd_T176 xs i).f0.length c0) ∧ w.cell? ⟨(ad.add (i.toNat * 5)).block, (ad.add (i.toNat * 5)).off + 1, none⟩ = some (.int .i64 (rd_T176 xs i).f1) ∧ w.cell? ⟨(ad.add (i.toNat * 5)).block, (ad.add (i.toNat * 5)).off + 2, none⟩ = some (.bool (rd_T176 xs i).f2) ∧ w.cell? ⟨(ad.add (i.toNat * 5)).block, (ad.add (i.toNat * 5)).off + 3, none⟩ = some (.slice A3 (rd_T176 xs i).f3.length c3) ∧ w.cell? ⟨(ad.add (i.toNat * 5)).block, (ad.add (i.toNat * 5)).off + 4, none⟩ = some (.slice A4 (rd_T176 xs i).f4.length c4) ∧ (rd_T176 xs i).f0.length ≤ c0 ∧ k178.C w A0 (rd_T176 xs i).f0.length (rd_T176 xs i).f0 ∧ (rd_T176 xs i).f3.length ≤ c3 ∧ k224.C w A3 (rd_T176 xs i).f3.length (rd_T176 xs i).f3 ∧ (rd_T176 xs i).f4.length ≤ c4 ∧ k226.C w A4 (rd_T176 xs i).f4.length (rd_T176 xs i).f4 := by
 obtain ⟨ad, c, e, _, hK, hc0⟩ := Kd.C_get h z176 i h0 h1
 have hc : ∀ j u, c[j]? = some u → w.cell? (ad.add (i.toNat * 5 + j)) = some u := hc0
 obtain ⟨A0, c0, A3, c3, A4, c4, rfl, l0, g0, l3, g3, l4, g4⟩ := k176_open hK
 exact ⟨ad, A0, c0, A3, c3, A4, c4, e, hc 0 _ rfl, by rw [← add_field _ _ 1 (by omega)]; exact hc 1 _ rfl, by rw [← add_field _ _ 2 (by omega)]; exact hc 2 _ rfl, by rw [← add_field _ _ 3 (by omega)]; exact hc 3 _ rfl, by rw [← add_field _ _ 4 (by omega)]; exact hc 4 _ rfl, l0, g0, l3, g3, l4, g4⟩
theorem ab_T176 {w w' : World} {B : Nat} {A : Option Addr} {n : Nat} {xs : List S176} (x : Aside0 (Below B w w')) (h : Aside0 (Kd.C k176 w A n xs)) (i : Int) (h0 : 0 ≤ i := by exact od_) (h1 : i < n := by exact od_) (e : B = w.heap.size := by rfl) : ∃ ad A0 c0 A3 c3 A4 c4, ((0 ≤ i) = True) ∧ ((i < n) = True) ∧ A = some ad ∧ w'.cell? (ad.add (i.toNat * 5)) = some (.slice A0 (rd_T176 xs i).f0.length c0) ∧ w'.cell? ⟨(ad.add (i.toNat * 5)).block, (ad.add (i.toNat * 5)).off + 1, none⟩ = some (.int .i64 (rd_T176 xs i).f1) ∧ w'.cell? ⟨(ad.add (i.toNat * 5)).block, (ad.add (i.toNat * 5)).off + 2, none⟩ = some (.bool (rd_T176 xs i).f2) ∧ w'.cell? ⟨(ad.add (i.toNat * 5)).block, (ad.add (i.toNat * 5)).off + 3, none⟩ = some (.slice A3 (rd_T176 xs i).f3.length c3) ∧ w'.cell? ⟨(ad.add (i.toNat * 5)).block, (ad.add (i.toNat * 5)).off + 4, none⟩ = some (.slice A4 (rd_T176 xs i).f4.length c4) ∧ Aside0 ((rd_T176 xs i).f0.length ≤ c0) ∧ Aside0 (k178.C w A0 (rd_T176 xs i).f0.length (rd_T176 xs i).f0) ∧ Aside0 ((rd_T176 xs i).f3.length ≤ c3) ∧ Aside0 (k224.C w A3 (rd_T176 xs i).f3.length (rd_T176 xs i).f3) ∧ Aside0 ((rd_T176 xs i).f4.length ≤ c4) ∧ Aside0 (k226.C w A4 (rd_T176 xs i).f4.length (rd_T176 xs i).f4) := by
 obtain ⟨ad, A0, c0, A3, c3, A4, c4, c0_, c1_, c2_, c3_, c4_, c5_, c6_, c7_, c8_, c9_, c10_, c11_⟩ := at_T176 h.out i h0 h1
 exact ⟨ad, A0, c0, A3, c3, A4, c4, eq_true h0, eq_true h1, c0_, hx_ x c1_ e, hx_ x c2_ e, hx_ x c3_ e, hx_ x c4_ e, hx_ x c5_ e, ⟨c6_⟩, ⟨c7_⟩, ⟨c8_⟩, ⟨c9_⟩, ⟨c10_⟩, ⟨c11_⟩⟩
structure S181 where
 f0 : Int
 f1 : S178
 f2 : Int
 f3 : Int
 f4 : Int
 f5 : S179
def z181 : S181 := ⟨(0 : Int), z178, (0 : Int), (0 : Int), (0 : Int), z179⟩
def k181 : Kd S181 := Kd.iso (Kd.pair (Kd.int .i64) (Kd.pair k178 (Kd.pair (Kd.int .i64) (Kd.pair (Kd.int .i64) (Kd.pair (Kd.int .i64) k179))))) (fun x : S181 => (x.f0, x.f1, x.f2, x.f3, x.f4, x.f5))
theorem k181_open {w : World} {x : S181} {cs : List Value} (h : k181.K w x cs) : ∃ A8 c8, cs = [.int .i64 x.f0, .int .i64 x.f1.f0, .int .i64 x.f1.f1, .int .i64 x.f1.f2, .int .i64 x.f2, .int .i64 x.f3, .int .i64 x.f4, .int .i64 x.f5.f0, .slice A8 x.f5.f1.length c8] ∧ x.f5.f1.length ≤ c8 ∧ (Kd.int .i64).C w A8 x.f5.f1.length x.f5.f1 := by
 obtain ⟨_, _, rfl, rfl, ⟨_, _, rfl, s1, ⟨_, _, rfl, rfl, ⟨_, _, rfl, rfl, ⟨_, _, rfl, rfl, s7⟩⟩⟩⟩⟩ := h
 obtain rfl := k178_open s1
 obtain ⟨A8, c8, rfl, l8, g8⟩ := k179_open s7
 exact ⟨A8, c8, rfl, l8, g8⟩
def rd_T181 (xs : List S181) (i : Int) : S181 := xs.getD i.toNat z181
theorem at_T181 {w : World} {A : Option Addr} {n : Nat} {xs : List S181} (h : Kd.C k181 w A n xs) (i : Int) (h0 : 0 ≤ i) (h1 : i < n) : ∃ ad A8 c8, A = some ad ∧ w.cell? (ad.add (i.toNat * 9)) = some (.int .i64 (rd_T181 xs i).f0) ∧ w.cell? ⟨(ad.add (i.toNat * 9)).block, (ad.add (i.toNat * 9)).off + 1, none⟩ = some (.int .i64 (rd_T181 xs i).f1.f0) ∧ w.cell? ⟨(ad.add (i.toNat * 9)).block, (ad.add (i.toNat * 9)).off + 2, none⟩ = some (.int .i64 (rd_T181 xs i).f1.f1) ∧ w.cell? ⟨(ad.add (i.toNat * 9)).block, (ad.add (i.toNat * 9)).off + 3, none⟩ = some (.int .i64 (rd_T181 xs i).f1.f2) ∧ w.cell? ⟨(ad.add (i.toNat * 9)).block, (ad.add (i.toNat * 9)).off + 4, none⟩ = some (.int .i64 (rd_T181 xs i).f2) ∧ w.cell? ⟨(ad.add (i.toNat * 9)).block, (ad.add (i.toNat * 9)).off + 5, none⟩ = some (.int .i64 (rd_T181 xs i).f3) ∧ w.cell? ⟨(ad.add (i.toNat * 9)).block, (ad.add (i.toNat * 9)).off + 6, none⟩ = some (.int .i64 (rd_T181 xs i).f4) ∧ w.cell? ⟨(ad.add (i.toNat * 9)).block, (ad.add (i.toNat * 9)).off + 7, none⟩ = some (.int .i64 (rd_T181 xs i).f5.f0) ∧ w.cell? ⟨(ad.add (i.toNat * 9)).block, (ad.add (i.toNat * 9)).off + 8, none⟩ = some (.slice A8 (rd_T181 xs i).f5.f1.length c8) ∧ (rd_T181 xs i).f5.f1.length ≤ c8 ∧ (Kd.int .i64).C w A8 (rd_T181 xs i).f5.f1.length (rd_T181 xs i).f5.f1 := by
 obtain ⟨ad, c, e, _, hK, hc0⟩ := Kd.C_get h z181 i h0 h1
 have hc : ∀ j u, c[j]? = some u → w.cell? (ad.add (i.toNat * 9 + j)) = some u := hc0
 obtain ⟨A8, c8, rfl, l8, g8⟩ := k181_open hK
 exact ⟨ad, A8, c8, e, hc 0 _ rfl, by rw [← add_field _ _ 1 (by omega)]; exact hc 1 _ rfl, by rw [← add_field _ _ 2 (by omega)]; exact hc 2 _ rfl, by rw [← add_field _ _ 3 (by omega)]; exact hc 3 _ rfl, by rw [← add_field _ _ 4 (by omega)]; exact hc 4 _ rfl, by rw [← add_field _ _ 5 (by omega)]; exact hc 5 _ rfl, by rw [← add_field _ _ 6 (by omega)]; exact hc 6 _ rfl, by rw [← add_field _ _ 7 (by omega)]; exact hc 7 _ rfl, by rw [← add_field _ _ 8 (by omega)]; exact hc 8 _ rfl, l8, g8⟩
theorem ab_T181 {w w' : World} {B : Nat} {A : Option Addr} {n : Nat} {xs : List S181} (x : Aside0 (Below B w w')) (h : Aside0 (Kd.C k181 w A n xs)) (i : Int) (h0 : 0 ≤ i := by exact od_) (h1 : i < n := by exact od_) (e : B = w.heap.size := by rfl) : ∃ ad A8 c8, ((0 ≤ i) = True) ∧ ((i < n) = True) ∧ A = some ad ∧ w'.cell? (ad.add (i.toNat * 9)) = some (.int .i64 (rd_T181 xs i).f0) ∧ w'.cell? ⟨(ad.add (i.toNat * 9)).block, (ad.add (i.toNat * 9)).off + 1, none⟩ = some (.int .i64 (rd_T181 xs i).f1.f0) ∧ w'.cell? ⟨(ad.add (i.toNat * 9)).block, (ad.add (i.toNat * 9)).off + 2, none⟩ = some (.int .i64 (rd_T181 xs i).f1.f1) ∧ w'.cell? ⟨(ad.add (i.toNat * 9)).block, (ad.add (i.toNat * 9)).off + 3, none⟩ = some (.int .i64 (rd_T181 xs i).f1.f2) ∧ w'.cell? ⟨(ad.add (i.toNat * 9)).block, (ad.add (i.toNat * 9)).off + 4, none⟩ = some (.int .i64 (rd_T181 xs i).f2) ∧ w'.cell? ⟨(ad.add (i.toNat * 9)).block, (ad.add (i.toNat * 9)).off + 5, none⟩ = some (.int .i64 (rd_T181 xs i).f3) ∧ w'.cell? ⟨(ad.add (i.toNat * 9)).block, (ad.add (i.toNat * 9)).off + 6, none⟩ = some (.int .i64 (rd_T181 xs i).f4) ∧ w'.cell? ⟨(ad.add (i.toNat * 9)).block, (ad.add (i.toNat * 9)).off + 7, none⟩ = some (.int .i64 (rd_T181 xs i).f5.f0) ∧ w'.cell? ⟨(ad.add (i.toNat * 9)).block, (ad.add (i.toNat * 9)).off + 8, none⟩ = some (.slice A8 (rd_T181 xs i).f5.f1.length c8) ∧ Aside0 ((rd_T181 xs i).f5.f1.length ≤ c8) ∧ Aside0 ((Kd.int .i64).C w A8 (rd_T181 xs i).f5.f1.length (rd_T181 xs i).f5.f1) := by
 obtain ⟨ad, A8, c8, c0_, c1_, c2_, c3_, c4_, c5_, c6_, c7_, c8_, c9_, c10_, c11_⟩ := at_T181 h.out i h0 h1
 exact ⟨ad, A8, c8, eq_true h0, eq_true h1, c0_, hx_ x c1_ e, hx_ x c2_ e, hx_ x c3_ e, hx_ x c4_ e, hx_ x c5_ e, hx_ x c6_ e, hx_ x c7_ e, hx_ x c8_ e, hx_ x c9_ e, ⟨c10_⟩, ⟨c11_⟩⟩
structure S122 where
 f0 : Int
 f1 : Int
 f2 : Int
def z122 : S122 := ⟨(0 : Int), (0 : Int), (0 : Int)⟩
def k122 : Kd S122 := Kd.iso (Kd.pair (Kd.int .i64) (Kd.pair (Kd.int .i64) (Kd.int .i64))) (fun x : S122 => (x.f0, x.f1, x.f2))
theorem k122_open {w : World} {x : S122} {cs : List Value} (h : k122.K w x cs) : cs = [.int .i64 x.f0, .int .i64 x.f1, .int .i64 x.f2] := by
 obtain ⟨_, _, rfl, rfl, ⟨_, _, rfl, rfl, rfl⟩⟩ := h
 exact rfl
theorem k122_openM {w : World} {base : Nat} {ok : Nat → Prop} {x : S122} {cs : List Value} (h : k122.M w base ok x cs) : cs = [.int .i64 x.f0, .int .i64 x.f1, .int .i64 x.f2] := by
 obtain ⟨_, _, rfl, rfl, ⟨_, _, rfl, rfl, rfl⟩⟩ := h
 exact rfl
theorem k122_mkM (w : World) (base : Nat) (ok : Nat → Prop) (x : S122)  : k122.M w base ok x [.int .i64 x.f0, .int .i64 x.f1, .int .i64 x.f2] := ⟨[.int .i64 x.f0], [.int .i64 x.f1, .int .i64 x.f2], rfl, rfl, ⟨[.int .i64 x.f1], [.int .i64 x.f2], rfl, rfl, rfl⟩⟩
def rd_T122 (xs : List S122) (i : Int) : S122 := xs.getD i.toNat z122
theorem at_T122 {w : World} {A : Option Addr} {n : Nat} {xs : List S122} (h : Kd.C k122 w A n xs) (i : Int) (h0 : 0 ≤ i) (h1 : i < n) : ∃ ad , A = some ad ∧ w.cell? (ad.add (i.toNat * 3)) = some (.int .i64 (rd_T122 xs i).f0) ∧ w.cell? ⟨(ad.add (i.toNat * 3)).block, (ad.add (i.toNat * 3)).off + 1, none⟩ = some (.int .i64 (rd_T122 xs i).f1) ∧ w.cell? ⟨(ad.add (i.toNat * 3)).block, (ad.add (i.toNat * 3)).off + 2, none⟩ = some (.int .i64 (rd_T122 xs i).f2) := by
 obtain ⟨ad, c, e, _, hK, hc0⟩ := Kd.C_get h z122 i h0 h1
 have hc : ∀ j u, c[j]? = some u → w.cell? (ad.add (i.toNat * 3 + j)) = some u := hc0
 obtain rfl := k122_open hK
 exact ⟨ad, e, hc 0 _ rfl, by rw [← add_field _ _ 1 (by omega)]; exact hc 1 _ rfl, by rw [← add_field _ _ 2 (by omega)]; exact hc 2 _ rfl⟩
theorem ab_T122 {w w' : World} {B : Nat} {A : Option Addr} {n : Nat} {xs : List S122} (x : Aside0 (Below B w w')) (h : Aside0 (Kd.C k122 w A n xs)) (i : Int) (h0 : 0 ≤ i := by exact od_) (h1 : i < n := by exact od_) (e : B = w.heap.size := by rfl) : ∃ ad , ((0 ≤ i) = True) ∧ ((i < n) = True) ∧ A = some ad ∧ w'.cell? (ad.add (i.toNat * 3)) = some (.int .i64 (rd_T122 xs i).f0) ∧ w'.cell? ⟨(ad.add (i.toNat * 3)).block, (ad.add (i.toNat * 3)).off + 1, none⟩ = some (.int .i64 (rd_T122 xs i).f1) ∧ w'.cell? ⟨(ad.add (i.toNat * 3)).block, (ad.add (i.toNat * 3)).off + 2, none⟩ = some (.int .i64 (rd_T122 xs i).f2) := by
 obtain ⟨ad, c0_, c1_, c2_, c3_⟩ := at_T122 h.out i h0 h1
 exact ⟨ad, eq_true h0, eq_true h1, c0_, hx_ x c1_ e, hx_ x c2_ e, hx_ x c3_ e⟩
structure S125 where
 f0 : Int
 f1 : Int
def z125 : S125 := ⟨(0 : Int), (0 : Int)⟩
def k125 : Kd S125 := Kd.iso (Kd.pair (Kd.int .i64) (Kd.int .i64)) (fun x : S125 => (x.f0, x.f1))
theorem k125_open {w : World} {x : S125} {cs : List Value} (h : k125.K w x cs) : cs = [.int .i64 x.f0, .int .i64 x.f1] := by
 obtain ⟨_, _, rfl, rfl, rfl⟩ := h
 exact rfl
theorem k125_openM {w : World} {base : Nat} {ok : Nat → Prop} {x : S125} {cs : List Value} (h : k125.M w base ok x cs) : cs = [.int .i64 x.f0, .int .i64 x.f1] := by
 obtain ⟨_, _, rfl, rfl, rfl⟩ := h
 exact rfl
theorem k125_mkM (w : World) (base : Nat) (ok : Nat → Prop) (x : S125)  : k125.M w base ok x [.int .i64 x.f0, .int .i64 x.f1] := ⟨[.int .i64 x.f0], [.int .i64 x.f1], rfl, rfl, rfl⟩
def rd_T125 (xs : List S125) (i : Int) : S125 := xs.getD i.toNat z125
theorem at_T125 {w : World} {A : Option Addr} {n : Nat} {xs : List S125} (h : Kd.C k125 w A n xs) (i : Int) (h0 : 0 ≤ i) (h1 : i < n) : ∃ ad , A = some ad ∧ w.cell? (ad.add (i.toNat * 2)) = some (.int .i64 (rd_T125 xs i).f0) ∧ w.cell? ⟨(ad.add (i.toNat * 2)).block, (ad.add (i.toNat * 2)).off + 1, none⟩ = some (.int .i64 (rd_T125 xs i).f1) := by
 obtain ⟨ad, c, e, _, hK, hc0⟩ := Kd.C_get h z125 i h0 h1
 have hc : ∀ j u, c[j]? = some u → w.cell? (ad.add (i.toNat * 2 + j)) = some u := hc0
 obtain rfl := k125_open hK
 exact ⟨ad, e, hc 0 _ rfl, by rw [← add_field _ _ 1 (by omega)]; exact hc 1 _ rfl⟩
theorem ab_T125 {w w' : World} {B : Nat} {A : Option Addr} {n : Nat} {xs : List S125} (x : Aside0 (Below B w w')) (h : Aside0 (Kd.C k125 w A n xs)) (i : Int) (h0 : 0 ≤ i := by exact od_) (h1 : i < n := by exact od_) (e : B = w.heap.size := by rfl) : ∃ ad , ((0 ≤ i) = True) ∧ ((i < n) = True) ∧ A = some ad ∧ w'.cell? (ad.add (i.toNat * 2)) = some (.int .i64 (rd_T125 xs i).f0) ∧ w'.cell? ⟨(ad.add (i.toNat * 2)).block, (ad.add (i.toNat * 2)).off + 1, none⟩ = some (.int .i64 (rd_T125 xs i).f1) := by
 obtain ⟨ad, c0_, c1_, c2_⟩ := at_T125 h.out i h0 h1
 exact ⟨ad, eq_true h0, eq_true h1, c0_, hx_ x c1_ e, hx_ x c2_ e⟩
structure S42 where
 f0 : Int
 f1 : Int
 f2 : Int
 f3 : Int
def z42 : S42 := ⟨(0 : Int), (0 : Int), (0 : Int), (0 : Int)⟩
def k42 : Kd S42 := Kd.iso (Kd.pair (Kd.int .i64) (Kd.pair (Kd.int .i64) (Kd.pair (Kd.int .i64) (Kd.int .i64)))) (fun x : S42 => (x.f0, x.f1, x.f2, x.f3))
theorem k42_open {w : World} {x : S42} {cs : List Value} (h : k42.K w x cs) : cs = [.int .i64 x.f0, .int .i64 x.f1, .int .i64 x.f2, .int .i64 x.f3] := by
 obtain ⟨_, _, rfl, rfl, ⟨_, _, rfl, rfl, ⟨_, _, rfl, rfl, rfl⟩⟩⟩ := h
 exact rfl
theorem k42_openM {w : World} {base : Nat} {ok : Nat → Prop} {x : S42} {cs : List Value} (h : k42.M w base ok x cs) : cs = [.int .i64 x.f0, .int .i64 x.f1, .int .i64 x.f2, .int .i64 x.f3] := by
 obtain ⟨_, _, rfl, rfl, ⟨_, _, rfl, rfl, ⟨_, _, rfl, rfl, rfl⟩⟩⟩ := h
 exact rfl
theorem k42_mkM (w : World) (base : Nat) (ok : Nat → Prop) (x : S42)  : k42.M w base ok x [.int .i64 x.f0, .int .i64 x.f1, .int .i64 x.f2, .int .i64 x.f3] := ⟨[.int .i64 x.f0], [.int .i64 x.f1, .int .i64 x.f2, .int .i64 x.f3], rfl, rfl, ⟨[.int .i64 x.f1], [.int .i64 x.f2, .int .i64 x.f3], rfl, rfl, ⟨[.int .i64 x.f2], [.int .i64 x.f3], rfl, rfl, rfl⟩⟩⟩
def rd_T42 (xs : List S42) (i : Int) : S42 := xs.getD i.toNat z42
theorem at_T42 {w : World} {A : Option Addr} {n : Nat} {xs : List S42} (h : Kd.C k42 w A n xs) (i : Int) (h0 : 0 ≤ i) (h1 : i < n) : ∃ ad , A = some ad ∧ w.cell? (ad.add (i.toNat * 4)) = some (.int .i64 (rd_T42 xs i).f0) ∧ w.cell? ⟨(ad.add (i.toNat * 4)).block, (ad.add (i.toNat * 4)).off + 1, none⟩ = some (.int .i64 (rd_T42 xs i).f1) ∧ w.cell? ⟨(ad.add (i.toNat * 4)).block, (ad.add (i.toNat * 4)).off + 2, none⟩ = some (.int .i64 (rd_T42 xs i).f2) ∧ w.cell? ⟨(ad.add (i.toNat * 4)).block, (ad.add (i.toNat * 4)).off + 3, none⟩ = some (.int .i64 (rd_T42 xs i).f3) := by
 obtain ⟨ad, c, e, _, hK, hc0⟩ := Kd.C_get h z42 i h0 h1
 have hc : ∀ j u, c[j]? = some u → w.cell? (ad.add (i.toNat * 4 + j)) = some u := hc0
 obtain rfl := k42_open hK
 exact ⟨ad, e, hc 0 _ rfl, by rw [← add_field _ _ 1 (by omega)]; exact hc 1 _ rfl, by rw [← add_field _ _ 2 (by omega)]; exact hc 2 _ rfl, by rw [← add_field _ _ 3 (by omega)]; exact hc 3 _ rfl⟩
theorem ab_T42 {w w' : World} {B : Nat} {A : Option Addr} {n : Nat} {xs : List S42} (x : Aside0 (Below B w w')) (h : Aside0 (Kd.C k42 w A n xs)) (i : Int) (h0 : 0 ≤ i := by exact od_) (h1 : i < n := by exact od_) (e : B = w.heap.size := by rfl) : ∃ ad , ((0 ≤ i) = True) ∧ ((i < n) = True) ∧ A = some ad ∧ w'.cell? (ad.add (i.toNat * 4)) = some (.int .i64 (rd_T42 xs i).f0) ∧ w'.cell? ⟨(ad.add (i.toNat * 4)).block, (ad.add (i.toNat * 4)).off + 1, none⟩ = some (.int .i64 (rd_T42 xs i).f1) ∧ w'.cell? ⟨(ad.add (i.toNat * 4)).block, (ad.add (i.toNat * 4)).off + 2, none⟩ = some (.int .i64 (rd_T42 xs i).f2) ∧ w'.cell? ⟨(ad.add (i.toNat * 4)).block, (ad.add (i.toNat * 4)).off + 3, none⟩ = some (.int .i64 (rd_T42 xs i).f3) := by
 obtain ⟨ad, c0_, c1_, c2_, c3_, c4_⟩ := at_T42 h.out i h0 h1
 exact ⟨ad, eq_true h0, eq_true h1, c0_, hx_ x c1_ e, hx_ x c2_ e, hx_ x c3_ e, hx_ x c4_ e⟩
structure S37 where
 f0 : Int
 f1 : Int
 f2 : Int
def z37 : S37 := ⟨(0 : Int), (0 : Int), (0 : Int)⟩
def k37 : Kd S37 := Kd.iso (Kd.pair (Kd.int .i64) (Kd.pair (Kd.int .i64) (Kd.int .i64))) (fun x : S37 => (x.f0, x.f1, x.f2))
theorem k37_open {w : World} {x : S37} {cs : List Value} (h : k37.K w x cs) : cs = [.int .i64 x.f0, .int .i64 x.f1, .int .i64 x.f2] := by
 obtain ⟨_, _, rfl, rfl, ⟨_, _, rfl, rfl, rfl⟩⟩ := h
 exact rfl
theorem k37_openM {w : World} {base : Nat} {ok : Nat → Prop} {x : S37} {cs : List Value} (h : k37.M w base ok x cs) : cs = [.int .i64 x.f0, .int .i64 x.f1, .int .i64 x.f2] := by
 obtain ⟨_, _, rfl, rfl, ⟨_, _, rfl, rfl, rfl⟩⟩ := h
 exact rfl
theorem k37_mkM (w : World) (base : Nat) (ok : Nat → Prop) (x : S37)  : k37.M w base ok x [.int .i64 x.f0, .int .i64 x.f1, .int .i64 x.f2] := ⟨[.int .i64 x.f0], [.int .i64 x.f1, .int .i64 x.f2], rfl, rfl, ⟨[.int .i64 x.f1], [.int .i64 x.f2], rfl, rfl, rfl⟩⟩
def rd_T37 (xs : List S37) (i : Int) : S37 := xs.getD i.toNat z37
theorem at_T37 {w : World} {A : Option Addr} {n : Nat} {xs : List S37} (h : Kd.C k37 w A n xs) (i : Int) (h0 : 0 ≤ i) (h1 : i < n) : ∃ ad , A = some ad ∧ w.cell? (ad.add (i.toNat * 3)) = some (.int .i64 (rd_T37 xs i).f0) ∧ w.cell? ⟨(ad.add (i.toNat * 3)).block, (ad.add (i.toNat * 3)).off + 1, none⟩ = some (.int .i64 (rd_T37 xs i).f1) ∧ w.cell? ⟨(ad.add (i.toNat * 3)).block, (ad.add (i.toNat * 3)).off + 2, none⟩ = some (.int .i64 (rd_T37 xs i).f2) := by
 obtain ⟨ad, c, e, _, hK, hc0⟩ := Kd.C_get h z37 i h0 h1
 have hc : ∀ j u, c[j]? = some u → w.cell? (ad.add (i.toNat * 3 + j)) = some u := hc0
 obtain rfl := k37_open hK
 exact ⟨ad, e, hc 0 _ rfl, by rw [← add_field _ _ 1 (by omega)]; exact hc 1 _ rfl, by rw [← add_field _ _ 2 (by omega)]; exact hc 2 _ rfl⟩
theorem ab_T37 {w w' : World} {B : Nat} {A : Option Addr} {n : Nat} {xs : List S37} (x : Aside0 (Below B w w')) (h : Aside0 (Kd.C k37 w A n xs)) (i : Int) (h0 : 0 ≤ i := by exact od_) (h1 : i < n := by exact od_) (e : B = w.heap.size := by rfl) : ∃ ad , ((0 ≤ i) = True) ∧ ((i < n) = True) ∧ A = some ad ∧ w'.cell? (ad.add (i.toNat * 3)) = some (.int .i64 (rd_T37 xs i).f0) ∧ w'.cell? ⟨(ad.add (i.toNat * 3)).block, (ad.add (i.toNat * 3)).off + 1, none⟩ = some (.int .i64 (rd_T37 xs i).f1) ∧ w'.cell? ⟨(ad.add (i.toNat * 3)).block, (ad.add (i.toNat * 3)).off + 2, none⟩ = some (.int .i64 (rd_T37 xs i).f2) := by
 obtain ⟨ad, c0_, c1_, c2_, c3_⟩ := at_T37 h.out i h0 h1
 exact ⟨ad, eq_true h0, eq_true h1, c0_, hx_ x c1_ e, hx_ x c2_ e, hx_ x c3_ e⟩
def rd_L20 (xs : List (List S37)) (i : Int) : (List S37) := xs.getD i.toNat ([] : List S37)
structure S31 where
 f0 : Int
 f1 : (List Int)
def z31 : S31 := ⟨(0 : Int), ([] : List Int)⟩
def k31 : Kd S31 := Kd.iso (Kd.pair (Kd.int .i64) (Kd.slice 3 (Kd.int .i64))) (fun x : S31 => (x.f0, x.f1))
theorem k31_open {w : World} {x : S31} {cs : List Value} (h : k31.K w x cs) : ∃ A1 c1, cs = [.int .i64 x.f0, .slice A1 x.f1.length c1] ∧ x.f1.length ≤ c1 ∧ (Kd.int .i64).C w A1 x.f1.length x.f1 := by
 obtain ⟨_, _, rfl, rfl, ⟨A1, c1, rfl, l1, g1⟩⟩ := h
 exact ⟨A1, c1, rfl, l1, g1⟩
theorem k31_openM {w : World} {base : Nat} {ok : Nat → Prop} {x : S31} {cs : List Value} (h : k31.M w base ok x cs) : ∃ v1, cs = [.int .i64 x.f0, v1] ∧ (Kd.int .i64).R 3 w base ok v1 x.f1 := by
 obtain ⟨_, _, rfl, rfl, ⟨v1, rfl, g1⟩⟩ := h
 exact ⟨v1, rfl, g1⟩
theorem k31_mkM (w : World) (base : Nat) (ok : Nat → Prop) (x : S31) {v1 : Value} (g1 : (Kd.int .i64).R 3 w base ok v1 x.f1) : k31.M w base ok x [.int .i64 x.f0, v1] := ⟨[.int .i64 x.f0], [v1], rfl, rfl, ⟨v1, rfl, g1⟩⟩
def rd_T31 (xs : List S31) (i : Int) : S31 := xs.getD i.toNat z31
structure S52 where
 f0 : Int
 f1 : Int
 f2 : (List S37)
 f3 : S31
def z52 : S52 := ⟨(0 : Int), (0 : Int), ([] : List S37), z31⟩
def k52 : Kd S52 := Kd.iso (Kd.pair (Kd.int .i64) (Kd.pair (Kd.int .i64) (Kd.pair (Kd.slice 37 k37) k31))) (fun x : S52 => (x.f0, x.f1, x.f2, x.f3))
theorem k52_open {w : World} {x : S52} {cs : List Value} (h : k52.K w x cs) : ∃ A2 c2 A4 c4, cs = [.int .i64 x.f0, .int .i64 x.f1, .slice A2 x.f2.length c2, .int .i64 x.f3.f0, .slice A4 x.f3.f1.length c4] ∧ x.f2.length ≤ c2 ∧ k37.C w A2 x.f2.length x.f2 ∧ x.f3.f1.length ≤ c4 ∧ (Kd.int .i64).C w A4 x.f3.f1.length x.f3.f1 := by
 obtain ⟨_, _, rfl, rfl, ⟨_, _, rfl, rfl, ⟨_, _, rfl, ⟨A2, c2, rfl, l2, g2⟩, s3⟩⟩⟩ := h
 obtain ⟨A4, c4, rfl, l4, g4⟩ := k31_open s3
 exact ⟨A2, c2, A4, c4, rfl, l2, g2, l4, g4⟩
theorem k52_openM {w : World} {base : Nat} {ok : Nat → Prop} {x : S52} {cs : List Value} (h : k52.M w base ok x cs) : ∃ v2 v4, cs = [.int .i64 x.f0, .int .i64 x.f1, v2, .int .i64 x.f3.f0, v4] ∧ k37.R 37 w base ok v2 x.f2 ∧ (Kd.int .i64).R 3 w base ok v4 x.f3.f1 := by
 obtain ⟨_, _, rfl, rfl, ⟨_, _, rfl, rfl, ⟨_, _, rfl, ⟨v2, rfl, g2⟩, s3⟩⟩⟩ := h
 obtain ⟨v4, rfl, g4⟩ := k31_openM s3
 exact ⟨v2, v4, rfl, g2, g4⟩
theorem k52_mkM (w : World) (base : Nat) (ok : Nat → Prop) (x : S52) {v2 : Value} (g2 : k37.R 37 w base ok v2 x.f2) {v4 : Value} (g4 : (Kd.int .i64).R 3 w base ok v4 x.f3.f1) : k52.M w base ok x [.int .i64 x.f0, .int .i64 x.f1, v2, .int .i64 x.f3.f0, v4] := ⟨[.int .i64 x.f0], [.int .i64 x.f1, v2, .int .i64 x.f3.f0, v4], rfl, rfl, ⟨[.int .i64 x.f1], [v2, .int .i64 x.f3.f0, v4], rfl, rfl, ⟨[v2], [.int .i64 x.f3.f0, v4], rfl, ⟨v2, rfl, g2⟩, (k31_mkM w base ok x.f3 g4)⟩⟩⟩
def rd_T52 (xs : List S52) (i : Int) : S52 := xs.getD i.toNat z52
theorem at_T52 {w : World} {A : Option Addr} {n : Nat} {xs : List S52} (h : Kd.C k52 w A n xs) (i : Int) (h0 : 0 ≤ i) (h1 : i < n) : ∃ ad A2 c2 A4 c4, A = some ad ∧ w.cell? (ad.add (i.toNat * 5)) = some (.int .i64 (rd_T52 xs i).f0) ∧ w.cell? ⟨(ad.add (i.toNat * 5)).block, (ad.add (i.toNat * 5)).off + 1, none⟩ = some (.int .i64 (rd_T52 xs i).f1) ∧ w.cell? ⟨(ad.add (i.toNat * 5)).block, (ad.add (i.toNat * 5)).off + 2, none⟩ = some (.slice A2 (rd_T52 xs i).f2.length c2) ∧ w.cell? ⟨(ad.add (i.toNat * 5)).block, (ad.add (i.toNat * 5)).off + 3, none⟩ = some (.int .i64 (rd_T52 xs i).f3.f0) ∧ w.cell? ⟨(ad.add (i.toNat * 5)).block, (ad.add (i.toNat * 5)).off + 4, none⟩ = some (.slice A4 (rd_T52 xs i).f3.f1.length c4) ∧ (rd_T52 xs i).f2.length ≤ c2 ∧ k37.C w A2 (rd_T52 xs i).f2.length (rd_T52 xs i).f2 ∧ (rd_T52 xs i).f3.f1.length ≤ c4 ∧ (Kd.int .i64).C w A4 (rd_T52 xs i).f3.f1.length (rd_T52 xs i).f3.f1 := by
 obtain ⟨ad, c, e, _, hK, hc0⟩ := Kd.C_get h z52 i h0 h1
 have hc : ∀ j u, c[j]? = some u → w.cell? (ad.add (i.toNat * 5 + j)) = some u := hc0
 obtain ⟨A2, c2, A4, c4, rfl, l2, g2, l4, g4⟩ := k52_open hK
 exact ⟨ad, A2, c2, A4, c4, e, hc 0 _ rfl, by rw [← add_field _ _ 1 (by omega)]; exact hc 1 _ rfl, by rw [← add_field _ _ 2 (by omega)]; exact hc 2 _ rfl, by rw [← add_field _ _ 3 (by omega)]; exact hc 3 _ rfl, by rw [← add_field _ _ 4 (by omega)]; exact hc 4 _ rfl, l2, g2, l4, g4⟩
theorem ab_T52 {w w' : World} {B : Nat} {A : Option Addr} {n : Nat} {xs : List S52} (x : Aside0 (Below B w w')) (h : Aside0 (Kd.C k52 w A n xs)) (i : Int) (h0 : 0 ≤ i := by exact od_) (h1 : i < n := by exact od_) (e : B = w.heap.size := by rfl) : ∃ ad A2 c2 A4 c4, ((0 ≤ i) = True) ∧ ((i < n) = True) ∧ A = some ad ∧ w'.cell? (ad.add (i.toNat * 5)) = some (.int .i64 (rd_T52 xs i).f0) ∧ w'.cell? ⟨(ad.add (i.toNat * 5)).block, (ad.add (i.toNat * 5)).off + 1, none⟩ = some (.int .i64 (rd_T52 xs i).f1) ∧ w'.cell? ⟨(ad.add (i.toNat * 5)).block, (ad.add (i.toNat * 5)).off + 2, none⟩ = some (.slice A2 (rd_T52 xs i).f2.length c2) ∧ w'.cell? ⟨(ad.add (i.toNat * 5)).block, (ad.add (i.toNat * 5)).off + 3, none⟩ = some (.int .i64 (rd_T52 xs i).f3.f0) ∧ w'.cell? ⟨(ad.add (i.toNat * 5)).block, (ad.add (i.toNat * 5)).off + 4, none⟩ = some (.slice A4 (rd_T52 xs i).f3.f1.length c4) ∧ Aside0 ((rd_T52 xs i).f2.length ≤ c2) ∧ Aside0 (k37.C w A2 (rd_T52 xs i).f2.length (rd_T52 xs i).f2) ∧ Aside0 ((rd_T52 xs i).f3.f1.length ≤ c4) ∧ Aside0 ((Kd.int .i64).C w A4 (rd_T52 xs i).f3.f1.length (rd_T52 xs i).f3.f1) := by
 obtain ⟨ad, A2, c2, A4, c4, c0_, c1_, c2_, c3_, c4_, c5_, c6_, c7_, c8_, c9_⟩ := at_T52 h.out i h0 h1
 exact ⟨ad, A2, c2, A4, c4, eq_true h0, eq_true h1, c0_, hx_ x c1_ e, hx_ x c2_ e, hx_ x c3_ e, hx_ x c4_ e, hx_ x c5_ e, ⟨c6_⟩, ⟨c7_⟩, ⟨c8_⟩, ⟨c9_⟩⟩
structure S39 where
 f0 : Int
 f1 : Int
 f2 : Int
def z39 : S39 := ⟨(0 : Int), (0 : Int), (0 : Int)⟩
def k39 : Kd S39 := Kd.iso (Kd.pair (Kd.int .i64) (Kd.pair (Kd.int .i64) (Kd.int .i64))) (fun x : S39 => (x.f0, x.f1, x.f2))
theorem k39_open {w : World} {x : S39} {cs : List Value} (h : k39.K w x cs) : cs = [.int .i64 x.f0, .int .i64 x.f1, .int .i64 x.f2] := by
 obtain ⟨_, _, rfl, rfl, ⟨_, _, rfl, rfl, rfl⟩⟩ := h
 exact rfl
theorem k39_openM {w : World} {base : Nat} {ok : Nat → Prop} {x : S39} {cs : List Value} (h : k39.M w base ok x cs) : cs = [.int .i64 x.f0, .int .i64 x.f1, .int .i64 x.f2] := by
 obtain ⟨_, _, rfl, rfl, ⟨_, _, rfl, rfl, rfl⟩⟩ := h
 exact rfl
theorem k39_mkM (w : World) (base : Nat) (ok : Nat → Prop) (x : S39)  : k39.M w base ok x [.int .i64 x.f0, .int .i64 x.f1, .int .i64 x.f2] := ⟨[.int .i64 x.f0], [.int .i64 x.f1, .int .i64 x.f2], rfl, rfl, ⟨[.int .i64 x.f1], [.int .i64 x.f2], rfl, rfl, rfl⟩⟩
def rd_T39 (xs : List S39) (i : Int) : S39 := xs.getD i.toNat z39
theorem at_T39 {w : World} {A : Option Addr} {n : Nat} {xs : List S39} (h : Kd.C k39 w A n xs) (i : Int) (h0 : 0 ≤ i) (h1 : i < n) : ∃ ad , A = some ad ∧ w.cell? (ad.add (i.toNat * 3)) = some (.int .i64 (rd_T39 xs i).f0) ∧ w.cell? ⟨(ad.add (i.toNat * 3)).block, (ad.add (i.toNat * 3)).off + 1, none⟩ = some (.int .i64 (rd_T39 xs i).f1) ∧ w.cell? ⟨(ad.add (i.toNat * 3)).block, (ad.add (i.toNat * 3)).off + 2, none⟩ = some (.int .i64 (rd_T39 xs i).f2) := by
 obtain ⟨ad, c, e, _, hK, hc0⟩ := Kd.C_get h z39 i h0 h1
 have hc : ∀ j u, c[j]? = some u → w.cell? (ad.add (i.toNat * 3 + j)) = some u := hc0
 obtain rfl := k39_open hK
 exact ⟨ad, e, hc 0 _ rfl, by rw [← add_field _ _ 1 (by omega)]; exact hc 1 _ rfl, by rw [← add_field _ _ 2 (by omega)]; exact hc 2 _ rfl⟩
theorem ab_T39 {w w' : World} {B : Nat} {A : Option Addr} {n : Nat} {xs : List S39} (x : Aside0 (Below B w w')) (h : Aside0 (Kd.C k39 w A n xs)) (i : Int) (h0 : 0 ≤ i := by exact od_) (h1 : i < n := by exact od_) (e : B = w.heap.size := by rfl) : ∃ ad , ((0 ≤ i) = True) ∧ ((i < n) = True) ∧ A = some ad ∧ w'.cell? (ad.add (i.toNat * 3)) = some (.int .i64 (rd_T39 xs i).f0) ∧ w'.cell? ⟨(ad.add (i.toNat * 3)).block, (ad.add (i.toNat * 3)).off + 1, none⟩ = some (.int .i64 (rd_T39 xs i).f1) ∧ w'.cell? ⟨(ad.add (i.toNat * 3)).block, (ad.add (i.toNat * 3)).off + 2, none⟩ = some (.int .i64 (rd_T39 xs i).f2) := by
 obtain ⟨ad, c0_, c1_, c2_, c3_⟩ := at_T39 h.out i h0 h1
 exact ⟨ad, eq_true h0, eq_true h1, c0_, hx_ x c1_ e, hx_ x c2_ e, hx_ x c3_ e⟩
def rd_L24 (xs : List (List S122)) (i : Int) : (List S122) := xs.getD i.toNat ([] : List S122)
def rd_L25 (xs : List (List S125)) (i : Int) : (List S125) := xs.getD i.toNat ([] : List S125)
def rd_L26 (xs : List (List S42)) (i : Int) : (List S42) := xs.getD i.toNat ([] : List S42)
structure S62 where
 f0 : (List S122)
 f1 : Int
 f2 : Bool
 f3 : (List S125)
 f4 : (List S42)
def z62 : S62 := ⟨([] : List S122), (0 : Int), false, ([] : List S125), ([] : List S42)⟩
def k62 : Kd S62 := Kd.iso (Kd.pair (Kd.slice 122 k122) (Kd.pair (Kd.int .i64) (Kd.pair Kd.bool (Kd.pair (Kd.slice 125 k125) (Kd.slice 42 k42))))) (fun x : S62 => (x.f0, x.f1, x.f2, x.f3, x.f4))
theorem k62_open {w : World} {x : S62} {cs : List Value} (h : k62.K w x cs) : ∃ A0 c0 A3 c3 A4 c4, cs = [.slice A0 x.f0.length c0, .int .i64 x.f1, .bool x.f2, .slice A3 x.f3.length c3, .slice A4 x.f4.length c4] ∧ x.f0.length ≤ c0 ∧ k122.C w A0 x.f0.length x.f0 ∧ x.f3.length ≤ c3 ∧ k125.C w A3 x.f3.length x.f3 ∧ x.f4.length ≤ c4 ∧ k42.C w A4 x.f4.length x.f4 := by
 obtain ⟨_, _, rfl, ⟨A0, c0, rfl, l0, g0⟩, ⟨_, _, rfl, rfl, ⟨_, _, rfl, rfl, ⟨_, _, rfl, ⟨A3, c3, rfl, l3, g3⟩, ⟨A4, c4, rfl, l4, g4⟩⟩⟩⟩⟩ := h
 exact ⟨A0, c0, A3, c3, A4, c4, rfl, l0, g0, l3, g3, l4, g4⟩
theorem k62_openM {w : World} {base : Nat} {ok : Nat → Prop} {x : S62} {cs : List Value} (h : k62.M w base ok x cs) : ∃ v0 v3 v4, cs = [v0, .int .i64 x.f1, .bool x.f2, v3, v4] ∧ k122.R 122 w base ok v0 x.f0 ∧ k125.R 125 w base ok v3 x.f3 ∧ k42.R 42 w base ok v4 x.f4 := by
 obtain ⟨_, _, rfl, ⟨v0, rfl, g0⟩, ⟨_, _, rfl, rfl, ⟨_, _, rfl, rfl, ⟨_, _, rfl, ⟨v3, rfl, g3⟩, ⟨v4, rfl, g4⟩⟩⟩⟩⟩ := h
 exact ⟨v0, v3, v4, rfl, g0, g3, g4⟩
theorem k62_mkM (w : World) (base : Nat) (ok : Nat → Prop) (x : S62) {v0 : Value} (g0 : k122.R 122 w base ok v0 x.f0) {v3 : Value} (g3 : k125.R 125 w base ok v3 x.f3) {v4 : Value} (g4 : k42.R 42 w base ok v4 x.f4) : k62.M w base ok x [v0, .int .i64 x.f1, .bool x.f2, v3, v4] := ⟨[v0], [.int .i64 x.f1, .bool x.f2, v3, v4], rfl, ⟨v0, rfl, g0⟩, ⟨[.int .i64 x.f1], [.bool x.f2, v3, v4], rfl, rfl, ⟨[.bool x.f2], [v3, v4], rfl, rfl, ⟨[v3], [v4], rfl, ⟨v3, rfl, g3⟩, ⟨v4, rfl, g4⟩⟩⟩⟩⟩
def rd_T62 (xs : List S62) (i : Int) : S62 := xs.getD i.toNat z62
theorem at_T62 {w : World} {A : Option Addr} {n : Nat} {xs : List S62} (h : Kd.C k62 w A n xs) (i : Int) (h0 : 0 ≤ i) (h1 : i < n) : ∃ ad A0 c0 A3 c3 A4 c4, A = some ad ∧ w.cell? (ad.add (i.toNat * 5)) = some (.slice A0 (rd_T62 xs i).f0.length c0) ∧ w.cell? ⟨(ad.add (i.toNat * 5)).block, (ad.add (i.toNat * 5)).off + 1, none⟩ = some (.int .i64 (rd_T62 xs i).f1) ∧ w.cell? ⟨(ad.add (i.toNat * 5)).block, (ad.add (i.toNat * 5)).off + 2, none⟩ = some (.bool (rd_T62 xs i).f2) ∧ w.cell? ⟨(ad.add (i.toNat * 5)).block, (ad.add (i.toNat * 5)).off + 3, none⟩ = some (.slice A3 (rd_T62 xs i).f3.length c3) ∧ w.cell? ⟨(ad.add (i.toNat * 5)).block, (ad.add (i.toNat * 5)).off + 4, none⟩ = some (.slice A4 (rd_T62 xs i).f4.length c4) ∧ (rd_T62 xs i).f0.length ≤ c0 ∧ k122.C w A0 (rd_T62 xs i).f0.length (rd_T62 xs i).f0 ∧ (rd_T62 xs i).f3.length ≤ c3 ∧ k125.C w A3 (rd_T62 xs i).f3.length (rd_T62 xs i).f3 ∧ (rd_T62 xs i).f4.length ≤ c4 ∧ k42.C w A4 (rd_T62 xs i).f4.length (rd_T62 xs i).f4 := by
 obtain ⟨ad, c, e, _, hK, hc0⟩ := Kd.C_get h z62 i h0 h1
 have hc : ∀ j u, c[j]? = some u → w.cell? (ad.add (i.toNat * 5 + j)) = some u := hc0
 obtain ⟨A0, c0, A3, c3, A4, c4, rfl, l0, g0, l3, g3, l4, g4⟩ := k62_open hK
 exact ⟨ad, A0, c0, A3, c3, A4, c4, e, hc 0 _ rfl, by rw [← add_field _ _ 1 (by omega)]; exact hc 1 _ rfl, by rw [← add_field _ _ 2 (by omega)]; exact hc 2 _ rfl, by rw [← add_field _ _ 3 (by omega)]; exact hc 3 _ rfl, by rw [← add_field _ _ 4 (by omega)]; exact hc 4 _ rfl, l0, g0, l3, g3, l4, g4⟩
theorem ab_T62 {w w' : World} {B : Nat} {A : Option Addr} {n : Nat} {xs : List S62} (x : Aside0 (Below B w w')) (h : Aside0 (Kd.C k62 w A n xs)) (i : Int) (h0 : 0 ≤ i := by exact od_) (h1 : i < n := by exact od_) (e : B = w.heap.size := by rfl) : ∃ ad A0 c0 A3 c3 A4 c4, ((0 ≤ i) = True) ∧ ((i < n) = True) ∧ A = some ad ∧ w'.cell? (ad.add (i.toNat * 5)) = some (.slice A0 (rd_T62 xs i).f0.length c0) ∧ w'.cell? ⟨(ad.add (i.toNat * 5)).block, (ad.add (i.toNat * 5)).off + 1, none⟩ = some (.int .i64 (rd_T62 xs i).f1) ∧ w'.cell? ⟨(ad.add (i.toNat * 5)).block, (ad.add (i.toNat * 5)).off + 2, none⟩ = some (.bool (rd_T62 xs i).f2) ∧ w'.cell? ⟨(ad.add (i.toNat * 5)).block, (ad.add (i.toNat * 5)).off + 3, none⟩ = some (.slice A3 (rd_T62 xs i).f3.length c3) ∧ w'.cell? ⟨(ad.add (i.toNat * 5)).block, (ad.add (i.toNat * 5)).off + 4, none⟩ = some (.slice A4 (rd_T62 xs i).f4.length c4) ∧ Aside0 ((rd_T62 xs i).f0.length ≤ c0) ∧ Aside0 (k122.C w A0 (rd_T62 xs i).f0.length (rd_T62 xs i).f0) ∧ Aside0 ((rd_T62 xs i).f3.length ≤ c3) ∧ Aside0 (k125.C w A3 (rd_T62 xs i).f3.length (rd_T62 xs i).f3) ∧ Aside0 ((rd_T62 xs i).f4.length ≤ c4) ∧ Aside0 (k42.C w A4 (rd_T62 xs i).f4.length (rd_T62 xs i).f4) := by
 obtain ⟨ad, A0, c0, A3, c3, A4, c4, c0_, c1_, c2_, c3_, c4_, c5_, c6_, c7_, c8_, c9_, c10_, c11_⟩ := at_T62 h.out i h0 h1
 exact ⟨ad, A0, c0, A3, c3, A4, c4, eq_true h0, eq_true h1, c0_, hx_ x c1_ e, hx_ x c2_ e, hx_ x c3_ e, hx_ x c4_ e, hx_ x c5_ e, ⟨c6_⟩, ⟨c7_⟩, ⟨c8_⟩, ⟨c9_⟩, ⟨c10_⟩, ⟨c11_⟩⟩
structure S147 where
 f0 : Int
 f1 : S122
 f2 : Int
 f3 : Int
 f4 : Int
 f5 : S31
def z147 : S147 := ⟨(0 : Int), z122, (0 : Int), (0 : Int), (0 : Int), z31⟩
def k147 : Kd S147 := Kd.iso (Kd.pair (Kd.int .i64) (Kd.pair k122 (Kd.pair (Kd.int .i64) (Kd.pair (Kd.int .i64) (Kd.pair (Kd.int .i64) k31))))) (fun x : S147 => (x.f0, x.f1, x.f2, x.f3, x.f4, x.f5))
theorem k147_open {w : World} {x : S147} {cs : List Value} (h : k147.K w x cs) : ∃ A8 c8, cs = [.int .i64 x.f0, .int .i64 x.f1.f0, .int .i64 x.f1.f1, .int .i64 x.f1.f2, .int .i64 x.f2, .int .i64 x.f3, .int .i64 x.f4, .int .i64 x.f5.f0, .slice A8 x.f5.f1.length c8] ∧ x.f5.f1.length ≤ c8 ∧ (Kd.int .i64).C w A8 x.f5.f1.length x.f5.f1 := by
 obtain ⟨_, _, rfl, rfl, ⟨_, _, rfl, s1, ⟨_, _, rfl, rfl, ⟨_, _, rfl, rfl, ⟨_, _, rfl, rfl, s7⟩⟩⟩⟩⟩ := h
 obtain rfl := k122_open s1
 obtain ⟨A8, c8, rfl, l8, g8⟩ := k31_open s7
 exact ⟨A8, c8, rfl, l8, g8⟩
theorem k147_openM {w : World} {base : Nat} {ok : Nat → Prop} {x : S147} {cs : List Value} (h : k147.M w base ok x cs) : ∃ v8, cs = [.int .i64 x.f0, .int .i64 x.f1.f0, .int .i64 x.f1.f1, .int .i64 x.f1.f2, .int .i64 x.f2, .int .i64 x.f3, .int .i64 x.f4, .int .i64 x.f5.f0, v8] ∧ (Kd.int .i64).R 3 w base ok v8 x.f5.f1 := by
 obtain ⟨_, _, rfl, rfl, ⟨_, _, rfl, s1, ⟨_, _, rfl, rfl, ⟨_, _, rfl, rfl, ⟨_, _, rfl, rfl, s7⟩⟩⟩⟩⟩ := h
 obtain rfl := k122_openM s1
 obtain ⟨v8, rfl, g8⟩ := k31_openM s7
 exact ⟨v8, rfl, g8⟩
theorem k147_mkM (w : World) (base : Nat) (ok : Nat → Prop) (x : S147) {v8 : Value} (g8 : (Kd.int .i64).R 3 w base ok v8 x.f5.f1) : k147.M w base ok x [.int .i64 x.f0, .int .i64 x.f1.f0, .int .i64 x.f1.f1, .int .i64 x.f1.f2, .int .i64 x.f2, .int .i64 x.f3, .int .i64 x.f4, .int .i64 x.f5.f0, v8] := ⟨[.int .i64 x.f0], [.int .i64 x.f1.f0, .int .i64 x.f1.f1, .int .i64 x.f1.f2, .int .i64 x.f2, .int .i64 x.f3, .int .i64 x.f4, .int .i64 x.f5.f0, v8], rfl, rfl, ⟨[.int .i64 x.f1.f0, .int .i64 x.f1.f1, .int .i64 x.f1.f2], [.int .i64 x.f2, .int .i64 x.f3, .int .i64 x.f4, .int .i64 x.f5.f0, v8], rfl, (k122_mkM w base ok x.f1 ), ⟨[.int .i64 x.f2], [.int .i64 x.f3, .int .i64 x.f4, .int .i64 x.f5.f0, v8], rfl, rfl, ⟨[.int .i64 x.f3], [.int .i64 x.f4, .int .i64 x.f5.f0, v8], rfl, rfl, ⟨[.int .i64 x.f4], [.int .i64 x.f5.f0, v8], rfl, rfl, (k31_mkM w base ok x.f5 g8)⟩⟩⟩⟩⟩
def rd_T147 (xs : List S147) (i : Int) : S147 := xs.getD i.toNat z147
theorem at_T147 {w : World} {A : Option Addr} {n : Nat} {xs : List S147} (h : Kd.C k147 w A n xs) (i : Int) (h0 : 0 ≤ i) (h1 : i < n) : ∃ ad A8 c8, A = some ad ∧ w.cell? (ad.add (i.toNat * 9)) = some (.int .i64 (rd_T147 xs i).f0) ∧ w.cell? ⟨(ad.add (i.toNat * 9)).block, (ad.add (i.toNat * 9)).off + 1, none⟩ = some (.int .i64 (rd_T147 xs i).f1.f0) ∧ w.cell? ⟨(ad.add (i.toNat * 9)).block, (ad.add (i.toNat * 9)).off + 2, none⟩ = some (.int .i64 (rd_T147 xs i).f1.f1) ∧ w.cell? ⟨(ad.add (i.toNat * 9)).block, (ad.add (i.toNat * 9)).off + 3, none⟩ = some (.int .i64 (rd_T147 xs i).f1.f2) ∧ w.cell? ⟨(ad.add (i.toNat * 9)).block, (ad.add (i.toNat * 9)).off + 4, none⟩ = some (.int .i64 (rd_T147 xs i).f2) ∧ w.cell? ⟨(ad.add (i.toNat * 9)).block, (ad.add (i.toNat * 9)).off + 5, none⟩ = some (.int .i64 (rd_T147 xs i).f3) ∧ w.cell? ⟨(ad.add (i.toNat * 9)).block, (ad.add (i.toNat * 9)).off + 6, none⟩ = some (.int .i64 (rd_T147 xs i).f4) ∧ w.cell? ⟨(ad.add (i.toNat * 9)).block, (ad.add (i.toNat * 9)).off + 7, none⟩ = some (.int .i64 (rd_T147 xs i).f5.f0) ∧ w.cell? ⟨(ad.add (i.toNat * 9)).block, (ad.add (i.toNat * 9)).off + 8, none⟩ = some (.slice A8 (rd_T147 xs i).f5.f1.length c8) ∧ (rd_T147 xs i).f5.f1.length ≤ c8 ∧ (Kd.int .i64).C w A8 (rd_T147 xs i).f5.f1.length (rd_T147 xs i).f5.f1 := by
 obtain ⟨ad, c, e, _, hK, hc0⟩ := Kd.C_get h z147 i h0 h1
 have hc : ∀ j u, c[j]? = some u → w.cell? (ad.add (i.toNat * 9 + j)) = some u := hc0
 obtain ⟨A8, c8, rfl, l8, g8⟩ := k147_open hK
 exact ⟨ad, A8, c8, e, hc 0 _ rfl, by rw [← add_field _ _ 1 (by omega)]; exact hc 1 _ rfl, by rw [← add_field _ _ 2 (by omega)]; exact hc 2 _ rfl, by rw [← add_field _ _ 3 (by omega)]; exact hc 3 _ rfl, by rw [← add_field _ _ 4 (by omega)]; exact hc 4 _ rfl, by rw [← add_field _ _ 5 (by omega)]; exact hc 5 _ rfl, by rw [← add_field _ _ 6 (by omega)]; exact hc 6 _ rfl, by rw [← add_field _ _ 7 (by omega)]; exact hc 7 _ rfl, by rw [← add_field _ _ 8 (by omega)]; exact hc 8 _ rfl, l8, g8⟩
theorem ab_T147 {w w' : World} {B : Nat} {A : Option Addr} {n : Nat} {xs : List S147} (x : Aside0 (Below B w w')) (h : Aside0 (Kd.C k147 w A n xs)) (i : Int) (h0 : 0 ≤ i := by exact od_) (h1 : i < n := by exact od_) (e : B = w.heap.size := by rfl) : ∃ ad A8 c8, ((0 ≤ i) = True) ∧ ((i < n) = True) ∧ A = some ad ∧ w'.cell? (ad.add (i.toNat * 9)) = some (.int .i64 (rd_T147 xs i).f0) ∧ w'.cell? ⟨(ad.add (i.toNat * 9)).block, (ad.add (i.toNat * 9)).off + 1, none⟩ = some (.int .i64 (rd_T147 xs i).f1.f0) ∧ w'.cell? ⟨(ad.add (i.toNat * 9)).block, (ad.add (i.toNat * 9)).off + 2, none⟩ = some (.int .i64 (rd_T147 xs i).f1.f1) ∧ w'.cell? ⟨(ad.add (i.toNat * 9)).block, (ad.add (i.toNat * 9)).off + 3, none⟩ = some (.int .i64 (rd_T147 xs i).f1.f2) ∧ w'.cell? ⟨(ad.add (i.toNat * 9)).block, (ad.add (i.toNat * 9)).off + 4, none⟩ = some (.int .i64 (rd_T147 xs i).f2) ∧ w'.cell? ⟨(ad.add (i.toNat * 9)).block, (ad.add (i.toNat * 9)).off + 5, none⟩ = some (.int .i64 (rd_T147 xs i).f3) ∧ w'.cell? ⟨(ad.add (i.toNat * 9)).block, (ad.add (i.toNat * 9)).off + 6, none⟩ = some (.int .i64 (rd_T147 xs i).f4) ∧ w'.cell? ⟨(ad.add (i.toNat * 9)).block, (ad.add (i.toNat * 9)).off + 7, none⟩ = some (.int .i64 (rd_T147 xs i).f5.f0) ∧ w'.cell? ⟨(ad.add (i.toNat * 9)).block, (ad.add (i.toNat * 9)).off + 8, none⟩ = some (.slice A8 (rd_T147 xs i).f5.f1.length c8) ∧ Aside0 ((rd_T147 xs i).f5.f1.length ≤ c8) ∧ Aside0 ((Kd.int .i64).C w A8 (rd_T147 xs i).f5.f1.length (rd_T147 xs i).f5.f1) := by
 obtain ⟨ad, A8, c8, c0_, c1_, c2_, c3_, c4_, c5_, c6_, c7_, c8_, c9_, c10_, c11_⟩ := at_T147 h.out i h0 h1
 exact ⟨ad, A8, c8, eq_true h0, eq_true h1, c0_, hx_ x c1_ e, hx_ x c2_ e, hx_ x c3_ e, hx_ x c4_ e, hx_ x c5_ e, hx_ x c6_ e, hx_ x c7_ e, hx_ x c8_ e, hx_ x c9_ e, ⟨c10_⟩, ⟨c11_⟩⟩
/-- A call of a function that a variable holds. -/
theorem goesV_ {P : Program} {ops : Array Oper} {Q : Exit → Act → World → Prop} {rest : List Oper} {oi : Oper} {a : Act} {w : World} {c : Operand} (N : Option Tmp) (hd : oi.dst = N) (hg : oi.guard = none) {f : FuncId} {fn : Func} {xs : Array Operand} {ts : Array TypeId} (hf : P.funcs[f]? = some fn) (hname : (fn.name == "runtime.NumGoroutine") = false) (hb : fn.body.isSome = true) (args : Array Value)
  (hop : oi.op = .call { callee := .value c, args := xs, argTypes := ts }) (hc : a.eval c = .func (.func f) #[] #[]) (hargs : xs.map a.eval = args)
  (h : Calls P f args w fun e w' => ∃ v, e = .returned v ∧ wpList P ops Q rest (a.put N v) w') : wpList P ops Q (oi :: rest) a w := by
 refine wpList_plain hg fun K hK => ?_
 have he := enters_ hf hname hb args w
 have hrun : (execOp a.eval oi).run P w = .ok (.enter f args) w := by
  unfold execOp
  simp [hop, resolve, Deferred.ofValue, invoke, hc, hargs, he]
 unfold Oper.wp
 rw [hrun, Oper.upon_enter]
 refine h.mono fun e w'' hh => ?_
 obtain ⟨v, rfl, hk⟩ := hh
 subst hd
 exact hK _ _ hk
/-- A call of a function that a variable holds, with what it captured. -/
theorem goesW_ {P : Program} {ops : Array Oper} {Q : Exit → Act → World → Prop} {rest : List Oper} {oi : Oper} {a : Act} {w : World} {c : Operand} (N : Option Tmp) (hd : oi.dst = N) (hg : oi.guard = none) {f : FuncId} {fn : Func} {xs : Array Operand} {ts : Array TypeId} (hf : P.funcs[f]? = some fn) (hname : (fn.name == "runtime.NumGoroutine") = false) (hb : fn.body.isSome = true) (fr args : Array Value)
  (hop : oi.op = .call { callee := .value c, args := xs, argTypes := ts }) (hc : a.eval c = .func (.func f) #[] fr) (hargs : xs.map a.eval ++ fr = args)
  (h : Calls P f args w fun e w' => ∃ v, e = .returned v ∧ wpList P ops Q rest (a.put N v) w') : wpList P ops Q (oi :: rest) a w := by
 refine wpList_plain hg fun K hK => ?_
 have he := enters_ hf hname hb args w
 have hrun : (execOp a.eval oi).run P w = .ok (.enter f args) w := by
  unfold execOp
  simp [hop, resolve, Deferred.ofValue, invoke, hc, hargs, he]
 unfold Oper.wp
 rw [hrun, Oper.upon_enter]
 refine h.mono fun e w'' hh => ?_
 obtain ⟨v, rfl, hk⟩ := hh
 subst hd
 exact hK _ _ hk
end Go.Proofs.YtdcinhpdpoodfaaGreat.PFnExactFinished
