/- The pure statement behind the law FnAllowed: over plain values, for every argument, the law's Lean function answers true. No condition beyond the law's own. -/
import Derived.Test.YtmkhghbalnadlaaPFnAllowedx19
import Derived.Laws.Strings
namespace Go.Proofs.Ytmkhghbalnadlaa.Pure
set_option linter.unusedVariables false
set_option linter.unusedSimpArgs false
open Go.RowKit Go.Proofs.Ytmkhghbalnadlaa.PFnAllowed Go.Proofs.YtmkhghbalnadlaaW.PrintWords Go.Proofs.YtmkhghbalnadlaaW.PrintLast

theorem Ev_at {α : Type} {g : Nat → Option α} {r : α} (n : Nat) (h : ∀ k, g (k + n) = some r) : Ev g r := ⟨n, fun k hk => by
  obtain ⟨m, rfl⟩ : ∃ m, k = m + n := ⟨k - n, by omega⟩
  exact h m⟩
theorem Ev_down {α : Type} {L : Nat → Nat → Option α} {r : α} (n : Nat) (hn : Ev (L n) r) (hs : ∀ i, i < n → Ev (L (i + 1)) r → Ev (L i) r) : ∀ i, i ≤ n → Ev (L i) r := by
  have key : ∀ d i, i + d = n → Ev (L i) r := by
    intro d
    induction d with
    | zero => intro i h; obtain rfl : i = n := by omega
              exact hn
    | succ d ih => intro i h; exact hs i (by omega) (ih (i + 1) (by omega))
  exact fun i h => key (n - i) i (by omega)
theorem wrap_up (i : Nat) (h : i < 9223372036854775807) : wrap64 ((i : Int) + 1) = ((i + 1 : Nat) : Int) := by unfold wrap64; omega
theorem set_fill {α β : Type} (l : List α) (i : Nat) (hi : i < l.length) (z : β) (f : α → β) (v : β) (hv : v = f (l[i]'hi)) :
    ((l.take i).map f ++ List.replicate (l.length - i) z).set (i : Int).toNat v = (l.take (i + 1)).map f ++ List.replicate (l.length - (i + 1)) z := by
  subst hv
  have h1 : ((l.take i).map f).length = i := by simp; omega
  rw [Int.toNat_natCast, List.set_append, if_neg (by omega), h1, Nat.sub_self]
  obtain ⟨m, hm⟩ : ∃ m, l.length - i = m + 1 := ⟨l.length - i - 1, by omega⟩
  rw [hm, List.replicate_succ, List.set_cons_zero, show l.length - (i + 1) = m by omega, List.take_succ_eq_append_getElem hi, List.map_append, List.append_assoc]
  rfl
theorem set_fill_id {α : Type} (l : List α) (i : Nat) (hi : i < l.length) (z : α) (v : α) (hv : v = l[i]'hi) :
    (l.take i ++ List.replicate (l.length - i) z).set (i : Int).toNat v = l.take (i + 1) ++ List.replicate (l.length - (i + 1)) z := by
  have := set_fill l i hi z id v hv
  simpa using this
theorem Ev_downR {α : Type} {L : Nat → Nat → Option α} {R : Nat → α} (n : Nat) (hn : Ev (L n) (R n)) (hs : ∀ i, i < n → Ev (L (i + 1)) (R (i + 1)) → Ev (L i) (R i)) : ∀ i, i ≤ n → Ev (L i) (R i) := by
  have key : ∀ d i, i + d = n → Ev (L i) (R i) := by
    intro d
    induction d with
    | zero => intro i h; obtain rfl : i = n := by omega
              exact hn
    | succ d ih => intro i h; exact hs i (by omega) (ih (i + 1) (by omega))
  exact fun i h => key (n - i) i (by omega)
theorem rd_at (l : List Int) (i : Nat) (hi : i < l.length) : rd l (i : Int) = l[i] := by simp [rd, List.getD_eq_getElem?_getD, hi]
theorem mark_fill {α : Type} (g : Nat → α) (l : List α) (i : Nat) (hi : i < l.length) : ((List.range i).map g ++ l.drop i).set i (g i) = (List.range (i + 1)).map g ++ l.drop (i + 1) := by
  rw [List.set_append, if_neg (by simp), List.length_map, List.length_range, Nat.sub_self, List.drop_eq_getElem_cons hi, List.set_cons_zero, List.range_succ, List.map_append, List.append_assoc]
  rfl
theorem Ev_pos {α : Type} {x : Int} {g : Nat → Option α} {r : α} (h : 0 ≤ x) : Ev (fun k => if x < 0 then none else g k) r = Ev g r := by
  have h' : ¬ x < 0 := by omega
  simp only [if_neg h']
def inR (x lo hi : Int) : Bool := decide (lo ≤ x) && decide (x ≤ hi)
def keyOk (k : Int) : Bool := inR k 0 3
def valOk (v : Int) : Bool := inR v 1 6
def isClass (c : Int) : Bool := inR c 0 2
def classOf (v : Int) : Int := if valOk v then Int.tmod v 3 else -1
theorem spec_l1In_eq (x lo hi : Int) : spec_l1In.f x lo hi = some (inR x lo hi) := by
  unfold spec_l1In.f inR
  by_cases h : lo ≤ x <;> simp [h]
theorem impl_from_eq (x lo hi : Int) : impl_from.f x lo hi = some (inR x lo hi) := by
  unfold impl_from.f inR
  by_cases h : lo ≤ x <;> simp [h]
theorem spec_KeyOk_eq (x : Int) : spec_KeyOk.f x = some (keyOk x) := by simp [spec_KeyOk.f, spec_l1In_eq, keyOk]
theorem impl_KeyOk_eq (x : Int) : impl_KeyOk.f x = some (keyOk x) := by simp [impl_KeyOk.f, impl_from_eq, keyOk]
theorem spec_ValOk_eq (x : Int) : spec_ValOk.f x = some (valOk x) := by simp [spec_ValOk.f, spec_l1In_eq, valOk]
theorem impl_ValOk_eq (x : Int) : impl_ValOk.f x = some (valOk x) := by simp [impl_ValOk.f, impl_from_eq, valOk]
def opOk (o k v : Int) : Bool :=
  if o = 1 ∨ o = 2 then keyOk k && valOk v
  else if o = 3 ∨ o = 4 then keyOk k && v == 0
  else if o = 5 ∨ o = 10 then k == 0 && valOk v
  else if o = 6 then isClass k && v == 0
  else if o = 7 ∨ o = 8 ∨ o = 9 then k == 0 && v == 0
  else false
theorem impl_isClass_eq (x : Int) : impl_isClass.f x = some (isClass x) := by simp [impl_isClass.f, impl_from_eq, isClass]
theorem spec_l4Key_eq (x : Int) : spec_l4Key.f x = some (inR x 1 4) := by simp [spec_l4Key.f, spec_l1In_eq]
theorem op_cases (o : Int) : o = 1 ∨ o = 2 ∨ o = 3 ∨ o = 4 ∨ o = 5 ∨ o = 6 ∨ o = 7 ∨ o = 8 ∨ o = 9 ∨ o = 10 ∨ (o < 1 ∨ 10 < o) := by omega
theorem spec_l4Val_eq (o : Int) : spec_l4Val.f o = some (o == 1 || o == 2 || o == 5 || o == 10) := by
  unfold spec_l4Val.f
  by_cases h1 : o = 1 <;> by_cases h2 : o = 2 <;> by_cases h3 : o = 5 <;> simp [h1, h2, h3]
theorem bsel (a b : Bool) (x : Bool) : (if a = true then (if b = true then some x else some false) else some false) = some (a && b && x) := by cases a <;> cases b <;> rfl
theorem bsel2 (a : Bool) (x : Bool) : (if a = true then some x else some false) = some (a && x) := by cases a <;> rfl
theorem spec_OpOk_eq (o k v : Int) (n : Nat) : spec_OpOk.f (n + 2) o k v = some (opOk o k v) := by
  simp only [spec_OpOk.f, spec_OpOk.j0, spec_OpOk.j1, spec_l1In_eq, spec_l4Key_eq, spec_KeyOk_eq, spec_ValOk_eq, spec_l4Val_eq, Option.bind_some, bsel2, opOk, isClass]
  rcases op_cases o with h | h | h | h | h | h | h | h | h | h | h
  case inr.inr.inr.inr.inr.inr.inr.inr.inr.inr =>
    have e : inR o 1 10 = false := by simp [inR]; omega
    rw [e, if_neg (by simp), if_neg (by omega), if_neg (by omega), if_neg (by omega), if_neg (by omega), if_neg (by omega)]
  all_goals
    subst h
    simp [inR]
theorem impl_OpOk_eq (o k v : Int) (n : Nat) : impl_OpOk.f (n + 3) o k v = some (opOk o k v) := by
  simp only [impl_OpOk.f, impl_OpOk.j0, impl_OpOk.j1, impl_OpOk.j2, impl_from_eq, impl_KeyOk_eq, impl_ValOk_eq, impl_isClass_eq, Option.bind_some, bsel2, opOk]
  rcases op_cases o with h | h | h | h | h | h | h | h | h | h | h
  case inr.inr.inr.inr.inr.inr.inr.inr.inr.inr =>
    have e1 : o ≠ 1 := by omega
    have e2 : o ≠ 2 := by omega
    have e3 : o ≠ 3 := by omega
    have e4 : o ≠ 4 := by omega
    have e5 : o ≠ 5 := by omega
    have e6 : o ≠ 6 := by omega
    have e7 : o ≠ 7 := by omega
    have e8 : o ≠ 8 := by omega
    have e9 : o ≠ 9 := by omega
    have e10 : o ≠ 10 := by omega
    simp [e1, e2, e3, e4, e5, e6, e7, e8, e9, e10]
  all_goals
    subst h
    by_cases h3 : k = 0 <;> simp [h3]
def idxF (v : Int) : List Int → Int → Int
  | [], _ => -1
  | x :: xs, i => if x = v then i else idxF v xs (i + 1)
theorem idxF_new (v : Int) (rest : List Int) : ∀ (pre : List Int) (j : Int), v ∉ pre → idxF v (pre ++ v :: rest) j = j + pre.length
  | [], j, _ => by simp [idxF]
  | x :: xs, j, h => by
    have h1 : x ≠ v := fun e => h (by simp [e])
    have h2 : v ∉ xs := fun e => h (by simp [e])
    simp only [List.cons_append, idxF, if_neg h1, idxF_new v rest xs (j + 1) h2, List.length_cons]
    omega
theorem idxF_old (v : Int) (rest : List Int) : ∀ (pre : List Int) (j : Int), v ∈ pre → j ≤ idxF v (pre ++ rest) j ∧ idxF v (pre ++ rest) j < j + pre.length
  | [], j, h => by simp at h
  | x :: xs, j, h => by
    by_cases h1 : x = v
    · simp only [List.cons_append, idxF, if_pos h1, List.length_cons]; omega
    · have h2 : v ∈ xs := by simpa [Ne.symm h1] using h
      have := idxF_old v rest xs (j + 1) h2
      simp only [List.cons_append, idxF, if_neg h1, List.length_cons]; omega
theorem idxF_none (v : Int) : ∀ (l : List Int) (j : Int), v ∉ l → idxF v l j = -1
  | [], j, _ => rfl
  | x :: xs, j, h => by
    have h1 : x ≠ v := fun e => h (by simp [e])
    have h2 : v ∉ xs := fun e => h (by simp [e])
    simp only [idxF, if_neg h1, idxF_none v xs (j + 1) h2]
theorem idxF_mem (v : Int) (l : List Int) : decide (idxF v l 0 ≥ 0) = decide (v ∈ l) := by
  by_cases h : v ∈ l
  · have := idxF_old v [] l 0 h
    simp only [List.append_nil] at this
    simp [h, this.1]
  · rw [idxF_none v l 0 h]; simp [h]
theorem spec_KeyOf_ev (l : List Int) (st v : Int) (hl : l.length ≤ 1048576) : Ev (fun k => spec_KeyOf.f k l st v) (idxF v l 0) := by
  have key : ∀ i, i ≤ l.length → Ev (fun k => spec_KeyOf.l0 k v (i : Int) l st) (idxF v (l.drop i) i) := by
    refine Ev_downR (L := fun i k => spec_KeyOf.l0 k v (i : Int) l st) (R := fun i => idxF v (l.drop i) i) l.length ?_ ?_
    · refine Ev_at 1 (fun k => ?_)
      simp only [spec_KeyOf.l0]
      rw [if_neg (by omega)]
      simp [idxF]
    · intro i hi ih
      refine Ev.step (f := fun k => if l[i] = v then some (i : Int) else spec_KeyOf.l0 k v ((i + 1 : Nat) : Int) l st) (fun k => ?_) ?_
      · simp only [spec_KeyOf.l0]
        rw [if_pos (by omega), if_pos (by omega), rd_at l i hi, wrap_up i (by omega)]
      · rw [List.drop_eq_getElem_cons hi]
        by_cases h : l[i] = v
        · simp only [if_pos h, idxF]; exact Ev.now _
        · simp only [if_neg h, idxF]; exact ih
  exact key 0 (Nat.zero_le _)
theorem slices_Index_ev (l : List Int) (v : Int) (hl : l.length ≤ 1048576) : Ev (fun k => slices_Index_int_int.f k l v) (idxF v l 0) := by
  have key : ∀ i, i ≤ l.length → Ev (fun k => slices_Index_int_int.l0 k l v (l.length : Int) (i : Int)) (idxF v (l.drop i) i) := by
    refine Ev_downR (L := fun i k => slices_Index_int_int.l0 k l v (l.length : Int) (i : Int)) (R := fun i => idxF v (l.drop i) i) l.length ?_ ?_
    · refine Ev_at 1 (fun k => ?_)
      simp only [slices_Index_int_int.l0]
      rw [if_neg (by omega)]
      simp [idxF]
    · intro i hi ih
      refine Ev.step (f := fun k => if l[i] = v then some (i : Int) else slices_Index_int_int.l0 k l v (l.length : Int) ((i + 1 : Nat) : Int)) (fun k => ?_) ?_
      · simp only [slices_Index_int_int.l0]
        rw [if_pos (by omega), if_pos (by omega), if_pos (by omega), rd_at l i hi, wrap_up i (by omega)]
        by_cases h : l[i] = v
        · rw [if_pos h, if_pos h.symm]
        · rw [if_neg h, if_neg (Ne.symm h)]
      · rw [List.drop_eq_getElem_cons hi]
        by_cases h : l[i] = v
        · simp only [if_pos h, idxF]; exact Ev.now _
        · simp only [if_neg h, idxF]; exact ih
  exact key 0 (Nat.zero_le _)
theorem impl_KeyOf_ev (l : List Int) (st v : Int) (hl : l.length ≤ 1048576) : Ev (fun k => impl_KeyOf.f k l st v) (idxF v l 0) := by
  unfold impl_KeyOf.f
  exact Ev.bind (slices_Index_ev l v hl) (Ev.now _)
theorem slices_Contains_ev (l : List Int) (v : Int) (hl : l.length ≤ 1048576) : Ev (fun k => slices_Contains_int_int.f k l v) (decide (v ∈ l)) := by
  unfold slices_Contains_int_int.f
  refine Ev.bind (slices_Index_ev l v hl) ?_
  rw [← idxF_mem]
  exact Ev.now _
def heldOk : List Int → List Int → Bool
  | _, [] => true
  | pre, v :: vs => (v == 0 || (valOk v && !decide (v ∈ pre))) && heldOk (pre ++ [v]) vs
def rowsOk (l : List Int) (s : Int) : Bool := heldOk [] l && (decide ((l.length : Int) = 4) && inR s 0 5)
theorem idx_here (l : List Int) (i : Nat) (hi : i < l.length) : decide (idxF l[i] l 0 = (i : Int)) = !decide (l[i] ∈ l.take i) := by
  have hs : l = l.take i ++ l[i] :: l.drop (i + 1) := by rw [← List.drop_eq_getElem_cons hi, List.take_append_drop]
  have hlen : (l.take i).length = i := by simp; omega
  by_cases h : l[i] ∈ l.take i
  · have := idxF_old l[i] (l[i] :: l.drop (i + 1)) (l.take i) 0 h
    rw [← hs, hlen] at this
    simp [h]; omega
  · have := idxF_new l[i] (l.drop (i + 1)) (l.take i) 0 h
    rw [← hs, hlen] at this
    simp [h, this]
theorem heldOk_at (l : List Int) (i : Nat) (hi : i < l.length) : heldOk (l.take i) (l.drop i) = ((l[i] == 0 || (valOk l[i] && !decide (l[i] ∈ l.take i))) && heldOk (l.take (i + 1)) (l.drop (i + 1))) := by
  rw [List.drop_eq_getElem_cons hi, List.take_succ_eq_append_getElem hi]; rfl
theorem spec_RowsOk_ev (l : List Int) (st : Int) (hl : l.length ≤ 1048576) : Ev (fun k => spec_RowsOk.f k l st) (rowsOk l st) := by
  have key : ∀ i, i ≤ l.length → Ev (fun k => spec_RowsOk.l0 k (i : Int) l st) (heldOk (l.take i) (l.drop i) && (decide ((l.length : Int) = 4) && inR st 0 5)) := by
    refine Ev_downR (L := fun i k => spec_RowsOk.l0 k (i : Int) l st) (R := fun i => heldOk (l.take i) (l.drop i) && (decide ((l.length : Int) = 4) && inR st 0 5)) l.length ?_ ?_
    · refine Ev_at 1 (fun k => ?_)
      simp only [spec_RowsOk.l0, spec_l1In_eq, Option.bind_some]
      rw [if_neg (by omega)]
      by_cases h : (l.length : Int) = 4 <;> simp [h, heldOk]
    · intro i hi ih
      refine Ev.step (f := fun k => if l[i] = 0 then spec_RowsOk.l0 k ((i + 1 : Nat) : Int) l st else (if valOk l[i] = true then (spec_KeyOf.f k l st l[i]).bind fun t => (if t = (i : Int) then spec_RowsOk.l0 k ((i + 1 : Nat) : Int) l st else some false) else some false)) (fun k => ?_) ?_
      · simp only [spec_RowsOk.l0, spec_ValOk_eq, Option.bind_some]
        rw [if_pos (by omega), if_pos (by omega), rd_at l i hi, wrap_up i (by omega)]
      · rw [heldOk_at l i hi]
        by_cases h : l[i] = 0
        · have e : (l[i] == 0 || (valOk l[i] && !decide (l[i] ∈ l.take i))) = true := by simp [h]
          simp only [if_pos h, e, Bool.true_and]; exact ih
        · simp only [if_neg h]
          cases hv : valOk l[i]
          · have e : (l[i] == 0 || (false && !decide (l[i] ∈ l.take i))) = false := by simp [h]
            rw [e]
            simp only [Bool.false_and, Bool.false_eq_true, if_false]; exact Ev.now _
          · simp only [if_true]
            refine Ev.bind (spec_KeyOf_ev l st l[i] hl) ?_
            have := idx_here l i hi
            by_cases h2 : l[i] ∈ l.take i
            · rw [decide_eq_true h2] at this
              have h3 : ¬ idxF l[i] l 0 = (i : Int) := by simpa using this
              have e : (l[i] == 0 || (true && !decide (l[i] ∈ l.take i))) = false := by simp [h, h2]
              rw [e]
              simp only [if_neg h3, Bool.false_and]; exact Ev.now _
            · rw [decide_eq_false h2] at this
              have h3 : idxF l[i] l 0 = (i : Int) := by simpa using this
              have e : (l[i] == 0 || (true && !decide (l[i] ∈ l.take i))) = true := by simp [h, h2]
              rw [e]
              simp only [if_pos h3, Bool.true_and]; exact ih
  have := key 0 (Nat.zero_le _)
  simpa [spec_RowsOk.f, rowsOk] using this
theorem impl_RowsOk_ev (l : List Int) (st : Int) (hl : l.length ≤ 1048576) : Ev (fun k => impl_RowsOk.f k l st) (rowsOk l st) := by
  have key : ∀ i, i ≤ l.length → Ev (fun k => impl_RowsOk.l0 k l (l.length : Int) (i : Int) l st) (heldOk (l.take i) (l.drop i) && (decide ((l.length : Int) = 4) && inR st 0 5)) := by
    refine Ev_downR (L := fun i k => impl_RowsOk.l0 k l (l.length : Int) (i : Int) l st) (R := fun i => heldOk (l.take i) (l.drop i) && (decide ((l.length : Int) = 4) && inR st 0 5)) l.length ?_ ?_
    · refine Ev_at 1 (fun k => ?_)
      simp only [impl_RowsOk.l0, impl_from_eq, Option.bind_some]
      rw [if_neg (by omega)]
      by_cases h : (l.length : Int) = 4 <;> simp [h, heldOk]
    · intro i hi ih
      refine Ev.step (f := fun k => if l[i] = 0 then impl_RowsOk.l0 k l (l.length : Int) ((i + 1 : Nat) : Int) l st else (if valOk l[i] = true then (slices_Contains_int_int.f k (l.take i) l[i]).bind fun t => (if t = true then some false else impl_RowsOk.l0 k l (l.length : Int) ((i + 1 : Nat) : Int) l st) else some false)) (fun k => ?_) ?_
      · simp only [impl_RowsOk.l0, impl_ValOk_eq, Option.bind_some]
        rw [if_pos (by omega), if_pos (by omega), if_pos (by omega), rd_at l i hi, wrap_up i (by omega), if_pos (show (i : Int) ≤ (l.length : Int) by omega), Int.toNat_natCast]
      · rw [heldOk_at l i hi]
        by_cases h : l[i] = 0
        · have e : (l[i] == 0 || (valOk l[i] && !decide (l[i] ∈ l.take i))) = true := by simp [h]
          simp only [if_pos h, e, Bool.true_and]; exact ih
        · simp only [if_neg h]
          cases hv : valOk l[i]
          · have e : (l[i] == 0 || (false && !decide (l[i] ∈ l.take i))) = false := by simp [h]
            rw [e]
            simp only [Bool.false_and, Bool.false_eq_true, if_false]; exact Ev.now _
          · simp only [if_true]
            refine Ev.bind (slices_Contains_ev (l.take i) l[i] (Nat.le_trans (List.length_take_le' _ _) hl)) ?_
            by_cases h2 : l[i] ∈ l.take i
            · have e : (l[i] == 0 || (true && !decide (l[i] ∈ l.take i))) = false := by simp [h, h2]
              rw [e]
              simp only [decide_eq_true h2, if_true, Bool.false_and]; exact Ev.now _
            · have e : (l[i] == 0 || (true && !decide (l[i] ∈ l.take i))) = true := by simp [h, h2]
              rw [e]
              simp only [decide_eq_false h2, Bool.false_eq_true, if_false, Bool.true_and]; exact ih
  have := key 0 (Nat.zero_le _)
  simpa [impl_RowsOk.f, rowsOk] using this
theorem spec_ClassOf_eq (v : Int) : spec_ClassOf.f v = some (classOf v) := by
  simp only [spec_ClassOf.f, spec_ValOk_eq, Option.bind_some, classOf]
  split <;> rfl
theorem impl_ClassOf_eq (v : Int) : impl_ClassOf.f v = some (classOf v) := by
  simp only [impl_ClassOf.f, impl_ValOk_eq, Option.bind_some, classOf]
  split <;> rfl
def cnt (c : Int) (l : List Int) : Nat := (l.filter (fun v => valOk v && classOf v == c)).length
theorem cnt_take (c : Int) (l : List Int) (i : Nat) (hi : i < l.length) : cnt c (l.take (i + 1)) = cnt c (l.take i) + if valOk l[i] && classOf l[i] == c then 1 else 0 := by
  unfold cnt
  rw [List.take_succ_eq_append_getElem hi, List.filter_append, List.length_append]
  cases h : valOk l[i] && classOf l[i] == c <;> simp [h]
theorem cnt_le (c : Int) (l : List Int) : cnt c l ≤ l.length := List.length_filter_le _ _
theorem spec_HowMany_ev (l : List Int) (st c : Int) (hl : l.length ≤ 1048576) : Ev (fun k => spec_HowMany.f k l st c) (cnt c l : Int) := by
  have key : ∀ i, i ≤ l.length → Ev (fun k => spec_HowMany.l0 k c (cnt c (l.take i) : Int) (i : Int) l st) (cnt c l : Int) := by
    refine Ev_down (L := fun i k => spec_HowMany.l0 k c (cnt c (l.take i) : Int) (i : Int) l st) l.length ?_ ?_
    · refine Ev_at 1 (fun k => ?_)
      simp only [spec_HowMany.l0]
      rw [if_neg (by omega)]
      simp
    · intro i hi ih
      have hc := cnt_le c (l.take i)
      have hc2 : (l.take i).length ≤ i := List.length_take_le _ _
      have w0 : wrap64 (cnt c (l.take i) : Int) = (cnt c (l.take i) : Int) := by unfold wrap64; omega
      have w1 : wrap64 ((cnt c (l.take i) : Int) + 1) = (cnt c (l.take i) : Int) + 1 := by unfold wrap64; omega
      refine Ev.step (f := fun k => spec_HowMany.l0 k c (cnt c (l.take (i + 1)) : Int) ((i + 1 : Nat) : Int) l st) (fun k => ?_) ih
      simp only [spec_HowMany.l0]
      rw [if_pos (by omega), if_pos (by omega), wrap_up i (by omega), rd_at l i hi, cnt_take c l i hi]
      simp only [spec_ValOk_eq, spec_ClassOf_eq, spec_l1Bit.f, Option.bind_some]
      cases h1 : valOk l[i]
      · simp [w0]
      · by_cases h2 : classOf l[i] = c <;> simp [h2, w0, w1]
  exact key 0 (Nat.zero_le _)
theorem impl_HowMany_ev (l : List Int) (st c : Int) (hl : l.length ≤ 1048576) : Ev (fun k => impl_HowMany.f k l st c) (cnt c l : Int) := by
  have key : ∀ i, i ≤ l.length → Ev (fun k => impl_HowMany.l0 k c (cnt c (l.take i) : Int) l (l.length : Int) (i : Int)) (cnt c l : Int) := by
    refine Ev_down (L := fun i k => impl_HowMany.l0 k c (cnt c (l.take i) : Int) l (l.length : Int) (i : Int)) l.length ?_ ?_
    · refine Ev_at 1 (fun k => ?_)
      simp only [impl_HowMany.l0]
      rw [if_neg (by omega)]
      simp
    · intro i hi ih
      have hc := cnt_le c (l.take i)
      have hc2 : (l.take i).length ≤ i := List.length_take_le _ _
      have w1 : wrap64 ((cnt c (l.take i) : Int) + 1) = (cnt c (l.take i) : Int) + 1 := by unfold wrap64; omega
      refine Ev.step (f := fun k => impl_HowMany.l0 k c (cnt c (l.take (i + 1)) : Int) l (l.length : Int) ((i + 1 : Nat) : Int)) (fun k => ?_) ih
      simp only [impl_HowMany.l0]
      rw [if_pos (by omega), if_pos (by omega), if_pos (by omega), wrap_up i (by omega), rd_at l i hi, cnt_take c l i hi]
      simp only [impl_ValOk_eq, impl_ClassOf_eq, Option.bind_some]
      cases h1 : valOk l[i]
      · simp
      · by_cases h2 : classOf l[i] = c <;> simp [h2, w1]
  exact key 0 (Nat.zero_le _)
def zipEq : List Int → List Int → Bool
  | [], [] => true
  | x :: xs, y :: ys => x == y && zipEq xs ys
  | _, _ => false
theorem zipEq_len : ∀ (a b : List Int), a.length ≠ b.length → zipEq a b = false
  | [], [], h => absurd rfl h
  | x :: xs, [], _ => rfl
  | [], y :: ys, _ => rfl
  | x :: xs, y :: ys, h => by simp [zipEq, zipEq_len xs ys (by simpa using h)]
theorem zipEq_self : ∀ (a : List Int), zipEq a a = true
  | [] => rfl
  | x :: xs => by simp [zipEq, zipEq_self xs]
theorem zipEq_eq : ∀ (a b : List Int), zipEq a b = decide (a = b)
  | [], [] => rfl
  | x :: xs, [] => rfl
  | [], y :: ys => rfl
  | x :: xs, y :: ys => by
    by_cases h : x = y <;> simp [zipEq, zipEq_eq xs ys, h]
theorem spec_l4Ints_ev (a b : List Int) (ha : a.length ≤ 1048576) (hb : b.length ≤ 1048576) : Ev (fun k => spec_l4Ints.f k a b) (zipEq a b) := by
  have key : ∀ i, i ≤ a.length → (i ≤ b.length → Ev (fun k => spec_l4Ints.l0 k a b (i : Int)) (zipEq (a.drop i) (b.drop i))) := by
    have step : ∀ d i, i + d = a.length → i ≤ b.length → Ev (fun k => spec_l4Ints.l0 k a b (i : Int)) (zipEq (a.drop i) (b.drop i)) := by
      intro d
      induction d with
      | zero =>
        intro i hi hib
        obtain rfl : i = a.length := by omega
        refine Ev_at 2 (fun k => ?_)
        simp only [spec_l4Ints.l0]
        rw [if_neg (by omega)]
        simp only [spec_l4Ints.j1]
        rw [if_neg (by simp), List.drop_length]
        congr 1
        by_cases h : a.length = b.length
        · rw [h, List.drop_length]; simp [zipEq]
        · rw [zipEq_len _ _ (by simp; omega)]; simp; omega
      | succ d ih =>
        intro i hi hib
        have hia : i < a.length := by omega
        by_cases h : i < b.length
        · refine Ev.step (f := fun k => spec_l4Ints.j1 k a b (i : Int) true) (fun k => ?_) ?_
          · simp only [spec_l4Ints.l0]
            rw [if_pos (by omega), decide_eq_true (by omega)]
          · refine Ev.step (f := fun k => if a[i] = b[i] then spec_l4Ints.l0 k a b ((i + 1 : Nat) : Int) else some false) (fun k => ?_) ?_
            · simp only [spec_l4Ints.j1]
              rw [if_pos trivial, if_pos (by omega), if_pos (by omega), if_pos (by omega), rd_at a i hia, rd_at b i h, wrap_up i (by omega)]
            · rw [List.drop_eq_getElem_cons hia, List.drop_eq_getElem_cons h]
              by_cases e : a[i] = b[i]
              · simp only [if_pos e, zipEq]
                rw [e, beq_self_eq_true, Bool.true_and]
                exact ih (i + 1) (by omega) (by omega)
              · simp only [if_neg e, zipEq, beq_eq_false_iff_ne.mpr e, Bool.false_and]
                exact Ev.now _
        · obtain rfl : i = b.length := by omega
          refine Ev_at 2 (fun k => ?_)
          simp only [spec_l4Ints.l0]
          rw [if_pos (by omega), decide_eq_false (by omega)]
          simp only [spec_l4Ints.j1]
          rw [if_neg (by simp), zipEq_len _ _ (by simp; omega)]
          congr 1
          simp; omega
    intro i hi hib
    exact step (a.length - i) i (by omega) hib
  exact key 0 (Nat.zero_le _) (Nat.zero_le _)
theorem slices_Equal_ev (a b : List Int) (ha : a.length ≤ 1048576) (hb : b.length ≤ 1048576) : Ev (fun k => slices_Equal_int_int.f k a b) (zipEq a b) := by
  unfold slices_Equal_int_int.f
  by_cases h : a.length = b.length
  · have key : ∀ i, i ≤ a.length → Ev (fun k => slices_Equal_int_int.l0 k a b (a.length : Int) (i : Int)) (zipEq (a.drop i) (b.drop i)) := by
      refine Ev_downR (L := fun i k => slices_Equal_int_int.l0 k a b (a.length : Int) (i : Int)) (R := fun i => zipEq (a.drop i) (b.drop i)) a.length ?_ ?_
      · refine Ev_at 1 (fun k => ?_)
        simp only [slices_Equal_int_int.l0]
        rw [if_neg (by omega), List.drop_length, h, List.drop_length]
        rfl
      · intro i hi ih
        have hib : i < b.length := by omega
        refine Ev.step (f := fun k => if a[i] = b[i] then slices_Equal_int_int.l0 k a b (a.length : Int) ((i + 1 : Nat) : Int) else some false) (fun k => ?_) ?_
        · simp only [slices_Equal_int_int.l0]
          rw [if_pos (by omega), if_pos (by omega), if_pos (by omega), if_pos (by omega), rd_at a i hi, rd_at b i hib, wrap_up i (by omega)]
        · rw [List.drop_eq_getElem_cons hi, List.drop_eq_getElem_cons hib]
          by_cases e : a[i] = b[i]
          · simp only [if_pos e, zipEq]
            rw [e, beq_self_eq_true, Bool.true_and]
            exact ih
          · simp only [if_neg e, zipEq, beq_eq_false_iff_ne.mpr e, Bool.false_and]
            exact Ev.now _
    have hc : (a.length : Int) = (b.length : Int) := by omega
    simp only [if_pos hc]
    exact key 0 (Nat.zero_le _)
  · have hc : ¬ (a.length : Int) = (b.length : Int) := by omega
    simp only [if_neg hc, zipEq_len a b h]
    exact Ev.now _
def resSame (c : Int) (l : List Int) (c' : Int) (l' : List Int) : Bool := decide (c = c') && zipEq l l'
theorem spec_ResSame_ev (c : Int) (l : List Int) (c' : Int) (l' : List Int) (ha : l.length ≤ 1048576) (hb : l'.length ≤ 1048576) : Ev (fun k => spec_ResSame.f k c l c' l') (resSame c l c' l') := by
  unfold spec_ResSame.f resSame
  by_cases h : c = c'
  · simp only [if_pos h, decide_eq_true h, Bool.true_and]
    exact Ev.bind (spec_l4Ints_ev l l' ha hb) (Ev.now _)
  · simp only [if_neg h, decide_eq_false h, Bool.false_and]
    exact Ev.now _
theorem impl_ResSame_ev (c : Int) (l : List Int) (c' : Int) (l' : List Int) (ha : l.length ≤ 1048576) (hb : l'.length ≤ 1048576) : Ev (fun k => impl_ResSame.f k c l c' l') (resSame c l c' l') := by
  unfold impl_ResSame.f resSame
  by_cases h : c = c'
  · simp only [if_pos h, decide_eq_true h, Bool.true_and]
    exact Ev.bind (slices_Equal_ev l l' ha hb) (Ev.now _)
  · simp only [if_neg h, decide_eq_false h, Bool.false_and]
    exact Ev.now _
theorem Ev_some {α : Type} {r r' : α} (h : r = r') : Ev (fun _ => some r) r' := h ▸ Ev.now _
def failsC (l : List Int) (st o k v code : Int) : Bool :=
  if code = 1 then (if o = 1 then rd l k != 0 else false)
  else if code = 2 then (if o = 1 ∨ o = 2 then decide (idxF v l 0 ≥ 0) else false)
  else if code = 3 then (if o = 2 ∨ o = 3 ∨ o = 4 then rd l k == 0 else if o = 5 then !decide (idxF v l 0 ≥ 0) else if o = 10 then (st == 5 && !decide (idxF v l 0 ≥ 0)) else false)
  else if code = 4 then (if o = 8 then st != 0 else if o = 9 then (st == 0 || st == 5) else if o = 10 then !(st == 5) else false)
  else false
def doneC (l : List Int) (st o k v : Int) : List Int × Bool :=
  if o = 1 then ([], rd l k == 0 && decide (idxF v l 0 < 0))
  else if o = 2 then ([], !(rd l k == 0) && (decide (idxF v l 0 < 0) || idxF v l 0 == k))
  else if o = 3 then ([], rd l k != 0)
  else if o = 4 then ([rd l k], rd l k != 0)
  else if o = 5 then ([idxF v l 0], decide (idxF v l 0 ≥ 0))
  else if o = 6 then ([(cnt k l : Int)], true)
  else if o = 7 then (l, true)
  else if o = 8 then ([], st == 0)
  else if o = 9 then ([], inR st 1 4)
  else ([idxF v l 0], st == 5 && decide (idxF v l 0 ≥ 0))
theorem spec_l4Fails_ev (l : List Int) (st o k v code : Int) (hl : l.length ≤ 1048576) (hk : o = 1 ∨ o = 2 ∨ o = 3 ∨ o = 4 → 0 ≤ k ∧ k < (l.length : Int)) : Ev (fun n => spec_l4Fails.f n l st o k v code) (failsC l st o k v code) := by
  unfold spec_l4Fails.f
  refine Ev.bind (spec_KeyOf_ev l st v hl) ?_
  generalize hq : idxF v l 0 = q
  by_cases c1 : code = 1
  · subst c1
    simp only [failsC, if_true]
    by_cases ho : o = 1
    · obtain ⟨k0, k1⟩ := hk (by omega)
      simp only [if_pos ho, if_pos k0, if_pos k1]; exact Ev.now _
    · simp only [if_neg ho]; exact Ev.now _
  by_cases c2 : code = 2
  · subst c2
    simp only [failsC, hq, if_neg (show ¬ (2 : Int) = 1 by decide), if_true]
    by_cases ho : o = 1
    · simp only [if_pos ho, ho, true_or, if_true]; exact Ev.now _
    · by_cases ho2 : o = 2
      · simp only [if_neg ho, if_pos ho2, ho2, or_true, if_true]; exact Ev.now _
      · have : ¬ (o = 1 ∨ o = 2) := by omega
        simp only [if_neg ho, if_neg ho2, if_neg this]; exact Ev.now _
  by_cases c3 : code = 3
  · subst c3
    have hj : ∀ b : Bool, Ev (fun n => spec_l4Fails.j0 n (decide (q ≥ 0)) (st == 5) o b l st o k v) (if b then (rd l k == 0) else if o = 5 then !decide (q ≥ 0) else if o = 10 then (st == 5 && !decide (q ≥ 0)) else false) ∨ (b = true ∧ ¬ (o = 1 ∨ o = 2 ∨ o = 3 ∨ o = 4)) := by
      intro b
      by_cases hb : b = true ∧ ¬ (o = 1 ∨ o = 2 ∨ o = 3 ∨ o = 4)
      · exact .inr hb
      · left
        refine Ev_at 1 (fun n => ?_)
        simp only [spec_l4Fails.j0]
        cases b
        · simp only [Bool.false_eq_true, if_false]
          by_cases h5 : o = 5
          · simp only [if_pos h5]
          · by_cases h10 : o = 10
            · simp only [if_neg h5, if_pos h10]
              cases (st == 5) <;> rfl
            · simp only [if_neg h5, if_neg h10]
        · have hko : o = 1 ∨ o = 2 ∨ o = 3 ∨ o = 4 := Classical.byContradiction fun h => hb ⟨rfl, h⟩
          obtain ⟨k0, k1⟩ := hk hko
          simp only [if_true, if_pos k0, if_pos k1]
    simp only [failsC, hq, if_neg (show ¬ (3 : Int) = 1 by decide), if_neg (show ¬ (3 : Int) = 2 by decide), if_true]
    by_cases h2 : o = 2
    · have := (hj (o == 2)).resolve_right (fun h => h.2 (by omega))
      simp only [if_pos h2, h2, true_or, if_true] at this ⊢
      simpa using this
    · by_cases h3 : o = 3
      · have := (hj (o == 3)).resolve_right (fun h => h.2 (by omega))
        subst h3
        simpa using this
      · by_cases h4 : o = 4
        · have := (hj (o == 4)).resolve_right (fun h => h.2 (by omega))
          subst h4
          simpa using this
        · have e : (o == 4) = false := by simpa using h4
          have := (hj (o == 4)).resolve_right (fun h => by rw [e] at h; simp at h)
          have hn : ¬ (o = 2 ∨ o = 3 ∨ o = 4) := by omega
          rw [e] at this
          simp only [if_neg h2, if_neg h3, if_neg hn, e]
          simpa using this
  by_cases c4 : code = 4
  · subst c4
    simp only [failsC, if_neg (show ¬ (4 : Int) = 1 by decide), if_neg (show ¬ (4 : Int) = 2 by decide), if_neg (show ¬ (4 : Int) = 3 by decide), if_true]
    by_cases h8 : o = 8
    · simp only [if_pos h8]; exact Ev.now _
    · by_cases h9 : o = 9
      · simp only [if_neg h8, if_pos h9]
        by_cases h0 : st = 0
        · simp only [if_pos h0]; exact Ev_some (by simp [h0])
        · simp only [if_neg h0]; exact Ev_some (by simp [h0])
      · by_cases h10 : o = 10
        · simp only [if_neg h8, if_neg h9, if_pos h10]; exact Ev.now _
        · simp only [if_neg h8, if_neg h9, if_neg h10]; exact Ev.now _
  · simp only [failsC, if_neg c1, if_neg c2, if_neg c3, if_neg c4]; exact Ev.now _
theorem impl_refusal_j2 (l : List Int) (st o k v : Int) (c : Int) (n : Nat) (hc : c = 4 ∨ True) (b : Bool) : impl_refusal.j2 (n + 1) c b l st o k v = some (if b then (st == 0 || st == 5) else if c = 4 then (if o = 10 then !(st == 5) else false) else false) := by
  simp only [impl_refusal.j2, impl_made.f, Option.bind_some]
  cases b
  · simp only [Bool.false_eq_true, if_false]
    by_cases h : c = 4
    · by_cases h10 : o = 10 <;> simp [h, h10]
    · simp [h]
  · by_cases h0 : st = 0 <;> simp [h0]
theorem impl_refusal_j1 (l : List Int) (st o k v : Int) (c : Int) (n : Nat) (b : Bool) : impl_refusal.j1 (n + 2) c b l st o k v = some (if b then (st != 0) else if c = 4 then (if o = 9 then (st == 0 || st == 5) else if o = 10 then !(st == 5) else false) else false) := by
  simp only [impl_refusal.j1]
  cases b
  · simp only [Bool.false_eq_true, if_false]
    by_cases h : c = 4
    · rw [if_pos h, if_pos h, impl_refusal_j2 l st o k v c n (.inr trivial)]
      by_cases h9 : o = 9 <;> simp [h, h9]
    · rw [if_neg h, if_neg h, impl_refusal_j2 l st o k v c n (.inr trivial)]
      simp [h]
  · simp
theorem impl_refusal_ev (l : List Int) (st o k v code : Int) (hl : l.length ≤ 1048576) (hk : o = 1 ∨ o = 2 ∨ o = 3 ∨ o = 4 → 0 ≤ k ∧ k < (l.length : Int)) : Ev (fun n => impl_refusal.f n l st o k v code) (failsC l st o k v code) := by
  unfold impl_refusal.f
  refine Ev.bind (impl_KeyOf_ev l st v hl) ?_
  generalize hq : idxF v l 0 = q
  by_cases c1 : code = 1
  · subst c1
    simp only [failsC, if_true]
    by_cases ho : o = 1
    · obtain ⟨k0, k1⟩ := hk (by omega)
      simp only [if_pos ho, if_pos k0, if_pos k1]; exact Ev.now _
    · simp only [if_neg ho]; exact Ev.now _
  by_cases c2 : code = 2
  · subst c2
    simp only [failsC, hq, if_neg (show ¬ (2 : Int) = 1 by decide), if_true]
    by_cases ho : o = 1
    · simp only [if_pos ho, ho, true_or, if_true]; exact Ev.now _
    · by_cases ho2 : o = 2
      · simp only [if_neg ho, if_pos ho2, ho2, or_true, if_true]; exact Ev.now _
      · have : ¬ (o = 1 ∨ o = 2) := by omega
        simp only [if_neg ho, if_neg ho2, if_neg this]; exact Ev.now _
  have hneg : decide (q ≥ 0) = !decide (q < 0) := by by_cases h : q < 0 <;> simp [h] <;> omega
  by_cases c3 : code = 3
  · subst c3
    have hj : ∀ b : Bool, (b = true → o = 1 ∨ o = 2 ∨ o = 3 ∨ o = 4) → Ev (fun n => impl_refusal.j0 n 3 q b l st o k v) (if b then (rd l k == 0) else if o = 5 then !decide (q ≥ 0) else if o = 10 then (st == 5 && !decide (q ≥ 0)) else false) := by
      intro b hb
      refine Ev_at 1 (fun n => ?_)
      simp only [impl_refusal.j0, impl_made.f, Option.bind_some]
      cases b
      · rw [hneg]
        by_cases h0 : q < 0 <;> by_cases h5 : o = 5 <;> by_cases h10 : o = 10 <;> simp [h0, h5, h10]
      · obtain ⟨k0, k1⟩ := hk (hb rfl)
        simp only [if_true, if_pos k0, if_pos k1]
    simp only [failsC, hq, if_neg (show ¬ (3 : Int) = 1 by decide), if_neg (show ¬ (3 : Int) = 2 by decide), if_true]
    by_cases h2 : o = 2
    · have := hj true (fun _ => by omega)
      simp only [if_pos h2, h2, true_or, if_true] at this ⊢
      exact this
    · by_cases h3 : o = 3
      · have := hj true (fun _ => by omega)
        subst h3
        simpa using this
      · by_cases h4 : o = 4
        · have := hj true (fun _ => by omega)
          subst h4
          simpa using this
        · have e : (o == 4) = false := by simpa using h4
          have := hj false (fun h => by cases h)
          have hn : ¬ (o = 2 ∨ o = 3 ∨ o = 4) := by omega
          simp only [if_neg h2, if_neg h3, if_neg hn, e]
          simpa using this
  · have hj : Ev (fun n => impl_refusal.j0 n code q false l st o k v) (failsC l st o k v code) := by
      refine Ev_at 3 (fun n => ?_)
      simp only [impl_refusal.j0, Bool.false_eq_true, if_false, if_neg c3]
      by_cases c4 : code = 4
      · rw [if_pos c4, impl_refusal_j1 l st o k v code n]
        simp only [failsC, if_neg c1, if_neg c2, if_neg c3, if_pos c4]
        by_cases h8 : o = 8 <;> simp [h8]
      · rw [if_neg c4, impl_refusal_j1 l st o k v code n]
        simp [failsC, c1, c2, c3, c4]
    simp only [if_neg c1, if_neg c2, if_neg c3]
    exact hj
theorem spec_l4Done_ev (l : List Int) (st o k v : Int) (hl : l.length ≤ 1048576) (hk : o = 1 ∨ o = 2 ∨ o = 3 ∨ o = 4 → 0 ≤ k ∧ k < (l.length : Int)) : Ev (fun n => spec_l4Done.f n l st o k v) (doneC l st o k v) := by
  unfold spec_l4Done.f doneC
  simp only [Option.bind_some]
  refine Ev.bind (spec_KeyOf_ev l st v hl) ?_
  generalize idxF v l 0 = q
  by_cases h1 : o = 1
  · obtain ⟨k0, k1⟩ := hk (by omega)
    simp only [if_pos h1, if_pos k0, if_pos k1]
    by_cases hz : rd l k = 0
    · simp only [if_pos hz]; exact Ev_some (by simp [hz])
    · simp only [if_neg hz]; exact Ev_some (by simp [hz])
  by_cases h2 : o = 2
  · obtain ⟨k0, k1⟩ := hk (by omega)
    simp only [if_neg h1, if_pos h2, if_pos k0, if_pos k1]
    by_cases hz : rd l k = 0
    · simp only [if_pos hz]; exact Ev_some (by simp [hz])
    · simp only [if_neg hz]
      by_cases hq : q < 0
      · simp only [if_pos hq]; exact Ev_some (by simp [hz, hq])
      · simp only [if_neg hq]; exact Ev_some (by simp [hz, hq])
  by_cases h3 : o = 3
  · obtain ⟨k0, k1⟩ := hk (by omega)
    simp only [if_neg h1, if_neg h2, if_pos h3, if_pos k0, if_pos k1]; exact Ev.now _
  by_cases h4 : o = 4
  · obtain ⟨k0, k1⟩ := hk (by omega)
    simp only [if_neg h1, if_neg h2, if_neg h3, if_pos h4, if_pos k0, if_pos k1]; exact Ev.now _
  by_cases h5 : o = 5
  · simp only [if_neg h1, if_neg h2, if_neg h3, if_neg h4, if_pos h5]; exact Ev.now _
  by_cases h6 : o = 6
  · simp only [if_neg h1, if_neg h2, if_neg h3, if_neg h4, if_neg h5, if_pos h6]
    exact Ev.bind (spec_HowMany_ev l st k hl) (Ev.now _)
  by_cases h7 : o = 7
  · have hb : ([] : List Int).length + l.length < 17592186044416 := by simp; omega
    simp only [if_neg h1, if_neg h2, if_neg h3, if_neg h4, if_neg h5, if_neg h6, if_pos h7, if_pos hb, List.nil_append]; exact Ev.now _
  by_cases h8 : o = 8
  · simp only [if_neg h1, if_neg h2, if_neg h3, if_neg h4, if_neg h5, if_neg h6, if_neg h7, if_pos h8]; exact Ev.now _
  by_cases h9 : o = 9
  · simp only [if_neg h1, if_neg h2, if_neg h3, if_neg h4, if_neg h5, if_neg h6, if_neg h7, if_neg h8, if_pos h9, spec_l1In_eq, Option.bind_some]; exact Ev.now _
  simp only [if_neg h1, if_neg h2, if_neg h3, if_neg h4, if_neg h5, if_neg h6, if_neg h7, if_neg h8, if_neg h9]
  by_cases hs : st = 5
  · simp only [if_pos hs]; exact Ev_some (by simp [hs])
  · simp only [if_neg hs]; exact Ev_some (by simp [hs])
theorem impl_success_ev (l : List Int) (st o k v : Int) (hl : l.length ≤ 1048576) (hs5 : 0 ≤ st ∧ st ≤ 5) (hk : o = 1 ∨ o = 2 ∨ o = 3 ∨ o = 4 → 0 ≤ k ∧ k < (l.length : Int)) : Ev (fun n => impl_success.f n l st o k v) (doneC l st o k v) := by
  unfold impl_success.f doneC
  simp only [Option.bind_some]
  refine Ev.bind (impl_KeyOf_ev l st v hl) ?_
  generalize idxF v l 0 = q
  by_cases h1 : o = 1
  · obtain ⟨k0, k1⟩ := hk (by omega)
    simp only [if_pos h1, if_pos k0, if_pos k1]
    by_cases hz : rd l k = 0
    · simp only [if_pos hz]; exact Ev_some (by simp [hz])
    · simp only [if_neg hz]; exact Ev_some (by simp [hz])
  by_cases h2 : o = 2
  · obtain ⟨k0, k1⟩ := hk (by omega)
    simp only [if_neg h1, if_pos h2, if_pos k0, if_pos k1]
    by_cases hz : rd l k = 0
    · simp only [if_pos hz]; exact Ev_some (by simp [hz])
    · simp only [if_neg hz]
      by_cases hq : q < 0
      · simp only [if_pos hq]; exact Ev_some (by simp [hz, hq])
      · simp only [if_neg hq]; exact Ev_some (by simp [hz, hq])
  by_cases h3 : o = 3
  · obtain ⟨k0, k1⟩ := hk (by omega)
    simp only [if_neg h1, if_neg h2, if_pos h3, if_pos k0, if_pos k1]; exact Ev.now _
  by_cases h4 : o = 4
  · obtain ⟨k0, k1⟩ := hk (by omega)
    simp only [if_neg h1, if_neg h2, if_neg h3, if_pos h4, if_pos k0, if_pos k1]; exact Ev.now _
  by_cases h5 : o = 5
  · simp only [if_neg h1, if_neg h2, if_neg h3, if_neg h4, if_pos h5]; exact Ev.now _
  by_cases h6 : o = 6
  · simp only [if_neg h1, if_neg h2, if_neg h3, if_neg h4, if_neg h5, if_pos h6]
    exact Ev.bind (impl_HowMany_ev l st k hl) (Ev.now _)
  by_cases h7 : o = 7
  · simp only [if_neg h1, if_neg h2, if_neg h3, if_neg h4, if_neg h5, if_neg h6, if_pos h7]; exact Ev.now _
  by_cases h8 : o = 8
  · simp only [if_neg h1, if_neg h2, if_neg h3, if_neg h4, if_neg h5, if_neg h6, if_neg h7, if_pos h8]; exact Ev.now _
  by_cases h9 : o = 9
  · simp only [if_neg h1, if_neg h2, if_neg h3, if_neg h4, if_neg h5, if_neg h6, if_neg h7, if_neg h8, if_pos h9, impl_made.f, Option.bind_some]
    by_cases h0 : st = 0
    · simp only [if_pos h0]; exact Ev_some (by simp [h0, inR])
    · simp only [if_neg h0]
      refine Ev_some ?_
      have : inR st 1 4 = !(st == 5) := by
        by_cases h5 : st = 5
        · simp [h5, inR]
        · have a1 : 1 ≤ st := by omega
          have a2 : st ≤ 4 := by omega
          simp [inR, a1, a2, h5]
      rw [this]
  simp only [if_neg h1, if_neg h2, if_neg h3, if_neg h4, if_neg h5, if_neg h6, if_neg h7, if_neg h8, if_neg h9, impl_made.f, Option.bind_some]
  by_cases hq : q ≥ 0
  · simp only [if_pos hq]; exact Ev_some (by simp [hq])
  · simp only [if_neg hq]; exact Ev_some (by simp [hq])
def allowedC (l : List Int) (st o k v code : Int) (rl : List Int) : Bool :=
  rowsOk l st && (opOk o k v && (if code = 0 then (doneC l st o k v).2 && zipEq (doneC l st o k v).1 rl else decide (rl.length = 0) && failsC l st o k v code))
theorem doneC_len (l : List Int) (st o k v : Int) (hl : l.length ≤ 1048576) : (doneC l st o k v).1.length ≤ 1048576 := by
  unfold doneC
  repeat' split
  all_goals first | exact hl | simp
theorem opOk_key (o k v : Int) (h : opOk o k v = true) : o = 1 ∨ o = 2 ∨ o = 3 ∨ o = 4 → 0 ≤ k ∧ k < 4 := by
  intro ho
  unfold opOk at h
  have : keyOk k = true := by
    rcases ho with rfl | rfl | rfl | rfl <;> simp at h <;> exact h.1
  simp [keyOk, inR] at this
  omega
theorem rowsOk_len (l : List Int) (st : Int) (h : rowsOk l st = true) : l.length = 4 ∧ 0 ≤ st ∧ st ≤ 5 := by
  simp [rowsOk, inR] at h
  omega
theorem spec_Allowed_ev (l : List Int) (st o k v code : Int) (rl : List Int) (hl : l.length ≤ 1048576) (hr : rl.length ≤ 1048576) : Ev (fun n => spec_Allowed.f n l st o k v code rl) (allowedC l st o k v code rl) := by
  have hj : ∀ b : Bool, (b = false → rowsOk l st = true ∧ opOk o k v = true) → Ev (fun n => spec_Allowed.j0 n b l st o k v code rl) (!b && (if code = 0 then (doneC l st o k v).2 && zipEq (doneC l st o k v).1 rl else decide (rl.length = 0) && failsC l st o k v code)) := by
    intro b hb
    cases b
    · obtain ⟨h1, h2⟩ := hb rfl
      have hk : o = 1 ∨ o = 2 ∨ o = 3 ∨ o = 4 → 0 ≤ k ∧ k < (l.length : Int) := fun ho => by
        have := opOk_key o k v h2 ho
        have := (rowsOk_len l st h1).1
        omega
      refine Ev.step (f := fun n => if code = 0 then ((spec_l4Done.f n l st o k v).bind fun bt175 => (if bt175.2 = true then ((spec_l4Ints.f n bt175.1 rl).bind fun t179 => (some t179)) else (some false))) else (if (rl.length : Int) = 0 then ((spec_l4Fails.f n l st o k v code).bind fun t180 => (some t180)) else (some false))) (fun n => ?_) ?_
      · simp only [spec_Allowed.j0, Bool.false_eq_true, if_false]
      · by_cases c0 : code = 0
        · simp only [if_pos c0, Bool.not_false, Bool.true_and]
          refine Ev.bind (spec_l4Done_ev l st o k v hl hk) ?_
          cases hd : (doneC l st o k v).2
          · exact Ev.now _
          · simp only [if_true, Bool.true_and]
            exact Ev.bind (spec_l4Ints_ev _ rl (doneC_len l st o k v hl) hr) (Ev.now _)
        · simp only [if_neg c0, Bool.not_false, Bool.true_and]
          by_cases hz : rl.length = 0
          · have hz' : (rl.length : Int) = 0 := by omega
            simp only [if_pos hz', decide_eq_true hz, Bool.true_and]
            exact Ev.bind (spec_l4Fails_ev l st o k v code hl hk) (Ev.now _)
          · have hz' : ¬ (rl.length : Int) = 0 := by omega
            simp only [if_neg hz', decide_eq_false hz, Bool.false_and]; exact Ev.now _
    · refine Ev_at 1 (fun n => ?_)
      simp only [spec_Allowed.j0, if_true, Bool.not_true, Bool.false_and]
  unfold spec_Allowed.f allowedC
  refine Ev.bind (spec_RowsOk_ev l st hl) ?_
  cases h1 : rowsOk l st
  · simp only [Bool.false_eq_true, if_false, Bool.false_and]
    exact hj true (fun h => by cases h)
  · simp only [if_true, Bool.true_and]
    refine Ev.bind (Ev_at 2 (fun n => spec_OpOk_eq o k v n)) ?_
    cases h2 : opOk o k v
    · exact hj true (fun h => by cases h)
    · exact hj false (fun _ => ⟨h1, h2⟩)
theorem impl_Allowed_ev (l : List Int) (st o k v code : Int) (rl : List Int) (hl : l.length ≤ 1048576) (hr : rl.length ≤ 1048576) : Ev (fun n => impl_Allowed.f n l st o k v code rl) (allowedC l st o k v code rl) := by
  have hj : ∀ b : Bool, (b = false → rowsOk l st = true ∧ opOk o k v = true) → Ev (fun n => impl_Allowed.j0 n b l st o k v code rl) (!b && (if code = 0 then (doneC l st o k v).2 && zipEq (doneC l st o k v).1 rl else decide (rl.length = 0) && failsC l st o k v code)) := by
    intro b hb
    cases b
    · obtain ⟨h1, h2⟩ := hb rfl
      have hk : o = 1 ∨ o = 2 ∨ o = 3 ∨ o = 4 → 0 ≤ k ∧ k < (l.length : Int) := fun ho => by
        have := opOk_key o k v h2 ho
        have := (rowsOk_len l st h1).1
        omega
      refine Ev.step (f := fun n => if code = 0 then ((impl_success.f n l st o k v).bind fun bt175 => (if bt175.2 = true then ((slices_Equal_int_int.f n bt175.1 rl).bind fun t179 => (some t179)) else (some false))) else (if (rl.length : Int) = 0 then ((impl_refusal.f n l st o k v code).bind fun t180 => (some t180)) else (some false))) (fun n => ?_) ?_
      · simp only [impl_Allowed.j0, Bool.false_eq_true, if_false]
      · by_cases c0 : code = 0
        · simp only [if_pos c0, Bool.not_false, Bool.true_and]
          refine Ev.bind (impl_success_ev l st o k v hl (rowsOk_len l st h1).2 hk) ?_
          cases hd : (doneC l st o k v).2
          · exact Ev.now _
          · simp only [if_true, Bool.true_and]
            exact Ev.bind (slices_Equal_ev _ rl (doneC_len l st o k v hl) hr) (Ev.now _)
        · simp only [if_neg c0, Bool.not_false, Bool.true_and]
          by_cases hz : rl.length = 0
          · have hz' : (rl.length : Int) = 0 := by omega
            simp only [if_pos hz', decide_eq_true hz, Bool.true_and]
            exact Ev.bind (impl_refusal_ev l st o k v code hl hk) (Ev.now _)
          · have hz' : ¬ (rl.length : Int) = 0 := by omega
            simp only [if_neg hz', decide_eq_false hz, Bool.false_and]; exact Ev.now _
    · refine Ev_at 1 (fun n => ?_)
      simp only [impl_Allowed.j0, if_true, Bool.not_true, Bool.false_and]
  unfold impl_Allowed.f allowedC
  refine Ev.bind (impl_RowsOk_ev l st hl) ?_
  cases h1 : rowsOk l st
  · simp only [Bool.false_eq_true, if_false, Bool.false_and]
    exact hj true (fun h => by cases h)
  · simp only [if_true, Bool.true_and]
    refine Ev.bind (Ev_at 3 (fun n => impl_OpOk_eq o k v n)) ?_
    cases h2 : opOk o k v
    · exact hj true (fun h => by cases h)
    · exact hj false (fun _ => ⟨h1, h2⟩)
theorem Ev_posF {α : Type} {x : Int} {g h : Nat → Option α} {r : α} (hx : 0 ≤ x) : Ev (fun k => if x < 0 then h k else g k) r = Ev g r := by
  have h' : ¬ x < 0 := by omega
  simp only [if_neg h']
def afterC (l : List Int) (st o k v code : Int) (rl : List Int) : List Int × Int :=
  if allowedC l st o k v code rl = true ∧ code = 0 then
    (if o = 1 ∨ o = 2 then (l.set k.toNat v, st) else if o = 3 then (l.set k.toNat 0, st) else if o = 8 ∨ o = 9 then (l, st + 1) else (l, st))
  else (l, st)
theorem allowedC_parts {l : List Int} {st o k v code : Int} {rl : List Int} (h : allowedC l st o k v code rl = true) : rowsOk l st = true ∧ opOk o k v = true := by
  unfold allowedC at h
  rw [Bool.and_eq_true, Bool.and_eq_true] at h
  exact ⟨h.1, h.2.1⟩
theorem afterC_len (l : List Int) (st o k v code : Int) (rl : List Int) : (afterC l st o k v code rl).1.length = l.length := by
  unfold afterC
  repeat' split
  all_goals first | rfl | exact List.length_set
theorem spec_After_ev (l : List Int) (st o k v code : Int) (rl : List Int) (hl : l.length ≤ 1048576) (hr : rl.length ≤ 1048576) : Ev (fun n => spec_After.f n l st o k v code rl) (afterC l st o k v code rl) := by
  have hcopy : spec_l3Copy.f l st = some (l, st) := by
    simp only [spec_l3Copy.f, Option.bind_some, List.nil_append]
    rw [if_pos (by simp; omega)]
  unfold spec_After.f
  simp only [hcopy, Option.bind_some]
  refine Ev.bind (spec_Allowed_ev l st o k v code rl hl hr) ?_
  cases hA : allowedC l st o k v code rl
  · have e : afterC l st o k v code rl = (l, st) := by unfold afterC; rw [if_neg (by rw [hA]; simp)]
    rw [e]
    refine Ev_at 1 (fun n => ?_)
    simp only [Bool.false_eq_true, if_false, spec_After.j0, if_true]
  · obtain ⟨h1, h2⟩ := allowedC_parts hA
    have hlen := (rowsOk_len l st h1).1
    have hst := (rowsOk_len l st h1).2
    have hk := opOk_key o k v h2
    have hw : wrap64 (st + 1) = st + 1 := by unfold wrap64; omega
    by_cases c0 : code = 0
    · subst c0
      refine Ev_at 2 (fun n => ?_)
      by_cases o1 : o = 1
      · subst o1
        obtain ⟨k0, k1⟩ := hk (by omega)
        have k1' : k < (l.length : Int) := by omega
        simp [afterC, hA, spec_After.j0, spec_After.j1, k0, k1']
      by_cases o2 : o = 2
      · subst o2
        obtain ⟨k0, k1⟩ := hk (by omega)
        have k1' : k < (l.length : Int) := by omega
        simp [afterC, hA, spec_After.j0, spec_After.j1, k0, k1']
      by_cases o3 : o = 3
      · subst o3
        obtain ⟨k0, k1⟩ := hk (by omega)
        have k1' : k < (l.length : Int) := by omega
        simp [afterC, hA, spec_After.j0, spec_After.j1, k0, k1']
      by_cases o8 : o = 8
      · subst o8
        simp [afterC, hA, spec_After.j0, spec_After.j1, hw]
      by_cases o9 : o = 9
      · subst o9
        simp [afterC, hA, spec_After.j0, spec_After.j1, hw]
      simp [afterC, hA, spec_After.j0, spec_After.j1, o1, o2, o3, o8, o9]
    · have e : afterC l st o k v code rl = (l, st) := by unfold afterC; rw [if_neg (fun h => c0 h.2)]
      have ec : (code != 0) = true := bne_iff_ne.mpr c0
      rw [e]
      refine Ev_at 1 (fun n => ?_)
      simp only [ec, spec_After.j0, if_true]
theorem impl_After_ev (l : List Int) (st o k v code : Int) (rl : List Int) (hl : l.length ≤ 1048576) (hr : rl.length ≤ 1048576) : Ev (fun n => impl_After.f n l st o k v code rl) (afterC l st o k v code rl) := by
  have hcopy : impl_copyRows.f l st = some (l, st) := by
    simp only [impl_copyRows.f, slices_Clone_int_int.f, Option.bind_some, List.nil_append]
    rw [if_pos (by simp; omega)]
    rfl
  unfold impl_After.f
  simp only [hcopy, Option.bind_some]
  refine Ev.bind (impl_Allowed_ev l st o k v code rl hl hr) ?_
  cases hA : allowedC l st o k v code rl
  · have e : afterC l st o k v code rl = (l, st) := by unfold afterC; rw [if_neg (by rw [hA]; simp)]
    rw [e]
    refine Ev_at 1 (fun n => ?_)
    simp only [Bool.false_eq_true, if_false, impl_After.j0, if_true]
  · obtain ⟨h1, h2⟩ := allowedC_parts hA
    have hlen := (rowsOk_len l st h1).1
    have hst := (rowsOk_len l st h1).2
    have hk := opOk_key o k v h2
    have hw : wrap64 (st + 1) = st + 1 := by unfold wrap64; omega
    by_cases c0 : code = 0
    · subst c0
      refine Ev_at 2 (fun n => ?_)
      by_cases o1 : o = 1
      · subst o1
        obtain ⟨k0, k1⟩ := hk (by omega)
        have k1' : k < (l.length : Int) := by omega
        simp [afterC, hA, impl_After.j0, impl_After.j1, k0, k1']
      by_cases o2 : o = 2
      · subst o2
        obtain ⟨k0, k1⟩ := hk (by omega)
        have k1' : k < (l.length : Int) := by omega
        simp [afterC, hA, impl_After.j0, impl_After.j1, k0, k1']
      by_cases o3 : o = 3
      · subst o3
        obtain ⟨k0, k1⟩ := hk (by omega)
        have k1' : k < (l.length : Int) := by omega
        simp [afterC, hA, impl_After.j0, impl_After.j1, k0, k1']
      by_cases o8 : o = 8
      · subst o8
        simp [afterC, hA, impl_After.j0, impl_After.j1, hw]
      by_cases o9 : o = 9
      · subst o9
        simp [afterC, hA, impl_After.j0, impl_After.j1, hw]
      simp [afterC, hA, impl_After.j0, impl_After.j1, o1, o2, o3, o8, o9]
    · have e : afterC l st o k v code rl = (l, st) := by unfold afterC; rw [if_neg (fun h => c0 h.2)]
      have ec : (code != 0) = true := bne_iff_ne.mpr c0
      rw [e]
      refine Ev_at 1 (fun n => ?_)
      simp only [ec, impl_After.j0, if_true]
theorem rowsOk4 (a b c d s : Int) : rowsOk [a, b, c, d] s = true ↔ ((a = 0 ∨ (1 ≤ a ∧ a ≤ 6)) ∧ (b = 0 ∨ ((1 ≤ b ∧ b ≤ 6) ∧ b ≠ a)) ∧ (c = 0 ∨ ((1 ≤ c ∧ c ≤ 6) ∧ c ≠ a ∧ c ≠ b)) ∧ (d = 0 ∨ ((1 ≤ d ∧ d ≤ 6) ∧ d ≠ a ∧ d ≠ b ∧ d ≠ c))) ∧ 0 ≤ s ∧ s ≤ 5 := by
  simp [rowsOk, heldOk, valOk, inR]
theorem idxF4 (v a b c d : Int) : idxF v [a, b, c, d] 0 = if a = v then 0 else if b = v then 1 else if c = v then 2 else if d = v then 3 else -1 := by
  simp [idxF]
theorem after_rows (l : List Int) (st o k v : Int) (rl : List Int) (h : allowedC l st o k v 0 rl = true) : rowsOk (afterC l st o k v 0 rl).1 (afterC l st o k v 0 rl).2 = true := by
  obtain ⟨h1, h2⟩ := allowedC_parts h
  have hlen := (rowsOk_len l st h1).1
  have hd : (doneC l st o k v).2 = true := by
    unfold allowedC at h
    rw [h1, h2] at h
    simp only [Bool.true_and, if_true, Bool.and_eq_true] at h
    exact h.1
  match l, hlen with
  | [a, b, c, d], _ =>
    have hr := (rowsOk4 a b c d st).1 h1
    unfold afterC
    rw [if_pos ⟨h, rfl⟩]
    unfold opOk at h2
    unfold doneC at hd
    rw [idxF4] at hd
    by_cases o1 : o = 1
    · subst o1
      simp [keyOk, valOk, inR] at h2
      have hk : k = 0 ∨ k = 1 ∨ k = 2 ∨ k = 3 := by omega
      rcases hk with rfl | rfl | rfl | rfl <;>
        · simp [rd] at hd ⊢
          rw [rowsOk4]
          split at hd <;> (try split at hd) <;> (try split at hd) <;> (try split at hd) <;> omega
    by_cases o2 : o = 2
    · subst o2
      simp [keyOk, valOk, inR] at h2
      have hk : k = 0 ∨ k = 1 ∨ k = 2 ∨ k = 3 := by omega
      rcases hk with rfl | rfl | rfl | rfl <;>
        · simp [rd] at hd ⊢
          rw [rowsOk4]
          split at hd <;> (try split at hd) <;> (try split at hd) <;> (try split at hd) <;> omega
    by_cases o3 : o = 3
    · subst o3
      simp [keyOk, valOk, inR] at h2
      have hk : k = 0 ∨ k = 1 ∨ k = 2 ∨ k = 3 := by omega
      rcases hk with rfl | rfl | rfl | rfl <;>
        · simp [rd] at hd ⊢
          rw [rowsOk4]
          omega
    by_cases o8 : o = 8
    · subst o8
      simp at hd ⊢
      rw [rowsOk4]
      omega
    by_cases o9 : o = 9
    · subst o9
      simp [inR] at hd ⊢
      rw [rowsOk4]
      omega
    have n12 : ¬ (o = 1 ∨ o = 2) := by omega
    have n89 : ¬ (o = 8 ∨ o = 9) := by omega
    simp only [if_neg n12, if_neg o3, if_neg n89]
    exact h1
theorem and255 (x : Int) : 0 ≤ Go.bits .and .i64 x 255 ∧ Go.bits .and .i64 x 255 ≤ 255 := by
  have h : ((BitVec.ofInt 64 x).toNat &&& (BitVec.ofInt 64 255).toNat) ≤ 255 := Nat.le_trans Nat.and_le_right (by decide)
  have e : Go.bits .and .i64 x 255 = (((BitVec.ofInt 64 x).toNat &&& (BitVec.ofInt 64 255).toNat : Nat) : Int) := by
    show IntKind.i64.wrap ((BitVec.ofInt 64 x &&& BitVec.ofInt 64 255).toNat : Int) = _
    rw [IntKind.wrap_i64, BitVec.toNat_and]
    omega
  rw [e]
  omega
theorem l1Byte_some (l : List Int) (i h : Int) (hi : 0 ≤ i) (hl : l.length ≤ 1048576) : ∃ x i' h', spec_l1Byte.f l i h = some (x, i', h') ∧ 0 ≤ x ∧ x ≤ 255 ∧ 0 ≤ i' := by
  unfold spec_l1Byte.f
  by_cases c : i < (l.length : Int)
  · rw [if_pos c, if_pos hi]
    refine ⟨_, _, _, rfl, (and255 _).1, (and255 _).2, ?_⟩
    unfold wrap64; omega
  · rw [if_neg c]
    exact ⟨_, _, _, rfl, (and255 _).1, (and255 _).2, hi⟩
theorem tmod_lo (a b : Int) (ha : 0 ≤ a) (hb : 0 < b) : 0 ≤ Int.tmod a b ∧ Int.tmod a b < b := by
  rw [Int.tmod_eq_emod_of_nonneg ha]
  exact ⟨Int.emod_nonneg _ (by omega), Int.emod_lt_of_pos _ hb⟩
theorem l1Below_some (l : List Int) (i h n : Int) (hi : 0 ≤ i) (hl : l.length ≤ 1048576) : ∃ x i' h', spec_l1Below.f l i h n = some (x, i', h') ∧ 0 ≤ x ∧ (0 < n → x < n) ∧ (n ≤ 0 → x = 0) ∧ 0 ≤ i' := by
  unfold spec_l1Below.f
  by_cases c : n ≤ 0
  · rw [if_pos c]
    exact ⟨_, _, _, rfl, by omega, by omega, fun _ => rfl, hi⟩
  · rw [if_neg c]
    have c0 : ¬ n = 0 := by omega
    obtain ⟨x, i1, h1, e1, x0, x1, i10⟩ := l1Byte_some l i h hi hl
    simp only [e1, Option.bind_some, if_neg c0]
    by_cases c2 : n ≤ 256
    · rw [if_pos c2]
      have := tmod_lo x n x0 (by omega)
      exact ⟨_, _, _, rfl, this.1, fun _ => this.2, by omega, i10⟩
    · rw [if_neg c2]
      obtain ⟨y, i2, h2, e2, y0, y1, i20⟩ := l1Byte_some l i1 h1 i10 hl
      obtain ⟨z, i3, h3, e3, z0, z1, i30⟩ := l1Byte_some l i2 h2 i20 hl
      obtain ⟨u, i4, h4, e4, u0, u1, i40⟩ := l1Byte_some l i3 h3 i30 hl
      simp only [e2, e3, e4, Option.bind_some]
      have e : 0 ≤ wrap64 ((wrap64 ((wrap64 ((wrap64 (x * 16777216)) + (wrap64 (y * 65536)))) + (wrap64 (z * 256)))) + u) := by unfold wrap64; omega
      have := tmod_lo _ n e (by omega)
      exact ⟨_, _, _, rfl, this.1, fun _ => this.2, by omega, i40⟩
theorem l1New_ev (l : List Int) (hl : l.length ≤ 1048576) : ∃ h, Ev (fun k => spec_l1New.f k l) (l, 0, h) := by
  have key : ∀ d i : Nat, i + d = l.length → ∀ h : Int, ∃ h', Ev (fun k => spec_l1New.l0 k l h (i : Int)) (l, 0, h') := by
    intro d
    induction d with
    | zero =>
      intro i hi h
      refine ⟨h, Ev_at 1 (fun k => ?_)⟩
      simp only [spec_l1New.l0]
      rw [if_neg (by omega)]
    | succ d ih =>
      intro i hi h
      by_cases c : (i : Int) < 4000
      · obtain ⟨h', he⟩ := ih (i + 1) (by omega) (Go.bits .and .i64 (wrap64 ((wrap64 ((wrap64 (h * 131)) + (wrap64 (rd l i)))) + 7)) 1073741823)
        refine ⟨h', Ev.step (f := fun k => spec_l1New.l0 k l (Go.bits .and .i64 (wrap64 ((wrap64 ((wrap64 (h * 131)) + (wrap64 (rd l i)))) + 7)) 1073741823) ((i + 1 : Nat) : Int)) (fun k => ?_) he⟩
        simp only [spec_l1New.l0]
        rw [if_pos (by omega), if_pos c, if_pos (by omega), wrap_up i (by omega)]
      · refine ⟨h, Ev_at 1 (fun k => ?_)⟩
        simp only [spec_l1New.l0]
        rw [if_pos (by omega), if_neg c]
  obtain ⟨h, he⟩ := key l.length 0 (by omega) (wrap64 (27323 + (l.length : Int)))
  exact ⟨h, he⟩
theorem l1PickInt_some (l : List Int) (i h : Int) (xs : List Int) (hi : 0 ≤ i) (hl : l.length ≤ 1048576) (hx : 0 < xs.length) : ∃ v i' h', spec_l1PickInt.f l i h xs = some (v, i', h') ∧ v ∈ xs ∧ 0 ≤ i' := by
  obtain ⟨x, i', h', e, x0, x1, _, hi'⟩ := l1Below_some l i h (xs.length : Int) hi hl
  have x2 := x1 (by omega)
  refine ⟨rd xs x, i', h', ?_, ?_, hi'⟩
  · unfold spec_l1PickInt.f
    simp only [e, Option.bind_some]
    rw [if_pos x0, if_pos x2]
  · have hx2 : x.toNat < xs.length := by omega
    have : rd xs x = xs[x.toNat] := by simp [rd, List.getD_eq_getElem?_getD, hx2]
    rw [this]
    exact List.getElem_mem hx2
theorem l1Once_some (l : List Int) (i h n : Int) (hi : 0 ≤ i) (hl : l.length ≤ 1048576) : ∃ b i' h', spec_l1Once.f l i h n = some (b, i', h') ∧ 0 ≤ i' := by
  obtain ⟨x, i', h', e, _, _, _, hi'⟩ := l1Below_some l i h n hi hl
  exact ⟨x == 0, i', h', by unfold spec_l1Once.f; simp only [e, Option.bind_some], hi'⟩
theorem l3DrawRight_ev (l : List Int) (i h : Int) (hi : 0 ≤ i) (hl : l.length ≤ 1048576) : ∃ H S i' h', Ev (fun k => spec_l3DrawRight.f k l i h) (H, S, i', h') ∧ H.length = 4 ∧ 0 ≤ i' := by
  have key : ∀ d : Nat, ∀ j : Nat, j + d = 4 → ∀ (i h : Int) (H : List Int) (st : Int), 0 ≤ i → H.length = 4 → ∃ H' S i' h', Ev (fun k => spec_l3DrawRight.l0 k (j : Int) l i h H st) (H', S, i', h') ∧ H'.length = 4 ∧ 0 ≤ i' := by
    intro d
    induction d with
    | zero =>
      intro j hj i h H st hi hH
      obtain ⟨v, i', h', e, _, hi'⟩ := l1PickInt_some l i h [0, 0, 1, 3, 5] hi hl (by decide)
      refine ⟨H, v, i', h', Ev_at 1 (fun k => ?_), hH, hi'⟩
      simp only [spec_l3DrawRight.l0, e, Option.bind_some]
      rw [if_neg (by omega)]
    | succ d ih =>
      intro j hj i h H st hi hH
      obtain ⟨v, i1, h1, e, _, _, _, hi1⟩ := l1Below_some l i h 7 hi hl
      by_cases c : idxF v H 0 < 0
      · obtain ⟨H', S, i', h', he, hH', hi'⟩ := ih (j + 1) (by omega) i1 h1 (H.set (j : Int).toNat v) st hi1 (by rw [List.length_set]; exact hH)
        refine ⟨H', S, i', h', ?_, hH', hi'⟩
        refine Ev.step (f := fun k => (spec_KeyOf.f k H st v).bind fun t331 => (if t331 < 0 then (spec_l3DrawRight.l0 k ((j + 1 : Nat) : Int) l i1 h1 (H.set (j : Int).toNat v) st) else (spec_l3DrawRight.l0 k ((j + 1 : Nat) : Int) l i1 h1 H st))) (fun k => ?_) ?_
        · simp only [spec_l3DrawRight.l0, e, Option.bind_some]
          rw [if_pos (by omega), if_pos (by omega), if_pos (by omega), wrap_up j (by omega)]
        · refine Ev.bind (spec_KeyOf_ev H st v (by omega)) ?_
          simp only [if_pos c]
          exact he
      · obtain ⟨H', S, i', h', he, hH', hi'⟩ := ih (j + 1) (by omega) i1 h1 H st hi1 hH
        refine ⟨H', S, i', h', ?_, hH', hi'⟩
        refine Ev.step (f := fun k => (spec_KeyOf.f k H st v).bind fun t331 => (if t331 < 0 then (spec_l3DrawRight.l0 k ((j + 1 : Nat) : Int) l i1 h1 (H.set (j : Int).toNat v) st) else (spec_l3DrawRight.l0 k ((j + 1 : Nat) : Int) l i1 h1 H st))) (fun k => ?_) ?_
        · simp only [spec_l3DrawRight.l0, e, Option.bind_some]
          rw [if_pos (by omega), if_pos (by omega), if_pos (by omega), wrap_up j (by omega)]
        · refine Ev.bind (spec_KeyOf_ev H st v (by omega)) ?_
          simp only [if_neg c]
          exact he
  obtain ⟨H, S, i', h', he, hH, hi'⟩ := key 4 0 (by omega) i h (List.replicate 4 0) 0 hi (by simp)
  refine ⟨H, S, i', h', ?_, hH, hi'⟩
  unfold spec_l3DrawRight.f
  simp only [spec_RowsNew.f, if_pos (show (4 : Nat) ≤ 35184372088832 by decide), Option.bind_some]
  exact he
theorem l3Draw_ev (l : List Int) (i h : Int) (hi : 0 ≤ i) (hl : l.length ≤ 1048576) : ∃ H S i' h', Ev (fun k => spec_l3Draw.f k l i h) (H, S, i', h') ∧ H.length ≤ 4 ∧ 0 ≤ i' := by
  obtain ⟨H, S, i1, h1, he, hH, hi1⟩ := l3DrawRight_ev l i h hi hl
  obtain ⟨x, i2, h2, e2, x0, x1, _, hi2⟩ := l1Below_some l i1 h1 8 hi1 hl
  have fin : ∀ (r : List Int × Int × Int × Int), r.1.length ≤ 4 → 0 ≤ r.2.2.1 → (Ev (fun k => (spec_l1Below.f l i1 h1 8).bind fun bt341 => (if bt341.1 = 0 then ((spec_l1PickInt.f l bt341.2.1 bt341.2.2 (([(-1), 6, 7] : List Int))).bind fun bt347 => (if 1 < (H.length : Int) then (some ((H.set (1 : Int).toNat bt347.1), S, bt347.2.1, bt347.2.2)) else (none))) else (if bt341.1 = 1 then (if 0 < (H.length : Int) then (if 3 < (H.length : Int) then (some (((H.set (0 : Int).toNat 3).set (3 : Int).toNat 3), S, bt341.2.1, bt341.2.2)) else (none)) else (none)) else (if bt341.1 = 2 then ((spec_l1PickInt.f l bt341.2.1 bt341.2.2 (([(-1), 5, 6] : List Int))).bind fun bt356 => (some (H, bt356.1, bt356.2.1, bt356.2.2))) else (if bt341.1 = 3 then (if 2 ≤ (H.length : Int) then (some ((H.take (2 : Int).toNat), S, bt341.2.1, bt341.2.2)) else (none)) else (some (H, S, bt341.2.1, bt341.2.2))))))) r) → ∃ H S i' h', Ev (fun k => spec_l3Draw.f k l i h) (H, S, i', h') ∧ H.length ≤ 4 ∧ 0 ≤ i' := by
    intro r hr hi' hv
    obtain ⟨a, b, c, d⟩ := r
    refine ⟨a, b, c, d, ?_, hr, hi'⟩
    unfold spec_l3Draw.f
    exact Ev.bind he hv
  by_cases c0 : x = 0
  · obtain ⟨v, i3, h3, e3, _, hi3⟩ := l1PickInt_some l i2 h2 [-1, 6, 7] hi2 hl (by decide)
    refine fin (H.set (1 : Int).toNat v, S, i3, h3) (by simp; omega) hi3 ?_
    simp only [e2, Option.bind_some, if_pos c0, e3, if_pos (show 1 < (H.length : Int) by omega)]
    exact Ev.now _
  by_cases c1 : x = 1
  · refine fin ((H.set (0 : Int).toNat 3).set (3 : Int).toNat 3, S, i2, h2) (by simp; omega) hi2 ?_
    simp only [e2, Option.bind_some, if_neg c0, if_pos c1, if_pos (show 0 < (H.length : Int) by omega), if_pos (show 3 < (H.length : Int) by omega)]
    exact Ev.now _
  by_cases c2 : x = 2
  · obtain ⟨v, i3, h3, e3, _, hi3⟩ := l1PickInt_some l i2 h2 [-1, 5, 6] hi2 hl (by decide)
    refine fin (H, v, i3, h3) (by simp; omega) hi3 ?_
    simp only [e2, Option.bind_some, if_neg c0, if_neg c1, if_pos c2, e3]
    exact Ev.now _
  by_cases c3 : x = 3
  · refine fin (H.take (2 : Int).toNat, S, i2, h2) (by simp; omega) hi2 ?_
    simp only [e2, Option.bind_some, if_neg c0, if_neg c1, if_neg c2, if_pos c3, if_pos (show 2 ≤ (H.length : Int) by omega)]
    exact Ev.now _
  · refine fin (H, S, i2, h2) (by simp; omega) hi2 ?_
    simp only [e2, Option.bind_some, if_neg c0, if_neg c1, if_neg c2, if_neg c3]
    exact Ev.now _
theorem l4Val_b (o : Int) : ∃ b, spec_l4Val.f o = some b := ⟨_, spec_l4Val_eq o⟩
theorem l4DrawRight_j1 (l : List Int) (i h a b c : Int) (hi : 0 ≤ i) (hl : l.length ≤ 1048576) : ∃ c' i' h', Ev (fun k => spec_l4DrawRight.j1 k l i h a b c) (a, b, c', i', h') ∧ 0 ≤ i' := by
  obtain ⟨v, hv⟩ := l4Val_b a
  cases v
  · refine ⟨c, i, h, Ev_at 1 (fun k => ?_), hi⟩
    simp only [spec_l4DrawRight.j1, hv, Option.bind_some, Bool.false_eq_true, if_false]
  · obtain ⟨x, i', h', e, _, _, _, hi'⟩ := l1Below_some l i h 4 hi hl
    refine ⟨wrap64 (1 + x), i', h', Ev_at 1 (fun k => ?_), hi'⟩
    simp only [spec_l4DrawRight.j1, hv, Option.bind_some, if_true, e]
theorem l4DrawRight_j0 (l : List Int) (i h a b c : Int) (hi : 0 ≤ i) (hl : l.length ≤ 1048576) : ∃ b' c' i' h', Ev (fun k => spec_l4DrawRight.j0 k l i h a b c) (a, b', c', i', h') ∧ 0 ≤ i' := by
  by_cases c6 : a = 6
  · obtain ⟨x, i1, h1, e, _, _, _, hi1⟩ := l1Below_some l i h 3 hi hl
    obtain ⟨c', i', h', he, hi'⟩ := l4DrawRight_j1 l i1 h1 a x c hi1 hl
    refine ⟨x, c', i', h', Ev.step (f := fun k => spec_l4DrawRight.j1 k l i1 h1 a x c) (fun k => ?_) he, hi'⟩
    simp only [spec_l4DrawRight.j0, if_pos c6, e, Option.bind_some]
  · obtain ⟨c', i', h', he, hi'⟩ := l4DrawRight_j1 l i h a b c hi hl
    refine ⟨b, c', i', h', Ev.step (f := fun k => spec_l4DrawRight.j1 k l i h a b c) (fun k => ?_) he, hi'⟩
    simp only [spec_l4DrawRight.j0, if_neg c6]
theorem l4DrawRight_ev (l : List Int) (i h : Int) (hi : 0 ≤ i) (hl : l.length ≤ 1048576) : ∃ a b c i' h', Ev (fun k => spec_l4DrawRight.f k l i h) (a, b, c, i', h') ∧ 0 ≤ i' := by
  obtain ⟨a, i1, h1, e1, _, hi1⟩ := l1PickInt_some l i h [1, 1, 1, 2, 2, 3, 4, 5, 6, 7, 8, 9, 9, 10] hi hl (by decide)
  unfold spec_l4DrawRight.f
  simp only [e1, Option.bind_some, spec_l4Key_eq]
  cases inR a 1 4
  · obtain ⟨b', c', i', h', he, hi'⟩ := l4DrawRight_j0 l i1 h1 a 0 0 hi1 hl
    exact ⟨a, b', c', i', h', by simpa using he, hi'⟩
  · obtain ⟨x, i2, h2, e2, _, _, _, hi2⟩ := l1Below_some l i1 h1 4 hi1 hl
    obtain ⟨b', c', i', h', he, hi'⟩ := l4DrawRight_j0 l i2 h2 a x 0 hi2 hl
    exact ⟨a, b', c', i', h', by simpa [e2] using he, hi'⟩
theorem l4Draw_ev (l : List Int) (i h : Int) (hi : 0 ≤ i) (hl : l.length ≤ 1048576) : ∃ a b c i' h', Ev (fun k => spec_l4Draw.f k l i h) (a, b, c, i', h') ∧ 0 ≤ i' := by
  obtain ⟨a, b, c, i1, h1, he, hi1⟩ := l4DrawRight_ev l i h hi hl
  obtain ⟨x, i2, h2, e2, _, _, _, hi2⟩ := l1Below_some l i1 h1 10 hi1 hl
  have fin : ∀ (r : Int × Int × Int × Int × Int), 0 ≤ r.2.2.2.1 → Ev (fun k => (spec_l1Below.f l i1 h1 10).bind fun bt388 => (if bt388.1 = 0 then ((spec_l1Below.f l bt388.2.1 bt388.2.2 13).bind fun bt391 => (some (wrap64 (bt391.1 - 1), b, c, bt391.2.1, bt391.2.2))) else (if bt388.1 = 1 then ((spec_l1Below.f l bt388.2.1 bt388.2.2 7).bind fun bt394 => (some (a, wrap64 (bt394.1 - 1), c, bt394.2.1, bt394.2.2))) else (if bt388.1 = 2 then ((spec_l1Below.f l bt388.2.1 bt388.2.2 9).bind fun bt397 => (some (a, b, wrap64 (bt397.1 - 1), bt397.2.1, bt397.2.2))) else (some (a, b, c, bt388.2.1, bt388.2.2)))))) r → ∃ a b c i' h', Ev (fun k => spec_l4Draw.f k l i h) (a, b, c, i', h') ∧ 0 ≤ i' := by
    intro r hi' hv
    obtain ⟨p, q, s, t, u⟩ := r
    refine ⟨p, q, s, t, u, ?_, hi'⟩
    unfold spec_l4Draw.f
    exact Ev.bind he hv
  by_cases c0 : x = 0
  · obtain ⟨y, i3, h3, e3, _, _, _, hi3⟩ := l1Below_some l i2 h2 13 hi2 hl
    refine fin (wrap64 (y - 1), b, c, i3, h3) hi3 ?_
    simp only [e2, e3, Option.bind_some, if_pos c0]; exact Ev.now _
  by_cases c1 : x = 1
  · obtain ⟨y, i3, h3, e3, _, _, _, hi3⟩ := l1Below_some l i2 h2 7 hi2 hl
    refine fin (a, wrap64 (y - 1), c, i3, h3) hi3 ?_
    simp only [e2, e3, Option.bind_some, if_neg c0, if_pos c1]; exact Ev.now _
  by_cases c2 : x = 2
  · obtain ⟨y, i3, h3, e3, _, _, _, hi3⟩ := l1Below_some l i2 h2 9 hi2 hl
    refine fin (a, b, wrap64 (y - 1), i3, h3) hi3 ?_
    simp only [e2, e3, Option.bind_some, if_neg c0, if_neg c1, if_pos c2]; exact Ev.now _
  · refine fin (a, b, c, i2, h2) hi2 ?_
    simp only [e2, Option.bind_some, if_neg c0, if_neg c1, if_neg c2]; exact Ev.now _
theorem l4DrawRes_j1 (l : List Int) (i h : Int) (hi : 0 ≤ i) (hl : l.length ≤ 1048576) : ∃ c L i' h', Ev (fun k => spec_l4DrawRes.j1 k l i h) (c, L, i', h') ∧ L.length ≤ 1048576 ∧ 0 ≤ i' := by
  obtain ⟨x, i1, h1, e1, _, _, _, hi1⟩ := l1Below_some l i h 7 hi hl
  obtain ⟨b, i2, h2, e2, hi2⟩ := l1Once_some l i1 h1 4 hi1 hl
  cases b
  · refine ⟨wrap64 (x - 1), [], i2, h2, Ev_at 1 (fun k => ?_), by simp, hi2⟩
    simp only [spec_l4DrawRes.j1, e1, e2, Option.bind_some, Bool.false_eq_true, if_false]
  · obtain ⟨y, i3, h3, e3, _, _, _, hi3⟩ := l1Below_some l i2 h2 4 hi2 hl
    refine ⟨wrap64 (x - 1), [y], i3, h3, Ev_at 1 (fun k => ?_), by simp, hi3⟩
    simp only [spec_l4DrawRes.j1, e1, e2, e3, Option.bind_some, if_true]
theorem l4DrawRes_ev (l : List Int) (i h : Int) (H : List Int) (S o k v : Int) (hi : 0 ≤ i) (hl : l.length ≤ 1048576) (hH : H.length ≤ 1048576) : ∃ c L i' h', Ev (fun n => spec_l4DrawRes.f n l i h H S o k v) (c, L, i', h') ∧ L.length ≤ 1048576 ∧ 0 ≤ i' := by
  have hf : ∀ i h : Int, 0 ≤ i → ∃ c L i' h', Ev (fun n => spec_l4DrawRes.j0 n false l i h H S o k v) (c, L, i', h') ∧ L.length ≤ 1048576 ∧ 0 ≤ i' := by
    intro i h hi
    obtain ⟨c, L, i', h', he, hL, hi'⟩ := l4DrawRes_j1 l i h hi hl
    refine ⟨c, L, i', h', Ev.step (f := fun n => spec_l4DrawRes.j1 n l i h) (fun n => ?_) he, hL, hi'⟩
    simp only [spec_l4DrawRes.j0, Bool.false_eq_true, if_false]
  cases h1 : rowsOk H S
  · obtain ⟨c, L, i', h', he, hL, hi'⟩ := hf i h hi
    refine ⟨c, L, i', h', ?_, hL, hi'⟩
    unfold spec_l4DrawRes.f
    refine Ev.bind (spec_RowsOk_ev H S hH) ?_
    simp only [h1, Bool.false_eq_true, if_false]
    exact he
  · cases h2 : opOk o k v
    · obtain ⟨c, L, i', h', he, hL, hi'⟩ := hf i h hi
      refine ⟨c, L, i', h', ?_, hL, hi'⟩
      unfold spec_l4DrawRes.f
      refine Ev.bind (spec_RowsOk_ev H S hH) ?_
      simp only [h1, if_true]
      refine Ev.bind (Ev_at 2 (fun n => spec_OpOk_eq o k v n)) ?_
      simp only [h2, Bool.false_eq_true, if_false]
      exact he
    · obtain ⟨b, i1, h1', e1, hi1⟩ := l1Once_some l i h 3 hi hl
      have hk : o = 1 ∨ o = 2 ∨ o = 3 ∨ o = 4 → 0 ≤ k ∧ k < (H.length : Int) := fun ho => by
        have := opOk_key o k v h2 ho
        have := (rowsOk_len H S h1).1
        omega
      have ht : ∃ c L i' h', Ev (fun n => spec_l4DrawRes.j0 n (!b) l i1 h1' H S o k v) (c, L, i', h') ∧ L.length ≤ 1048576 ∧ 0 ≤ i' := by
        cases b
        · cases hd : (doneC H S o k v).2
          · obtain ⟨c, L, i', h', he, hL, hi'⟩ := l4DrawRes_j1 l i1 h1' hi1 hl
            refine ⟨c, L, i', h', Ev.step (f := fun n => (spec_l4Done.f n H S o k v).bind fun bt411 => (if bt411.2 = true then (some (0, bt411.1, i1, h1')) else (spec_l4DrawRes.j1 n l i1 h1'))) (fun n => ?_) ?_, hL, hi'⟩
            · simp only [spec_l4DrawRes.j0, Bool.not_false, if_true]
            · refine Ev.bind (spec_l4Done_ev H S o k v hH hk) ?_
              simp only [hd, Bool.false_eq_true, if_false]
              exact he
          · refine ⟨0, (doneC H S o k v).1, i1, h1', Ev.step (f := fun n => (spec_l4Done.f n H S o k v).bind fun bt411 => (if bt411.2 = true then (some (0, bt411.1, i1, h1')) else (spec_l4DrawRes.j1 n l i1 h1'))) (fun n => ?_) ?_, doneC_len H S o k v hH, hi1⟩
            · simp only [spec_l4DrawRes.j0, Bool.not_false, if_true]
            · refine Ev.bind (spec_l4Done_ev H S o k v hH hk) ?_
              simp only [hd, if_true]
              exact Ev.now _
        · simpa using hf i1 h1' hi1
      obtain ⟨c, L, i', h', he, hL, hi'⟩ := ht
      refine ⟨c, L, i', h', ?_, hL, hi'⟩
      unfold spec_l4DrawRes.f
      refine Ev.bind (spec_RowsOk_ev H S hH) ?_
      simp only [h1, if_true]
      refine Ev.bind (Ev_at 2 (fun n => spec_OpOk_eq o k v n)) ?_
      simp only [h2, if_true, e1, Option.bind_some]
      exact he
theorem sameInts_ev (a : List Int) (ha : a.length ≤ 1048576) : Ev (fun k => laws_sameInts.f k a a) true := by
  have key : ∀ d j : Nat, j + d = a.length → Ev (fun k => laws_sameInts.l0 k a a (j : Int)) true := by
    intro d
    induction d with
    | zero =>
      intro j hj
      refine Ev_at 1 (fun k => ?_)
      simp only [laws_sameInts.l0]
      rw [if_neg (by omega)]
    | succ d ih =>
      intro j hj
      refine Ev.step (f := fun k => laws_sameInts.l0 k a a ((j + 1 : Nat) : Int)) (fun k => ?_) (ih (j + 1) (by omega))
      simp only [laws_sameInts.l0, if_true]
      rw [if_pos (by omega), if_pos (by omega), if_pos (by omega), wrap_up j (by omega)]
  unfold laws_sameInts.f
  simp only [if_true]
  exact key a.length 0 (by omega)

/-- For every code the law's Lean function answers true. -/
theorem FnAllowed : laws_FnAllowed.Pure := by
  intro l0 hb _ _
  refine Ev.rounds (r := true) ?_
  unfold laws_FnAllowed.f
  simp only [laws_big.f, Option.bind_some]
  by_cases c : (l0.length : Int) > 1048576
  · simp only [decide_eq_true c, if_true]; exact Ev.now _
  simp only [decide_eq_false c, Bool.false_eq_true, if_false]
  have hl : l0.length ≤ 1048576 := by omega
  obtain ⟨h, hn⟩ := l1New_ev l0 hl
  -- the draws
  obtain ⟨H, S, i1, h1, e1, hH, hi1⟩ := l3Draw_ev l0 0 h (by omega) hl
  obtain ⟨o, k, v, i2, h2, e2, hi2⟩ := l4Draw_ev l0 i1 h1 hi1 hl
  obtain ⟨co, L, i3, h3, e3, hL, _⟩ := l4DrawRes_ev l0 i2 h2 H S o k v hi2 hl (by omega)
  have q1 : Ev (fun n => spec_DrawAllowed.f n l0) (H, S, o, k, v, co, L) := by
    unfold spec_DrawAllowed.f
    exact Ev.bind hn (Ev.bind e1 (Ev.bind e2 (Ev.bind e3 (Ev.now _))))
  obtain ⟨oo, ok_, ov, i4, h4, e4, _⟩ := l4Draw_ev l0 0 h (by omega) hl
  have q3 : Ev (fun n => spec_DrawOpOk.f n l0) (oo, ok_, ov) := by
    unfold spec_DrawOpOk.f
    exact Ev.bind hn (Ev.bind e4 (Ev.now _))
  have q2 : ∃ c1 L1 c2 L2, Ev (fun n => spec_DrawResSame.f n l0) (c1, L1, c2, L2) ∧ L1.length ≤ 1048576 ∧ L2.length ≤ 1048576 := by
    obtain ⟨H1, S1, j1, g1, f1, hH1, hj1⟩ := l3DrawRight_ev l0 0 h (by omega) hl
    obtain ⟨a1, b1, d1, j2, g2, f2, hj2⟩ := l4DrawRight_ev l0 j1 g1 hj1 hl
    obtain ⟨c1, L1, j3, g3, f3, hL1, hj3⟩ := l4DrawRes_ev l0 j2 g2 H1 S1 a1 b1 d1 hj2 hl (by omega)
    obtain ⟨bo, j4, g4, f4, hj4⟩ := l1Once_some l0 j3 g3 2 hj3 hl
    cases bo
    · obtain ⟨a2, b2, d2, j5, g5, f5, hj5⟩ := l4DrawRight_ev l0 j4 g4 hj4 hl
      obtain ⟨c2, L2, j6, g6, f6, hL2, hj6⟩ := l4DrawRes_ev l0 j5 g5 H1 S1 a2 b2 d2 hj5 hl (by omega)
      refine ⟨c1, L1, c2, L2, ?_, hL1, hL2⟩
      unfold spec_DrawResSame.f
      refine Ev.bind hn (Ev.bind f1 (Ev.bind f2 (Ev.bind f3 ?_)))
      simp only [f4, Option.bind_some, Bool.false_eq_true, if_false]
      exact Ev.bind f5 (Ev.bind f6 (Ev.now _))
    · refine ⟨c1, L1, c1, L1, ?_, hL1, hL1⟩
      unfold spec_DrawResSame.f
      refine Ev.bind hn (Ev.bind f1 (Ev.bind f2 (Ev.bind f3 ?_)))
      simp only [f4, Option.bind_some, if_true, List.nil_append]
      rw [if_pos (by simp; omega)]
      exact Ev.now _
  obtain ⟨c1, L1, c2, L2, q2, hL1, hL2⟩ := q2
  have hAl : (afterC H S o k v co L).1.length ≤ 1048576 := by rw [afterC_len]; omega
  have hHl : H.length ≤ 1048576 := by omega
  have fin : ∀ b : Bool, b = allowedC H S o k v co L → Ev (fun n => laws_FnAllowed.j0 n b false H S co L (afterC H S o k v co L).1 (afterC H S o k v co L).2) true := by
    intro b hbe
    have stay : afterC H S o k v co L = (H, S) → Ev (fun n => laws_FnAllowed.j1 n true H S (afterC H S o k v co L).1 (afterC H S o k v co L).2) true := by
      intro e
      rw [e]
      refine Ev.step (f := fun n => (laws_sameInts.f n H H).bind fun t563 => (if t563 = true then (some (S == S)) else (some false))) (fun n => ?_) ?_
      · simp only [laws_FnAllowed.j1, if_true]
      · refine Ev.bind (sameInts_ev H hHl) ?_
        simp only [if_true, beq_self_eq_true]
        exact Ev.now _
    cases b
    · refine Ev.step (f := fun n => laws_FnAllowed.j1 n true H S (afterC H S o k v co L).1 (afterC H S o k v co L).2) (fun n => ?_) (stay ?_)
      · simp only [laws_FnAllowed.j0, Bool.false_eq_true, if_false]
      · unfold afterC; rw [if_neg (by rw [← hbe]; simp)]
    · by_cases c0 : co = 0
      · subst c0
        have hr := after_rows H S o k v L hbe.symm
        refine Ev.step (f := fun n => laws_FnAllowed.j1 n false H S (afterC H S o k v 0 L).1 (afterC H S o k v 0 L).2) (fun n => ?_) ?_
        · simp [laws_FnAllowed.j0]
        · refine Ev.step (f := fun n => (impl_RowsOk.f n (afterC H S o k v 0 L).1 (afterC H S o k v 0 L).2).bind fun t564 => (some t564)) (fun n => ?_) ?_
          · simp only [laws_FnAllowed.j1, Bool.false_eq_true, if_false]
          · refine Ev.bind (impl_RowsOk_ev _ _ hAl) ?_
            rw [hr]
            exact Ev.now _
      · refine Ev.step (f := fun n => laws_FnAllowed.j1 n true H S (afterC H S o k v co L).1 (afterC H S o k v co L).2) (fun n => ?_) (stay ?_)
        · have ec : (co != 0) = true := bne_iff_ne.mpr c0
          simp only [laws_FnAllowed.j0, Bool.false_eq_true, if_false, if_true, ec]
        · unfold afterC; rw [if_neg (fun hh => c0 hh.2)]
  refine Ev.bind q1 ?_
  refine Ev.bind (impl_Allowed_ev H S o k v co L hHl hL) ?_
  refine Ev.bind (impl_After_ev H S o k v co L hHl hL) ?_
  refine Ev.bind (spec_After_ev H S o k v co L hHl hL) ?_
  refine Ev.bind q2 ?_
  refine Ev.bind q3 ?_
  refine Ev.bind (spec_Allowed_ev H S o k v co L hHl hL) ?_
  simp only [bne_self_eq_false, Bool.false_eq_true, if_false]
  refine Ev.bind (sameInts_ev _ hAl) ?_
  simp only [if_true]
  refine Ev.bind (impl_ResSame_ev c1 L1 c2 L2 hL1 hL2) ?_
  refine Ev.bind (spec_ResSame_ev c1 L1 c2 L2 hL1 hL2) ?_
  simp only [bne_self_eq_false, Bool.false_eq_true, if_false]
  refine Ev.bind (Ev_at 3 (fun n => impl_OpOk_eq oo ok_ ov n)) ?_
  refine Ev.bind (Ev_at 2 (fun n => spec_OpOk_eq oo ok_ ov n)) ?_
  simp only [bne_self_eq_false]
  exact fin _ rfl

end Go.Proofs.Ytmkhghbalnadlaa.Pure
