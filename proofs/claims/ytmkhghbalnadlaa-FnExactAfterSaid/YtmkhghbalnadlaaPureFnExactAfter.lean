/- The pure statement behind the law FnExactAfter: over plain values. No condition beyond that numbers are of their kind and lengths below 2^63. -/
import Derived.Test.YtmkhghbalnadlaaOpnFnExactAfter
namespace Go.Proofs.Ytmkhghbalnadlaa.Pure
open Go.RowKit Go.Proofs.Ytmkhghbalnadlaa.Op Go.Proofs.YtmkhghbalnadlaaW.PrintWords Go.Proofs.YtmkhghbalnadlaaW.PrintLast Go.Proofs.Ytmkhghbalnadlaa.PFnExactAfter Go.Proofs.Ytmkhghbalnadlaa.fnExactAfter

-- PACKS
set_option linter.unusedVariables false
set_option linter.unusedSimpArgs false
theorem Ev_at {α : Type} {g : Nat → Option α} {r : α} (n : Nat) (h : ∀ k, g (k + n) = some r) : Ev g r := ⟨n, fun k hk => by
  obtain ⟨m, rfl⟩ : ∃ m, k = m + n := ⟨k - n, by omega⟩
  exact h m⟩
theorem Ev_down {α : Type} {L : Nat → Nat → Option α} {r : α} (n : Nat) (hn : Ev (L n) r) (hs : ∀ i, i < n → Ev (L (i + 1)) r → Ev (L i) r) : ∀ i, i ≤ n → Ev (L i) r := by
  have key : ∀ d i, i + d = n → Ev (L i) r := by
    intro d
    induction d with
    | zero => intro i h; obtain rfl : i = n := by omega
              exact hn
    | succ d ih => intro i h; exact hs i (by omega) (ih (i + 1) (by omega))
  exact fun i h => key (n - i) i (by omega)
theorem wrap_up (i : Nat) (h : i < 9223372036854775807) : wrap64 ((i : Int) + 1) = ((i + 1 : Nat) : Int) := by unfold wrap64; omega
theorem set_fill {α β : Type} (l : List α) (i : Nat) (hi : i < l.length) (z : β) (f : α → β) (v : β) (hv : v = f (l[i]'hi)) :
    ((l.take i).map f ++ List.replicate (l.length - i) z).set (i : Int).toNat v = (l.take (i + 1)).map f ++ List.replicate (l.length - (i + 1)) z := by
  subst hv
  have h1 : ((l.take i).map f).length = i := by simp; omega
  rw [Int.toNat_natCast, List.set_append, if_neg (by omega), h1, Nat.sub_self]
  obtain ⟨m, hm⟩ : ∃ m, l.length - i = m + 1 := ⟨l.length - i - 1, by omega⟩
  rw [hm, List.replicate_succ, List.set_cons_zero, show l.length - (i + 1) = m by omega, List.take_succ_eq_append_getElem hi, List.map_append, List.append_assoc]
  rfl
theorem set_fill_id {α : Type} (l : List α) (i : Nat) (hi : i < l.length) (z : α) (v : α) (hv : v = l[i]'hi) :
    (l.take i ++ List.replicate (l.length - i) z).set (i : Int).toNat v = l.take (i + 1) ++ List.replicate (l.length - (i + 1)) z := by
  have := set_fill l i hi z id v hv
  simpa using this
theorem Ev_downR {α : Type} {L : Nat → Nat → Option α} {R : Nat → α} (n : Nat) (hn : Ev (L n) (R n)) (hs : ∀ i, i < n → Ev (L (i + 1)) (R (i + 1)) → Ev (L i) (R i)) : ∀ i, i ≤ n → Ev (L i) (R i) := by
  have key : ∀ d i, i + d = n → Ev (L i) (R i) := by
    intro d
    induction d with
    | zero => intro i h; obtain rfl : i = n := by omega
              exact hn
    | succ d ih => intro i h; exact hs i (by omega) (ih (i + 1) (by omega))
  exact fun i h => key (n - i) i (by omega)
theorem rd_at (l : List Int) (i : Nat) (hi : i < l.length) : rd l (i : Int) = l[i] := by simp [rd, List.getD_eq_getElem?_getD, hi]
theorem mark_fill {α : Type} (g : Nat → α) (l : List α) (i : Nat) (hi : i < l.length) : ((List.range i).map g ++ l.drop i).set i (g i) = (List.range (i + 1)).map g ++ l.drop (i + 1) := by
  rw [List.set_append, if_neg (by simp), List.length_map, List.length_range, Nat.sub_self, List.drop_eq_getElem_cons hi, List.set_cons_zero, List.range_succ, List.map_append, List.append_assoc]
  rfl
theorem Ev_pos {α : Type} {x : Int} {g : Nat → Option α} {r : α} (h : 0 ≤ x) : Ev (fun k => if x < 0 then none else g k) r = Ev g r := by
  have h' : ¬ x < 0 := by omega
  simp only [if_neg h']
def inR (x lo hi : Int) : Bool := decide (lo ≤ x) && decide (x ≤ hi)
def keyOk (k : Int) : Bool := inR k 0 3
def valOk (v : Int) : Bool := inR v 1 6
def isClass (c : Int) : Bool := inR c 0 2
def classOf (v : Int) : Int := if valOk v then Int.tmod v 3 else -1
theorem spec_l1In_eq (x lo hi : Int) : spec_l1In.f x lo hi = some (inR x lo hi) := by
  unfold spec_l1In.f inR
  by_cases h : lo ≤ x <;> simp [h]
theorem impl_from_eq (x lo hi : Int) : impl_from.f x lo hi = some (inR x lo hi) := by
  unfold impl_from.f inR
  by_cases h : lo ≤ x <;> simp [h]
theorem laws_toIntS_ev (l : List Int) (h : (l.length ≤ 1048576)) : Ev (fun k => laws_toIntS.f k l) (l) := by
  have hl : l.length ≤ 1048576 := h
  have key : ∀ i, i ≤ l.length → Ev (fun k => laws_toIntS.l0 k l ((l.take i) ++ List.replicate (l.length - i) 0) (i : Int)) (l) := by
    refine Ev_down (L := fun i k => laws_toIntS.l0 k l ((l.take i) ++ List.replicate (l.length - i) 0) (i : Int)) l.length ?_ ?_
    · refine Ev_at 1 (fun k => ?_)
      simp only [laws_toIntS.l0]
      rw [if_neg (by omega)]
      simp
    · intro i hi ih
      refine Ev.step (f := fun k => laws_toIntS.l0 k l ((l.take (i+1)) ++ List.replicate (l.length - (i+1)) 0) ((i+1 : Nat) : Int)) (fun k => ?_) ?_
      · simp only [laws_toIntS.l0]
        rw [if_pos (by omega), if_pos (by omega)]
        rw [if_pos (by simp; omega), wrap_up i (by omega)]
        congr 1
        exact set_fill_id l i hi 0 _ (by simp [rd, List.getD_eq_getElem?_getD, hi])
      · exact ih
  have := key 0 (Nat.zero_le _)
  have hc : ((l.length : Int) : Int).toNat ≤ 35184372088832 := by omega
  unfold laws_toIntS.f
  simp only [if_pos (Int.natCast_nonneg l.length), if_pos hc]
  simpa using this
theorem laws_eqIntS_refl (l : List Int) (h : (l.length ≤ 1048576)) : Ev (fun k => laws_eqIntS.f k l l) true := by
  have hl : l.length ≤ 1048576 := h
  have key : ∀ i, i ≤ l.length → Ev (fun k => laws_eqIntS.l0 k l l (i : Int)) true := by
    refine Ev_down (L := fun i k => laws_eqIntS.l0 k l l (i : Int)) l.length ?_ ?_
    · refine Ev_at 1 (fun k => ?_)
      simp only [laws_eqIntS.l0]
      rw [if_neg (by omega)]
    · intro i hi ih
      refine Ev.step (f := fun k => laws_eqIntS.l0 k l l ((i+1 : Nat) : Int)) (fun k => ?_) ih
      simp only [laws_eqIntS.l0]
      rw [if_pos (by omega), if_pos (by omega), if_pos (by omega), if_pos trivial, wrap_up i (by omega)]
  have := key 0 (Nat.zero_le _)
  unfold laws_eqIntS.f
  simp only [if_pos]
  exact this
theorem laws_szIntS_some (l : List Int) (hb : l.length ≤ maxLen) (left : Int) (h0 : 0 ≤ left) (h1 : left ≤ 1048576) : ∃ r, laws_szIntS.f l left = some r ∧ (0 ≤ r → r ≤ left ∧ l.length ≤ 1048576) := by
  have hm : maxLen = 9223372036854775807 := rfl
  have hw : wrap64 (left - (l.length : Int)) = left - (l.length : Int) := by unfold wrap64; omega
  unfold laws_szIntS.f
  rw [hw]
  by_cases c : left - (l.length : Int) < 0
  · exact ⟨-1, by rw [if_pos c], fun h => by omega⟩
  · exact ⟨_, by rw [if_neg c], fun _ => by omega⟩
theorem laws_toRows_ev (l0 : List Int) (a1 : Int) (h0 : (l0.length ≤ 1048576)) : Ev (fun k => laws_toRows.f k l0 a1) (l0, a1) := by
  unfold laws_toRows.f
  try simp only [Option.bind_some]
  refine Ev.bind (laws_toIntS_ev l0 h0) ?_
  exact Ev.now _
theorem laws_eqRows_refl (l0 : List Int) (a1 : Int) (h0 : (l0.length ≤ 1048576)) : Ev (fun k => laws_eqRows.f k l0 a1 l0 a1) true := by
  unfold laws_eqRows.f
  try simp only [if_pos, Option.bind_some]
  refine Ev.bind (laws_eqIntS_refl l0 h0) ?_
  try simp only [if_true, if_pos, bne_self_eq_false, Bool.false_eq_true, if_false]
  exact Ev.now _
theorem laws_szRows_some (l0 : List Int) (a1 : Int) (b0 : l0.length ≤ maxLen) (left : Int) (h0 : 0 ≤ left) (h1 : left ≤ 1048576) : ∃ r, laws_szRows.f l0 a1 left = some r ∧ (0 ≤ r → r ≤ left ∧ (l0.length ≤ 1048576)) := by
  unfold laws_szRows.f
  obtain ⟨r0, e0, p0⟩ := laws_szIntS_some l0 b0 left (by omega) (by omega)
  simp only [e0, Option.bind_some]
  by_cases c0 : r0 < 0
  · exact ⟨-1, by simp [c0], fun h => by omega⟩
  simp only [if_neg c0]
  have q0 := p0 (by omega)
  refine ⟨_, rfl, fun _ => ⟨by omega, ?_⟩⟩
  simp_all
theorem laws_toRes_ev (a0 : Int) (l1 : List Int) (h1 : (l1.length ≤ 1048576)) : Ev (fun k => laws_toRes.f k a0 l1) (a0, l1) := by
  unfold laws_toRes.f
  try simp only [Option.bind_some]
  refine Ev.bind (laws_toIntS_ev l1 h1) ?_
  exact Ev.now _
theorem laws_eqRes_refl (a0 : Int) (l1 : List Int) (h1 : (l1.length ≤ 1048576)) : Ev (fun k => laws_eqRes.f k a0 l1 a0 l1) true := by
  unfold laws_eqRes.f
  try simp only [if_pos, Option.bind_some]
  refine Ev.bind (laws_eqIntS_refl l1 h1) ?_
  try simp only [if_true, if_pos, bne_self_eq_false, Bool.false_eq_true, if_false]
  exact Ev.now _
theorem laws_szRes_some (a0 : Int) (l1 : List Int) (b1 : l1.length ≤ maxLen) (left : Int) (h0 : 0 ≤ left) (h1 : left ≤ 1048576) : ∃ r, laws_szRes.f a0 l1 left = some r ∧ (0 ≤ r → r ≤ left ∧ (l1.length ≤ 1048576)) := by
  unfold laws_szRes.f
  obtain ⟨r0, e0, p0⟩ := laws_szIntS_some l1 b1 left (by omega) (by omega)
  simp only [e0, Option.bind_some]
  by_cases c0 : r0 < 0
  · exact ⟨-1, by simp [c0], fun h => by omega⟩
  simp only [if_neg c0]
  have q0 := p0 (by omega)
  refine ⟨_, rfl, fun _ => ⟨by omega, ?_⟩⟩
  simp_all
def mkI (a : Int) (j : Nat) : Int := a + (j : Int)
theorem laws_markIntS_ev (l : List Int) (h : l.length ≤ 1048576) (a : Int) (h0 : 0 ≤ a) (h1 : a ≤ 1000000000) : Ev (fun k => laws_markIntS.f k l a) (a + (l.length : Int), (List.range l.length).map (mkI a)) := by
  have key : ∀ i, i ≤ l.length → Ev (fun k => laws_markIntS.l0 k ((List.range i).map (mkI a) ++ l.drop i) (a + (i : Int)) (i : Int)) (a + (l.length : Int), (List.range l.length).map (mkI a)) := by
    refine Ev_down (L := fun i k => laws_markIntS.l0 k ((List.range i).map (mkI a) ++ l.drop i) (a + (i : Int)) (i : Int)) l.length ?_ ?_
    · refine Ev_at 1 (fun k => ?_)
      simp only [laws_markIntS.l0]
      rw [if_neg (by simp)]
      simp
    · intro i hi ih
      have hlen : ((List.range i).map (mkI a) ++ l.drop i).length = l.length := by simp; omega
      have w0 : wrap64 (a + (i : Int) + 1) = a + (i : Int) + 1 := by unfold wrap64; omega
      have hfin : a + ((i + 1 : Nat) : Int) = a + (i : Int) + 1 := by omega
      refine Ev.step (f := fun k => laws_markIntS.l0 k ((List.range (i + 1)).map (mkI a) ++ l.drop (i + 1)) (a + ((i + 1 : Nat) : Int)) ((i + 1 : Nat) : Int)) (fun k => ?_) ih
      rw [← mark_fill (mkI a) l i hi, hfin]
      simp only [laws_markIntS.l0, Option.bind_some, hlen]
      rw [if_pos (by omega), if_pos (by omega), wrap_up i (by omega)]
      simp only [Int.toNat_natCast, w0, List.set_set]
      rfl
  have := key 0 (Nat.zero_le _)
  unfold laws_markIntS.f
  simpa using this
theorem laws_heldIntS_ev (n : Nat) (h : n ≤ 1048576) (a : Int) (h0 : 0 ≤ a) (h1 : a ≤ 1000000000) : Ev (fun k => laws_heldIntS.f k ((List.range n).map (mkI a)) a) (a + (n : Int)) := by
  have key : ∀ i, i ≤ n → Ev (fun k => laws_heldIntS.l0 k ((List.range n).map (mkI a)) (a + (i : Int)) (i : Int)) (a + (n : Int)) := by
    refine Ev_down (L := fun i k => laws_heldIntS.l0 k ((List.range n).map (mkI a)) (a + (i : Int)) (i : Int)) n ?_ ?_
    · refine Ev_at 1 (fun k => ?_)
      simp only [laws_heldIntS.l0]
      rw [if_neg (by simp)]
    · intro i hi ih
      have hr : rd ((List.range n).map (mkI a)) (i : Int) = mkI a i := by simp [rd, List.getD_eq_getElem?_getD, hi]
      have w0 : wrap64 (a + (i : Int) + 1) = a + (i : Int) + 1 := by unfold wrap64; omega
      have hfin : a + ((i + 1 : Nat) : Int) = a + (i : Int) + 1 := by omega
      refine Ev.step (f := fun k => laws_heldIntS.l0 k ((List.range n).map (mkI a)) (a + ((i + 1 : Nat) : Int)) ((i + 1 : Nat) : Int)) (fun k => ?_) ih
      rw [hfin]
      simp only [laws_heldIntS.l0, hr, mkI, w0]
      rw [if_pos (by simp; omega), if_pos (by omega), wrap_up i (by omega)]
      simp only [if_true]
  have := key 0 (Nat.zero_le _)
  unfold laws_heldIntS.f
  simpa using this
theorem laws_markRows_ev (l0 : List Int) (a1 : Int) (h0 : l0.length ≤ 1048576) (a : Int) (h_0 : 0 ≤ a) (h_1 : a ≤ 100000000) : Ev (fun k => laws_markRows.f k l0 a1 a) (a + (l0.length : Int), (List.range l0.length).map (mkI (a))) := by
  unfold laws_markRows.f
  refine Ev.bind (laws_markIntS_ev l0 h0 (a) (by omega) (by omega)) ?_
  exact Ev.now _
theorem laws_heldRows_ev (l0 : List Int) (a1 : Int) (h0 : l0.length ≤ 1048576) (a : Int) (h_0 : 0 ≤ a) (h_1 : a ≤ 100000000) : Ev (fun k => laws_heldRows.f k ((List.range l0.length).map (mkI (a))) a1 a) (a + (l0.length : Int)) := by
  unfold laws_heldRows.f
  refine Ev.bind (laws_heldIntS_ev l0.length h0 (a) (by omega) (by omega)) ?_
  simp only [if_neg (show ¬ (a + (l0.length : Int)) < 0 by omega)]
  exact Ev.now _
theorem laws_markRes_ev (a0 : Int) (l1 : List Int) (h1 : l1.length ≤ 1048576) (a : Int) (h_0 : 0 ≤ a) (h_1 : a ≤ 100000000) : Ev (fun k => laws_markRes.f k a0 l1 a) (a + (l1.length : Int), (List.range l1.length).map (mkI (a))) := by
  unfold laws_markRes.f
  refine Ev.bind (laws_markIntS_ev l1 h1 (a) (by omega) (by omega)) ?_
  exact Ev.now _
theorem spec_KeyOk_eq (x : Int) : spec_KeyOk.f x = some (keyOk x) := by simp [spec_KeyOk.f, spec_l1In_eq, keyOk]
theorem impl_KeyOk_eq (x : Int) : impl_KeyOk.f x = some (keyOk x) := by simp [impl_KeyOk.f, impl_from_eq, keyOk]
theorem spec_ValOk_eq (x : Int) : spec_ValOk.f x = some (valOk x) := by simp [spec_ValOk.f, spec_l1In_eq, valOk]
theorem impl_ValOk_eq (x : Int) : impl_ValOk.f x = some (valOk x) := by simp [impl_ValOk.f, impl_from_eq, valOk]
def opOk (o k v : Int) : Bool :=
  if o = 1 ∨ o = 2 then keyOk k && valOk v
  else if o = 3 ∨ o = 4 then keyOk k && v == 0
  else if o = 5 ∨ o = 10 then k == 0 && valOk v
  else if o = 6 then isClass k && v == 0
  else if o = 7 ∨ o = 8 ∨ o = 9 then k == 0 && v == 0
  else false
theorem impl_isClass_eq (x : Int) : impl_isClass.f x = some (isClass x) := by simp [impl_isClass.f, impl_from_eq, isClass]
theorem spec_l4Key_eq (x : Int) : spec_l4Key.f x = some (inR x 1 4) := by simp [spec_l4Key.f, spec_l1In_eq]
theorem op_cases (o : Int) : o = 1 ∨ o = 2 ∨ o = 3 ∨ o = 4 ∨ o = 5 ∨ o = 6 ∨ o = 7 ∨ o = 8 ∨ o = 9 ∨ o = 10 ∨ (o < 1 ∨ 10 < o) := by omega
theorem spec_l4Val_eq (o : Int) : spec_l4Val.f o = some (o == 1 || o == 2 || o == 5 || o == 10) := by
  unfold spec_l4Val.f
  by_cases h1 : o = 1 <;> by_cases h2 : o = 2 <;> by_cases h3 : o = 5 <;> simp [h1, h2, h3]
theorem bsel (a b : Bool) (x : Bool) : (if a = true then (if b = true then some x else some false) else some false) = some (a && b && x) := by cases a <;> cases b <;> rfl
theorem bsel2 (a : Bool) (x : Bool) : (if a = true then some x else some false) = some (a && x) := by cases a <;> rfl
theorem spec_OpOk_eq (o k v : Int) (n : Nat) : spec_OpOk.f (n + 2) o k v = some (opOk o k v) := by
  simp only [spec_OpOk.f, spec_OpOk.j0, spec_OpOk.j1, spec_l1In_eq, spec_l4Key_eq, spec_KeyOk_eq, spec_ValOk_eq, spec_l4Val_eq, Option.bind_some, bsel2, opOk, isClass]
  rcases op_cases o with h | h | h | h | h | h | h | h | h | h | h
  case inr.inr.inr.inr.inr.inr.inr.inr.inr.inr =>
    have e : inR o 1 10 = false := by simp [inR]; omega
    rw [e, if_neg (by simp), if_neg (by omega), if_neg (by omega), if_neg (by omega), if_neg (by omega), if_neg (by omega)]
  all_goals
    subst h
    simp [inR]
theorem impl_OpOk_eq (o k v : Int) (n : Nat) : impl_OpOk.f (n + 3) o k v = some (opOk o k v) := by
  simp only [impl_OpOk.f, impl_OpOk.j0, impl_OpOk.j1, impl_OpOk.j2, impl_from_eq, impl_KeyOk_eq, impl_ValOk_eq, impl_isClass_eq, Option.bind_some, bsel2, opOk]
  rcases op_cases o with h | h | h | h | h | h | h | h | h | h | h
  case inr.inr.inr.inr.inr.inr.inr.inr.inr.inr =>
    have e1 : o ≠ 1 := by omega
    have e2 : o ≠ 2 := by omega
    have e3 : o ≠ 3 := by omega
    have e4 : o ≠ 4 := by omega
    have e5 : o ≠ 5 := by omega
    have e6 : o ≠ 6 := by omega
    have e7 : o ≠ 7 := by omega
    have e8 : o ≠ 8 := by omega
    have e9 : o ≠ 9 := by omega
    have e10 : o ≠ 10 := by omega
    simp [e1, e2, e3, e4, e5, e6, e7, e8, e9, e10]
  all_goals
    subst h
    by_cases h3 : k = 0 <;> simp [h3]
def idxF (v : Int) : List Int → Int → Int
  | [], _ => -1
  | x :: xs, i => if x = v then i else idxF v xs (i + 1)
theorem idxF_new (v : Int) (rest : List Int) : ∀ (pre : List Int) (j : Int), v ∉ pre → idxF v (pre ++ v :: rest) j = j + pre.length
  | [], j, _ => by simp [idxF]
  | x :: xs, j, h => by
    have h1 : x ≠ v := fun e => h (by simp [e])
    have h2 : v ∉ xs := fun e => h (by simp [e])
    simp only [List.cons_append, idxF, if_neg h1, idxF_new v rest xs (j + 1) h2, List.length_cons]
    omega
theorem idxF_old (v : Int) (rest : List Int) : ∀ (pre : List Int) (j : Int), v ∈ pre → j ≤ idxF v (pre ++ rest) j ∧ idxF v (pre ++ rest) j < j + pre.length
  | [], j, h => by simp at h
  | x :: xs, j, h => by
    by_cases h1 : x = v
    · simp only [List.cons_append, idxF, if_pos h1, List.length_cons]; omega
    · have h2 : v ∈ xs := by simpa [Ne.symm h1] using h
      have := idxF_old v rest xs (j + 1) h2
      simp only [List.cons_append, idxF, if_neg h1, List.length_cons]; omega
theorem idxF_none (v : Int) : ∀ (l : List Int) (j : Int), v ∉ l → idxF v l j = -1
  | [], j, _ => rfl
  | x :: xs, j, h => by
    have h1 : x ≠ v := fun e => h (by simp [e])
    have h2 : v ∉ xs := fun e => h (by simp [e])
    simp only [idxF, if_neg h1, idxF_none v xs (j + 1) h2]
theorem idxF_mem (v : Int) (l : List Int) : decide (idxF v l 0 ≥ 0) = decide (v ∈ l) := by
  by_cases h : v ∈ l
  · have := idxF_old v [] l 0 h
    simp only [List.append_nil] at this
    simp [h, this.1]
  · rw [idxF_none v l 0 h]; simp [h]
theorem spec_KeyOf_ev (l : List Int) (st v : Int) (hl : l.length ≤ 1048576) : Ev (fun k => spec_KeyOf.f k l st v) (idxF v l 0) := by
  have key : ∀ i, i ≤ l.length → Ev (fun k => spec_KeyOf.l0 k v (i : Int) l st) (idxF v (l.drop i) i) := by
    refine Ev_downR (L := fun i k => spec_KeyOf.l0 k v (i : Int) l st) (R := fun i => idxF v (l.drop i) i) l.length ?_ ?_
    · refine Ev_at 1 (fun k => ?_)
      simp only [spec_KeyOf.l0]
      rw [if_neg (by omega)]
      simp [idxF]
    · intro i hi ih
      refine Ev.step (f := fun k => if l[i] = v then some (i : Int) else spec_KeyOf.l0 k v ((i + 1 : Nat) : Int) l st) (fun k => ?_) ?_
      · simp only [spec_KeyOf.l0]
        rw [if_pos (by omega), if_pos (by omega), rd_at l i hi, wrap_up i (by omega)]
      · rw [List.drop_eq_getElem_cons hi]
        by_cases h : l[i] = v
        · simp only [if_pos h, idxF]; exact Ev.now _
        · simp only [if_neg h, idxF]; exact ih
  exact key 0 (Nat.zero_le _)
theorem slices_Index_ev (l : List Int) (v : Int) (hl : l.length ≤ 1048576) : Ev (fun k => slices_Index_int_int.f k l v) (idxF v l 0) := by
  have key : ∀ i, i ≤ l.length → Ev (fun k => slices_Index_int_int.l0 k l v (l.length : Int) (i : Int)) (idxF v (l.drop i) i) := by
    refine Ev_downR (L := fun i k => slices_Index_int_int.l0 k l v (l.length : Int) (i : Int)) (R := fun i => idxF v (l.drop i) i) l.length ?_ ?_
    · refine Ev_at 1 (fun k => ?_)
      simp only [slices_Index_int_int.l0]
      rw [if_neg (by omega)]
      simp [idxF]
    · intro i hi ih
      refine Ev.step (f := fun k => if l[i] = v then some (i : Int) else slices_Index_int_int.l0 k l v (l.length : Int) ((i + 1 : Nat) : Int)) (fun k => ?_) ?_
      · simp only [slices_Index_int_int.l0]
        rw [if_pos (by omega), if_pos (by omega), if_pos (by omega), rd_at l i hi, wrap_up i (by omega)]
        by_cases h : l[i] = v
        · rw [if_pos h, if_pos h.symm]
        · rw [if_neg h, if_neg (Ne.symm h)]
      · rw [List.drop_eq_getElem_cons hi]
        by_cases h : l[i] = v
        · simp only [if_pos h, idxF]; exact Ev.now _
        · simp only [if_neg h, idxF]; exact ih
  exact key 0 (Nat.zero_le _)
theorem impl_KeyOf_ev (l : List Int) (st v : Int) (hl : l.length ≤ 1048576) : Ev (fun k => impl_KeyOf.f k l st v) (idxF v l 0) := by
  unfold impl_KeyOf.f
  exact Ev.bind (slices_Index_ev l v hl) (Ev.now _)
theorem slices_Contains_ev (l : List Int) (v : Int) (hl : l.length ≤ 1048576) : Ev (fun k => slices_Contains_int_int.f k l v) (decide (v ∈ l)) := by
  unfold slices_Contains_int_int.f
  refine Ev.bind (slices_Index_ev l v hl) ?_
  rw [← idxF_mem]
  exact Ev.now _
def heldOk : List Int → List Int → Bool
  | _, [] => true
  | pre, v :: vs => (v == 0 || (valOk v && !decide (v ∈ pre))) && heldOk (pre ++ [v]) vs
def rowsOk (l : List Int) (s : Int) : Bool := heldOk [] l && (decide ((l.length : Int) = 4) && inR s 0 5)
theorem idx_here (l : List Int) (i : Nat) (hi : i < l.length) : decide (idxF l[i] l 0 = (i : Int)) = !decide (l[i] ∈ l.take i) := by
  have hs : l = l.take i ++ l[i] :: l.drop (i + 1) := by rw [← List.drop_eq_getElem_cons hi, List.take_append_drop]
  have hlen : (l.take i).length = i := by simp; omega
  by_cases h : l[i] ∈ l.take i
  · have := idxF_old l[i] (l[i] :: l.drop (i + 1)) (l.take i) 0 h
    rw [← hs, hlen] at this
    simp [h]; omega
  · have := idxF_new l[i] (l.drop (i + 1)) (l.take i) 0 h
    rw [← hs, hlen] at this
    simp [h, this]
theorem heldOk_at (l : List Int) (i : Nat) (hi : i < l.length) : heldOk (l.take i) (l.drop i) = ((l[i] == 0 || (valOk l[i] && !decide (l[i] ∈ l.take i))) && heldOk (l.take (i + 1)) (l.drop (i + 1))) := by
  rw [List.drop_eq_getElem_cons hi, List.take_succ_eq_append_getElem hi]; rfl
theorem spec_RowsOk_ev (l : List Int) (st : Int) (hl : l.length ≤ 1048576) : Ev (fun k => spec_RowsOk.f k l st) (rowsOk l st) := by
  have key : ∀ i, i ≤ l.length → Ev (fun k => spec_RowsOk.l0 k (i : Int) l st) (heldOk (l.take i) (l.drop i) && (decide ((l.length : Int) = 4) && inR st 0 5)) := by
    refine Ev_downR (L := fun i k => spec_RowsOk.l0 k (i : Int) l st) (R := fun i => heldOk (l.take i) (l.drop i) && (decide ((l.length : Int) = 4) && inR st 0 5)) l.length ?_ ?_
    · refine Ev_at 1 (fun k => ?_)
      simp only [spec_RowsOk.l0, spec_l1In_eq, Option.bind_some]
      rw [if_neg (by omega)]
      by_cases h : (l.length : Int) = 4 <;> simp [h, heldOk]
    · intro i hi ih
      refine Ev.step (f := fun k => if l[i] = 0 then spec_RowsOk.l0 k ((i + 1 : Nat) : Int) l st else (if valOk l[i] = true then (spec_KeyOf.f k l st l[i]).bind fun t => (if t = (i : Int) then spec_RowsOk.l0 k ((i + 1 : Nat) : Int) l st else some false) else some false)) (fun k => ?_) ?_
      · simp only [spec_RowsOk.l0, spec_ValOk_eq, Option.bind_some]
        rw [if_pos (by omega), if_pos (by omega), rd_at l i hi, wrap_up i (by omega)]
      · rw [heldOk_at l i hi]
        by_cases h : l[i] = 0
        · have e : (l[i] == 0 || (valOk l[i] && !decide (l[i] ∈ l.take i))) = true := by simp [h]
          simp only [if_pos h, e, Bool.true_and]; exact ih
        · simp only [if_neg h]
          cases hv : valOk l[i]
          · have e : (l[i] == 0 || (false && !decide (l[i] ∈ l.take i))) = false := by simp [h]
            rw [e]
            simp only [Bool.false_and, Bool.false_eq_true, if_false]; exact Ev.now _
          · simp only [if_true]
            refine Ev.bind (spec_KeyOf_ev l st l[i] hl) ?_
            have := idx_here l i hi
            by_cases h2 : l[i] ∈ l.take i
            · rw [decide_eq_true h2] at this
              have h3 : ¬ idxF l[i] l 0 = (i : Int) := by simpa using this
              have e : (l[i] == 0 || (true && !decide (l[i] ∈ l.take i))) = false := by simp [h, h2]
              rw [e]
              simp only [if_neg h3, Bool.false_and]; exact Ev.now _
            · rw [decide_eq_false h2] at this
              have h3 : idxF l[i] l 0 = (i : Int) := by simpa using this
              have e : (l[i] == 0 || (true && !decide (l[i] ∈ l.take i))) = true := by simp [h, h2]
              rw [e]
              simp only [if_pos h3, Bool.true_and]; exact ih
  have := key 0 (Nat.zero_le _)
  simpa [spec_RowsOk.f, rowsOk] using this
theorem impl_RowsOk_ev (l : List Int) (st : Int) (hl : l.length ≤ 1048576) : Ev (fun k => impl_RowsOk.f k l st) (rowsOk l st) := by
  have key : ∀ i, i ≤ l.length → Ev (fun k => impl_RowsOk.l0 k l (l.length : Int) (i : Int) l st) (heldOk (l.take i) (l.drop i) && (decide ((l.length : Int) = 4) && inR st 0 5)) := by
    refine Ev_downR (L := fun i k => impl_RowsOk.l0 k l (l.length : Int) (i : Int) l st) (R := fun i => heldOk (l.take i) (l.drop i) && (decide ((l.length : Int) = 4) && inR st 0 5)) l.length ?_ ?_
    · refine Ev_at 1 (fun k => ?_)
      simp only [impl_RowsOk.l0, impl_from_eq, Option.bind_some]
      rw [if_neg (by omega)]
      by_cases h : (l.length : Int) = 4 <;> simp [h, heldOk]
    · intro i hi ih
      refine Ev.step (f := fun k => if l[i] = 0 then impl_RowsOk.l0 k l (l.length : Int) ((i + 1 : Nat) : Int) l st else (if valOk l[i] = true then (slices_Contains_int_int.f k (l.take i) l[i]).bind fun t => (if t = true then some false else impl_RowsOk.l0 k l (l.length : Int) ((i + 1 : Nat) : Int) l st) else some false)) (fun k => ?_) ?_
      · simp only [impl_RowsOk.l0, impl_ValOk_eq, Option.bind_some]
        rw [if_pos (by omega), if_pos (by omega), if_pos (by omega), rd_at l i hi, wrap_up i (by omega), if_pos (show (i : Int) ≤ (l.length : Int) by omega), Int.toNat_natCast]
      · rw [heldOk_at l i hi]
        by_cases h : l[i] = 0
        · have e : (l[i] == 0 || (valOk l[i] && !decide (l[i] ∈ l.take i))) = true := by simp [h]
          simp only [if_pos h, e, Bool.true_and]; exact ih
        · simp only [if_neg h]
          cases hv : valOk l[i]
          · have e : (l[i] == 0 || (false && !decide (l[i] ∈ l.take i))) = false := by simp [h]
            rw [e]
            simp only [Bool.false_and, Bool.false_eq_true, if_false]; exact Ev.now _
          · simp only [if_true]
            refine Ev.bind (slices_Contains_ev (l.take i) l[i] (Nat.le_trans (List.length_take_le' _ _) hl)) ?_
            by_cases h2 : l[i] ∈ l.take i
            · have e : (l[i] == 0 || (true && !decide (l[i] ∈ l.take i))) = false := by simp [h, h2]
              rw [e]
              simp only [decide_eq_true h2, if_true, Bool.false_and]; exact Ev.now _
            · have e : (l[i] == 0 || (true && !decide (l[i] ∈ l.take i))) = true := by simp [h, h2]
              rw [e]
              simp only [decide_eq_false h2, Bool.false_eq_true, if_false, Bool.true_and]; exact ih
  have := key 0 (Nat.zero_le _)
  simpa [impl_RowsOk.f, rowsOk] using this
theorem spec_ClassOf_eq (v : Int) : spec_ClassOf.f v = some (classOf v) := by
  simp only [spec_ClassOf.f, spec_ValOk_eq, Option.bind_some, classOf]
  split <;> rfl
theorem impl_ClassOf_eq (v : Int) : impl_ClassOf.f v = some (classOf v) := by
  simp only [impl_ClassOf.f, impl_ValOk_eq, Option.bind_some, classOf]
  split <;> rfl
def cnt (c : Int) (l : List Int) : Nat := (l.filter (fun v => valOk v && classOf v == c)).length
theorem cnt_take (c : Int) (l : List Int) (i : Nat) (hi : i < l.length) : cnt c (l.take (i + 1)) = cnt c (l.take i) + if valOk l[i] && classOf l[i] == c then 1 else 0 := by
  unfold cnt
  rw [List.take_succ_eq_append_getElem hi, List.filter_append, List.length_append]
  cases h : valOk l[i] && classOf l[i] == c <;> simp [h]
theorem cnt_le (c : Int) (l : List Int) : cnt c l ≤ l.length := List.length_filter_le _ _
theorem spec_HowMany_ev (l : List Int) (st c : Int) (hl : l.length ≤ 1048576) : Ev (fun k => spec_HowMany.f k l st c) (cnt c l : Int) := by
  have key : ∀ i, i ≤ l.length → Ev (fun k => spec_HowMany.l0 k c (cnt c (l.take i) : Int) (i : Int) l st) (cnt c l : Int) := by
    refine Ev_down (L := fun i k => spec_HowMany.l0 k c (cnt c (l.take i) : Int) (i : Int) l st) l.length ?_ ?_
    · refine Ev_at 1 (fun k => ?_)
      simp only [spec_HowMany.l0]
      rw [if_neg (by omega)]
      simp
    · intro i hi ih
      have hc := cnt_le c (l.take i)
      have hc2 : (l.take i).length ≤ i := List.length_take_le _ _
      have w0 : wrap64 (cnt c (l.take i) : Int) = (cnt c (l.take i) : Int) := by unfold wrap64; omega
      have w1 : wrap64 ((cnt c (l.take i) : Int) + 1) = (cnt c (l.take i) : Int) + 1 := by unfold wrap64; omega
      refine Ev.step (f := fun k => spec_HowMany.l0 k c (cnt c (l.take (i + 1)) : Int) ((i + 1 : Nat) : Int) l st) (fun k => ?_) ih
      simp only [spec_HowMany.l0]
      rw [if_pos (by omega), if_pos (by omega), wrap_up i (by omega), rd_at l i hi, cnt_take c l i hi]
      simp only [spec_ValOk_eq, spec_ClassOf_eq, spec_l1Bit.f, Option.bind_some]
      cases h1 : valOk l[i]
      · simp [w0]
      · by_cases h2 : classOf l[i] = c <;> simp [h2, w0, w1]
  exact key 0 (Nat.zero_le _)
theorem impl_HowMany_ev (l : List Int) (st c : Int) (hl : l.length ≤ 1048576) : Ev (fun k => impl_HowMany.f k l st c) (cnt c l : Int) := by
  have key : ∀ i, i ≤ l.length → Ev (fun k => impl_HowMany.l0 k c (cnt c (l.take i) : Int) l (l.length : Int) (i : Int)) (cnt c l : Int) := by
    refine Ev_down (L := fun i k => impl_HowMany.l0 k c (cnt c (l.take i) : Int) l (l.length : Int) (i : Int)) l.length ?_ ?_
    · refine Ev_at 1 (fun k => ?_)
      simp only [impl_HowMany.l0]
      rw [if_neg (by omega)]
      simp
    · intro i hi ih
      have hc := cnt_le c (l.take i)
      have hc2 : (l.take i).length ≤ i := List.length_take_le _ _
      have w1 : wrap64 ((cnt c (l.take i) : Int) + 1) = (cnt c (l.take i) : Int) + 1 := by unfold wrap64; omega
      refine Ev.step (f := fun k => impl_HowMany.l0 k c (cnt c (l.take (i + 1)) : Int) l (l.length : Int) ((i + 1 : Nat) : Int)) (fun k => ?_) ih
      simp only [impl_HowMany.l0]
      rw [if_pos (by omega), if_pos (by omega), if_pos (by omega), wrap_up i (by omega), rd_at l i hi, cnt_take c l i hi]
      simp only [impl_ValOk_eq, impl_ClassOf_eq, Option.bind_some]
      cases h1 : valOk l[i]
      · simp
      · by_cases h2 : classOf l[i] = c <;> simp [h2, w1]
  exact key 0 (Nat.zero_le _)
def zipEq : List Int → List Int → Bool
  | [], [] => true
  | x :: xs, y :: ys => x == y && zipEq xs ys
  | _, _ => false
theorem zipEq_len : ∀ (a b : List Int), a.length ≠ b.length → zipEq a b = false
  | [], [], h => absurd rfl h
  | x :: xs, [], _ => rfl
  | [], y :: ys, _ => rfl
  | x :: xs, y :: ys, h => by simp [zipEq, zipEq_len xs ys (by simpa using h)]
theorem zipEq_self : ∀ (a : List Int), zipEq a a = true
  | [] => rfl
  | x :: xs => by simp [zipEq, zipEq_self xs]
theorem zipEq_eq : ∀ (a b : List Int), zipEq a b = decide (a = b)
  | [], [] => rfl
  | x :: xs, [] => rfl
  | [], y :: ys => rfl
  | x :: xs, y :: ys => by
    by_cases h : x = y <;> simp [zipEq, zipEq_eq xs ys, h]
theorem spec_l4Ints_ev (a b : List Int) (ha : a.length ≤ 1048576) (hb : b.length ≤ 1048576) : Ev (fun k => spec_l4Ints.f k a b) (zipEq a b) := by
  have key : ∀ i, i ≤ a.length → (i ≤ b.length → Ev (fun k => spec_l4Ints.l0 k a b (i : Int)) (zipEq (a.drop i) (b.drop i))) := by
    have step : ∀ d i, i + d = a.length → i ≤ b.length → Ev (fun k => spec_l4Ints.l0 k a b (i : Int)) (zipEq (a.drop i) (b.drop i)) := by
      intro d
      induction d with
      | zero =>
        intro i hi hib
        obtain rfl : i = a.length := by omega
        refine Ev_at 2 (fun k => ?_)
        simp only [spec_l4Ints.l0]
        rw [if_neg (by omega)]
        simp only [spec_l4Ints.j1]
        rw [if_neg (by simp), List.drop_length]
        congr 1
        by_cases h : a.length = b.length
        · rw [h, List.drop_length]; simp [zipEq]
        · rw [zipEq_len _ _ (by simp; omega)]; simp; omega
      | succ d ih =>
        intro i hi hib
        have hia : i < a.length := by omega
        by_cases h : i < b.length
        · refine Ev.step (f := fun k => spec_l4Ints.j1 k a b (i : Int) true) (fun k => ?_) ?_
          · simp only [spec_l4Ints.l0]
            rw [if_pos (by omega), decide_eq_true (by omega)]
          · refine Ev.step (f := fun k => if a[i] = b[i] then spec_l4Ints.l0 k a b ((i + 1 : Nat) : Int) else some false) (fun k => ?_) ?_
            · simp only [spec_l4Ints.j1]
              rw [if_pos trivial, if_pos (by omega), if_pos (by omega), if_pos (by omega), rd_at a i hia, rd_at b i h, wrap_up i (by omega)]
            · rw [List.drop_eq_getElem_cons hia, List.drop_eq_getElem_cons h]
              by_cases e : a[i] = b[i]
              · simp only [if_pos e, zipEq]
                rw [e, beq_self_eq_true, Bool.true_and]
                exact ih (i + 1) (by omega) (by omega)
              · simp only [if_neg e, zipEq, beq_eq_false_iff_ne.mpr e, Bool.false_and]
                exact Ev.now _
        · obtain rfl : i = b.length := by omega
          refine Ev_at 2 (fun k => ?_)
          simp only [spec_l4Ints.l0]
          rw [if_pos (by omega), decide_eq_false (by omega)]
          simp only [spec_l4Ints.j1]
          rw [if_neg (by simp), zipEq_len _ _ (by simp; omega)]
          congr 1
          simp; omega
    intro i hi hib
    exact step (a.length - i) i (by omega) hib
  exact key 0 (Nat.zero_le _) (Nat.zero_le _)
theorem slices_Equal_ev (a b : List Int) (ha : a.length ≤ 1048576) (hb : b.length ≤ 1048576) : Ev (fun k => slices_Equal_int_int.f k a b) (zipEq a b) := by
  unfold slices_Equal_int_int.f
  by_cases h : a.length = b.length
  · have key : ∀ i, i ≤ a.length → Ev (fun k => slices_Equal_int_int.l0 k a b (a.length : Int) (i : Int)) (zipEq (a.drop i) (b.drop i)) := by
      refine Ev_downR (L := fun i k => slices_Equal_int_int.l0 k a b (a.length : Int) (i : Int)) (R := fun i => zipEq (a.drop i) (b.drop i)) a.length ?_ ?_
      · refine Ev_at 1 (fun k => ?_)
        simp only [slices_Equal_int_int.l0]
        rw [if_neg (by omega), List.drop_length, h, List.drop_length]
        rfl
      · intro i hi ih
        have hib : i < b.length := by omega
        refine Ev.step (f := fun k => if a[i] = b[i] then slices_Equal_int_int.l0 k a b (a.length : Int) ((i + 1 : Nat) : Int) else some false) (fun k => ?_) ?_
        · simp only [slices_Equal_int_int.l0]
          rw [if_pos (by omega), if_pos (by omega), if_pos (by omega), if_pos (by omega), rd_at a i hi, rd_at b i hib, wrap_up i (by omega)]
        · rw [List.drop_eq_getElem_cons hi, List.drop_eq_getElem_cons hib]
          by_cases e : a[i] = b[i]
          · simp only [if_pos e, zipEq]
            rw [e, beq_self_eq_true, Bool.true_and]
            exact ih
          · simp only [if_neg e, zipEq, beq_eq_false_iff_ne.mpr e, Bool.false_and]
            exact Ev.now _
    have hc : (a.length : Int) = (b.length : Int) := by omega
    simp only [if_pos hc]
    exact key 0 (Nat.zero_le _)
  · have hc : ¬ (a.length : Int) = (b.length : Int) := by omega
    simp only [if_neg hc, zipEq_len a b h]
    exact Ev.now _
theorem Ev_some {α : Type} {r r' : α} (h : r = r') : Ev (fun _ => some r) r' := h ▸ Ev.now _
def failsC (l : List Int) (st o k v code : Int) : Bool :=
  if code = 1 then (if o = 1 then rd l k != 0 else false)
  else if code = 2 then (if o = 1 ∨ o = 2 then decide (idxF v l 0 ≥ 0) else false)
  else if code = 3 then (if o = 2 ∨ o = 3 ∨ o = 4 then rd l k == 0 else if o = 5 then !decide (idxF v l 0 ≥ 0) else if o = 10 then (st == 5 && !decide (idxF v l 0 ≥ 0)) else false)
  else if code = 4 then (if o = 8 then st != 0 else if o = 9 then (st == 0 || st == 5) else if o = 10 then !(st == 5) else false)
  else false
def doneC (l : List Int) (st o k v : Int) : List Int × Bool :=
  if o = 1 then ([], rd l k == 0 && decide (idxF v l 0 < 0))
  else if o = 2 then ([], !(rd l k == 0) && (decide (idxF v l 0 < 0) || idxF v l 0 == k))
  else if o = 3 then ([], rd l k != 0)
  else if o = 4 then ([rd l k], rd l k != 0)
  else if o = 5 then ([idxF v l 0], decide (idxF v l 0 ≥ 0))
  else if o = 6 then ([(cnt k l : Int)], true)
  else if o = 7 then (l, true)
  else if o = 8 then ([], st == 0)
  else if o = 9 then ([], inR st 1 4)
  else ([idxF v l 0], st == 5 && decide (idxF v l 0 ≥ 0))
theorem spec_l4Fails_ev (l : List Int) (st o k v code : Int) (hl : l.length ≤ 1048576) (hk : o = 1 ∨ o = 2 ∨ o = 3 ∨ o = 4 → 0 ≤ k ∧ k < (l.length : Int)) : Ev (fun n => spec_l4Fails.f n l st o k v code) (failsC l st o k v code) := by
  unfold spec_l4Fails.f
  refine Ev.bind (spec_KeyOf_ev l st v hl) ?_
  generalize hq : idxF v l 0 = q
  by_cases c1 : code = 1
  · subst c1
    simp only [failsC, if_true]
    by_cases ho : o = 1
    · obtain ⟨k0, k1⟩ := hk (by omega)
      simp only [if_pos ho, if_pos k0, if_pos k1]; exact Ev.now _
    · simp only [if_neg ho]; exact Ev.now _
  by_cases c2 : code = 2
  · subst c2
    simp only [failsC, hq, if_neg (show ¬ (2 : Int) = 1 by decide), if_true]
    by_cases ho : o = 1
    · simp only [if_pos ho, ho, true_or, if_true]; exact Ev.now _
    · by_cases ho2 : o = 2
      · simp only [if_neg ho, if_pos ho2, ho2, or_true, if_true]; exact Ev.now _
      · have : ¬ (o = 1 ∨ o = 2) := by omega
        simp only [if_neg ho, if_neg ho2, if_neg this]; exact Ev.now _
  by_cases c3 : code = 3
  · subst c3
    have hj : ∀ b : Bool, Ev (fun n => spec_l4Fails.j0 n (decide (q ≥ 0)) (st == 5) o b l st o k v) (if b then (rd l k == 0) else if o = 5 then !decide (q ≥ 0) else if o = 10 then (st == 5 && !decide (q ≥ 0)) else false) ∨ (b = true ∧ ¬ (o = 1 ∨ o = 2 ∨ o = 3 ∨ o = 4)) := by
      intro b
      by_cases hb : b = true ∧ ¬ (o = 1 ∨ o = 2 ∨ o = 3 ∨ o = 4)
      · exact .inr hb
      · left
        refine Ev_at 1 (fun n => ?_)
        simp only [spec_l4Fails.j0]
        cases b
        · simp only [Bool.false_eq_true, if_false]
          by_cases h5 : o = 5
          · simp only [if_pos h5]
          · by_cases h10 : o = 10
            · simp only [if_neg h5, if_pos h10]
              cases (st == 5) <;> rfl
            · simp only [if_neg h5, if_neg h10]
        · have hko : o = 1 ∨ o = 2 ∨ o = 3 ∨ o = 4 := Classical.byContradiction fun h => hb ⟨rfl, h⟩
          obtain ⟨k0, k1⟩ := hk hko
          simp only [if_true, if_pos k0, if_pos k1]
    simp only [failsC, hq, if_neg (show ¬ (3 : Int) = 1 by decide), if_neg (show ¬ (3 : Int) = 2 by decide), if_true]
    by_cases h2 : o = 2
    · have := (hj (o == 2)).resolve_right (fun h => h.2 (by omega))
      simp only [if_pos h2, h2, true_or, if_true] at this ⊢
      simpa using this
    · by_cases h3 : o = 3
      · have := (hj (o == 3)).resolve_right (fun h => h.2 (by omega))
        subst h3
        simpa using this
      · by_cases h4 : o = 4
        · have := (hj (o == 4)).resolve_right (fun h => h.2 (by omega))
          subst h4
          simpa using this
        · have e : (o == 4) = false := by simpa using h4
          have := (hj (o == 4)).resolve_right (fun h => by rw [e] at h; simp at h)
          have hn : ¬ (o = 2 ∨ o = 3 ∨ o = 4) := by omega
          rw [e] at this
          simp only [if_neg h2, if_neg h3, if_neg hn, e]
          simpa using this
  by_cases c4 : code = 4
  · subst c4
    simp only [failsC, if_neg (show ¬ (4 : Int) = 1 by decide), if_neg (show ¬ (4 : Int) = 2 by decide), if_neg (show ¬ (4 : Int) = 3 by decide), if_true]
    by_cases h8 : o = 8
    · simp only [if_pos h8]; exact Ev.now _
    · by_cases h9 : o = 9
      · simp only [if_neg h8, if_pos h9]
        by_cases h0 : st = 0
        · simp only [if_pos h0]; exact Ev_some (by simp [h0])
        · simp only [if_neg h0]; exact Ev_some (by simp [h0])
      · by_cases h10 : o = 10
        · simp only [if_neg h8, if_neg h9, if_pos h10]; exact Ev.now _
        · simp only [if_neg h8, if_neg h9, if_neg h10]; exact Ev.now _
  · simp only [failsC, if_neg c1, if_neg c2, if_neg c3, if_neg c4]; exact Ev.now _
theorem impl_refusal_j2 (l : List Int) (st o k v : Int) (c : Int) (n : Nat) (hc : c = 4 ∨ True) (b : Bool) : impl_refusal.j2 (n + 1) c b l st o k v = some (if b then (st == 0 || st == 5) else if c = 4 then (if o = 10 then !(st == 5) else false) else false) := by
  simp only [impl_refusal.j2, impl_made.f, Option.bind_some]
  cases b
  · simp only [Bool.false_eq_true, if_false]
    by_cases h : c = 4
    · by_cases h10 : o = 10 <;> simp [h, h10]
    · simp [h]
  · by_cases h0 : st = 0 <;> simp [h0]
theorem impl_refusal_j1 (l : List Int) (st o k v : Int) (c : Int) (n : Nat) (b : Bool) : impl_refusal.j1 (n + 2) c b l st o k v = some (if b then (st != 0) else if c = 4 then (if o = 9 then (st == 0 || st == 5) else if o = 10 then !(st == 5) else false) else false) := by
  simp only [impl_refusal.j1]
  cases b
  · simp only [Bool.false_eq_true, if_false]
    by_cases h : c = 4
    · rw [if_pos h, if_pos h, impl_refusal_j2 l st o k v c n (.inr trivial)]
      by_cases h9 : o = 9 <;> simp [h, h9]
    · rw [if_neg h, if_neg h, impl_refusal_j2 l st o k v c n (.inr trivial)]
      simp [h]
  · simp
theorem impl_refusal_ev (l : List Int) (st o k v code : Int) (hl : l.length ≤ 1048576) (hk : o = 1 ∨ o = 2 ∨ o = 3 ∨ o = 4 → 0 ≤ k ∧ k < (l.length : Int)) : Ev (fun n => impl_refusal.f n l st o k v code) (failsC l st o k v code) := by
  unfold impl_refusal.f
  refine Ev.bind (impl_KeyOf_ev l st v hl) ?_
  generalize hq : idxF v l 0 = q
  by_cases c1 : code = 1
  · subst c1
    simp only [failsC, if_true]
    by_cases ho : o = 1
    · obtain ⟨k0, k1⟩ := hk (by omega)
      simp only [if_pos ho, if_pos k0, if_pos k1]; exact Ev.now _
    · simp only [if_neg ho]; exact Ev.now _
  by_cases c2 : code = 2
  · subst c2
    simp only [failsC, hq, if_neg (show ¬ (2 : Int) = 1 by decide), if_true]
    by_cases ho : o = 1
    · simp only [if_pos ho, ho, true_or, if_true]; exact Ev.now _
    · by_cases ho2 : o = 2
      · simp only [if_neg ho, if_pos ho2, ho2, or_true, if_true]; exact Ev.now _
      · have : ¬ (o = 1 ∨ o = 2) := by omega
        simp only [if_neg ho, if_neg ho2, if_neg this]; exact Ev.now _
  have hneg : decide (q ≥ 0) = !decide (q < 0) := by by_cases h : q < 0 <;> simp [h] <;> omega
  by_cases c3 : code = 3
  · subst c3
    have hj : ∀ b : Bool, (b = true → o = 1 ∨ o = 2 ∨ o = 3 ∨ o = 4) → Ev (fun n => impl_refusal.j0 n 3 q b l st o k v) (if b then (rd l k == 0) else if o = 5 then !decide (q ≥ 0) else if o = 10 then (st == 5 && !decide (q ≥ 0)) else false) := by
      intro b hb
      refine Ev_at 1 (fun n => ?_)
      simp only [impl_refusal.j0, impl_made.f, Option.bind_some]
      cases b
      · rw [hneg]
        by_cases h0 : q < 0 <;> by_cases h5 : o = 5 <;> by_cases h10 : o = 10 <;> simp [h0, h5, h10]
      · obtain ⟨k0, k1⟩ := hk (hb rfl)
        simp only [if_true, if_pos k0, if_pos k1]
    simp only [failsC, hq, if_neg (show ¬ (3 : Int) = 1 by decide), if_neg (show ¬ (3 : Int) = 2 by decide), if_true]
    by_cases h2 : o = 2
    · have := hj true (fun _ => by omega)
      simp only [if_pos h2, h2, true_or, if_true] at this ⊢
      exact this
    · by_cases h3 : o = 3
      · have := hj true (fun _ => by omega)
        subst h3
        simpa using this
      · by_cases h4 : o = 4
        · have := hj true (fun _ => by omega)
          subst h4
          simpa using this
        · have e : (o == 4) = false := by simpa using h4
          have := hj false (fun h => by cases h)
          have hn : ¬ (o = 2 ∨ o = 3 ∨ o = 4) := by omega
          simp only [if_neg h2, if_neg h3, if_neg hn, e]
          simpa using this
  · have hj : Ev (fun n => impl_refusal.j0 n code q false l st o k v) (failsC l st o k v code) := by
      refine Ev_at 3 (fun n => ?_)
      simp only [impl_refusal.j0, Bool.false_eq_true, if_false, if_neg c3]
      by_cases c4 : code = 4
      · rw [if_pos c4, impl_refusal_j1 l st o k v code n]
        simp only [failsC, if_neg c1, if_neg c2, if_neg c3, if_pos c4]
        by_cases h8 : o = 8 <;> simp [h8]
      · rw [if_neg c4, impl_refusal_j1 l st o k v code n]
        simp [failsC, c1, c2, c3, c4]
    simp only [if_neg c1, if_neg c2, if_neg c3]
    exact hj
theorem spec_l4Done_ev (l : List Int) (st o k v : Int) (hl : l.length ≤ 1048576) (hk : o = 1 ∨ o = 2 ∨ o = 3 ∨ o = 4 → 0 ≤ k ∧ k < (l.length : Int)) : Ev (fun n => spec_l4Done.f n l st o k v) (doneC l st o k v) := by
  unfold spec_l4Done.f doneC
  simp only [Option.bind_some]
  refine Ev.bind (spec_KeyOf_ev l st v hl) ?_
  generalize idxF v l 0 = q
  by_cases h1 : o = 1
  · obtain ⟨k0, k1⟩ := hk (by omega)
    simp only [if_pos h1, if_pos k0, if_pos k1]
    by_cases hz : rd l k = 0
    · simp only [if_pos hz]; exact Ev_some (by simp [hz])
    · simp only [if_neg hz]; exact Ev_some (by simp [hz])
  by_cases h2 : o = 2
  · obtain ⟨k0, k1⟩ := hk (by omega)
    simp only [if_neg h1, if_pos h2, if_pos k0, if_pos k1]
    by_cases hz : rd l k = 0
    · simp only [if_pos hz]; exact Ev_some (by simp [hz])
    · simp only [if_neg hz]
      by_cases hq : q < 0
      · simp only [if_pos hq]; exact Ev_some (by simp [hz, hq])
      · simp only [if_neg hq]; exact Ev_some (by simp [hz, hq])
  by_cases h3 : o = 3
  · obtain ⟨k0, k1⟩ := hk (by omega)
    simp only [if_neg h1, if_neg h2, if_pos h3, if_pos k0, if_pos k1]; exact Ev.now _
  by_cases h4 : o = 4
  · obtain ⟨k0, k1⟩ := hk (by omega)
    simp only [if_neg h1, if_neg h2, if_neg h3, if_pos h4, if_pos k0, if_pos k1]; exact Ev.now _
  by_cases h5 : o = 5
  · simp only [if_neg h1, if_neg h2, if_neg h3, if_neg h4, if_pos h5]; exact Ev.now _
  by_cases h6 : o = 6
  · simp only [if_neg h1, if_neg h2, if_neg h3, if_neg h4, if_neg h5, if_pos h6]
    exact Ev.bind (spec_HowMany_ev l st k hl) (Ev.now _)
  by_cases h7 : o = 7
  · have hb : ([] : List Int).length + l.length < 17592186044416 := by simp; omega
    simp only [if_neg h1, if_neg h2, if_neg h3, if_neg h4, if_neg h5, if_neg h6, if_pos h7, if_pos hb, List.nil_append]; exact Ev.now _
  by_cases h8 : o = 8
  · simp only [if_neg h1, if_neg h2, if_neg h3, if_neg h4, if_neg h5, if_neg h6, if_neg h7, if_pos h8]; exact Ev.now _
  by_cases h9 : o = 9
  · simp only [if_neg h1, if_neg h2, if_neg h3, if_neg h4, if_neg h5, if_neg h6, if_neg h7, if_neg h8, if_pos h9, spec_l1In_eq, Option.bind_some]; exact Ev.now _
  simp only [if_neg h1, if_neg h2, if_neg h3, if_neg h4, if_neg h5, if_neg h6, if_neg h7, if_neg h8, if_neg h9]
  by_cases hs : st = 5
  · simp only [if_pos hs]; exact Ev_some (by simp [hs])
  · simp only [if_neg hs]; exact Ev_some (by simp [hs])
theorem impl_success_ev (l : List Int) (st o k v : Int) (hl : l.length ≤ 1048576) (hs5 : 0 ≤ st ∧ st ≤ 5) (hk : o = 1 ∨ o = 2 ∨ o = 3 ∨ o = 4 → 0 ≤ k ∧ k < (l.length : Int)) : Ev (fun n => impl_success.f n l st o k v) (doneC l st o k v) := by
  unfold impl_success.f doneC
  simp only [Option.bind_some]
  refine Ev.bind (impl_KeyOf_ev l st v hl) ?_
  generalize idxF v l 0 = q
  by_cases h1 : o = 1
  · obtain ⟨k0, k1⟩ := hk (by omega)
    simp only [if_pos h1, if_pos k0, if_pos k1]
    by_cases hz : rd l k = 0
    · simp only [if_pos hz]; exact Ev_some (by simp [hz])
    · simp only [if_neg hz]; exact Ev_some (by simp [hz])
  by_cases h2 : o = 2
  · obtain ⟨k0, k1⟩ := hk (by omega)
    simp only [if_neg h1, if_pos h2, if_pos k0, if_pos k1]
    by_cases hz : rd l k = 0
    · simp only [if_pos hz]; exact Ev_some (by simp [hz])
    · simp only [if_neg hz]
      by_cases hq : q < 0
      · simp only [if_pos hq]; exact Ev_some (by simp [hz, hq])
      · simp only [if_neg hq]; exact Ev_some (by simp [hz, hq])
  by_cases h3 : o = 3
  · obtain ⟨k0, k1⟩ := hk (by omega)
    simp only [if_neg h1, if_neg h2, if_pos h3, if_pos k0, if_pos k1]; exact Ev.now _
  by_cases h4 : o = 4
  · obtain ⟨k0, k1⟩ := hk (by omega)
    simp only [if_neg h1, if_neg h2, if_neg h3, if_pos h4, if_pos k0, if_pos k1]; exact Ev.now _
  by_cases h5 : o = 5
  · simp only [if_neg h1, if_neg h2, if_neg h3, if_neg h4, if_pos h5]; exact Ev.now _
  by_cases h6 : o = 6
  · simp only [if_neg h1, if_neg h2, if_neg h3, if_neg h4, if_neg h5, if_pos h6]
    exact Ev.bind (impl_HowMany_ev l st k hl) (Ev.now _)
  by_cases h7 : o = 7
  · simp only [if_neg h1, if_neg h2, if_neg h3, if_neg h4, if_neg h5, if_neg h6, if_pos h7]; exact Ev.now _
  by_cases h8 : o = 8
  · simp only [if_neg h1, if_neg h2, if_neg h3, if_neg h4, if_neg h5, if_neg h6, if_neg h7, if_pos h8]; exact Ev.now _
  by_cases h9 : o = 9
  · simp only [if_neg h1, if_neg h2, if_neg h3, if_neg h4, if_neg h5, if_neg h6, if_neg h7, if_neg h8, if_pos h9, impl_made.f, Option.bind_some]
    by_cases h0 : st = 0
    · simp only [if_pos h0]; exact Ev_some (by simp [h0, inR])
    · simp only [if_neg h0]
      refine Ev_some ?_
      have : inR st 1 4 = !(st == 5) := by
        by_cases h5 : st = 5
        · simp [h5, inR]
        · have a1 : 1 ≤ st := by omega
          have a2 : st ≤ 4 := by omega
          simp [inR, a1, a2, h5]
      rw [this]
  simp only [if_neg h1, if_neg h2, if_neg h3, if_neg h4, if_neg h5, if_neg h6, if_neg h7, if_neg h8, if_neg h9, impl_made.f, Option.bind_some]
  by_cases hq : q ≥ 0
  · simp only [if_pos hq]; exact Ev_some (by simp [hq])
  · simp only [if_neg hq]; exact Ev_some (by simp [hq])
def allowedC (l : List Int) (st o k v code : Int) (rl : List Int) : Bool :=
  rowsOk l st && (opOk o k v && (if code = 0 then (doneC l st o k v).2 && zipEq (doneC l st o k v).1 rl else decide (rl.length = 0) && failsC l st o k v code))
theorem doneC_len (l : List Int) (st o k v : Int) (hl : l.length ≤ 1048576) : (doneC l st o k v).1.length ≤ 1048576 := by
  unfold doneC
  repeat' split
  all_goals first | exact hl | simp
theorem opOk_key (o k v : Int) (h : opOk o k v = true) : o = 1 ∨ o = 2 ∨ o = 3 ∨ o = 4 → 0 ≤ k ∧ k < 4 := by
  intro ho
  unfold opOk at h
  have : keyOk k = true := by
    rcases ho with rfl | rfl | rfl | rfl <;> simp at h <;> exact h.1
  simp [keyOk, inR] at this
  omega
theorem rowsOk_len (l : List Int) (st : Int) (h : rowsOk l st = true) : l.length = 4 ∧ 0 ≤ st ∧ st ≤ 5 := by
  simp [rowsOk, inR] at h
  omega
theorem spec_Allowed_ev (l : List Int) (st o k v code : Int) (rl : List Int) (hl : l.length ≤ 1048576) (hr : rl.length ≤ 1048576) : Ev (fun n => spec_Allowed.f n l st o k v code rl) (allowedC l st o k v code rl) := by
  have hj : ∀ b : Bool, (b = false → rowsOk l st = true ∧ opOk o k v = true) → Ev (fun n => spec_Allowed.j0 n b l st o k v code rl) (!b && (if code = 0 then (doneC l st o k v).2 && zipEq (doneC l st o k v).1 rl else decide (rl.length = 0) && failsC l st o k v code)) := by
    intro b hb
    cases b
    · obtain ⟨h1, h2⟩ := hb rfl
      have hk : o = 1 ∨ o = 2 ∨ o = 3 ∨ o = 4 → 0 ≤ k ∧ k < (l.length : Int) := fun ho => by
        have := opOk_key o k v h2 ho
        have := (rowsOk_len l st h1).1
        omega
      refine Ev.step (f := fun n => if code = 0 then ((spec_l4Done.f n l st o k v).bind fun bt175 => (if bt175.2 = true then ((spec_l4Ints.f n bt175.1 rl).bind fun t179 => (some t179)) else (some false))) else (if (rl.length : Int) = 0 then ((spec_l4Fails.f n l st o k v code).bind fun t180 => (some t180)) else (some false))) (fun n => ?_) ?_
      · simp only [spec_Allowed.j0, Bool.false_eq_true, if_false]
      · by_cases c0 : code = 0
        · simp only [if_pos c0, Bool.not_false, Bool.true_and]
          refine Ev.bind (spec_l4Done_ev l st o k v hl hk) ?_
          cases hd : (doneC l st o k v).2
          · exact Ev.now _
          · simp only [if_true, Bool.true_and]
            exact Ev.bind (spec_l4Ints_ev _ rl (doneC_len l st o k v hl) hr) (Ev.now _)
        · simp only [if_neg c0, Bool.not_false, Bool.true_and]
          by_cases hz : rl.length = 0
          · have hz' : (rl.length : Int) = 0 := by omega
            simp only [if_pos hz', decide_eq_true hz, Bool.true_and]
            exact Ev.bind (spec_l4Fails_ev l st o k v code hl hk) (Ev.now _)
          · have hz' : ¬ (rl.length : Int) = 0 := by omega
            simp only [if_neg hz', decide_eq_false hz, Bool.false_and]; exact Ev.now _
    · refine Ev_at 1 (fun n => ?_)
      simp only [spec_Allowed.j0, if_true, Bool.not_true, Bool.false_and]
  unfold spec_Allowed.f allowedC
  refine Ev.bind (spec_RowsOk_ev l st hl) ?_
  cases h1 : rowsOk l st
  · simp only [Bool.false_eq_true, if_false, Bool.false_and]
    exact hj true (fun h => by cases h)
  · simp only [if_true, Bool.true_and]
    refine Ev.bind (Ev_at 2 (fun n => spec_OpOk_eq o k v n)) ?_
    cases h2 : opOk o k v
    · exact hj true (fun h => by cases h)
    · exact hj false (fun _ => ⟨h1, h2⟩)
theorem impl_Allowed_ev (l : List Int) (st o k v code : Int) (rl : List Int) (hl : l.length ≤ 1048576) (hr : rl.length ≤ 1048576) : Ev (fun n => impl_Allowed.f n l st o k v code rl) (allowedC l st o k v code rl) := by
  have hj : ∀ b : Bool, (b = false → rowsOk l st = true ∧ opOk o k v = true) → Ev (fun n => impl_Allowed.j0 n b l st o k v code rl) (!b && (if code = 0 then (doneC l st o k v).2 && zipEq (doneC l st o k v).1 rl else decide (rl.length = 0) && failsC l st o k v code)) := by
    intro b hb
    cases b
    · obtain ⟨h1, h2⟩ := hb rfl
      have hk : o = 1 ∨ o = 2 ∨ o = 3 ∨ o = 4 → 0 ≤ k ∧ k < (l.length : Int) := fun ho => by
        have := opOk_key o k v h2 ho
        have := (rowsOk_len l st h1).1
        omega
      refine Ev.step (f := fun n => if code = 0 then ((impl_success.f n l st o k v).bind fun bt175 => (if bt175.2 = true then ((slices_Equal_int_int.f n bt175.1 rl).bind fun t179 => (some t179)) else (some false))) else (if (rl.length : Int) = 0 then ((impl_refusal.f n l st o k v code).bind fun t180 => (some t180)) else (some false))) (fun n => ?_) ?_
      · simp only [impl_Allowed.j0, Bool.false_eq_true, if_false]
      · by_cases c0 : code = 0
        · simp only [if_pos c0, Bool.not_false, Bool.true_and]
          refine Ev.bind (impl_success_ev l st o k v hl (rowsOk_len l st h1).2 hk) ?_
          cases hd : (doneC l st o k v).2
          · exact Ev.now _
          · simp only [if_true, Bool.true_and]
            exact Ev.bind (slices_Equal_ev _ rl (doneC_len l st o k v hl) hr) (Ev.now _)
        · simp only [if_neg c0, Bool.not_false, Bool.true_and]
          by_cases hz : rl.length = 0
          · have hz' : (rl.length : Int) = 0 := by omega
            simp only [if_pos hz', decide_eq_true hz, Bool.true_and]
            exact Ev.bind (impl_refusal_ev l st o k v code hl hk) (Ev.now _)
          · have hz' : ¬ (rl.length : Int) = 0 := by omega
            simp only [if_neg hz', decide_eq_false hz, Bool.false_and]; exact Ev.now _
    · refine Ev_at 1 (fun n => ?_)
      simp only [impl_Allowed.j0, if_true, Bool.not_true, Bool.false_and]
  unfold impl_Allowed.f allowedC
  refine Ev.bind (impl_RowsOk_ev l st hl) ?_
  cases h1 : rowsOk l st
  · simp only [Bool.false_eq_true, if_false, Bool.false_and]
    exact hj true (fun h => by cases h)
  · simp only [if_true, Bool.true_and]
    refine Ev.bind (Ev_at 3 (fun n => impl_OpOk_eq o k v n)) ?_
    cases h2 : opOk o k v
    · exact hj true (fun h => by cases h)
    · exact hj false (fun _ => ⟨h1, h2⟩)
theorem Ev_posF {α : Type} {x : Int} {g h : Nat → Option α} {r : α} (hx : 0 ≤ x) : Ev (fun k => if x < 0 then h k else g k) r = Ev g r := by
  have h' : ¬ x < 0 := by omega
  simp only [if_neg h']
def afterC (l : List Int) (st o k v code : Int) (rl : List Int) : List Int × Int :=
  if allowedC l st o k v code rl = true ∧ code = 0 then
    (if o = 1 ∨ o = 2 then (l.set k.toNat v, st) else if o = 3 then (l.set k.toNat 0, st) else if o = 8 ∨ o = 9 then (l, st + 1) else (l, st))
  else (l, st)
theorem allowedC_parts {l : List Int} {st o k v code : Int} {rl : List Int} (h : allowedC l st o k v code rl = true) : rowsOk l st = true ∧ opOk o k v = true := by
  unfold allowedC at h
  rw [Bool.and_eq_true, Bool.and_eq_true] at h
  exact ⟨h.1, h.2.1⟩
theorem afterC_len (l : List Int) (st o k v code : Int) (rl : List Int) : (afterC l st o k v code rl).1.length = l.length := by
  unfold afterC
  repeat' split
  all_goals first | rfl | exact List.length_set
theorem spec_After_ev (l : List Int) (st o k v code : Int) (rl : List Int) (hl : l.length ≤ 1048576) (hr : rl.length ≤ 1048576) : Ev (fun n => spec_After.f n l st o k v code rl) (afterC l st o k v code rl) := by
  have hcopy : spec_l3Copy.f l st = some (l, st) := by
    simp only [spec_l3Copy.f, Option.bind_some, List.nil_append]
    rw [if_pos (by simp; omega)]
  unfold spec_After.f
  simp only [hcopy, Option.bind_some]
  refine Ev.bind (spec_Allowed_ev l st o k v code rl hl hr) ?_
  cases hA : allowedC l st o k v code rl
  · have e : afterC l st o k v code rl = (l, st) := by unfold afterC; rw [if_neg (by rw [hA]; simp)]
    rw [e]
    refine Ev_at 1 (fun n => ?_)
    simp only [Bool.false_eq_true, if_false, spec_After.j0, if_true]
  · obtain ⟨h1, h2⟩ := allowedC_parts hA
    have hlen := (rowsOk_len l st h1).1
    have hst := (rowsOk_len l st h1).2
    have hk := opOk_key o k v h2
    have hw : wrap64 (st + 1) = st + 1 := by unfold wrap64; omega
    by_cases c0 : code = 0
    · subst c0
      refine Ev_at 2 (fun n => ?_)
      by_cases o1 : o = 1
      · subst o1
        obtain ⟨k0, k1⟩ := hk (by omega)
        have k1' : k < (l.length : Int) := by omega
        simp [afterC, hA, spec_After.j0, spec_After.j1, k0, k1']
      by_cases o2 : o = 2
      · subst o2
        obtain ⟨k0, k1⟩ := hk (by omega)
        have k1' : k < (l.length : Int) := by omega
        simp [afterC, hA, spec_After.j0, spec_After.j1, k0, k1']
      by_cases o3 : o = 3
      · subst o3
        obtain ⟨k0, k1⟩ := hk (by omega)
        have k1' : k < (l.length : Int) := by omega
        simp [afterC, hA, spec_After.j0, spec_After.j1, k0, k1']
      by_cases o8 : o = 8
      · subst o8
        simp [afterC, hA, spec_After.j0, spec_After.j1, hw]
      by_cases o9 : o = 9
      · subst o9
        simp [afterC, hA, spec_After.j0, spec_After.j1, hw]
      simp [afterC, hA, spec_After.j0, spec_After.j1, o1, o2, o3, o8, o9]
    · have e : afterC l st o k v code rl = (l, st) := by unfold afterC; rw [if_neg (fun h => c0 h.2)]
      have ec : (code != 0) = true := bne_iff_ne.mpr c0
      rw [e]
      refine Ev_at 1 (fun n => ?_)
      simp only [ec, spec_After.j0, if_true]
theorem impl_After_ev (l : List Int) (st o k v code : Int) (rl : List Int) (hl : l.length ≤ 1048576) (hr : rl.length ≤ 1048576) : Ev (fun n => impl_After.f n l st o k v code rl) (afterC l st o k v code rl) := by
  have hcopy : impl_copyRows.f l st = some (l, st) := by
    simp only [impl_copyRows.f, slices_Clone_int_int.f, Option.bind_some, List.nil_append]
    rw [if_pos (by simp; omega)]
    rfl
  unfold impl_After.f
  simp only [hcopy, Option.bind_some]
  refine Ev.bind (impl_Allowed_ev l st o k v code rl hl hr) ?_
  cases hA : allowedC l st o k v code rl
  · have e : afterC l st o k v code rl = (l, st) := by unfold afterC; rw [if_neg (by rw [hA]; simp)]
    rw [e]
    refine Ev_at 1 (fun n => ?_)
    simp only [Bool.false_eq_true, if_false, impl_After.j0, if_true]
  · obtain ⟨h1, h2⟩ := allowedC_parts hA
    have hlen := (rowsOk_len l st h1).1
    have hst := (rowsOk_len l st h1).2
    have hk := opOk_key o k v h2
    have hw : wrap64 (st + 1) = st + 1 := by unfold wrap64; omega
    by_cases c0 : code = 0
    · subst c0
      refine Ev_at 2 (fun n => ?_)
      by_cases o1 : o = 1
      · subst o1
        obtain ⟨k0, k1⟩ := hk (by omega)
        have k1' : k < (l.length : Int) := by omega
        simp [afterC, hA, impl_After.j0, impl_After.j1, k0, k1']
      by_cases o2 : o = 2
      · subst o2
        obtain ⟨k0, k1⟩ := hk (by omega)
        have k1' : k < (l.length : Int) := by omega
        simp [afterC, hA, impl_After.j0, impl_After.j1, k0, k1']
      by_cases o3 : o = 3
      · subst o3
        obtain ⟨k0, k1⟩ := hk (by omega)
        have k1' : k < (l.length : Int) := by omega
        simp [afterC, hA, impl_After.j0, impl_After.j1, k0, k1']
      by_cases o8 : o = 8
      · subst o8
        simp [afterC, hA, impl_After.j0, impl_After.j1, hw]
      by_cases o9 : o = 9
      · subst o9
        simp [afterC, hA, impl_After.j0, impl_After.j1, hw]
      simp [afterC, hA, impl_After.j0, impl_After.j1, o1, o2, o3, o8, o9]
    · have e : afterC l st o k v code rl = (l, st) := by unfold afterC; rw [if_neg (fun h => c0 h.2)]
      have ec : (code != 0) = true := bne_iff_ne.mpr c0
      rw [e]
      refine Ev_at 1 (fun n => ?_)
      simp only [ec, impl_After.j0, if_true]

theorem FnExactAfter (l0_0 : List Int) (a0_1 : Int) (a1_0 : Int) (a1_1 : Int) (a1_2 : Int) (a2_0 : Int) (l2_1 : List Int) (gl0_0 : (fun l : List Int => l.length ≤ maxLen ∧ ∀ x ∈ l, (fun n : Int => (Lit.int .i64 n).wf = true) x) l0_0) (ga0_1 : (fun n : Int => (Lit.int .i64 n).wf = true) a0_1) (ga1_0 : (fun n : Int => (Lit.int .i64 n).wf = true) a1_0) (ga1_1 : (fun n : Int => (Lit.int .i64 n).wf = true) a1_1) (ga1_2 : (fun n : Int => (Lit.int .i64 n).wf = true) a1_2) (ga2_0 : (fun n : Int => (Lit.int .i64 n).wf = true) a2_0) (gl2_1 : (fun l : List Int => l.length ≤ maxLen ∧ ∀ x ∈ l, (fun n : Int => (Lit.int .i64 n).wf = true) x) l2_1) : ∃ k, laws_FnExactAfter.f k l0_0 a0_1 a1_0 a1_1 a1_2 a2_0 l2_1 = some true := by
  refine Ev.rounds (r := true) ?_
  unfold laws_FnExactAfter.f
  obtain ⟨r, er, pr⟩ := laws_szRows_some l0_0 a0_1 gl0_0.1 1048576 (by omega) (by omega)
  simp only [er, Option.bind_some]
  by_cases c : r < 0
  · simp only [if_pos c]; exact Ev.now _
  simp only [if_neg c]
  obtain ⟨hr, hl⟩ := pr (by omega)
  obtain ⟨r2, er2, pr2⟩ := laws_szRes_some a2_0 l2_1 gl2_1.1 r (by omega) (by omega)
  simp only [er2, Option.bind_some]
  by_cases c2 : r2 < 0
  · simp only [if_pos c2]; exact Ev.now _
  simp only [if_neg c2]
  obtain ⟨hr2, hl2⟩ := pr2 (by omega)
  have hto := laws_toRows_ev l0_0 a0_1 hl
  have htr := laws_toRes_ev a2_0 l2_1 hl2
  have hs := spec_After_ev l0_0 a0_1 a1_0 a1_1 a1_2 a2_0 l2_1 hl hl2
  have hi := impl_After_ev l0_0 a0_1 a1_0 a1_1 a1_2 a2_0 l2_1 hl hl2
  have hA : (afterC l0_0 a0_1 a1_0 a1_1 a1_2 a2_0 l2_1).1.length ≤ 1048576 := by rw [afterC_len]; exact hl
  generalize afterC l0_0 a0_1 a1_0 a1_1 a1_2 a2_0 l2_1 = A at hs hi hA
  obtain ⟨W, S⟩ := A
  have hW : W.length ≤ 1048576 := hA
  have he := laws_eqRows_refl W S hW
  have hm := laws_markRows_ev W S hW 1 (by omega) (by omega)
  have hm0 := laws_markRows_ev l0_0 a0_1 hl 1 (by omega) (by omega)
  have hm1 := laws_markRes_ev a2_0 l2_1 hl2 (1 + (l0_0.length : Int)) (by omega) (by omega)
  have hh := laws_heldRows_ev W S hW 1 (by omega) (by omega)
  refine Ev.bind hto ?_
  simp only [laws_toOp.f, Option.bind_some]
  refine Ev.bind htr ?_
  refine Ev.bind hs ?_
  refine Ev.bind hto ?_
  refine Ev.bind htr ?_
  refine Ev.bind hi ?_
  refine Ev.bind he ?_
  simp only [if_true]
  refine Ev.bind hto ?_
  refine Ev.bind (laws_eqRows_refl _ _ hl) ?_
  simp only [if_true]
  refine Ev.bind htr ?_
  refine Ev.bind (laws_eqRes_refl _ _ hl2) ?_
  simp only [if_true]
  refine Ev.bind hm0 ?_
  refine Ev.bind hm1 ?_
  rw [Ev_posF (by first | omega | (simp; omega))]
  refine Ev.bind he ?_
  refine Ev.step (f := fun k => (laws_markRows.f k W S 1).bind fun bt386 => ((laws_heldRows.f k bt386.2 S 1).bind fun t388 => (if t388 < 0 then (none) else (if t388 = bt386.1 then ((laws_toRows.f k l0_0 a0_1).bind fun bt389 => ((laws_toRes.f k a2_0 l2_1).bind fun bt396 => ((impl_After.f k bt389.1 bt389.2 a1_0 a1_1 a1_2 bt396.1 bt396.2).bind fun bt400 => ((laws_eqRows.f k bt400.1 bt400.2 W S).bind fun t405 => (if t405 = true then ((laws_heldRows.f k bt386.2 S 1).bind fun t406 => (if t406 < 0 then (none) else (if t406 = bt386.1 then (some true) else (none)))) else (none)))))) else (none))))) (fun k => ?_) ?_
  · simp only [laws_FnExactAfter.j0, laws_toOp.f, Option.bind_some, Bool.not_true, Bool.false_eq_true, if_false]
  refine Ev.bind hm ?_
  refine Ev.bind hh ?_
  rw [Ev_pos (by first | omega | (simp; omega))]
  simp only [if_true]
  refine Ev.bind hto ?_
  refine Ev.bind htr ?_
  refine Ev.bind hi ?_
  refine Ev.bind he ?_
  simp only [if_true]
  refine Ev.bind hh ?_
  rw [Ev_pos (by first | omega | (simp; omega))]
  simp only [if_true]
  exact Ev.now _

end Go.Proofs.Ytmkhghbalnadlaa.Pure
