/- The pure statement behind the law FnExactRowsOk: over plain values. No condition beyond that numbers are of their kind and lengths below 2^63. -/
import Derived.Test.YtcjkkcjnlcehnaaOpnFnExactRowsOk
namespace Go.Proofs.Ytcjkkcjnlcehnaa.Pure
open Go.RowKit Go.Proofs.Ytcjkkcjnlcehnaa.Op Go.Proofs.YtcjkkcjnlcehnaaW.PrintWords Go.Proofs.YtcjkkcjnlcehnaaW.PrintLast Go.Proofs.Ytcjkkcjnlcehnaa.PFnExactRowsOk Go.Proofs.Ytcjkkcjnlcehnaa.fnExactRowsOk

-- PACKS
set_option linter.unusedVariables false
set_option linter.unusedSimpArgs false
theorem Ev_at {α : Type} {g : Nat → Option α} {r : α} (n : Nat) (h : ∀ k, g (k + n) = some r) : Ev g r := ⟨n, fun k hk => by
  obtain ⟨m, rfl⟩ : ∃ m, k = m + n := ⟨k - n, by omega⟩
  exact h m⟩
theorem Ev_down {α : Type} {L : Nat → Nat → Option α} {r : α} (n : Nat) (hn : Ev (L n) r) (hs : ∀ i, i < n → Ev (L (i + 1)) r → Ev (L i) r) : ∀ i, i ≤ n → Ev (L i) r := by
  have key : ∀ d i, i + d = n → Ev (L i) r := by
    intro d
    induction d with
    | zero => intro i h; obtain rfl : i = n := by omega
              exact hn
    | succ d ih => intro i h; exact hs i (by omega) (ih (i + 1) (by omega))
  exact fun i h => key (n - i) i (by omega)
theorem wrap_up (i : Nat) (h : i < 9223372036854775807) : wrap64 ((i : Int) + 1) = ((i + 1 : Nat) : Int) := by unfold wrap64; omega
theorem set_fill {α β : Type} (l : List α) (i : Nat) (hi : i < l.length) (z : β) (f : α → β) (v : β) (hv : v = f (l[i]'hi)) :
    ((l.take i).map f ++ List.replicate (l.length - i) z).set (i : Int).toNat v = (l.take (i + 1)).map f ++ List.replicate (l.length - (i + 1)) z := by
  subst hv
  have h1 : ((l.take i).map f).length = i := by simp; omega
  rw [Int.toNat_natCast, List.set_append, if_neg (by omega), h1, Nat.sub_self]
  obtain ⟨m, hm⟩ : ∃ m, l.length - i = m + 1 := ⟨l.length - i - 1, by omega⟩
  rw [hm, List.replicate_succ, List.set_cons_zero, show l.length - (i + 1) = m by omega, List.take_succ_eq_append_getElem hi, List.map_append, List.append_assoc]
  rfl
theorem set_fill_id {α : Type} (l : List α) (i : Nat) (hi : i < l.length) (z : α) (v : α) (hv : v = l[i]'hi) :
    (l.take i ++ List.replicate (l.length - i) z).set (i : Int).toNat v = l.take (i + 1) ++ List.replicate (l.length - (i + 1)) z := by
  have := set_fill l i hi z id v hv
  simpa using this
theorem Ev_downR {α : Type} {L : Nat → Nat → Option α} {R : Nat → α} (n : Nat) (hn : Ev (L n) (R n)) (hs : ∀ i, i < n → Ev (L (i + 1)) (R (i + 1)) → Ev (L i) (R i)) : ∀ i, i ≤ n → Ev (L i) (R i) := by
  have key : ∀ d i, i + d = n → Ev (L i) (R i) := by
    intro d
    induction d with
    | zero => intro i h; obtain rfl : i = n := by omega
              exact hn
    | succ d ih => intro i h; exact hs i (by omega) (ih (i + 1) (by omega))
  exact fun i h => key (n - i) i (by omega)
theorem rd_at (l : List Int) (i : Nat) (hi : i < l.length) : rd l (i : Int) = l[i] := by simp [rd, List.getD_eq_getElem?_getD, hi]
theorem laws_toIntS_ev (l : List Int) (h : (l.length ≤ 1048576)) : Ev (fun k => laws_toIntS.f k l) (l) := by
  have hl : l.length ≤ 1048576 := h
  have key : ∀ i, i ≤ l.length → Ev (fun k => laws_toIntS.l0 k l ((l.take i) ++ List.replicate (l.length - i) 0) (i : Int)) (l) := by
    refine Ev_down (L := fun i k => laws_toIntS.l0 k l ((l.take i) ++ List.replicate (l.length - i) 0) (i : Int)) l.length ?_ ?_
    · refine Ev_at 1 (fun k => ?_)
      simp only [laws_toIntS.l0]
      rw [if_neg (by omega)]
      simp
    · intro i hi ih
      refine Ev.step (f := fun k => laws_toIntS.l0 k l ((l.take (i+1)) ++ List.replicate (l.length - (i+1)) 0) ((i+1 : Nat) : Int)) (fun k => ?_) ?_
      · simp only [laws_toIntS.l0]
        rw [if_pos (by omega), if_pos (by omega)]
        rw [if_pos (by simp; omega), wrap_up i (by omega)]
        congr 1
        exact set_fill_id l i hi 0 _ (by simp [rd, List.getD_eq_getElem?_getD, hi])
      · exact ih
  have := key 0 (Nat.zero_le _)
  have hc : ((l.length : Int) : Int).toNat ≤ 35184372088832 := by omega
  unfold laws_toIntS.f
  simp only [if_pos (Int.natCast_nonneg l.length), if_pos hc]
  simpa using this
theorem laws_eqIntS_refl (l : List Int) (h : (l.length ≤ 1048576)) : Ev (fun k => laws_eqIntS.f k l l) true := by
  have hl : l.length ≤ 1048576 := h
  have key : ∀ i, i ≤ l.length → Ev (fun k => laws_eqIntS.l0 k l l (i : Int)) true := by
    refine Ev_down (L := fun i k => laws_eqIntS.l0 k l l (i : Int)) l.length ?_ ?_
    · refine Ev_at 1 (fun k => ?_)
      simp only [laws_eqIntS.l0]
      rw [if_neg (by omega)]
    · intro i hi ih
      refine Ev.step (f := fun k => laws_eqIntS.l0 k l l ((i+1 : Nat) : Int)) (fun k => ?_) ih
      simp only [laws_eqIntS.l0]
      rw [if_pos (by omega), if_pos (by omega), if_pos (by omega), if_pos trivial, wrap_up i (by omega)]
  have := key 0 (Nat.zero_le _)
  unfold laws_eqIntS.f
  simp only [if_pos]
  exact this
theorem laws_szIntS_some (l : List Int) (hb : l.length ≤ maxLen) (left : Int) (h0 : 0 ≤ left) (h1 : left ≤ 1048576) : ∃ r, laws_szIntS.f l left = some r ∧ (0 ≤ r → r ≤ left ∧ l.length ≤ 1048576) := by
  have hm : maxLen = 9223372036854775807 := rfl
  have hw : wrap64 (left - (l.length : Int)) = left - (l.length : Int) := by unfold wrap64; omega
  unfold laws_szIntS.f
  rw [hw]
  by_cases c : left - (l.length : Int) < 0
  · exact ⟨-1, by rw [if_pos c], fun h => by omega⟩
  · exact ⟨_, by rw [if_neg c], fun _ => by omega⟩
theorem laws_toRows_ev (l0 : List Int) (a1 : Int) (h0 : (l0.length ≤ 1048576)) : Ev (fun k => laws_toRows.f k l0 a1) (l0, a1) := by
  unfold laws_toRows.f
  try simp only [Option.bind_some]
  refine Ev.bind (laws_toIntS_ev l0 h0) ?_
  exact Ev.now _
theorem laws_eqRows_refl (l0 : List Int) (a1 : Int) (h0 : (l0.length ≤ 1048576)) : Ev (fun k => laws_eqRows.f k l0 a1 l0 a1) true := by
  unfold laws_eqRows.f
  try simp only [if_pos, Option.bind_some]
  refine Ev.bind (laws_eqIntS_refl l0 h0) ?_
  try simp only [if_true, if_pos]
  exact Ev.now _
theorem laws_szRows_some (l0 : List Int) (a1 : Int) (b0 : l0.length ≤ maxLen) (left : Int) (h0 : 0 ≤ left) (h1 : left ≤ 1048576) : ∃ r, laws_szRows.f l0 a1 left = some r ∧ (0 ≤ r → r ≤ left ∧ (l0.length ≤ 1048576)) := by
  unfold laws_szRows.f
  obtain ⟨r0, e0, p0⟩ := laws_szIntS_some l0 b0 left (by omega) (by omega)
  simp only [e0, Option.bind_some]
  by_cases c0 : r0 < 0
  · exact ⟨-1, by simp [c0], fun h => by omega⟩
  simp only [if_neg c0]
  have q0 := p0 (by omega)
  refine ⟨_, rfl, fun _ => ⟨by omega, ?_⟩⟩
  simp_all
def inR (x lo hi : Int) : Bool := decide (lo ≤ x) && decide (x ≤ hi)
def keyOk (k : Int) : Bool := inR k 0 3
def valOk (v : Int) : Bool := inR v 1 6
def isClass (c : Int) : Bool := inR c 0 2
def classOf (v : Int) : Int := if valOk v then Int.tmod v 3 else -1
theorem spec_l1In_eq (x lo hi : Int) : spec_l1In.f x lo hi = some (inR x lo hi) := by
  unfold spec_l1In.f inR
  by_cases h : lo ≤ x <;> simp [h]
theorem impl_from_eq (x lo hi : Int) : impl_from.f x lo hi = some (inR x lo hi) := by
  unfold impl_from.f inR
  by_cases h : lo ≤ x <;> simp [h]
theorem spec_ValOk_eq (x : Int) : spec_ValOk.f x = some (valOk x) := by simp [spec_ValOk.f, spec_l1In_eq, valOk]
theorem impl_ValOk_eq (x : Int) : impl_ValOk.f x = some (valOk x) := by simp [impl_ValOk.f, impl_from_eq, valOk]
def idxF (v : Int) : List Int → Int → Int
  | [], _ => -1
  | x :: xs, i => if x = v then i else idxF v xs (i + 1)
theorem idxF_new (v : Int) (rest : List Int) : ∀ (pre : List Int) (j : Int), v ∉ pre → idxF v (pre ++ v :: rest) j = j + pre.length
  | [], j, _ => by simp [idxF]
  | x :: xs, j, h => by
    have h1 : x ≠ v := fun e => h (by simp [e])
    have h2 : v ∉ xs := fun e => h (by simp [e])
    simp only [List.cons_append, idxF, if_neg h1, idxF_new v rest xs (j + 1) h2, List.length_cons]
    omega
theorem idxF_old (v : Int) (rest : List Int) : ∀ (pre : List Int) (j : Int), v ∈ pre → j ≤ idxF v (pre ++ rest) j ∧ idxF v (pre ++ rest) j < j + pre.length
  | [], j, h => by simp at h
  | x :: xs, j, h => by
    by_cases h1 : x = v
    · simp only [List.cons_append, idxF, if_pos h1, List.length_cons]; omega
    · have h2 : v ∈ xs := by simpa [Ne.symm h1] using h
      have := idxF_old v rest xs (j + 1) h2
      simp only [List.cons_append, idxF, if_neg h1, List.length_cons]; omega
theorem idxF_none (v : Int) : ∀ (l : List Int) (j : Int), v ∉ l → idxF v l j = -1
  | [], j, _ => rfl
  | x :: xs, j, h => by
    have h1 : x ≠ v := fun e => h (by simp [e])
    have h2 : v ∉ xs := fun e => h (by simp [e])
    simp only [idxF, if_neg h1, idxF_none v xs (j + 1) h2]
theorem idxF_mem (v : Int) (l : List Int) : decide (idxF v l 0 ≥ 0) = decide (v ∈ l) := by
  by_cases h : v ∈ l
  · have := idxF_old v [] l 0 h
    simp only [List.append_nil] at this
    simp [h, this.1]
  · rw [idxF_none v l 0 h]; simp [h]
theorem spec_KeyOf_ev (l : List Int) (st v : Int) (hl : l.length ≤ 1048576) : Ev (fun k => spec_KeyOf.f k l st v) (idxF v l 0) := by
  have key : ∀ i, i ≤ l.length → Ev (fun k => spec_KeyOf.l0 k v (i : Int) l st) (idxF v (l.drop i) i) := by
    refine Ev_downR (L := fun i k => spec_KeyOf.l0 k v (i : Int) l st) (R := fun i => idxF v (l.drop i) i) l.length ?_ ?_
    · refine Ev_at 1 (fun k => ?_)
      simp only [spec_KeyOf.l0]
      rw [if_neg (by omega)]
      simp [idxF]
    · intro i hi ih
      refine Ev.step (f := fun k => if l[i] = v then some (i : Int) else spec_KeyOf.l0 k v ((i + 1 : Nat) : Int) l st) (fun k => ?_) ?_
      · simp only [spec_KeyOf.l0]
        rw [if_pos (by omega), if_pos (by omega), rd_at l i hi, wrap_up i (by omega)]
      · rw [List.drop_eq_getElem_cons hi]
        by_cases h : l[i] = v
        · simp only [if_pos h, idxF]; exact Ev.now _
        · simp only [if_neg h, idxF]; exact ih
  exact key 0 (Nat.zero_le _)
theorem slices_Index_ev (l : List Int) (v : Int) (hl : l.length ≤ 1048576) : Ev (fun k => slices_Index_int_int.f k l v) (idxF v l 0) := by
  have key : ∀ i, i ≤ l.length → Ev (fun k => slices_Index_int_int.l0 k l v (l.length : Int) (i : Int)) (idxF v (l.drop i) i) := by
    refine Ev_downR (L := fun i k => slices_Index_int_int.l0 k l v (l.length : Int) (i : Int)) (R := fun i => idxF v (l.drop i) i) l.length ?_ ?_
    · refine Ev_at 1 (fun k => ?_)
      simp only [slices_Index_int_int.l0]
      rw [if_neg (by omega)]
      simp [idxF]
    · intro i hi ih
      refine Ev.step (f := fun k => if l[i] = v then some (i : Int) else slices_Index_int_int.l0 k l v (l.length : Int) ((i + 1 : Nat) : Int)) (fun k => ?_) ?_
      · simp only [slices_Index_int_int.l0]
        rw [if_pos (by omega), if_pos (by omega), if_pos (by omega), rd_at l i hi, wrap_up i (by omega)]
        by_cases h : l[i] = v
        · rw [if_pos h, if_pos h.symm]
        · rw [if_neg h, if_neg (Ne.symm h)]
      · rw [List.drop_eq_getElem_cons hi]
        by_cases h : l[i] = v
        · simp only [if_pos h, idxF]; exact Ev.now _
        · simp only [if_neg h, idxF]; exact ih
  exact key 0 (Nat.zero_le _)
theorem slices_Contains_ev (l : List Int) (v : Int) (hl : l.length ≤ 1048576) : Ev (fun k => slices_Contains_int_int.f k l v) (decide (v ∈ l)) := by
  unfold slices_Contains_int_int.f
  refine Ev.bind (slices_Index_ev l v hl) ?_
  rw [← idxF_mem]
  exact Ev.now _
def heldOk : List Int → List Int → Bool
  | _, [] => true
  | pre, v :: vs => (v == 0 || (valOk v && !decide (v ∈ pre))) && heldOk (pre ++ [v]) vs
def rowsOk (l : List Int) (s : Int) : Bool := heldOk [] l && (decide ((l.length : Int) = 4) && inR s 0 5)
theorem idx_here (l : List Int) (i : Nat) (hi : i < l.length) : decide (idxF l[i] l 0 = (i : Int)) = !decide (l[i] ∈ l.take i) := by
  have hs : l = l.take i ++ l[i] :: l.drop (i + 1) := by rw [← List.drop_eq_getElem_cons hi, List.take_append_drop]
  have hlen : (l.take i).length = i := by simp; omega
  by_cases h : l[i] ∈ l.take i
  · have := idxF_old l[i] (l[i] :: l.drop (i + 1)) (l.take i) 0 h
    rw [← hs, hlen] at this
    simp [h]; omega
  · have := idxF_new l[i] (l.drop (i + 1)) (l.take i) 0 h
    rw [← hs, hlen] at this
    simp [h, this]
theorem heldOk_at (l : List Int) (i : Nat) (hi : i < l.length) : heldOk (l.take i) (l.drop i) = ((l[i] == 0 || (valOk l[i] && !decide (l[i] ∈ l.take i))) && heldOk (l.take (i + 1)) (l.drop (i + 1))) := by
  rw [List.drop_eq_getElem_cons hi, List.take_succ_eq_append_getElem hi]; rfl
theorem spec_RowsOk_ev (l : List Int) (st : Int) (hl : l.length ≤ 1048576) : Ev (fun k => spec_RowsOk.f k l st) (rowsOk l st) := by
  have key : ∀ i, i ≤ l.length → Ev (fun k => spec_RowsOk.l0 k (i : Int) l st) (heldOk (l.take i) (l.drop i) && (decide ((l.length : Int) = 4) && inR st 0 5)) := by
    refine Ev_downR (L := fun i k => spec_RowsOk.l0 k (i : Int) l st) (R := fun i => heldOk (l.take i) (l.drop i) && (decide ((l.length : Int) = 4) && inR st 0 5)) l.length ?_ ?_
    · refine Ev_at 1 (fun k => ?_)
      simp only [spec_RowsOk.l0, spec_l1In_eq, Option.bind_some]
      rw [if_neg (by omega)]
      by_cases h : (l.length : Int) = 4 <;> simp [h, heldOk]
    · intro i hi ih
      refine Ev.step (f := fun k => if l[i] = 0 then spec_RowsOk.l0 k ((i + 1 : Nat) : Int) l st else (if valOk l[i] = true then (spec_KeyOf.f k l st l[i]).bind fun t => (if t = (i : Int) then spec_RowsOk.l0 k ((i + 1 : Nat) : Int) l st else some false) else some false)) (fun k => ?_) ?_
      · simp only [spec_RowsOk.l0, spec_ValOk_eq, Option.bind_some]
        rw [if_pos (by omega), if_pos (by omega), rd_at l i hi, wrap_up i (by omega)]
      · rw [heldOk_at l i hi]
        by_cases h : l[i] = 0
        · have e : (l[i] == 0 || (valOk l[i] && !decide (l[i] ∈ l.take i))) = true := by simp [h]
          simp only [if_pos h, e, Bool.true_and]; exact ih
        · simp only [if_neg h]
          cases hv : valOk l[i]
          · have e : (l[i] == 0 || (false && !decide (l[i] ∈ l.take i))) = false := by simp [h]
            rw [e]
            simp only [Bool.false_and, Bool.false_eq_true, if_false]; exact Ev.now _
          · simp only [if_true]
            refine Ev.bind (spec_KeyOf_ev l st l[i] hl) ?_
            have := idx_here l i hi
            by_cases h2 : l[i] ∈ l.take i
            · rw [decide_eq_true h2] at this
              have h3 : ¬ idxF l[i] l 0 = (i : Int) := by simpa using this
              have e : (l[i] == 0 || (true && !decide (l[i] ∈ l.take i))) = false := by simp [h, h2]
              rw [e]
              simp only [if_neg h3, Bool.false_and]; exact Ev.now _
            · rw [decide_eq_false h2] at this
              have h3 : idxF l[i] l 0 = (i : Int) := by simpa using this
              have e : (l[i] == 0 || (true && !decide (l[i] ∈ l.take i))) = true := by simp [h, h2]
              rw [e]
              simp only [if_pos h3, Bool.true_and]; exact ih
  have := key 0 (Nat.zero_le _)
  simpa [spec_RowsOk.f, rowsOk] using this
theorem impl_RowsOk_ev (l : List Int) (st : Int) (hl : l.length ≤ 1048576) : Ev (fun k => impl_RowsOk.f k l st) (rowsOk l st) := by
  have key : ∀ i, i ≤ l.length → Ev (fun k => impl_RowsOk.l0 k l (l.length : Int) (i : Int) l st) (heldOk (l.take i) (l.drop i) && (decide ((l.length : Int) = 4) && inR st 0 5)) := by
    refine Ev_downR (L := fun i k => impl_RowsOk.l0 k l (l.length : Int) (i : Int) l st) (R := fun i => heldOk (l.take i) (l.drop i) && (decide ((l.length : Int) = 4) && inR st 0 5)) l.length ?_ ?_
    · refine Ev_at 1 (fun k => ?_)
      simp only [impl_RowsOk.l0, impl_from_eq, Option.bind_some]
      rw [if_neg (by omega)]
      by_cases h : (l.length : Int) = 4 <;> simp [h, heldOk]
    · intro i hi ih
      refine Ev.step (f := fun k => if l[i] = 0 then impl_RowsOk.l0 k l (l.length : Int) ((i + 1 : Nat) : Int) l st else (if valOk l[i] = true then (slices_Contains_int_int.f k (l.take i) l[i]).bind fun t => (if t = true then some false else impl_RowsOk.l0 k l (l.length : Int) ((i + 1 : Nat) : Int) l st) else some false)) (fun k => ?_) ?_
      · simp only [impl_RowsOk.l0, impl_ValOk_eq, Option.bind_some]
        rw [if_pos (by omega), if_pos (by omega), if_pos (by omega), rd_at l i hi, wrap_up i (by omega), if_pos (show (i : Int) ≤ (l.length : Int) by omega), Int.toNat_natCast]
      · rw [heldOk_at l i hi]
        by_cases h : l[i] = 0
        · have e : (l[i] == 0 || (valOk l[i] && !decide (l[i] ∈ l.take i))) = true := by simp [h]
          simp only [if_pos h, e, Bool.true_and]; exact ih
        · simp only [if_neg h]
          cases hv : valOk l[i]
          · have e : (l[i] == 0 || (false && !decide (l[i] ∈ l.take i))) = false := by simp [h]
            rw [e]
            simp only [Bool.false_and, Bool.false_eq_true, if_false]; exact Ev.now _
          · simp only [if_true]
            refine Ev.bind (slices_Contains_ev (l.take i) l[i] (Nat.le_trans (List.length_take_le' _ _) hl)) ?_
            by_cases h2 : l[i] ∈ l.take i
            · have e : (l[i] == 0 || (true && !decide (l[i] ∈ l.take i))) = false := by simp [h, h2]
              rw [e]
              simp only [decide_eq_true h2, if_true, Bool.false_and]; exact Ev.now _
            · have e : (l[i] == 0 || (true && !decide (l[i] ∈ l.take i))) = true := by simp [h, h2]
              rw [e]
              simp only [decide_eq_false h2, Bool.false_eq_true, if_false, Bool.true_and]; exact ih
  have := key 0 (Nat.zero_le _)
  simpa [impl_RowsOk.f, rowsOk] using this

theorem FnExactRowsOk (l0_0 : List Int) (a0_1 : Int) (gl0_0 : (fun l : List Int => l.length ≤ maxLen ∧ ∀ x ∈ l, (fun n : Int => (Lit.int .i64 n).wf = true) x) l0_0) (ga0_1 : (fun n : Int => (Lit.int .i64 n).wf = true) a0_1) : ∃ k, laws_FnExactRowsOk.f k l0_0 a0_1 = some true := by
  refine Ev.rounds (r := true) ?_
  unfold laws_FnExactRowsOk.f
  obtain ⟨r, er, pr⟩ := laws_szRows_some l0_0 a0_1 gl0_0.1 1048576 (by omega) (by omega)
  simp only [er, Option.bind_some]
  by_cases c : r < 0
  · simp only [if_pos c]; exact Ev.now _
  simp only [if_neg c]
  have hl : l0_0.length ≤ 1048576 := (pr (by omega)).2
  refine Ev.bind (laws_toRows_ev l0_0 a0_1 hl) ?_
  refine Ev.bind (spec_RowsOk_ev _ _ hl) ?_
  refine Ev.bind (laws_toRows_ev l0_0 a0_1 hl) ?_
  refine Ev.bind (impl_RowsOk_ev _ _ hl) ?_
  simp only [bne_self_eq_false, Bool.false_eq_true, if_false]
  refine Ev.bind (laws_toRows_ev l0_0 a0_1 hl) ?_
  refine Ev.bind (laws_eqRows_refl _ _ hl) ?_
  exact Ev.now _

end Go.Proofs.Ytcjkkcjnlcehnaa.Pure
