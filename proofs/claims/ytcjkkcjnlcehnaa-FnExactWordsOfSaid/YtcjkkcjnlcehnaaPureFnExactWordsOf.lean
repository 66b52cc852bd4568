/- The pure statement behind the law FnExactWordsOf: over plain values. No condition beyond that numbers are of their kind and lengths below 2^63. -/
import Derived.Test.YtcjkkcjnlcehnaaOpnFnExactWordsOf
namespace Go.Proofs.Ytcjkkcjnlcehnaa.Pure
open Go.RowKit Go.Proofs.Ytcjkkcjnlcehnaa.Op Go.Proofs.YtcjkkcjnlcehnaaW.PrintWords Go.Proofs.YtcjkkcjnlcehnaaW.PrintLast Go.Proofs.Ytcjkkcjnlcehnaa.PFnExactWordsOf Go.Proofs.Ytcjkkcjnlcehnaa.fnExactWordsOf

-- PACKS
set_option linter.unusedVariables false
set_option linter.unusedSimpArgs false
theorem Ev_at {α : Type} {g : Nat → Option α} {r : α} (n : Nat) (h : ∀ k, g (k + n) = some r) : Ev g r := ⟨n, fun k hk => by
  obtain ⟨m, rfl⟩ : ∃ m, k = m + n := ⟨k - n, by omega⟩
  exact h m⟩
theorem Ev_down {α : Type} {L : Nat → Nat → Option α} {r : α} (n : Nat) (hn : Ev (L n) r) (hs : ∀ i, i < n → Ev (L (i + 1)) r → Ev (L i) r) : ∀ i, i ≤ n → Ev (L i) r := by
  have key : ∀ d i, i + d = n → Ev (L i) r := by
    intro d
    induction d with
    | zero => intro i h; obtain rfl : i = n := by omega
              exact hn
    | succ d ih => intro i h; exact hs i (by omega) (ih (i + 1) (by omega))
  exact fun i h => key (n - i) i (by omega)
theorem wrap_up (i : Nat) (h : i < 9223372036854775807) : wrap64 ((i : Int) + 1) = ((i + 1 : Nat) : Int) := by unfold wrap64; omega
theorem set_fill {α β : Type} (l : List α) (i : Nat) (hi : i < l.length) (z : β) (f : α → β) (v : β) (hv : v = f (l[i]'hi)) :
    ((l.take i).map f ++ List.replicate (l.length - i) z).set (i : Int).toNat v = (l.take (i + 1)).map f ++ List.replicate (l.length - (i + 1)) z := by
  subst hv
  have h1 : ((l.take i).map f).length = i := by simp; omega
  rw [Int.toNat_natCast, List.set_append, if_neg (by omega), h1, Nat.sub_self]
  obtain ⟨m, hm⟩ : ∃ m, l.length - i = m + 1 := ⟨l.length - i - 1, by omega⟩
  rw [hm, List.replicate_succ, List.set_cons_zero, show l.length - (i + 1) = m by omega, List.take_succ_eq_append_getElem hi, List.map_append, List.append_assoc]
  rfl
theorem set_fill_id {α : Type} (l : List α) (i : Nat) (hi : i < l.length) (z : α) (v : α) (hv : v = l[i]'hi) :
    (l.take i ++ List.replicate (l.length - i) z).set (i : Int).toNat v = l.take (i + 1) ++ List.replicate (l.length - (i + 1)) z := by
  have := set_fill l i hi z id v hv
  simpa using this
theorem Ev_downR {α : Type} {L : Nat → Nat → Option α} {R : Nat → α} (n : Nat) (hn : Ev (L n) (R n)) (hs : ∀ i, i < n → Ev (L (i + 1)) (R (i + 1)) → Ev (L i) (R i)) : ∀ i, i ≤ n → Ev (L i) (R i) := by
  have key : ∀ d i, i + d = n → Ev (L i) (R i) := by
    intro d
    induction d with
    | zero => intro i h; obtain rfl : i = n := by omega
              exact hn
    | succ d ih => intro i h; exact hs i (by omega) (ih (i + 1) (by omega))
  exact fun i h => key (n - i) i (by omega)
theorem rd_at (l : List Int) (i : Nat) (hi : i < l.length) : rd l (i : Int) = l[i] := by simp [rd, List.getD_eq_getElem?_getD, hi]
theorem mark_fill {α : Type} (g : Nat → α) (l : List α) (i : Nat) (hi : i < l.length) : ((List.range i).map g ++ l.drop i).set i (g i) = (List.range (i + 1)).map g ++ l.drop (i + 1) := by
  rw [List.set_append, if_neg (by simp), List.length_map, List.length_range, Nat.sub_self, List.drop_eq_getElem_cons hi, List.set_cons_zero, List.range_succ, List.map_append, List.append_assoc]
  rfl
theorem Ev_pos {α : Type} {x : Int} {g : Nat → Option α} {r : α} (h : 0 ≤ x) : Ev (fun k => if x < 0 then none else g k) r = Ev g r := by
  have h' : ¬ x < 0 := by omega
  simp only [if_neg h']
theorem laws_toIntS_ev (l : List Int) (h : (l.length ≤ 1048576)) : Ev (fun k => laws_toIntS.f k l) (l) := by
  have hl : l.length ≤ 1048576 := h
  have key : ∀ i, i ≤ l.length → Ev (fun k => laws_toIntS.l0 k l ((l.take i) ++ List.replicate (l.length - i) 0) (i : Int)) (l) := by
    refine Ev_down (L := fun i k => laws_toIntS.l0 k l ((l.take i) ++ List.replicate (l.length - i) 0) (i : Int)) l.length ?_ ?_
    · refine Ev_at 1 (fun k => ?_)
      simp only [laws_toIntS.l0]
      rw [if_neg (by omega)]
      simp
    · intro i hi ih
      refine Ev.step (f := fun k => laws_toIntS.l0 k l ((l.take (i+1)) ++ List.replicate (l.length - (i+1)) 0) ((i+1 : Nat) : Int)) (fun k => ?_) ?_
      · simp only [laws_toIntS.l0]
        rw [if_pos (by omega), if_pos (by omega)]
        rw [if_pos (by simp; omega), wrap_up i (by omega)]
        congr 1
        exact set_fill_id l i hi 0 _ (by simp [rd, List.getD_eq_getElem?_getD, hi])
      · exact ih
  have := key 0 (Nat.zero_le _)
  have hc : ((l.length : Int) : Int).toNat ≤ 35184372088832 := by omega
  unfold laws_toIntS.f
  simp only [if_pos (Int.natCast_nonneg l.length), if_pos hc]
  simpa using this
theorem laws_eqIntS_refl (l : List Int) (h : (l.length ≤ 1048576)) : Ev (fun k => laws_eqIntS.f k l l) true := by
  have hl : l.length ≤ 1048576 := h
  have key : ∀ i, i ≤ l.length → Ev (fun k => laws_eqIntS.l0 k l l (i : Int)) true := by
    refine Ev_down (L := fun i k => laws_eqIntS.l0 k l l (i : Int)) l.length ?_ ?_
    · refine Ev_at 1 (fun k => ?_)
      simp only [laws_eqIntS.l0]
      rw [if_neg (by omega)]
    · intro i hi ih
      refine Ev.step (f := fun k => laws_eqIntS.l0 k l l ((i+1 : Nat) : Int)) (fun k => ?_) ih
      simp only [laws_eqIntS.l0]
      rw [if_pos (by omega), if_pos (by omega), if_pos (by omega), if_pos trivial, wrap_up i (by omega)]
  have := key 0 (Nat.zero_le _)
  unfold laws_eqIntS.f
  simp only [if_pos]
  exact this
theorem laws_szIntS_some (l : List Int) (hb : l.length ≤ maxLen) (left : Int) (h0 : 0 ≤ left) (h1 : left ≤ 1048576) : ∃ r, laws_szIntS.f l left = some r ∧ (0 ≤ r → r ≤ left ∧ l.length ≤ 1048576) := by
  have hm : maxLen = 9223372036854775807 := rfl
  have hw : wrap64 (left - (l.length : Int)) = left - (l.length : Int) := by unfold wrap64; omega
  unfold laws_szIntS.f
  rw [hw]
  by_cases c : left - (l.length : Int) < 0
  · exact ⟨-1, by rw [if_pos c], fun h => by omega⟩
  · exact ⟨_, by rw [if_neg c], fun _ => by omega⟩
theorem laws_toRows_ev (l0 : List Int) (a1 : Int) (h0 : (l0.length ≤ 1048576)) : Ev (fun k => laws_toRows.f k l0 a1) (l0, a1) := by
  unfold laws_toRows.f
  try simp only [Option.bind_some]
  refine Ev.bind (laws_toIntS_ev l0 h0) ?_
  exact Ev.now _
theorem laws_eqRows_refl (l0 : List Int) (a1 : Int) (h0 : (l0.length ≤ 1048576)) : Ev (fun k => laws_eqRows.f k l0 a1 l0 a1) true := by
  unfold laws_eqRows.f
  try simp only [if_pos, Option.bind_some]
  refine Ev.bind (laws_eqIntS_refl l0 h0) ?_
  try simp only [if_true, if_pos, bne_self_eq_false, Bool.false_eq_true, if_false]
  exact Ev.now _
theorem laws_szRows_some (l0 : List Int) (a1 : Int) (b0 : l0.length ≤ maxLen) (left : Int) (h0 : 0 ≤ left) (h1 : left ≤ 1048576) : ∃ r, laws_szRows.f l0 a1 left = some r ∧ (0 ≤ r → r ≤ left ∧ (l0.length ≤ 1048576)) := by
  unfold laws_szRows.f
  obtain ⟨r0, e0, p0⟩ := laws_szIntS_some l0 b0 left (by omega) (by omega)
  simp only [e0, Option.bind_some]
  by_cases c0 : r0 < 0
  · exact ⟨-1, by simp [c0], fun h => by omega⟩
  simp only [if_neg c0]
  have q0 := p0 (by omega)
  refine ⟨_, rfl, fun _ => ⟨by omega, ?_⟩⟩
  simp_all
def mkI (a : Int) (j : Nat) : Int := a + (j : Int)
theorem laws_markIntS_ev (l : List Int) (h : l.length ≤ 1048576) (a : Int) (h0 : 0 ≤ a) (h1 : a ≤ 1000000000) : Ev (fun k => laws_markIntS.f k l a) (a + (l.length : Int), (List.range l.length).map (mkI a)) := by
  have key : ∀ i, i ≤ l.length → Ev (fun k => laws_markIntS.l0 k ((List.range i).map (mkI a) ++ l.drop i) (a + (i : Int)) (i : Int)) (a + (l.length : Int), (List.range l.length).map (mkI a)) := by
    refine Ev_down (L := fun i k => laws_markIntS.l0 k ((List.range i).map (mkI a) ++ l.drop i) (a + (i : Int)) (i : Int)) l.length ?_ ?_
    · refine Ev_at 1 (fun k => ?_)
      simp only [laws_markIntS.l0]
      rw [if_neg (by simp)]
      simp
    · intro i hi ih
      have hlen : ((List.range i).map (mkI a) ++ l.drop i).length = l.length := by simp; omega
      have w0 : wrap64 (a + (i : Int) + 1) = a + (i : Int) + 1 := by unfold wrap64; omega
      have hfin : a + ((i + 1 : Nat) : Int) = a + (i : Int) + 1 := by omega
      refine Ev.step (f := fun k => laws_markIntS.l0 k ((List.range (i + 1)).map (mkI a) ++ l.drop (i + 1)) (a + ((i + 1 : Nat) : Int)) ((i + 1 : Nat) : Int)) (fun k => ?_) ih
      rw [← mark_fill (mkI a) l i hi, hfin]
      simp only [laws_markIntS.l0, Option.bind_some, hlen]
      rw [if_pos (by omega), if_pos (by omega), wrap_up i (by omega)]
      simp only [Int.toNat_natCast, w0, List.set_set]
      rfl
  have := key 0 (Nat.zero_le _)
  unfold laws_markIntS.f
  simpa using this
theorem laws_heldIntS_ev (n : Nat) (h : n ≤ 1048576) (a : Int) (h0 : 0 ≤ a) (h1 : a ≤ 1000000000) : Ev (fun k => laws_heldIntS.f k ((List.range n).map (mkI a)) a) (a + (n : Int)) := by
  have key : ∀ i, i ≤ n → Ev (fun k => laws_heldIntS.l0 k ((List.range n).map (mkI a)) (a + (i : Int)) (i : Int)) (a + (n : Int)) := by
    refine Ev_down (L := fun i k => laws_heldIntS.l0 k ((List.range n).map (mkI a)) (a + (i : Int)) (i : Int)) n ?_ ?_
    · refine Ev_at 1 (fun k => ?_)
      simp only [laws_heldIntS.l0]
      rw [if_neg (by simp)]
    · intro i hi ih
      have hr : rd ((List.range n).map (mkI a)) (i : Int) = mkI a i := by simp [rd, List.getD_eq_getElem?_getD, hi]
      have w0 : wrap64 (a + (i : Int) + 1) = a + (i : Int) + 1 := by unfold wrap64; omega
      have hfin : a + ((i + 1 : Nat) : Int) = a + (i : Int) + 1 := by omega
      refine Ev.step (f := fun k => laws_heldIntS.l0 k ((List.range n).map (mkI a)) (a + ((i + 1 : Nat) : Int)) ((i + 1 : Nat) : Int)) (fun k => ?_) ih
      rw [hfin]
      simp only [laws_heldIntS.l0, hr, mkI, w0]
      rw [if_pos (by simp; omega), if_pos (by omega), wrap_up i (by omega)]
      simp only [if_true]
  have := key 0 (Nat.zero_le _)
  unfold laws_heldIntS.f
  simpa using this
theorem laws_markRows_ev (l0 : List Int) (a1 : Int) (h0 : l0.length ≤ 1048576) (a : Int) (h_0 : 0 ≤ a) (h_1 : a ≤ 1000) : Ev (fun k => laws_markRows.f k l0 a1 a) (a + (l0.length : Int), (List.range l0.length).map (mkI (a))) := by
  unfold laws_markRows.f
  refine Ev.bind (laws_markIntS_ev l0 h0 (a) (by omega) (by omega)) ?_
  exact Ev.now _
def inR (x lo hi : Int) : Bool := decide (lo ≤ x) && decide (x ≤ hi)
def keyOk (k : Int) : Bool := inR k 0 3
def valOk (v : Int) : Bool := inR v 1 6
def isClass (c : Int) : Bool := inR c 0 2
def classOf (v : Int) : Int := if valOk v then Int.tmod v 3 else -1
theorem spec_l1In_eq (x lo hi : Int) : spec_l1In.f x lo hi = some (inR x lo hi) := by
  unfold spec_l1In.f inR
  by_cases h : lo ≤ x <;> simp [h]
theorem impl_from_eq (x lo hi : Int) : impl_from.f x lo hi = some (inR x lo hi) := by
  unfold impl_from.f inR
  by_cases h : lo ≤ x <;> simp [h]
theorem spec_ValOk_eq (x : Int) : spec_ValOk.f x = some (valOk x) := by simp [spec_ValOk.f, spec_l1In_eq, valOk]
theorem impl_ValOk_eq (x : Int) : impl_ValOk.f x = some (valOk x) := by simp [impl_ValOk.f, impl_from_eq, valOk]
def idxF (v : Int) : List Int → Int → Int
  | [], _ => -1
  | x :: xs, i => if x = v then i else idxF v xs (i + 1)
theorem idxF_new (v : Int) (rest : List Int) : ∀ (pre : List Int) (j : Int), v ∉ pre → idxF v (pre ++ v :: rest) j = j + pre.length
  | [], j, _ => by simp [idxF]
  | x :: xs, j, h => by
    have h1 : x ≠ v := fun e => h (by simp [e])
    have h2 : v ∉ xs := fun e => h (by simp [e])
    simp only [List.cons_append, idxF, if_neg h1, idxF_new v rest xs (j + 1) h2, List.length_cons]
    omega
theorem idxF_old (v : Int) (rest : List Int) : ∀ (pre : List Int) (j : Int), v ∈ pre → j ≤ idxF v (pre ++ rest) j ∧ idxF v (pre ++ rest) j < j + pre.length
  | [], j, h => by simp at h
  | x :: xs, j, h => by
    by_cases h1 : x = v
    · simp only [List.cons_append, idxF, if_pos h1, List.length_cons]; omega
    · have h2 : v ∈ xs := by simpa [Ne.symm h1] using h
      have := idxF_old v rest xs (j + 1) h2
      simp only [List.cons_append, idxF, if_neg h1, List.length_cons]; omega
theorem idxF_none (v : Int) : ∀ (l : List Int) (j : Int), v ∉ l → idxF v l j = -1
  | [], j, _ => rfl
  | x :: xs, j, h => by
    have h1 : x ≠ v := fun e => h (by simp [e])
    have h2 : v ∉ xs := fun e => h (by simp [e])
    simp only [idxF, if_neg h1, idxF_none v xs (j + 1) h2]
theorem idxF_mem (v : Int) (l : List Int) : decide (idxF v l 0 ≥ 0) = decide (v ∈ l) := by
  by_cases h : v ∈ l
  · have := idxF_old v [] l 0 h
    simp only [List.append_nil] at this
    simp [h, this.1]
  · rw [idxF_none v l 0 h]; simp [h]
theorem spec_KeyOf_ev (l : List Int) (st v : Int) (hl : l.length ≤ 1048576) : Ev (fun k => spec_KeyOf.f k l st v) (idxF v l 0) := by
  have key : ∀ i, i ≤ l.length → Ev (fun k => spec_KeyOf.l0 k v (i : Int) l st) (idxF v (l.drop i) i) := by
    refine Ev_downR (L := fun i k => spec_KeyOf.l0 k v (i : Int) l st) (R := fun i => idxF v (l.drop i) i) l.length ?_ ?_
    · refine Ev_at 1 (fun k => ?_)
      simp only [spec_KeyOf.l0]
      rw [if_neg (by omega)]
      simp [idxF]
    · intro i hi ih
      refine Ev.step (f := fun k => if l[i] = v then some (i : Int) else spec_KeyOf.l0 k v ((i + 1 : Nat) : Int) l st) (fun k => ?_) ?_
      · simp only [spec_KeyOf.l0]
        rw [if_pos (by omega), if_pos (by omega), rd_at l i hi, wrap_up i (by omega)]
      · rw [List.drop_eq_getElem_cons hi]
        by_cases h : l[i] = v
        · simp only [if_pos h, idxF]; exact Ev.now _
        · simp only [if_neg h, idxF]; exact ih
  exact key 0 (Nat.zero_le _)
theorem slices_Index_ev (l : List Int) (v : Int) (hl : l.length ≤ 1048576) : Ev (fun k => slices_Index_int_int.f k l v) (idxF v l 0) := by
  have key : ∀ i, i ≤ l.length → Ev (fun k => slices_Index_int_int.l0 k l v (l.length : Int) (i : Int)) (idxF v (l.drop i) i) := by
    refine Ev_downR (L := fun i k => slices_Index_int_int.l0 k l v (l.length : Int) (i : Int)) (R := fun i => idxF v (l.drop i) i) l.length ?_ ?_
    · refine Ev_at 1 (fun k => ?_)
      simp only [slices_Index_int_int.l0]
      rw [if_neg (by omega)]
      simp [idxF]
    · intro i hi ih
      refine Ev.step (f := fun k => if l[i] = v then some (i : Int) else slices_Index_int_int.l0 k l v (l.length : Int) ((i + 1 : Nat) : Int)) (fun k => ?_) ?_
      · simp only [slices_Index_int_int.l0]
        rw [if_pos (by omega), if_pos (by omega), if_pos (by omega), rd_at l i hi, wrap_up i (by omega)]
        by_cases h : l[i] = v
        · rw [if_pos h, if_pos h.symm]
        · rw [if_neg h, if_neg (Ne.symm h)]
      · rw [List.drop_eq_getElem_cons hi]
        by_cases h : l[i] = v
        · simp only [if_pos h, idxF]; exact Ev.now _
        · simp only [if_neg h, idxF]; exact ih
  exact key 0 (Nat.zero_le _)
theorem slices_Contains_ev (l : List Int) (v : Int) (hl : l.length ≤ 1048576) : Ev (fun k => slices_Contains_int_int.f k l v) (decide (v ∈ l)) := by
  unfold slices_Contains_int_int.f
  refine Ev.bind (slices_Index_ev l v hl) ?_
  rw [← idxF_mem]
  exact Ev.now _
def heldOk : List Int → List Int → Bool
  | _, [] => true
  | pre, v :: vs => (v == 0 || (valOk v && !decide (v ∈ pre))) && heldOk (pre ++ [v]) vs
def rowsOk (l : List Int) (s : Int) : Bool := heldOk [] l && (decide ((l.length : Int) = 4) && inR s 0 5)
theorem idx_here (l : List Int) (i : Nat) (hi : i < l.length) : decide (idxF l[i] l 0 = (i : Int)) = !decide (l[i] ∈ l.take i) := by
  have hs : l = l.take i ++ l[i] :: l.drop (i + 1) := by rw [← List.drop_eq_getElem_cons hi, List.take_append_drop]
  have hlen : (l.take i).length = i := by simp; omega
  by_cases h : l[i] ∈ l.take i
  · have := idxF_old l[i] (l[i] :: l.drop (i + 1)) (l.take i) 0 h
    rw [← hs, hlen] at this
    simp [h]; omega
  · have := idxF_new l[i] (l.drop (i + 1)) (l.take i) 0 h
    rw [← hs, hlen] at this
    simp [h, this]
theorem heldOk_at (l : List Int) (i : Nat) (hi : i < l.length) : heldOk (l.take i) (l.drop i) = ((l[i] == 0 || (valOk l[i] && !decide (l[i] ∈ l.take i))) && heldOk (l.take (i + 1)) (l.drop (i + 1))) := by
  rw [List.drop_eq_getElem_cons hi, List.take_succ_eq_append_getElem hi]; rfl
theorem spec_RowsOk_ev (l : List Int) (st : Int) (hl : l.length ≤ 1048576) : Ev (fun k => spec_RowsOk.f k l st) (rowsOk l st) := by
  have key : ∀ i, i ≤ l.length → Ev (fun k => spec_RowsOk.l0 k (i : Int) l st) (heldOk (l.take i) (l.drop i) && (decide ((l.length : Int) = 4) && inR st 0 5)) := by
    refine Ev_downR (L := fun i k => spec_RowsOk.l0 k (i : Int) l st) (R := fun i => heldOk (l.take i) (l.drop i) && (decide ((l.length : Int) = 4) && inR st 0 5)) l.length ?_ ?_
    · refine Ev_at 1 (fun k => ?_)
      simp only [spec_RowsOk.l0, spec_l1In_eq, Option.bind_some]
      rw [if_neg (by omega)]
      by_cases h : (l.length : Int) = 4 <;> simp [h, heldOk]
    · intro i hi ih
      refine Ev.step (f := fun k => if l[i] = 0 then spec_RowsOk.l0 k ((i + 1 : Nat) : Int) l st else (if valOk l[i] = true then (spec_KeyOf.f k l st l[i]).bind fun t => (if t = (i : Int) then spec_RowsOk.l0 k ((i + 1 : Nat) : Int) l st else some false) else some false)) (fun k => ?_) ?_
      · simp only [spec_RowsOk.l0, spec_ValOk_eq, Option.bind_some]
        rw [if_pos (by omega), if_pos (by omega), rd_at l i hi, wrap_up i (by omega)]
      · rw [heldOk_at l i hi]
        by_cases h : l[i] = 0
        · have e : (l[i] == 0 || (valOk l[i] && !decide (l[i] ∈ l.take i))) = true := by simp [h]
          simp only [if_pos h, e, Bool.true_and]; exact ih
        · simp only [if_neg h]
          cases hv : valOk l[i]
          · have e : (l[i] == 0 || (false && !decide (l[i] ∈ l.take i))) = false := by simp [h]
            rw [e]
            simp only [Bool.false_and, Bool.false_eq_true, if_false]; exact Ev.now _
          · simp only [if_true]
            refine Ev.bind (spec_KeyOf_ev l st l[i] hl) ?_
            have := idx_here l i hi
            by_cases h2 : l[i] ∈ l.take i
            · rw [decide_eq_true h2] at this
              have h3 : ¬ idxF l[i] l 0 = (i : Int) := by simpa using this
              have e : (l[i] == 0 || (true && !decide (l[i] ∈ l.take i))) = false := by simp [h, h2]
              rw [e]
              simp only [if_neg h3, Bool.false_and]; exact Ev.now _
            · rw [decide_eq_false h2] at this
              have h3 : idxF l[i] l 0 = (i : Int) := by simpa using this
              have e : (l[i] == 0 || (true && !decide (l[i] ∈ l.take i))) = true := by simp [h, h2]
              rw [e]
              simp only [if_pos h3, Bool.true_and]; exact ih
  have := key 0 (Nat.zero_le _)
  simpa [spec_RowsOk.f, rowsOk] using this
theorem impl_RowsOk_ev (l : List Int) (st : Int) (hl : l.length ≤ 1048576) : Ev (fun k => impl_RowsOk.f k l st) (rowsOk l st) := by
  have key : ∀ i, i ≤ l.length → Ev (fun k => impl_RowsOk.l0 k l (l.length : Int) (i : Int) l st) (heldOk (l.take i) (l.drop i) && (decide ((l.length : Int) = 4) && inR st 0 5)) := by
    refine Ev_downR (L := fun i k => impl_RowsOk.l0 k l (l.length : Int) (i : Int) l st) (R := fun i => heldOk (l.take i) (l.drop i) && (decide ((l.length : Int) = 4) && inR st 0 5)) l.length ?_ ?_
    · refine Ev_at 1 (fun k => ?_)
      simp only [impl_RowsOk.l0, impl_from_eq, Option.bind_some]
      rw [if_neg (by omega)]
      by_cases h : (l.length : Int) = 4 <;> simp [h, heldOk]
    · intro i hi ih
      refine Ev.step (f := fun k => if l[i] = 0 then impl_RowsOk.l0 k l (l.length : Int) ((i + 1 : Nat) : Int) l st else (if valOk l[i] = true then (slices_Contains_int_int.f k (l.take i) l[i]).bind fun t => (if t = true then some false else impl_RowsOk.l0 k l (l.length : Int) ((i + 1 : Nat) : Int) l st) else some false)) (fun k => ?_) ?_
      · simp only [impl_RowsOk.l0, impl_ValOk_eq, Option.bind_some]
        rw [if_pos (by omega), if_pos (by omega), if_pos (by omega), rd_at l i hi, wrap_up i (by omega), if_pos (show (i : Int) ≤ (l.length : Int) by omega), Int.toNat_natCast]
      · rw [heldOk_at l i hi]
        by_cases h : l[i] = 0
        · have e : (l[i] == 0 || (valOk l[i] && !decide (l[i] ∈ l.take i))) = true := by simp [h]
          simp only [if_pos h, e, Bool.true_and]; exact ih
        · simp only [if_neg h]
          cases hv : valOk l[i]
          · have e : (l[i] == 0 || (false && !decide (l[i] ∈ l.take i))) = false := by simp [h]
            rw [e]
            simp only [Bool.false_and, Bool.false_eq_true, if_false]; exact Ev.now _
          · simp only [if_true]
            refine Ev.bind (slices_Contains_ev (l.take i) l[i] (Nat.le_trans (List.length_take_le' _ _) hl)) ?_
            by_cases h2 : l[i] ∈ l.take i
            · have e : (l[i] == 0 || (true && !decide (l[i] ∈ l.take i))) = false := by simp [h, h2]
              rw [e]
              simp only [decide_eq_true h2, if_true, Bool.false_and]; exact Ev.now _
            · have e : (l[i] == 0 || (true && !decide (l[i] ∈ l.take i))) = true := by simp [h, h2]
              rw [e]
              simp only [decide_eq_false h2, Bool.false_eq_true, if_false, Bool.true_and]; exact ih
  have := key 0 (Nat.zero_le _)
  simpa [impl_RowsOk.f, rowsOk] using this
theorem Ev_mono {α : Type} {g : Nat → Option α} {r : α} (n : Nat) (h : g n = some r) (hm : ∀ k, LeO (g k) (g (k + 1))) : Ev g r := ⟨n, fun k hk => by
  obtain ⟨m, rfl⟩ : ∃ m, k = n + m := ⟨k - n, by omega⟩
  clear hk
  induction m with
  | zero => exact h
  | succ m ih => exact hm _ _ ih⟩
/-- At rows that are in order both tell the same twenty words: looked through, one after another. -/
def same (a b c d s : Int) : Bool :=
  match spec_WordsOf.l0 30 (List.replicate 20 0) 0 [a, b, c, d] s, impl_WordsOf.l0 10 ([a, b, c, d].take 20 ++ (List.replicate 20 0).drop 4) [a, b, c, d] 4 0 [a, b, c, d] s with
  | some x, some y => x == y && decide (x.length = 20)
  | _, _ => false
def fit (pre : List Int) (x : Int) : Bool := x == 0 || !decide (x ∈ pre)
def r7 : List Int := [0, 1, 2, 3, 4, 5, 6]
def chk (a : Int) : Bool := r7.all fun b => !fit [a] b || r7.all fun c => !fit [a, b] c || r7.all fun d => !fit [a, b, c] d || [0, 1, 2, 3, 4, 5].all fun s => same a b c d s
set_option maxRecDepth 100000 in
theorem chk0 : chk 0 = true := by decide +kernel
set_option maxRecDepth 100000 in
theorem chk1 : chk 1 = true := by decide +kernel
set_option maxRecDepth 100000 in
theorem chk2 : chk 2 = true := by decide +kernel
set_option maxRecDepth 100000 in
theorem chk3 : chk 3 = true := by decide +kernel
set_option maxRecDepth 100000 in
theorem chk4 : chk 4 = true := by decide +kernel
set_option maxRecDepth 100000 in
theorem chk5 : chk 5 = true := by decide +kernel
set_option maxRecDepth 100000 in
theorem chk6 : chk 6 = true := by decide +kernel
theorem held_fit (x : Int) (pre : List Int) (h : (x == 0 || (valOk x && !decide (x ∈ pre))) = true) : x ∈ r7 ∧ fit pre x = true := by
  by_cases c : x = 0
  · subst c; exact ⟨by decide, rfl⟩
  · have e : (x == 0) = false := beq_eq_false_iff_ne.mpr c
    rw [e, Bool.false_or, Bool.and_eq_true] at h
    have hv : 1 ≤ x ∧ x ≤ 6 := by simpa [valOk, inR] using h.1
    refine ⟨?_, by rw [fit, e, Bool.false_or]; exact h.2⟩
    have : x = 1 ∨ x = 2 ∨ x = 3 ∨ x = 4 ∨ x = 5 ∨ x = 6 := by omega
    rcases this with rfl | rfl | rfl | rfl | rfl | rfl <;> decide
theorem r7_all (f : Int → Bool) (g : Int → Bool) (h : (r7.all fun x => !g x || f x) = true) (x : Int) (hx : x ∈ r7) (hg : g x = true) : f x = true := by
  have := List.all_eq_true.1 h x hx
  rwa [hg, Bool.not_true, Bool.false_or] at this
theorem chk_at (a b c d s : Int) (ha : a ∈ r7) (hb : b ∈ r7 ∧ fit [a] b = true) (hc : c ∈ r7 ∧ fit [a, b] c = true) (hd : d ∈ r7 ∧ fit [a, b, c] d = true) (hs : inR s 0 5 = true) : same a b c d s = true := by
  have h0 : chk a = true := by
    have : a = 0 ∨ a = 1 ∨ a = 2 ∨ a = 3 ∨ a = 4 ∨ a = 5 ∨ a = 6 := by simpa [r7] using ha
    rcases this with rfl | rfl | rfl | rfl | rfl | rfl | rfl
    · exact chk0
    · exact chk1
    · exact chk2
    · exact chk3
    · exact chk4
    · exact chk5
    · exact chk6
  unfold chk at h0
  have h1 := r7_all _ _ h0 b hb.1 hb.2
  have h2 := r7_all _ _ h1 c hc.1 hc.2
  have h3 := r7_all _ _ h2 d hd.1 hd.2
  have hs' : 0 ≤ s ∧ s ≤ 5 := by simpa [inR] using hs
  have hm : s ∈ ([0, 1, 2, 3, 4, 5] : List Int) := by
    have : s = 0 ∨ s = 1 ∨ s = 2 ∨ s = 3 ∨ s = 4 ∨ s = 5 := by omega
    rcases this with rfl | rfl | rfl | rfl | rfl | rfl <;> decide
  exact List.all_eq_true.1 h3 s hm
theorem WordsOf_ev (l : List Int) (s : Int) (hl : l.length ≤ 1048576) : ∃ W : List Int, W.length ≤ 20 ∧ Ev (fun k => spec_WordsOf.f k l s) W ∧ Ev (fun k => impl_WordsOf.f k l s) W := by
  cases hr : rowsOk l s
  · refine ⟨[], by simp, ?_, ?_⟩
    · unfold spec_WordsOf.f
      refine Ev.bind (spec_RowsOk_ev l s hl) ?_
      simp only [hr, Bool.false_eq_true, if_false]
      exact Ev.now _
    · unfold impl_WordsOf.f
      refine Ev.bind (impl_RowsOk_ev l s hl) ?_
      simp only [hr, Bool.false_eq_true, if_false]
      exact Ev.now _
  · have hr' := hr
    unfold rowsOk at hr'
    rw [Bool.and_eq_true, Bool.and_eq_true] at hr'
    obtain ⟨hh, h4, hs⟩ := hr'
    have h4' : l.length = 4 := by have := of_decide_eq_true h4; omega
    obtain ⟨a, b, c, d, rfl⟩ : ∃ a b c d, l = [a, b, c, d] := by
      match l, h4' with
      | [a, b, c, d], _ => exact ⟨a, b, c, d, rfl⟩
    simp only [heldOk, List.nil_append, List.cons_append, Bool.and_eq_true] at hh
    obtain ⟨ka, kb, kc, kd, _⟩ := hh
    have hsame := chk_at a b c d s (held_fit a [] ka).1 (held_fit b [a] kb) (held_fit c [a, b] kc) (held_fit d [a, b, c] kd) hs
    unfold same at hsame
    split at hsame
    · rename_i x y hx hy
      rw [Bool.and_eq_true] at hsame
      obtain ⟨hxy, hlen⟩ := hsame
      have hxy : x = y := eq_of_beq hxy
      subst hxy
      refine ⟨x, by have := of_decide_eq_true hlen; omega, ?_, ?_⟩
      · unfold spec_WordsOf.f
        refine Ev.bind (spec_RowsOk_ev _ s hl) ?_
        simp only [hr, if_true, if_pos (show (20 : Nat) ≤ 35184372088832 by decide)]
        exact Ev_mono 30 hx (fun k => (spec_WordsOf.mono_l k).1 _ _ _ _)
      · unfold impl_WordsOf.f
        refine Ev.bind (impl_RowsOk_ev _ s hl) ?_
        simp only [hr, if_true, Option.bind_some]
        have hb : (List.replicate 20 (0 : Int)).length + [a, b, c, d].length < 17592186044416 := by simp
        simp only [if_pos hb, if_pos (show (20 : Nat) ≤ 35184372088832 by decide)]
        exact Ev_mono 10 hy (fun k => impl_WordsOf.mono_l k _ _ _ _ _ _)
    · exact absurd hsame (by decide)
theorem Ev_posF {α : Type} {x : Int} {g h : Nat → Option α} {r : α} (hx : 0 ≤ x) : Ev (fun k => if x < 0 then h k else g k) r = Ev g r := by
  have h' : ¬ x < 0 := by omega
  simp only [if_neg h']

theorem FnExactWordsOf (l0_0 : List Int) (a0_1 : Int) (gl0_0 : (fun l : List Int => l.length ≤ maxLen ∧ ∀ x ∈ l, (fun n : Int => (Lit.int .i64 n).wf = true) x) l0_0) (ga0_1 : (fun n : Int => (Lit.int .i64 n).wf = true) a0_1) : ∃ k, laws_FnExactWordsOf.f k l0_0 a0_1 = some true := by
  refine Ev.rounds (r := true) ?_
  unfold laws_FnExactWordsOf.f
  obtain ⟨r, er, pr⟩ := laws_szRows_some l0_0 a0_1 gl0_0.1 1048576 (by omega) (by omega)
  simp only [er, Option.bind_some]
  by_cases c : r < 0
  · simp only [if_pos c]; exact Ev.now _
  simp only [if_neg c]
  obtain ⟨hr, h0⟩ := pr (by omega)
  have hto := laws_toRows_ev l0_0 a0_1 h0
  obtain ⟨W, hW, hs, hi⟩ := WordsOf_ev l0_0 a0_1 h0
  have hW' : W.length ≤ 1048576 := by omega
  have he := laws_eqIntS_refl W hW'
  have hm := laws_markIntS_ev W hW' 1 (by omega) (by omega)
  have hm0 := laws_markRows_ev l0_0 a0_1 h0 1 (by omega) (by omega)
  have hh := laws_heldIntS_ev W.length hW' 1 (by omega) (by omega)
  refine Ev.bind hto ?_
  refine Ev.bind hs ?_
  refine Ev.bind hto ?_
  refine Ev.bind hi ?_
  refine Ev.bind he ?_
  simp only [if_true]
  refine Ev.bind hto ?_
  refine Ev.bind (laws_eqRows_refl _ _ h0) ?_
  simp only [if_true]
  refine Ev.bind hm0 ?_
  rw [Ev_posF (by first | omega | (simp; omega))]
  refine Ev.bind he ?_
  refine Ev.step (f := fun k => (laws_markIntS.f k W 1).bind fun bt231 => ((laws_heldIntS.f k bt231.2 1).bind fun t233 => (if t233 < 0 then (none) else (if t233 = bt231.1 then ((laws_toRows.f k l0_0 a0_1).bind fun bt234 => ((impl_WordsOf.f k bt234.1 bt234.2).bind fun t238 => ((laws_eqIntS.f k t238 W).bind fun t241 => (if t241 = true then ((laws_heldIntS.f k bt231.2 1).bind fun t242 => (if t242 < 0 then (none) else (if t242 = bt231.1 then (some true) else (none)))) else (none))))) else (none))))) (fun k => ?_) ?_
  · simp only [laws_FnExactWordsOf.j0, Bool.not_true, Bool.false_eq_true, if_false]
  refine Ev.bind hm ?_
  refine Ev.bind hh ?_
  rw [Ev_pos (by first | omega | (simp; omega))]
  simp only [if_true]
  refine Ev.bind hto ?_
  refine Ev.bind hi ?_
  refine Ev.bind he ?_
  simp only [if_true]
  refine Ev.bind hh ?_
  rw [Ev_pos (by first | omega | (simp; omega))]
  simp only [if_true]
  exact Ev.now _

end Go.Proofs.Ytcjkkcjnlcehnaa.Pure
