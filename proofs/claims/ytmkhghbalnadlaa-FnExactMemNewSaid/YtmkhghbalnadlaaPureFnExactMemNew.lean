/- The pure statement behind the law FnExactMemNew: over plain values. No condition beyond that numbers are of their kind and lengths below 2^63. -/
import Derived.Test.YtmkhghbalnadlaaOpnFnExactMemNew
namespace Go.Proofs.Ytmkhghbalnadlaa.Pure
open Go.RowKit Go.Proofs.Ytmkhghbalnadlaa.Op Go.Proofs.YtmkhghbalnadlaaW.PrintWords Go.Proofs.YtmkhghbalnadlaaW.PrintLast Go.Proofs.Ytmkhghbalnadlaa.PFnExactMemNew Go.Proofs.Ytmkhghbalnadlaa.fnExactMemNew

-- PACKS
set_option linter.unusedVariables false
set_option linter.unusedSimpArgs false
theorem Ev.now {α : Type} (r : α) : Ev (fun _ => some r) r := ⟨0, fun _ _ => rfl⟩
theorem Ev.rounds {α : Type} {g : Nat → Option α} {r : α} (h : Ev g r) : ∃ k, g k = some r := by
  obtain ⟨K, hK⟩ := h
  exact ⟨K, hK K (Nat.le_refl K)⟩
theorem Ev_at {α : Type} {g : Nat → Option α} {r : α} (n : Nat) (h : ∀ k, g (k + n) = some r) : Ev g r := ⟨n, fun k hk => by
  obtain ⟨m, rfl⟩ : ∃ m, k = m + n := ⟨k - n, by omega⟩
  exact h m⟩
theorem Ev_down {α : Type} {L : Nat → Nat → Option α} {r : α} (n : Nat) (hn : Ev (L n) r) (hs : ∀ i, i < n → Ev (L (i + 1)) r → Ev (L i) r) : ∀ i, i ≤ n → Ev (L i) r := by
  have key : ∀ d i, i + d = n → Ev (L i) r := by
    intro d
    induction d with
    | zero => intro i h; obtain rfl : i = n := (by omega); exact hn
    | succ d ih => intro i h; exact hs i (by omega) (ih (i + 1) (by omega))
  exact fun i h => key (n - i) i (by omega)
theorem wrap_up (i : Nat) (h : i < 9223372036854775807) : wrap64 ((i : Int) + 1) = ((i + 1 : Nat) : Int) := by unfold wrap64; omega
theorem set_fill {α β : Type} (l : List α) (i : Nat) (hi : i < l.length) (z : β) (f : α → β) (v : β) (hv : v = f (l[i]'hi)) :
    ((l.take i).map f ++ List.replicate (l.length - i) z).set (i : Int).toNat v = (l.take (i + 1)).map f ++ List.replicate (l.length - (i + 1)) z := by
  subst hv
  have h1 : ((l.take i).map f).length = i := by simp; omega
  rw [Int.toNat_natCast, List.set_append, if_neg (by omega), h1, Nat.sub_self]
  obtain ⟨m, hm⟩ : ∃ m, l.length - i = m + 1 := ⟨l.length - i - 1, by omega⟩
  rw [hm, List.replicate_succ, List.set_cons_zero, show l.length - (i + 1) = m by omega, List.take_succ_eq_append_getElem hi, List.map_append, List.append_assoc]
  rfl
theorem set_fill_id {α : Type} (l : List α) (i : Nat) (hi : i < l.length) (z : α) (v : α) (hv : v = l[i]'hi) :
    (l.take i ++ List.replicate (l.length - i) z).set (i : Int).toNat v = l.take (i + 1) ++ List.replicate (l.length - (i + 1)) z := by
  have := set_fill l i hi z id v hv
  simpa using this
theorem Ev_downR {α : Type} {L : Nat → Nat → Option α} {R : Nat → α} (n : Nat) (hn : Ev (L n) (R n)) (hs : ∀ i, i < n → Ev (L (i + 1)) (R (i + 1)) → Ev (L i) (R i)) : ∀ i, i ≤ n → Ev (L i) (R i) := by
  have key : ∀ d i, i + d = n → Ev (L i) (R i) := by
    intro d
    induction d with
    | zero => intro i h; obtain rfl : i = n := (by omega); exact hn
    | succ d ih => intro i h; exact hs i (by omega) (ih (i + 1) (by omega))
  exact fun i h => key (n - i) i (by omega)
theorem rd_at (l : List Int) (i : Nat) (hi : i < l.length) : rd l (i : Int) = l[i] := by simp [rd, List.getD_eq_getElem?_getD, hi]
theorem mark_fill {α : Type} (g : Nat → α) (l : List α) (i : Nat) (hi : i < l.length) : ((List.range i).map g ++ l.drop i).set i (g i) = (List.range (i + 1)).map g ++ l.drop (i + 1) := by
  rw [List.set_append, if_neg (by simp), List.length_map, List.length_range, Nat.sub_self, List.drop_eq_getElem_cons hi, List.set_cons_zero, List.range_succ, List.map_append, List.append_assoc]
  rfl
theorem Ev_pos {α : Type} {x : Int} {g : Nat → Option α} {r : α} (h : 0 ≤ x) : Ev (fun k => if x < 0 then none else g k) r = Ev g r := by
  have h' : ¬ x < 0 := by omega
  simp only [if_neg h']
def inR (x lo hi : Int) : Bool := decide (lo ≤ x) && decide (x ≤ hi)
def keyOk (k : Int) : Bool := inR k 0 3
def valOk (v : Int) : Bool := inR v 1 6
def isClass (c : Int) : Bool := inR c 0 2
def classOf (v : Int) : Int := if valOk v then Int.tmod v 3 else -1
theorem spec_l1In_eq (x lo hi : Int) : spec_l1In.f x lo hi = some (inR x lo hi) := by
  unfold spec_l1In.f inR
  by_cases h : lo ≤ x <;> simp [h]
theorem impl_from_eq (x lo hi : Int) : impl_from.f x lo hi = some (inR x lo hi) := by
  unfold impl_from.f inR
  by_cases h : lo ≤ x <;> simp [h]
theorem spec_ValOk_eq (x : Int) : spec_ValOk.f x = some (valOk x) := by simp [spec_ValOk.f, spec_l1In_eq, valOk]
theorem impl_ValOk_eq (x : Int) : impl_ValOk.f x = some (valOk x) := by simp [impl_ValOk.f, impl_from_eq, valOk]
def wordOk (n t s th : Int) : Bool := if t = 0 then inR n 0 1000 && s == 0 else n == 0 && inR t 1 th && inR s 1 1000000
theorem spec_WordOk_eq (n t s th : Int) : spec_WordOk.f n t s th = some (wordOk n t s th) := by
  unfold spec_WordOk.f wordOk
  simp only [spec_l1In_eq, Option.bind_some]
  by_cases h1 : t = 0 <;> by_cases h2 : s = 0 <;> by_cases h3 : n = 0 <;> cases h4 : inR t 1 th <;> simp [h1, h2, h3, h4]
theorem impl_WordOk_eq (n t s th : Int) : impl_WordOk.f n t s th = some (wordOk n t s th) := by
  unfold impl_WordOk.f wordOk
  simp only [impl_isWordNum.f, impl_from_eq, Option.bind_some]
  by_cases h1 : t = 0 <;> by_cases h2 : n = 0 <;> cases h3 : inR n 0 1000 <;> cases h4 : inR t 1 th <;> simp_all
theorem laws_toIntS_ev (l : List Int) (h : (l.length ≤ 1048576)) : Ev (fun k => laws_toIntS.f k l) (l) := by
  have hl : l.length ≤ 1048576 := h
  have key : ∀ i, i ≤ l.length → Ev (fun k => laws_toIntS.l0 k l ((l.take i) ++ List.replicate (l.length - i) 0) (i : Int)) (l) := by
    refine Ev_down (L := fun i k => laws_toIntS.l0 k l ((l.take i) ++ List.replicate (l.length - i) 0) (i : Int)) l.length ?_ ?_
    · refine Ev_at 1 (fun k => ?_)
      simp only [laws_toIntS.l0]
      rw [if_neg (by omega)]
      simp
    · intro i hi ih
      refine Ev.step (f := fun k => laws_toIntS.l0 k l ((l.take (i+1)) ++ List.replicate (l.length - (i+1)) 0) ((i+1 : Nat) : Int)) (fun k => ?_) ?_
      · simp only [laws_toIntS.l0]
        rw [if_pos (by omega), if_pos (by omega)]
        rw [if_pos (by simp; omega), wrap_up i (by omega)]
        congr 1
        exact set_fill_id l i hi 0 _ (by simp [rd, List.getD_eq_getElem?_getD, hi])
      · exact ih
  have := key 0 (Nat.zero_le _)
  have hc : ((l.length : Int) : Int).toNat ≤ 35184372088832 := by omega
  unfold laws_toIntS.f
  simp only [if_pos (Int.natCast_nonneg l.length), if_pos hc]
  simpa using this
theorem laws_eqIntS_refl (l : List Int) (h : (l.length ≤ 1048576)) : Ev (fun k => laws_eqIntS.f k l l) true := by
  have hl : l.length ≤ 1048576 := h
  have key : ∀ i, i ≤ l.length → Ev (fun k => laws_eqIntS.l0 k l l (i : Int)) true := by
    refine Ev_down (L := fun i k => laws_eqIntS.l0 k l l (i : Int)) l.length ?_ ?_
    · refine Ev_at 1 (fun k => ?_)
      simp only [laws_eqIntS.l0]
      rw [if_neg (by omega)]
    · intro i hi ih
      refine Ev.step (f := fun k => laws_eqIntS.l0 k l l ((i+1 : Nat) : Int)) (fun k => ?_) ih
      simp only [laws_eqIntS.l0]
      rw [if_pos (by omega), if_pos (by omega), if_pos (by omega), if_pos trivial, wrap_up i (by omega)]
  have := key 0 (Nat.zero_le _)
  unfold laws_eqIntS.f
  simp only [if_pos]
  exact this
theorem laws_szIntS_some (l : List Int) (hb : l.length ≤ maxLen) (left : Int) (h0 : 0 ≤ left) (h1 : left ≤ 1048576) : ∃ r, laws_szIntS.f l left = some r ∧ (0 ≤ r → r ≤ left ∧ l.length ≤ 1048576) := by
  have hm : maxLen = 9223372036854775807 := rfl
  have hw : wrap64 (left - (l.length : Int)) = left - (l.length : Int) := by unfold wrap64; omega
  unfold laws_szIntS.f
  rw [hw]
  by_cases c : left - (l.length : Int) < 0
  · exact ⟨-1, by rw [if_pos c], fun h => by omega⟩
  · exact ⟨_, by rw [if_neg c], fun _ => by omega⟩
theorem laws_toRows_ev (l0 : List Int) (a1 : Int) (h0 : (l0.length ≤ 1048576)) : Ev (fun k => laws_toRows.f k l0 a1) (l0, a1) := by
  unfold laws_toRows.f
  try simp only [Option.bind_some]
  refine Ev.bind (laws_toIntS_ev l0 h0) ?_
  exact Ev.now _
theorem laws_eqRows_refl (l0 : List Int) (a1 : Int) (h0 : (l0.length ≤ 1048576)) : Ev (fun k => laws_eqRows.f k l0 a1 l0 a1) true := by
  unfold laws_eqRows.f
  try simp only [if_pos, Option.bind_some]
  refine Ev.bind (laws_eqIntS_refl l0 h0) ?_
  try simp only [if_true, if_pos, bne_self_eq_false, Bool.false_eq_true, if_false]
  exact Ev.now _
theorem laws_szRows_some (l0 : List Int) (a1 : Int) (b0 : l0.length ≤ maxLen) (left : Int) (h0 : 0 ≤ left) (h1 : left ≤ 1048576) : ∃ r, laws_szRows.f l0 a1 left = some r ∧ (0 ≤ r → r ≤ left ∧ (l0.length ≤ 1048576)) := by
  unfold laws_szRows.f
  obtain ⟨r0, e0, p0⟩ := laws_szIntS_some l0 b0 left (by omega) (by omega)
  simp only [e0, Option.bind_some]
  by_cases c0 : r0 < 0
  · exact ⟨-1, by simp [c0], fun h => by omega⟩
  simp only [if_neg c0]
  have q0 := p0 (by omega)
  refine ⟨_, rfl, fun _ => ⟨by omega, ?_⟩⟩
  simp_all
def mkI (a : Int) (j : Nat) : Int := a + (j : Int)
theorem laws_markIntS_ev (l : List Int) (h : l.length ≤ 1048576) (a : Int) (h0 : 0 ≤ a) (h1 : a ≤ 1000000000000000) : Ev (fun k => laws_markIntS.f k l a) (a + (l.length : Int), (List.range l.length).map (mkI a)) := by
  have key : ∀ i, i ≤ l.length → Ev (fun k => laws_markIntS.l0 k ((List.range i).map (mkI a) ++ l.drop i) (a + (i : Int)) (i : Int)) (a + (l.length : Int), (List.range l.length).map (mkI a)) := by
    refine Ev_down (L := fun i k => laws_markIntS.l0 k ((List.range i).map (mkI a) ++ l.drop i) (a + (i : Int)) (i : Int)) l.length ?_ ?_
    · refine Ev_at 1 (fun k => ?_)
      simp only [laws_markIntS.l0]
      rw [if_neg (by simp)]
      simp
    · intro i hi ih
      have hlen : ((List.range i).map (mkI a) ++ l.drop i).length = l.length := by simp; omega
      have w0 : wrap64 (a + (i : Int) + 1) = a + (i : Int) + 1 := by unfold wrap64; omega
      have hfin : a + ((i + 1 : Nat) : Int) = a + (i : Int) + 1 := by omega
      refine Ev.step (f := fun k => laws_markIntS.l0 k ((List.range (i + 1)).map (mkI a) ++ l.drop (i + 1)) (a + ((i + 1 : Nat) : Int)) ((i + 1 : Nat) : Int)) (fun k => ?_) ih
      rw [← mark_fill (mkI a) l i hi, hfin]
      simp only [laws_markIntS.l0, Option.bind_some, hlen]
      rw [if_pos (by omega), if_pos (by omega), wrap_up i (by omega)]
      simp only [Int.toNat_natCast, w0, List.set_set]
      rfl
  have := key 0 (Nat.zero_le _)
  unfold laws_markIntS.f
  simpa using this
theorem laws_heldIntS_ev (n : Nat) (h : n ≤ 1048576) (a : Int) (h0 : 0 ≤ a) (h1 : a ≤ 1000000000000000) : Ev (fun k => laws_heldIntS.f k ((List.range n).map (mkI a)) a) (a + (n : Int)) := by
  have key : ∀ i, i ≤ n → Ev (fun k => laws_heldIntS.l0 k ((List.range n).map (mkI a)) (a + (i : Int)) (i : Int)) (a + (n : Int)) := by
    refine Ev_down (L := fun i k => laws_heldIntS.l0 k ((List.range n).map (mkI a)) (a + (i : Int)) (i : Int)) n ?_ ?_
    · refine Ev_at 1 (fun k => ?_)
      simp only [laws_heldIntS.l0]
      rw [if_neg (by simp)]
    · intro i hi ih
      have hr : rd ((List.range n).map (mkI a)) (i : Int) = mkI a i := by simp [rd, List.getD_eq_getElem?_getD, hi]
      have w0 : wrap64 (a + (i : Int) + 1) = a + (i : Int) + 1 := by unfold wrap64; omega
      have hfin : a + ((i + 1 : Nat) : Int) = a + (i : Int) + 1 := by omega
      refine Ev.step (f := fun k => laws_heldIntS.l0 k ((List.range n).map (mkI a)) (a + ((i + 1 : Nat) : Int)) ((i + 1 : Nat) : Int)) (fun k => ?_) ih
      rw [hfin]
      simp only [laws_heldIntS.l0, hr, mkI, w0]
      rw [if_pos (by simp; omega), if_pos (by omega), wrap_up i (by omega)]
      simp only [if_true]
  have := key 0 (Nat.zero_le _)
  unfold laws_heldIntS.f
  simpa using this
theorem laws_markRows_ev (l0 : List Int) (a1 : Int) (h0 : l0.length ≤ 1048576) (a : Int) (h_0 : 0 ≤ a) (h_1 : a ≤ 100000000) : Ev (fun k => laws_markRows.f k l0 a1 a) (a + (l0.length : Int), (List.range l0.length).map (mkI (a))) := by
  unfold laws_markRows.f
  refine Ev.bind (laws_markIntS_ev l0 h0 (a) (by omega) (by omega)) ?_
  exact Ev.now _
theorem laws_eqWord_refl (a0 : Int) (a1 : Int) (a2 : Int) : laws_eqWord.f a0 a1 a2 a0 a1 a2 = some true := by simp [laws_eqWord.f]
theorem laws_eqWordS_refl (l : List S95) (h : (l.length ≤ 1048576)) : Ev (fun k => laws_eqWordS.f k l l) true := by
  have hl : l.length ≤ 1048576 := h
  have key : ∀ i, i ≤ l.length → Ev (fun k => laws_eqWordS.l0 k l l (i : Int)) true := by
    refine Ev_down (L := fun i k => laws_eqWordS.l0 k l l (i : Int)) l.length ?_ ?_
    · refine Ev_at 1 (fun k => ?_)
      simp only [laws_eqWordS.l0]
      rw [if_neg (by omega)]
    · intro i hi ih
      refine Ev.step (f := fun k => laws_eqWordS.l0 k l l ((i+1 : Nat) : Int)) (fun k => ?_) ih
      simp only [laws_eqWordS.l0]
      rw [if_pos (by omega), if_pos (by omega), if_pos (by omega), laws_eqWord_refl, Option.bind_some, if_pos rfl, wrap_up i (by omega)]
  have := key 0 (Nat.zero_le _)
  unfold laws_eqWordS.f
  simp only [if_pos]
  exact this
theorem laws_eqEntry_refl (a0 : Int) (a1 : Int) (a2 : Int) : laws_eqEntry.f a0 a1 a2 a0 a1 a2 = some true := by simp [laws_eqEntry.f]
theorem laws_eqEntryS_refl (l : List S122) (h : (l.length ≤ 1048576)) : Ev (fun k => laws_eqEntryS.f k l l) true := by
  have hl : l.length ≤ 1048576 := h
  have key : ∀ i, i ≤ l.length → Ev (fun k => laws_eqEntryS.l0 k l l (i : Int)) true := by
    refine Ev_down (L := fun i k => laws_eqEntryS.l0 k l l (i : Int)) l.length ?_ ?_
    · refine Ev_at 1 (fun k => ?_)
      simp only [laws_eqEntryS.l0]
      rw [if_neg (by omega)]
    · intro i hi ih
      refine Ev.step (f := fun k => laws_eqEntryS.l0 k l l ((i+1 : Nat) : Int)) (fun k => ?_) ih
      simp only [laws_eqEntryS.l0]
      rw [if_pos (by omega), if_pos (by omega), if_pos (by omega), laws_eqEntry_refl, Option.bind_some, if_pos rfl, wrap_up i (by omega)]
  have := key 0 (Nat.zero_le _)
  unfold laws_eqEntryS.f
  simp only [if_pos]
  exact this
theorem laws_eqRes_refl (a0 : Int) (l1 : List Int) (h1 : (l1.length ≤ 1048576)) : Ev (fun k => laws_eqRes.f k a0 l1 a0 l1) true := by
  unfold laws_eqRes.f
  try simp only [if_pos, Option.bind_some]
  refine Ev.bind (laws_eqIntS_refl l1 h1) ?_
  try simp only [if_true, if_pos, bne_self_eq_false, Bool.false_eq_true, if_false]
  exact Ev.now _
theorem laws_eqDesc_refl (a0 : Int) (a1 : Int) (l2 : List S122) (a3 : Int) (l4 : List Int) (h2 : (l2.length ≤ 1048576)) (h4 : (l4.length ≤ 1048576)) : Ev (fun k => laws_eqDesc.f k a0 a1 l2 a3 l4 a0 a1 l2 a3 l4) true := by
  unfold laws_eqDesc.f
  try simp only [if_pos, Option.bind_some]
  refine Ev.bind (laws_eqEntryS_refl l2 h2) ?_
  try simp only [if_true, if_pos, bne_self_eq_false, Bool.false_eq_true, if_false]
  refine Ev.bind (laws_eqRes_refl a3 l4 h4) ?_
  try simp only [if_true, if_pos, bne_self_eq_false, Bool.false_eq_true, if_false]
  exact Ev.now _
theorem laws_eqDescS_refl (l : List S119) (h : ((l.length ≤ 1048576) ∧ ∀ y ∈ l, (y.f2.length ≤ 1048576) ∧ (y.f3.f1.length ≤ 1048576))) : Ev (fun k => laws_eqDescS.f k l l) true := by
  have hl : l.length ≤ 1048576 := h.1
  have key : ∀ i, i ≤ l.length → Ev (fun k => laws_eqDescS.l0 k l l (i : Int)) true := by
    refine Ev_down (L := fun i k => laws_eqDescS.l0 k l l (i : Int)) l.length ?_ ?_
    · refine Ev_at 1 (fun k => ?_)
      simp only [laws_eqDescS.l0]
      rw [if_neg (by omega)]
    · intro i hi ih
      have hrd : rd_T119 l (i : Int) = l[i] := by simp [rd_T119, List.getD_eq_getElem?_getD, hi]
      obtain ⟨q2, q4⟩ := h.2 l[i] (List.getElem_mem hi)
      refine Ev.step (f := fun k => (laws_eqDesc.f k (l[i]).f0 (l[i]).f1 (l[i]).f2 (l[i]).f3.f0 (l[i]).f3.f1 (l[i]).f0 (l[i]).f1 (l[i]).f2 (l[i]).f3.f0 (l[i]).f3.f1).bind fun t => if t = true then laws_eqDescS.l0 k l l ((i+1 : Nat) : Int) else none) (fun k => ?_) ?_
      · simp only [laws_eqDescS.l0]
        rw [if_pos (by omega), if_pos (by omega), if_pos (by omega), hrd, wrap_up i (by omega)]
      · refine Ev.bind (laws_eqDesc_refl (l[i]).f0 (l[i]).f1 (l[i]).f2 (l[i]).f3.f0 (l[i]).f3.f1 q2 q4) ?_
        simp only [if_true]
        exact ih
  have := key 0 (Nat.zero_le _)
  unfold laws_eqDescS.f
  simp only [if_pos]
  exact this
theorem laws_eqMem_refl (l0 : List S95) (l1 : List S119) (h0 : (l0.length ≤ 1048576)) (h1 : ((l1.length ≤ 1048576) ∧ ∀ y ∈ l1, (y.f2.length ≤ 1048576) ∧ (y.f3.f1.length ≤ 1048576))) : Ev (fun k => laws_eqMem.f k l0 l1 l0 l1) true := by
  unfold laws_eqMem.f
  try simp only [if_pos, Option.bind_some]
  refine Ev.bind (laws_eqWordS_refl l0 h0) ?_
  try simp only [if_true, if_pos, bne_self_eq_false, Bool.false_eq_true, if_false]
  refine Ev.bind (laws_eqDescS_refl l1 h1) ?_
  try simp only [if_true, if_pos, bne_self_eq_false, Bool.false_eq_true, if_false]
  exact Ev.now _
theorem rdset95 (l : List S95) (i : Nat) (hi : i < l.length) (v : S95) : rd_T95 (l.set i v) (i : Int) = v := by simp [rd_T95, List.getD_eq_getElem?_getD, hi]
def mk95 (a : Int) (j : Nat) : S95 := ⟨a + 3 * (j : Int), a + 3 * (j : Int) + 1, a + 3 * (j : Int) + 2⟩
theorem laws_markWordS_ev (l : List S95) (h : l.length ≤ 1048576) (a : Int) (h0 : 0 ≤ a) (h1 : a ≤ 1000000000000000) : Ev (fun k => laws_markWordS.f k l a) (a + 3 * (l.length : Int), (List.range l.length).map (mk95 a)) := by
  have key : ∀ i, i ≤ l.length → Ev (fun k => laws_markWordS.l0 k ((List.range i).map (mk95 a) ++ l.drop i) (a + 3 * (i : Int)) (i : Int)) (a + 3 * (l.length : Int), (List.range l.length).map (mk95 a)) := by
    refine Ev_down (L := fun i k => laws_markWordS.l0 k ((List.range i).map (mk95 a) ++ l.drop i) (a + 3 * (i : Int)) (i : Int)) l.length ?_ ?_
    · refine Ev_at 1 (fun k => ?_)
      simp only [laws_markWordS.l0]
      rw [if_neg (by simp)]
      simp
    · intro i hi ih
      have hlen : ((List.range i).map (mk95 a) ++ l.drop i).length = l.length := by simp; omega
      have w0 : wrap64 (a + 3 * (i : Int) + 1) = a + 3 * (i : Int) + 1 := by unfold wrap64; omega
      have w1 : wrap64 (a + 3 * (i : Int) + 1 + 1) = a + 3 * (i : Int) + 2 := by unfold wrap64; omega
      have w2 : wrap64 (a + 3 * (i : Int) + 2 + 1) = a + 3 * (i : Int) + 3 := by unfold wrap64; omega
      have hfin : a + 3 * ((i + 1 : Nat) : Int) = a + 3 * (i : Int) + 3 := by omega
      refine Ev.step (f := fun k => laws_markWordS.l0 k ((List.range (i + 1)).map (mk95 a) ++ l.drop (i + 1)) (a + 3 * ((i + 1 : Nat) : Int)) ((i + 1 : Nat) : Int)) (fun k => ?_) ih
      rw [← mark_fill (mk95 a) l i hi, hfin]
      simp only [laws_markWordS.l0, Option.bind_some, hlen]
      rw [if_pos (by omega), if_pos (by omega), wrap_up i (by omega)]
      simp only [Int.toNat_natCast, rdset95 _ i (by rw [hlen]; exact hi), w0, w1, w2, List.set_set]
      rfl
  have := key 0 (Nat.zero_le _)
  unfold laws_markWordS.f
  simpa using this
theorem laws_heldWordS_ev (n : Nat) (h : n ≤ 1048576) (a : Int) (h0 : 0 ≤ a) (h1 : a ≤ 1000000000000000) : Ev (fun k => laws_heldWordS.f k ((List.range n).map (mk95 a)) a) (a + 3 * (n : Int)) := by
  have key : ∀ i, i ≤ n → Ev (fun k => laws_heldWordS.l0 k ((List.range n).map (mk95 a)) (a + 3 * (i : Int)) (i : Int)) (a + 3 * (n : Int)) := by
    refine Ev_down (L := fun i k => laws_heldWordS.l0 k ((List.range n).map (mk95 a)) (a + 3 * (i : Int)) (i : Int)) n ?_ ?_
    · refine Ev_at 1 (fun k => ?_)
      simp only [laws_heldWordS.l0]
      rw [if_neg (by simp)]
    · intro i hi ih
      have hr : rd_T95 ((List.range n).map (mk95 a)) (i : Int) = mk95 a i := by simp [rd_T95, List.getD_eq_getElem?_getD, hi]
      have w0 : wrap64 (a + 3 * (i : Int) + 1) = a + 3 * (i : Int) + 1 := by unfold wrap64; omega
      have w1 : wrap64 (a + 3 * (i : Int) + 1 + 1) = a + 3 * (i : Int) + 2 := by unfold wrap64; omega
      have w2 : wrap64 (a + 3 * (i : Int) + 2 + 1) = a + 3 * (i : Int) + 3 := by unfold wrap64; omega
      have hfin : a + 3 * ((i + 1 : Nat) : Int) = a + 3 * (i : Int) + 3 := by omega
      refine Ev.step (f := fun k => laws_heldWordS.l0 k ((List.range n).map (mk95 a)) (a + 3 * ((i + 1 : Nat) : Int)) ((i + 1 : Nat) : Int)) (fun k => ?_) ih
      rw [hfin]
      simp only [laws_heldWordS.l0, hr, mk95, w0, w1, w2]
      rw [if_pos (by simp; omega), if_pos (by omega), wrap_up i (by omega)]
      simp only [if_true]
  have := key 0 (Nat.zero_le _)
  unfold laws_heldWordS.f
  simpa using this
theorem rdset122 (l : List S122) (i : Nat) (hi : i < l.length) (v : S122) : rd_T122 (l.set i v) (i : Int) = v := by simp [rd_T122, List.getD_eq_getElem?_getD, hi]
def mk122 (a : Int) (j : Nat) : S122 := ⟨a + 3 * (j : Int), a + 3 * (j : Int) + 1, a + 3 * (j : Int) + 2⟩
theorem laws_markEntryS_ev (l : List S122) (h : l.length ≤ 1048576) (a : Int) (h0 : 0 ≤ a) (h1 : a ≤ 1000000000000000) : Ev (fun k => laws_markEntryS.f k l a) (a + 3 * (l.length : Int), (List.range l.length).map (mk122 a)) := by
  have key : ∀ i, i ≤ l.length → Ev (fun k => laws_markEntryS.l0 k ((List.range i).map (mk122 a) ++ l.drop i) (a + 3 * (i : Int)) (i : Int)) (a + 3 * (l.length : Int), (List.range l.length).map (mk122 a)) := by
    refine Ev_down (L := fun i k => laws_markEntryS.l0 k ((List.range i).map (mk122 a) ++ l.drop i) (a + 3 * (i : Int)) (i : Int)) l.length ?_ ?_
    · refine Ev_at 1 (fun k => ?_)
      simp only [laws_markEntryS.l0]
      rw [if_neg (by simp)]
      simp
    · intro i hi ih
      have hlen : ((List.range i).map (mk122 a) ++ l.drop i).length = l.length := by simp; omega
      have w0 : wrap64 (a + 3 * (i : Int) + 1) = a + 3 * (i : Int) + 1 := by unfold wrap64; omega
      have w1 : wrap64 (a + 3 * (i : Int) + 1 + 1) = a + 3 * (i : Int) + 2 := by unfold wrap64; omega
      have w2 : wrap64 (a + 3 * (i : Int) + 2 + 1) = a + 3 * (i : Int) + 3 := by unfold wrap64; omega
      have hfin : a + 3 * ((i + 1 : Nat) : Int) = a + 3 * (i : Int) + 3 := by omega
      refine Ev.step (f := fun k => laws_markEntryS.l0 k ((List.range (i + 1)).map (mk122 a) ++ l.drop (i + 1)) (a + 3 * ((i + 1 : Nat) : Int)) ((i + 1 : Nat) : Int)) (fun k => ?_) ih
      rw [← mark_fill (mk122 a) l i hi, hfin]
      simp only [laws_markEntryS.l0, Option.bind_some, hlen]
      rw [if_pos (by omega), if_pos (by omega), wrap_up i (by omega)]
      simp only [Int.toNat_natCast, rdset122 _ i (by rw [hlen]; exact hi), w0, w1, w2, List.set_set]
      rfl
  have := key 0 (Nat.zero_le _)
  unfold laws_markEntryS.f
  simpa using this
theorem laws_heldEntryS_ev (n : Nat) (h : n ≤ 1048576) (a : Int) (h0 : 0 ≤ a) (h1 : a ≤ 1000000000000000) : Ev (fun k => laws_heldEntryS.f k ((List.range n).map (mk122 a)) a) (a + 3 * (n : Int)) := by
  have key : ∀ i, i ≤ n → Ev (fun k => laws_heldEntryS.l0 k ((List.range n).map (mk122 a)) (a + 3 * (i : Int)) (i : Int)) (a + 3 * (n : Int)) := by
    refine Ev_down (L := fun i k => laws_heldEntryS.l0 k ((List.range n).map (mk122 a)) (a + 3 * (i : Int)) (i : Int)) n ?_ ?_
    · refine Ev_at 1 (fun k => ?_)
      simp only [laws_heldEntryS.l0]
      rw [if_neg (by simp)]
    · intro i hi ih
      have hr : rd_T122 ((List.range n).map (mk122 a)) (i : Int) = mk122 a i := by simp [rd_T122, List.getD_eq_getElem?_getD, hi]
      have w0 : wrap64 (a + 3 * (i : Int) + 1) = a + 3 * (i : Int) + 1 := by unfold wrap64; omega
      have w1 : wrap64 (a + 3 * (i : Int) + 1 + 1) = a + 3 * (i : Int) + 2 := by unfold wrap64; omega
      have w2 : wrap64 (a + 3 * (i : Int) + 2 + 1) = a + 3 * (i : Int) + 3 := by unfold wrap64; omega
      have hfin : a + 3 * ((i + 1 : Nat) : Int) = a + 3 * (i : Int) + 3 := by omega
      refine Ev.step (f := fun k => laws_heldEntryS.l0 k ((List.range n).map (mk122 a)) (a + 3 * ((i + 1 : Nat) : Int)) ((i + 1 : Nat) : Int)) (fun k => ?_) ih
      rw [hfin]
      simp only [laws_heldEntryS.l0, hr, mk122, w0, w1, w2]
      rw [if_pos (by simp; omega), if_pos (by omega), wrap_up i (by omega)]
      simp only [if_true]
  have := key 0 (Nat.zero_le _)
  unfold laws_heldEntryS.f
  simpa using this
theorem rdT_Entry (l : List S122) (i : Nat) (hi : i < l.length) : rd_T122 l (i : Int) = l[i] := by simp [rd_T122, List.getD_eq_getElem?_getD, hi]
def entF (v : Int) : List S122 → Int × Int × Int × Bool
  | [] => (0, 0, 0, false)
  | e :: es => if e.f0 = v then (e.f0, e.f1, e.f2, true) else entF v es
theorem spec_Entries_ev (sq st : Int) (l : List S122) (c : Int) (rl : List Int) (v : Int) (hl : l.length ≤ 1048576) : Ev (fun k => spec_Entries.f k sq st l c rl v) (entF v l) := by
  have key : ∀ i, i ≤ l.length → Ev (fun k => spec_Entries.l0 k v (i : Int) sq st l c rl) (entF v (l.drop i)) := by
    refine Ev_downR (L := fun i k => spec_Entries.l0 k v (i : Int) sq st l c rl) (R := fun i => entF v (l.drop i)) l.length ?_ ?_
    · refine Ev_at 1 (fun k => ?_)
      simp only [spec_Entries.l0]
      rw [if_neg (by omega), List.drop_length]
      rfl
    · intro i hi ih
      refine Ev.step (f := fun k => if (l[i]).f0 = v then some ((l[i]).f0, (l[i]).f1, (l[i]).f2, true) else spec_Entries.l0 k v ((i + 1 : Nat) : Int) sq st l c rl) (fun k => ?_) ?_
      · simp only [spec_Entries.l0]
        rw [if_pos (by omega), if_pos (by omega), rdT_Entry l i hi, wrap_up i (by omega)]
      · rw [List.drop_eq_getElem_cons hi]
        by_cases h : (l[i]).f0 = v
        · simp only [if_pos h, entF]; exact Ev.now _
        · simp only [if_neg h, entF]; exact ih
  exact key 0 (Nat.zero_le _)
theorem impl_Entries_ev (sq st : Int) (l : List S122) (c : Int) (rl : List Int) (v : Int) (hl : l.length ≤ 1048576) : Ev (fun k => impl_Entries.f k sq st l c rl v) (entF v l) := by
  have key : ∀ i, i ≤ l.length → Ev (fun k => impl_Entries.l0 k v l (l.length : Int) (i : Int)) (entF v (l.drop i)) := by
    refine Ev_downR (L := fun i k => impl_Entries.l0 k v l (l.length : Int) (i : Int)) (R := fun i => entF v (l.drop i)) l.length ?_ ?_
    · refine Ev_at 1 (fun k => ?_)
      simp only [impl_Entries.l0]
      rw [if_neg (by omega), List.drop_length]
      rfl
    · intro i hi ih
      refine Ev.step (f := fun k => if (l[i]).f0 = v then some ((l[i]).f0, (l[i]).f1, (l[i]).f2, true) else impl_Entries.l0 k v l (l.length : Int) ((i + 1 : Nat) : Int)) (fun k => ?_) ?_
      · simp only [impl_Entries.l0]
        rw [if_pos (by omega), if_pos (by omega), if_pos (by omega), rdT_Entry l i hi, wrap_up i (by omega)]
      · rw [List.drop_eq_getElem_cons hi]
        by_cases h : (l[i]).f0 = v
        · simp only [if_pos h, entF]; exact Ev.now _
        · simp only [if_neg h, entF]; exact ih
  exact key 0 (Nat.zero_le _)
def entsOk (prev : Int) : List S122 → Bool
  | [] => true
  | e :: es => inR e.f0 0 19 && (inR e.f1 0 1000 && (inR e.f2 0 1000 && (decide (prev < e.f0) && entsOk e.f0 es)))
def descOk (sq st : Int) (l : List S122) (c : Int) (rl : List Int) : Bool :=
  if sq = 0 then decide (st = 0) && (decide (l.length = 0) && (decide (c = 0) && decide (rl.length = 0)))
  else inR sq 1 1000000 && (inR st 1 3 && (decide (l.length ≤ 20) && entsOk (-1) l))
def prevAt (l : List S122) (i : Nat) : Int := if h : 0 < i ∧ i ≤ l.length then (l[i - 1]'(by omega)).f0 else -1
theorem prevAt_succ (l : List S122) (i : Nat) (hi : i < l.length) : prevAt l (i + 1) = (l[i]).f0 := by
  unfold prevAt
  rw [dif_pos (by omega)]
  simp
theorem ent_prev {β : Type} (l : List S122) (i : Nat) (hi : i < l.length) (hl : l.length ≤ 1048576) (go no bad : β) (h0 : inR (l[i]).f0 0 19 = true) :
    (if (i : Int) > 0 then (if 0 ≤ wrap64 ((i : Int) - 1) then (if wrap64 ((i : Int) - 1) < (l.length : Int) then (if (rd_T122 l (wrap64 ((i : Int) - 1))).f0 ≥ (l[i]).f0 then no else go) else bad) else bad) else go) = if prevAt l i < (l[i]).f0 then go else no := by
  rcases Nat.eq_zero_or_pos i with h | h
  · subst h
    have hp : prevAt l 0 = -1 := by simp [prevAt]
    have h1 : 0 ≤ (l[0]).f0 := by simp [inR] at h0; omega
    rw [if_neg (by omega), hp, if_pos (by omega)]
  · obtain ⟨j, rfl⟩ : ∃ j, i = j + 1 := ⟨i - 1, by omega⟩
    have e : wrap64 (((j + 1 : Nat) : Int) - 1) = (j : Int) := by unfold wrap64; omega
    rw [if_pos (by omega), e, if_pos (by omega), if_pos (by omega), rdT_Entry l j (by omega), prevAt_succ l j (by omega)]
    by_cases hc : (l[j]).f0 < (l[j + 1]).f0
    · rw [if_neg (by omega), if_pos hc]
    · rw [if_pos (by omega), if_neg hc]
theorem entsOk_at (l : List S122) (i : Nat) (hi : i < l.length) : entsOk (prevAt l i) (l.drop i) = (inR (l[i]).f0 0 19 && (inR (l[i]).f1 0 1000 && (inR (l[i]).f2 0 1000 && (decide (prevAt l i < (l[i]).f0) && entsOk (prevAt l (i + 1)) (l.drop (i + 1)))))) := by
  rw [List.drop_eq_getElem_cons hi, prevAt_succ l i hi]; rfl
theorem Ev_ifB {g : Nat → Option Bool} (b : Bool) {r : Bool} (h : b = true → Ev g r) : Ev (fun k => if b = true then g k else some false) (b && r) := by
  cases b
  · exact Ev.now _
  · exact h rfl
theorem Ev_ifD {g : Nat → Option Bool} (p : Prop) [Decidable p] {r : Bool} (h : p → Ev g r) : Ev (fun k => if p then g k else some false) (decide p && r) := by
  by_cases hp : p
  · simp only [if_pos hp, decide_eq_true hp, Bool.true_and]; exact h hp
  · simp only [if_neg hp, decide_eq_false hp, Bool.false_and]; exact Ev.now _
theorem spec_DescOk_ev (sq st : Int) (l : List S122) (c : Int) (rl : List Int) (hl : l.length ≤ 1048576) : Ev (fun k => spec_DescOk.f k sq st l c rl) (descOk sq st l c rl) := by
  have key : ∀ i, i ≤ l.length → Ev (fun k => spec_DescOk.l0 k (i : Int) sq st l c rl) (entsOk (prevAt l i) (l.drop i)) := by
    refine Ev_downR (L := fun i k => spec_DescOk.l0 k (i : Int) sq st l c rl) (R := fun i => entsOk (prevAt l i) (l.drop i)) l.length ?_ ?_
    · refine Ev_at 1 (fun k => ?_)
      simp only [spec_DescOk.l0]
      rw [if_neg (by omega), List.drop_length]
      rfl
    · intro i hi ih
      refine Ev.step (f := fun k => if inR (l[i]).f0 0 19 = true then (if inR (l[i]).f1 0 1000 = true then (if inR (l[i]).f2 0 1000 = true then (if prevAt l i < (l[i]).f0 then spec_DescOk.l0 k ((i + 1 : Nat) : Int) sq st l c rl else some false) else some false) else some false) else some false) (fun k => ?_) ?_
      · simp only [spec_DescOk.l0, spec_l1In_eq, Option.bind_some]
        rw [if_pos (by omega), if_pos (by omega), rdT_Entry l i hi, wrap_up i (by omega)]
        cases h0 : inR (l[i]).f0 0 19
        · rfl
        · simp only [if_true]
          rw [ent_prev l i hi hl _ _ _ h0]
      · rw [entsOk_at l i hi]
        exact Ev_ifB _ fun _ => Ev_ifB _ fun _ => Ev_ifB _ fun _ => Ev_ifD _ fun _ => ih
  have k0 := key 0 (Nat.zero_le _)
  have hp : prevAt l 0 = -1 := by simp [prevAt]
  rw [hp, List.drop_zero] at k0
  unfold spec_DescOk.f descOk
  by_cases h : sq = 0
  · simp only [if_pos h]
    refine Ev_ifD _ fun _ => ?_
    by_cases h2 : l.length = 0
    · have h2' : (l.length : Int) = 0 := by omega
      simp only [if_pos h2', decide_eq_true h2, Bool.true_and]
      refine Ev_ifD _ fun _ => ?_
      have e : ((rl.length : Int) == 0) = decide (rl.length = 0) := by
        by_cases h3 : rl.length = 0 <;> simp [h3]
      rw [e]; exact Ev.now _
    · have h2' : ¬ (l.length : Int) = 0 := by omega
      simp only [if_neg h2', decide_eq_false h2, Bool.false_and]; exact Ev.now _
  · simp only [if_neg h, spec_l1In_eq, Option.bind_some]
    have hj : ∀ b : Bool, Ev (fun k => spec_DescOk.j0 k b sq st l c rl) (!b && entsOk (-1) l) := by
      intro b
      refine Ev.step (f := fun k => if b = true then some false else spec_DescOk.l0 k 0 sq st l c rl) (fun k => by simp only [spec_DescOk.j0]) ?_
      cases b
      · exact k0
      · exact Ev.now _
    cases h1 : inR sq 1 1000000
    · exact hj true
    · simp only [if_true]
      cases h2 : inR st 1 3
      · exact hj true
      · simp only [if_true, Bool.true_and]
        have e : decide (l.length ≤ 20) = !decide ((l.length : Int) > 20) := by
          by_cases h3 : l.length ≤ 20
          · have : ¬ (l.length : Int) > 20 := by omega
            simp [h3, this]
          · have : (l.length : Int) > 20 := by omega
            simp [h3, this]
        rw [e]
        exact hj _
theorem impl_DescOk_ev (sq st : Int) (l : List S122) (c : Int) (rl : List Int) (hl : l.length ≤ 1048576) : Ev (fun k => impl_DescOk.f k sq st l c rl) (descOk sq st l c rl) := by
  have key : ∀ i, i ≤ l.length → Ev (fun k => impl_DescOk.l0 k l (l.length : Int) (i : Int) sq st l c rl) (entsOk (prevAt l i) (l.drop i) && (inR sq 1 1000000 && (inR st 1 3 && decide (l.length ≤ 20)))) := by
    refine Ev_downR (L := fun i k => impl_DescOk.l0 k l (l.length : Int) (i : Int) sq st l c rl) (R := fun i => entsOk (prevAt l i) (l.drop i) && (inR sq 1 1000000 && (inR st 1 3 && decide (l.length ≤ 20)))) l.length ?_ ?_
    · refine Ev_at 1 (fun k => ?_)
      simp only [impl_DescOk.l0, impl_from_eq, Option.bind_some]
      rw [if_neg (by omega), List.drop_length]
      have e : decide ((l.length : Int) ≤ 20) = decide (l.length ≤ 20) := by
        by_cases h3 : l.length ≤ 20
        · have : (l.length : Int) ≤ 20 := by omega
          simp [h3, this]
        · have : ¬ (l.length : Int) ≤ 20 := by omega
          simp [h3, this]
      rw [e]
      cases inR sq 1 1000000 <;> cases inR st 1 3 <;> simp [entsOk]
    · intro i hi ih
      refine Ev.step (f := fun k => if inR (l[i]).f0 0 19 = true then (if inR (l[i]).f1 0 1000 = true then (if inR (l[i]).f2 0 1000 = true then (if prevAt l i < (l[i]).f0 then impl_DescOk.l0 k l (l.length : Int) ((i + 1 : Nat) : Int) sq st l c rl else some false) else some false) else some false) else some false) (fun k => ?_) ?_
      · simp only [impl_DescOk.l0, impl_isPlace.f, impl_isWordNum.f, impl_from_eq, Option.bind_some]
        rw [if_pos (by omega), if_pos (by omega), if_pos (by omega), rdT_Entry l i hi, wrap_up i (by omega)]
        cases h0 : inR (l[i]).f0 0 19
        · rfl
        · simp only [if_true]
          rw [ent_prev l i hi hl _ _ _ h0]
      · rw [entsOk_at l i hi, Bool.and_assoc, Bool.and_assoc, Bool.and_assoc, Bool.and_assoc]
        exact Ev_ifB _ fun _ => Ev_ifB _ fun _ => Ev_ifB _ fun _ => Ev_ifD _ fun _ => ih
  have k0 := key 0 (Nat.zero_le _)
  have hp : prevAt l 0 = -1 := by simp [prevAt]
  rw [hp, List.drop_zero] at k0
  unfold impl_DescOk.f descOk
  by_cases h : sq = 0
  · simp only [if_pos h]
    refine Ev_ifD _ fun _ => ?_
    by_cases h2 : l.length = 0
    · have h2' : (l.length : Int) = 0 := by omega
      simp only [if_pos h2', decide_eq_true h2, Bool.true_and]
      refine Ev_ifD _ fun _ => ?_
      have e : ((rl.length : Int) == 0) = decide (rl.length = 0) := by
        by_cases h3 : rl.length = 0 <;> simp [h3]
      rw [e]; exact Ev.now _
    · have h2' : ¬ (l.length : Int) = 0 := by omega
      simp only [if_neg h2', decide_eq_false h2, Bool.false_and]; exact Ev.now _
  · simp only [if_neg h]
    have e : (entsOk (-1) l && (inR sq 1 1000000 && (inR st 1 3 && decide (l.length ≤ 20)))) = (inR sq 1 1000000 && (inR st 1 3 && (decide (l.length ≤ 20) && entsOk (-1) l))) := by
      cases entsOk (-1) l <;> cases inR sq 1 1000000 <;> cases inR st 1 3 <;> cases decide (l.length ≤ 20) <;> rfl
    rw [← e]
    exact k0
theorem rdT_Word (l : List S95) (i : Nat) (hi : i < l.length) : rd_T95 l (i : Int) = l[i] := by simp [rd_T95, List.getD_eq_getElem?_getD, hi]
theorem rdT_Desc (l : List S119) (i : Nat) (hi : i < l.length) : rd_T119 l (i : Int) = l[i] := by simp [rd_T119, List.getD_eq_getElem?_getD, hi]
def smallD (l : List S119) : Prop := l.length ≤ 1048576 ∧ ∀ y ∈ l, (y.f2.length ≤ 1048576) ∧ (y.f3.f1.length ≤ 1048576)
theorem inR_iff (x lo hi : Int) : inR x lo hi = true ↔ lo ≤ x ∧ x ≤ hi := by simp [inR]
def ndesc (d : S119) : Bool := descOk d.f0 d.f1 d.f2 d.f3.f0 d.f3.f1
/-- A word at place i is as a memory needs it. -/
def wordAt (ds : List S119) (i : Int) (w : S95) : Bool :=
  wordOk w.f0 w.f1 w.f2 (ds.length : Int) && (decide (w.f1 = 0) || ((entF i (rd_T119 ds (w.f1 - 1)).f2).2.2.2 && decide ((rd_T119 ds (w.f1 - 1)).f0 = w.f2)))
def wordsFrom (ds : List S119) : Int → List S95 → Bool
  | _, [] => true
  | i, w :: ws => wordAt ds i w && wordsFrom ds (i + 1) ws
def memOk (ws : List S95) (ds : List S119) : Bool :=
  decide (ws.length = 20) && (inR (ds.length : Int) 1 4 && (ds.all ndesc && wordsFrom ds 0 ws))
theorem wordOk_T (n t s th : Int) (h : wordOk n t s th = true) : t = 0 ∨ (1 ≤ t ∧ t ≤ th) := by
  unfold wordOk at h
  by_cases h0 : t = 0
  · exact .inl h0
  · rw [if_neg h0] at h
    simp [inR] at h
    exact .inr h.1.2
theorem spec_MemOk_ev (ws : List S95) (ds : List S119) (hw : ws.length ≤ 1048576) (hd : smallD ds) : Ev (fun k => spec_MemOk.f k ws ds) (memOk ws ds) := by
  have hdl := hd.1
  have key1 : ∀ i, i ≤ ws.length → Ev (fun k => spec_MemOk.l1 k (i : Int) ws ds) (wordsFrom ds i (ws.drop i)) := by
    refine Ev_downR (L := fun i k => spec_MemOk.l1 k (i : Int) ws ds) (R := fun i => wordsFrom ds i (ws.drop i)) ws.length ?_ ?_
    · refine Ev_at 1 (fun k => ?_)
      simp only [spec_MemOk.l1]
      rw [if_neg (by omega), List.drop_length]
      rfl
    · intro i hi ih
      rw [List.drop_eq_getElem_cons hi]
      show Ev _ (wordAt ds i ws[i] && wordsFrom ds ((i + 1 : Nat) : Int) (ws.drop (i + 1)))
      generalize hx : ws[i] = x
      have hrd : rd_T95 ws (i : Int) = x := by rw [rdT_Word ws i hi, hx]
      unfold wordAt
      refine Ev.step (f := fun k => if wordOk x.f0 x.f1 x.f2 (ds.length : Int) = true then (if x.f1 > 0 then (if 0 ≤ wrap64 (x.f1 - 1) then (if wrap64 (x.f1 - 1) < (ds.length : Int) then ((spec_Entries.f k (rd_T119 ds (wrap64 (x.f1 - 1))).f0 (rd_T119 ds (wrap64 (x.f1 - 1))).f1 (rd_T119 ds (wrap64 (x.f1 - 1))).f2 (rd_T119 ds (wrap64 (x.f1 - 1))).f3.f0 (rd_T119 ds (wrap64 (x.f1 - 1))).f3.f1 (i : Int)).bind fun b => (if b.2.2.2 = true then (if (rd_T119 ds (wrap64 (x.f1 - 1))).f0 = x.f2 then spec_MemOk.l1 k ((i + 1 : Nat) : Int) ws ds else some false) else some false)) else none) else none) else spec_MemOk.l1 k ((i + 1 : Nat) : Int) ws ds) else some false) (fun k => ?_) ?_
      · simp only [spec_MemOk.l1, spec_WordOk_eq, Option.bind_some, hrd]
        rw [if_pos (by omega), if_pos (by omega), wrap_up i (by omega)]
      · cases hok : wordOk x.f0 x.f1 x.f2 (ds.length : Int)
        · exact Ev.now _
        · simp only [if_true, Bool.true_and]
          rcases wordOk_T _ _ _ _ hok with h0 | ⟨h1, h2⟩
          · have hn : ¬ x.f1 > 0 := by omega
            simp only [if_neg hn, decide_eq_true h0, Bool.true_or, Bool.true_and]
            exact ih
          · have hn : x.f1 > 0 := by omega
            have h0 : ¬ x.f1 = 0 := by omega
            have e2 : wrap64 (x.f1 - 1) = x.f1 - 1 := by unfold wrap64; omega
            have p3 : 0 ≤ x.f1 - 1 := by omega
            have p4 : x.f1 - 1 < (ds.length : Int) := by omega
            simp only [if_pos hn, e2, if_pos p3, if_pos p4, decide_eq_false h0, Bool.false_or]
            obtain ⟨j, hj⟩ : ∃ j : Nat, x.f1 - 1 = (j : Int) := ⟨(x.f1 - 1).toNat, by omega⟩
            have hjl : j < ds.length := by omega
            rw [hj, rdT_Desc ds j hjl]
            refine Ev.bind (spec_Entries_ev _ _ _ _ _ _ (hd.2 ds[j] (List.getElem_mem hjl)).1) ?_
            cases (entF (i : Int) (ds[j]).f2).2.2.2
            · exact Ev.now _
            · simp only [if_true, Bool.true_and]
              exact Ev_ifD _ fun _ => ih
  have key0 : ∀ i, i ≤ ds.length → Ev (fun k => spec_MemOk.l0 k (i : Int) ws ds) ((ds.drop i).all ndesc && wordsFrom ds 0 ws) := by
    refine Ev_downR (L := fun i k => spec_MemOk.l0 k (i : Int) ws ds) (R := fun i => (ds.drop i).all ndesc && wordsFrom ds 0 ws) ds.length ?_ ?_
    · refine Ev.step (f := fun k => spec_MemOk.l1 k 0 ws ds) (fun k => ?_) ?_
      · simp only [spec_MemOk.l0]
        rw [if_neg (by omega)]
      · rw [List.drop_length]
        exact key1 0 (Nat.zero_le _)
    · intro i hi ih
      rw [List.drop_eq_getElem_cons hi, List.all_cons, Bool.and_assoc]
      have hm := hd.2 ds[i] (List.getElem_mem hi)
      refine Ev.step (f := fun k => (spec_DescOk.f k (ds[i]).f0 (ds[i]).f1 (ds[i]).f2 (ds[i]).f3.f0 (ds[i]).f3.f1).bind fun t => if t = true then spec_MemOk.l0 k ((i + 1 : Nat) : Int) ws ds else some false) (fun k => ?_) ?_
      · simp only [spec_MemOk.l0, rdT_Desc ds i hi]
        rw [if_pos (by omega), if_pos (by omega), wrap_up i (by omega)]
      · refine Ev.bind (spec_DescOk_ev _ _ _ _ _ hm.1) ?_
        exact Ev_ifB _ fun _ => ih
  unfold spec_MemOk.f memOk
  have hj : ∀ b : Bool, Ev (fun k => spec_MemOk.j0 k b ws ds) (!b && (ds.all ndesc && wordsFrom ds 0 ws)) := by
    intro b
    refine Ev.step (f := fun k => if b = true then some false else spec_MemOk.l0 k 0 ws ds) (fun k => by simp only [spec_MemOk.j0]) ?_
    cases b
    · exact key0 0 (Nat.zero_le _)
    · exact Ev.now _
  by_cases h : ws.length = 20
  · have h' : (ws.length : Int) = 20 := by omega
    simp only [if_pos h', decide_eq_true h, Bool.true_and, spec_l1In_eq, Option.bind_some]
    have := hj (!inR (ds.length : Int) 1 4)
    rwa [Bool.not_not] at this
  · have h' : ¬ (ws.length : Int) = 20 := by omega
    simp only [if_neg h', decide_eq_false h, Bool.false_and]
    exact hj true
theorem impl_MemOk_c1_ev (d : S119) (h : d.f2.length ≤ 1048576) : Ev (fun k => impl_MemOk_c1.f k d.f0 d.f1 d.f2 d.f3.f0 d.f3.f1) (!ndesc d) := by
  unfold impl_MemOk_c1.f
  exact Ev.bind (impl_DescOk_ev _ _ _ _ _ h) (Ev.now _)
theorem has_bad (ds : List S119) (hd : smallD ds) : Ev (fun k => slices_ContainsFuncMemOk_c1.f k ds) (!ds.all ndesc) := by
  have hdl := hd.1
  have key : ∀ i, i ≤ ds.length → ∃ r, Ev (fun k => slices_IndexFuncMemOk_c1.l0 k ds (ds.length : Int) (i : Int)) r ∧ decide (r ≥ 0) = !(ds.drop i).all ndesc := by
    have step : ∀ d i, i + d = ds.length → ∃ r, Ev (fun k => slices_IndexFuncMemOk_c1.l0 k ds (ds.length : Int) (i : Int)) r ∧ decide (r ≥ 0) = !(ds.drop i).all ndesc := by
      intro d
      induction d with
      | zero =>
        intro i hi
        refine ⟨-1, Ev_at 1 (fun k => ?_), ?_⟩
        · simp only [slices_IndexFuncMemOk_c1.l0]
          rw [if_neg (by omega)]
        · rw [List.drop_eq_nil_of_le (by omega)]; rfl
      | succ d ih =>
        intro i hi
        have hil : i < ds.length := by omega
        have hm := hd.2 ds[i] (List.getElem_mem hil)
        have hs : ∀ r, Ev (fun k => if (!ndesc ds[i]) = true then some (i : Int) else slices_IndexFuncMemOk_c1.l0 k ds (ds.length : Int) ((i + 1 : Nat) : Int)) r → Ev (fun k => slices_IndexFuncMemOk_c1.l0 k ds (ds.length : Int) (i : Int)) r := by
          intro r hr
          refine Ev.step (f := fun k => (impl_MemOk_c1.f k (ds[i]).f0 (ds[i]).f1 (ds[i]).f2 (ds[i]).f3.f0 (ds[i]).f3.f1).bind fun t => if t = true then some (i : Int) else slices_IndexFuncMemOk_c1.l0 k ds (ds.length : Int) ((i + 1 : Nat) : Int)) (fun k => ?_) (Ev.bind (impl_MemOk_c1_ev ds[i] hm.1) hr)
          simp only [slices_IndexFuncMemOk_c1.l0, rdT_Desc ds i hil]
          rw [if_pos (by omega), if_pos (by omega), if_pos (by omega), wrap_up i (by omega)]
        cases hn : ndesc ds[i]
        · refine ⟨(i : Int), hs _ (by simp only [hn, Bool.not_false, if_true]; exact Ev.now _), ?_⟩
          rw [List.drop_eq_getElem_cons hil, List.all_cons, hn]
          simp
        · obtain ⟨r, hr, he⟩ := ih (i + 1) (by omega)
          refine ⟨r, hs _ (by simp only [hn, Bool.not_true, Bool.false_eq_true, if_false]; exact hr), ?_⟩
          rw [List.drop_eq_getElem_cons hil, List.all_cons, hn, he]
          simp
    intro i hi
    exact step (ds.length - i) i (by omega)
  obtain ⟨r, hr, he⟩ := key 0 (Nat.zero_le _)
  unfold slices_ContainsFuncMemOk_c1.f slices_IndexFuncMemOk_c1.f
  refine Ev.bind hr ?_
  rw [he]
  exact Ev.now _
theorem impl_MemOk_ev (ws : List S95) (ds : List S119) (hw : ws.length ≤ 1048576) (hd : smallD ds) : Ev (fun k => impl_MemOk.f k ws ds) (memOk ws ds) := by
  have hdl := hd.1
  have key1 : ∀ i, i ≤ ws.length → Ev (fun k => impl_MemOk.l0 k ws (ws.length : Int) (i : Int) ws ds) (wordsFrom ds i (ws.drop i)) := by
    refine Ev_downR (L := fun i k => impl_MemOk.l0 k ws (ws.length : Int) (i : Int) ws ds) (R := fun i => wordsFrom ds i (ws.drop i)) ws.length ?_ ?_
    · refine Ev_at 1 (fun k => ?_)
      simp only [impl_MemOk.l0]
      rw [if_neg (by omega), List.drop_length]
      rfl
    · intro i hi ih
      rw [List.drop_eq_getElem_cons hi]
      show Ev _ (wordAt ds i ws[i] && wordsFrom ds ((i + 1 : Nat) : Int) (ws.drop (i + 1)))
      generalize hx : ws[i] = x
      have hrd : rd_T95 ws (i : Int) = x := by rw [rdT_Word ws i hi, hx]
      unfold wordAt
      refine Ev.step (f := fun k => if wordOk x.f0 x.f1 x.f2 (ds.length : Int) = true then (if x.f1 = 0 then impl_MemOk.l0 k ws (ws.length : Int) ((i + 1 : Nat) : Int) ws ds else (if 0 ≤ wrap64 (x.f1 - 1) then (if wrap64 (x.f1 - 1) < (ds.length : Int) then ((impl_Entries.f k (rd_T119 ds (wrap64 (x.f1 - 1))).f0 (rd_T119 ds (wrap64 (x.f1 - 1))).f1 (rd_T119 ds (wrap64 (x.f1 - 1))).f2 (rd_T119 ds (wrap64 (x.f1 - 1))).f3.f0 (rd_T119 ds (wrap64 (x.f1 - 1))).f3.f1 (i : Int)).bind fun b => (if b.2.2.2 = true then (if (rd_T119 ds (wrap64 (x.f1 - 1))).f0 = x.f2 then impl_MemOk.l0 k ws (ws.length : Int) ((i + 1 : Nat) : Int) ws ds else some false) else some false)) else none) else none)) else some false) (fun k => ?_) ?_
      · simp only [impl_MemOk.l0, impl_WordOk_eq, Option.bind_some, hrd]
        rw [if_pos (by omega), if_pos (by omega), if_pos (by omega), wrap_up i (by omega)]
      · cases hok : wordOk x.f0 x.f1 x.f2 (ds.length : Int)
        · exact Ev.now _
        · simp only [if_true, Bool.true_and]
          rcases wordOk_T _ _ _ _ hok with h0 | ⟨h1, h2⟩
          · simp only [if_pos h0, decide_eq_true h0, Bool.true_or, Bool.true_and]
            exact ih
          · have h0 : ¬ x.f1 = 0 := by omega
            have e2 : wrap64 (x.f1 - 1) = x.f1 - 1 := by unfold wrap64; omega
            have p3 : 0 ≤ x.f1 - 1 := by omega
            have p4 : x.f1 - 1 < (ds.length : Int) := by omega
            simp only [if_neg h0, e2, if_pos p3, if_pos p4, decide_eq_false h0, Bool.false_or]
            obtain ⟨j, hj⟩ : ∃ j : Nat, x.f1 - 1 = (j : Int) := ⟨(x.f1 - 1).toNat, by omega⟩
            have hjl : j < ds.length := by omega
            rw [hj, rdT_Desc ds j hjl]
            refine Ev.bind (impl_Entries_ev _ _ _ _ _ _ (hd.2 ds[j] (List.getElem_mem hjl)).1) ?_
            cases (entF (i : Int) (ds[j]).f2).2.2.2
            · exact Ev.now _
            · simp only [if_true, Bool.true_and]
              exact Ev_ifD _ fun _ => ih
  have hj : ∀ b : Bool, Ev (fun k => impl_MemOk.j0 k b ws ds) (!b && wordsFrom ds 0 ws) := by
    intro b
    refine Ev.step (f := fun k => if b = true then some false else impl_MemOk.l0 k ws (ws.length : Int) 0 ws ds) (fun k => by simp only [impl_MemOk.j0]) ?_
    cases b
    · exact key1 0 (Nat.zero_le _)
    · exact Ev.now _
  unfold impl_MemOk.f memOk
  by_cases h : ws.length = 20
  · have h' : (ws.length : Int) = 20 := by omega
    simp only [if_pos h', decide_eq_true h, Bool.true_and, impl_from_eq, Option.bind_some]
    cases inR (ds.length : Int) 1 4
    · exact hj true
    · simp only [if_true, Bool.true_and]
      refine Ev.bind (has_bad ds hd) ?_
      have := hj (!ds.all ndesc)
      rwa [Bool.not_not] at this
  · have h' : ¬ (ws.length : Int) = 20 := by omega
    simp only [if_neg h', decide_eq_false h, Bool.false_and]
    exact hj true
def idxF (v : Int) : List Int → Int → Int
  | [], _ => -1
  | x :: xs, i => if x = v then i else idxF v xs (i + 1)
theorem idxF_new (v : Int) (rest : List Int) : ∀ (pre : List Int) (j : Int), v ∉ pre → idxF v (pre ++ v :: rest) j = j + pre.length
  | [], j, _ => by simp [idxF]
  | x :: xs, j, h => by
    have h1 : x ≠ v := fun e => h (by simp [e])
    have h2 : v ∉ xs := fun e => h (by simp [e])
    simp only [List.cons_append, idxF, if_neg h1, idxF_new v rest xs (j + 1) h2, List.length_cons]
    omega
theorem idxF_old (v : Int) (rest : List Int) : ∀ (pre : List Int) (j : Int), v ∈ pre → j ≤ idxF v (pre ++ rest) j ∧ idxF v (pre ++ rest) j < j + pre.length
  | [], j, h => by simp at h
  | x :: xs, j, h => by
    by_cases h1 : x = v
    · simp only [List.cons_append, idxF, if_pos h1, List.length_cons]; omega
    · have h2 : v ∈ xs := by simpa [Ne.symm h1] using h
      have := idxF_old v rest xs (j + 1) h2
      simp only [List.cons_append, idxF, if_neg h1, List.length_cons]; omega
theorem idxF_none (v : Int) : ∀ (l : List Int) (j : Int), v ∉ l → idxF v l j = -1
  | [], j, _ => rfl
  | x :: xs, j, h => by
    have h1 : x ≠ v := fun e => h (by simp [e])
    have h2 : v ∉ xs := fun e => h (by simp [e])
    simp only [idxF, if_neg h1, idxF_none v xs (j + 1) h2]
theorem idxF_mem (v : Int) (l : List Int) : decide (idxF v l 0 ≥ 0) = decide (v ∈ l) := by
  by_cases h : v ∈ l
  · have := idxF_old v [] l 0 h
    simp only [List.append_nil] at this
    simp [h, this.1]
  · rw [idxF_none v l 0 h]; simp [h]
theorem spec_KeyOf_ev (l : List Int) (st v : Int) (hl : l.length ≤ 1048576) : Ev (fun k => spec_KeyOf.f k l st v) (idxF v l 0) := by
  have key : ∀ i, i ≤ l.length → Ev (fun k => spec_KeyOf.l0 k v (i : Int) l st) (idxF v (l.drop i) i) := by
    refine Ev_downR (L := fun i k => spec_KeyOf.l0 k v (i : Int) l st) (R := fun i => idxF v (l.drop i) i) l.length ?_ ?_
    · refine Ev_at 1 (fun k => ?_)
      simp only [spec_KeyOf.l0]
      rw [if_neg (by omega)]
      simp [idxF]
    · intro i hi ih
      refine Ev.step (f := fun k => if l[i] = v then some (i : Int) else spec_KeyOf.l0 k v ((i + 1 : Nat) : Int) l st) (fun k => ?_) ?_
      · simp only [spec_KeyOf.l0]
        rw [if_pos (by omega), if_pos (by omega), rd_at l i hi, wrap_up i (by omega)]
      · rw [List.drop_eq_getElem_cons hi]
        by_cases h : l[i] = v
        · simp only [if_pos h, idxF]; exact Ev.now _
        · simp only [if_neg h, idxF]; exact ih
  exact key 0 (Nat.zero_le _)
theorem slices_Index_ev (l : List Int) (v : Int) (hl : l.length ≤ 1048576) : Ev (fun k => slices_Index_int_int.f k l v) (idxF v l 0) := by
  have key : ∀ i, i ≤ l.length → Ev (fun k => slices_Index_int_int.l0 k l v (l.length : Int) (i : Int)) (idxF v (l.drop i) i) := by
    refine Ev_downR (L := fun i k => slices_Index_int_int.l0 k l v (l.length : Int) (i : Int)) (R := fun i => idxF v (l.drop i) i) l.length ?_ ?_
    · refine Ev_at 1 (fun k => ?_)
      simp only [slices_Index_int_int.l0]
      rw [if_neg (by omega)]
      simp [idxF]
    · intro i hi ih
      refine Ev.step (f := fun k => if l[i] = v then some (i : Int) else slices_Index_int_int.l0 k l v (l.length : Int) ((i + 1 : Nat) : Int)) (fun k => ?_) ?_
      · simp only [slices_Index_int_int.l0]
        rw [if_pos (by omega), if_pos (by omega), if_pos (by omega), rd_at l i hi, wrap_up i (by omega)]
        by_cases h : l[i] = v
        · rw [if_pos h, if_pos h.symm]
        · rw [if_neg h, if_neg (Ne.symm h)]
      · rw [List.drop_eq_getElem_cons hi]
        by_cases h : l[i] = v
        · simp only [if_pos h, idxF]; exact Ev.now _
        · simp only [if_neg h, idxF]; exact ih
  exact key 0 (Nat.zero_le _)
theorem slices_Contains_ev (l : List Int) (v : Int) (hl : l.length ≤ 1048576) : Ev (fun k => slices_Contains_int_int.f k l v) (decide (v ∈ l)) := by
  unfold slices_Contains_int_int.f
  refine Ev.bind (slices_Index_ev l v hl) ?_
  rw [← idxF_mem]
  exact Ev.now _
def heldOk : List Int → List Int → Bool
  | _, [] => true
  | pre, v :: vs => (v == 0 || (valOk v && !decide (v ∈ pre))) && heldOk (pre ++ [v]) vs
def rowsOk (l : List Int) (s : Int) : Bool := heldOk [] l && (decide ((l.length : Int) = 4) && inR s 0 5)
theorem idx_here (l : List Int) (i : Nat) (hi : i < l.length) : decide (idxF l[i] l 0 = (i : Int)) = !decide (l[i] ∈ l.take i) := by
  have hs : l = l.take i ++ l[i] :: l.drop (i + 1) := by rw [← List.drop_eq_getElem_cons hi, List.take_append_drop]
  have hlen : (l.take i).length = i := by simp; omega
  by_cases h : l[i] ∈ l.take i
  · have := idxF_old l[i] (l[i] :: l.drop (i + 1)) (l.take i) 0 h
    rw [← hs, hlen] at this
    simp [h]; omega
  · have := idxF_new l[i] (l.drop (i + 1)) (l.take i) 0 h
    rw [← hs, hlen] at this
    simp [h, this]
theorem heldOk_at (l : List Int) (i : Nat) (hi : i < l.length) : heldOk (l.take i) (l.drop i) = ((l[i] == 0 || (valOk l[i] && !decide (l[i] ∈ l.take i))) && heldOk (l.take (i + 1)) (l.drop (i + 1))) := by
  rw [List.drop_eq_getElem_cons hi, List.take_succ_eq_append_getElem hi]; rfl
theorem spec_RowsOk_ev (l : List Int) (st : Int) (hl : l.length ≤ 1048576) : Ev (fun k => spec_RowsOk.f k l st) (rowsOk l st) := by
  have key : ∀ i, i ≤ l.length → Ev (fun k => spec_RowsOk.l0 k (i : Int) l st) (heldOk (l.take i) (l.drop i) && (decide ((l.length : Int) = 4) && inR st 0 5)) := by
    refine Ev_downR (L := fun i k => spec_RowsOk.l0 k (i : Int) l st) (R := fun i => heldOk (l.take i) (l.drop i) && (decide ((l.length : Int) = 4) && inR st 0 5)) l.length ?_ ?_
    · refine Ev_at 1 (fun k => ?_)
      simp only [spec_RowsOk.l0, spec_l1In_eq, Option.bind_some]
      rw [if_neg (by omega)]
      by_cases h : (l.length : Int) = 4 <;> simp [h, heldOk]
    · intro i hi ih
      refine Ev.step (f := fun k => if l[i] = 0 then spec_RowsOk.l0 k ((i + 1 : Nat) : Int) l st else (if valOk l[i] = true then (spec_KeyOf.f k l st l[i]).bind fun t => (if t = (i : Int) then spec_RowsOk.l0 k ((i + 1 : Nat) : Int) l st else some false) else some false)) (fun k => ?_) ?_
      · simp only [spec_RowsOk.l0, spec_ValOk_eq, Option.bind_some]
        rw [if_pos (by omega), if_pos (by omega), rd_at l i hi, wrap_up i (by omega)]
      · rw [heldOk_at l i hi]
        by_cases h : l[i] = 0
        · have e : (l[i] == 0 || (valOk l[i] && !decide (l[i] ∈ l.take i))) = true := by simp [h]
          simp only [if_pos h, e, Bool.true_and]; exact ih
        · simp only [if_neg h]
          cases hv : valOk l[i]
          · have e : (l[i] == 0 || (false && !decide (l[i] ∈ l.take i))) = false := by simp [h]
            rw [e]
            simp only [Bool.false_and, Bool.false_eq_true, if_false]; exact Ev.now _
          · simp only [if_true]
            refine Ev.bind (spec_KeyOf_ev l st l[i] hl) ?_
            have := idx_here l i hi
            by_cases h2 : l[i] ∈ l.take i
            · rw [decide_eq_true h2] at this
              have h3 : ¬ idxF l[i] l 0 = (i : Int) := by simpa using this
              have e : (l[i] == 0 || (true && !decide (l[i] ∈ l.take i))) = false := by simp [h, h2]
              rw [e]
              simp only [if_neg h3, Bool.false_and]; exact Ev.now _
            · rw [decide_eq_false h2] at this
              have h3 : idxF l[i] l 0 = (i : Int) := by simpa using this
              have e : (l[i] == 0 || (true && !decide (l[i] ∈ l.take i))) = true := by simp [h, h2]
              rw [e]
              simp only [if_pos h3, Bool.true_and]; exact ih
  have := key 0 (Nat.zero_le _)
  simpa [spec_RowsOk.f, rowsOk] using this
theorem impl_RowsOk_ev (l : List Int) (st : Int) (hl : l.length ≤ 1048576) : Ev (fun k => impl_RowsOk.f k l st) (rowsOk l st) := by
  have key : ∀ i, i ≤ l.length → Ev (fun k => impl_RowsOk.l0 k l (l.length : Int) (i : Int) l st) (heldOk (l.take i) (l.drop i) && (decide ((l.length : Int) = 4) && inR st 0 5)) := by
    refine Ev_downR (L := fun i k => impl_RowsOk.l0 k l (l.length : Int) (i : Int) l st) (R := fun i => heldOk (l.take i) (l.drop i) && (decide ((l.length : Int) = 4) && inR st 0 5)) l.length ?_ ?_
    · refine Ev_at 1 (fun k => ?_)
      simp only [impl_RowsOk.l0, impl_from_eq, Option.bind_some]
      rw [if_neg (by omega)]
      by_cases h : (l.length : Int) = 4 <;> simp [h, heldOk]
    · intro i hi ih
      refine Ev.step (f := fun k => if l[i] = 0 then impl_RowsOk.l0 k l (l.length : Int) ((i + 1 : Nat) : Int) l st else (if valOk l[i] = true then (slices_Contains_int_int.f k (l.take i) l[i]).bind fun t => (if t = true then some false else impl_RowsOk.l0 k l (l.length : Int) ((i + 1 : Nat) : Int) l st) else some false)) (fun k => ?_) ?_
      · simp only [impl_RowsOk.l0, impl_ValOk_eq, Option.bind_some]
        rw [if_pos (by omega), if_pos (by omega), if_pos (by omega), rd_at l i hi, wrap_up i (by omega), if_pos (show (i : Int) ≤ (l.length : Int) by omega), Int.toNat_natCast]
      · rw [heldOk_at l i hi]
        by_cases h : l[i] = 0
        · have e : (l[i] == 0 || (valOk l[i] && !decide (l[i] ∈ l.take i))) = true := by simp [h]
          simp only [if_pos h, e, Bool.true_and]; exact ih
        · simp only [if_neg h]
          cases hv : valOk l[i]
          · have e : (l[i] == 0 || (false && !decide (l[i] ∈ l.take i))) = false := by simp [h]
            rw [e]
            simp only [Bool.false_and, Bool.false_eq_true, if_false]; exact Ev.now _
          · simp only [if_true]
            refine Ev.bind (slices_Contains_ev (l.take i) l[i] (Nat.le_trans (List.length_take_le' _ _) hl)) ?_
            by_cases h2 : l[i] ∈ l.take i
            · have e : (l[i] == 0 || (true && !decide (l[i] ∈ l.take i))) = false := by simp [h, h2]
              rw [e]
              simp only [decide_eq_true h2, if_true, Bool.false_and]; exact Ev.now _
            · have e : (l[i] == 0 || (true && !decide (l[i] ∈ l.take i))) = true := by simp [h, h2]
              rw [e]
              simp only [decide_eq_false h2, Bool.false_eq_true, if_false, Bool.true_and]; exact ih
  have := key 0 (Nat.zero_le _)
  simpa [impl_RowsOk.f, rowsOk] using this
theorem Ev_mono {α : Type} {g : Nat → Option α} {r : α} (n : Nat) (h : g n = some r) (hm : ∀ k, LeO (g k) (g (k + 1))) : Ev g r := ⟨n, fun k hk => by
  obtain ⟨m, rfl⟩ : ∃ m, k = n + m := ⟨k - n, by omega⟩
  clear hk
  induction m with
  | zero => exact h
  | succ m ih => exact hm _ _ ih⟩
/-- At rows that are in order both tell the same twenty words: looked through, one after another. -/
def same (a b c d s : Int) : Bool :=
  match spec_WordsOf.l0 30 (List.replicate 20 0) 0 [a, b, c, d] s, impl_WordsOf.l0 10 ([a, b, c, d].take 20 ++ (List.replicate 20 0).drop 4) [a, b, c, d] 4 0 [a, b, c, d] s with
  | some x, some y => x == y && decide (x.length = 20)
  | _, _ => false
def fit (pre : List Int) (x : Int) : Bool := x == 0 || !decide (x ∈ pre)
def r7 : List Int := [0, 1, 2, 3, 4, 5, 6]
def chk (a : Int) : Bool := r7.all fun b => !fit [a] b || r7.all fun c => !fit [a, b] c || r7.all fun d => !fit [a, b, c] d || [0, 1, 2, 3, 4, 5].all fun s => same a b c d s
set_option maxRecDepth 100000 in
theorem chk0 : chk 0 = true := by decide +kernel
set_option maxRecDepth 100000 in
theorem chk1 : chk 1 = true := by decide +kernel
set_option maxRecDepth 100000 in
theorem chk2 : chk 2 = true := by decide +kernel
set_option maxRecDepth 100000 in
theorem chk3 : chk 3 = true := by decide +kernel
set_option maxRecDepth 100000 in
theorem chk4 : chk 4 = true := by decide +kernel
set_option maxRecDepth 100000 in
theorem chk5 : chk 5 = true := by decide +kernel
set_option maxRecDepth 100000 in
theorem chk6 : chk 6 = true := by decide +kernel
theorem held_fit (x : Int) (pre : List Int) (h : (x == 0 || (valOk x && !decide (x ∈ pre))) = true) : x ∈ r7 ∧ fit pre x = true := by
  by_cases c : x = 0
  · subst c; exact ⟨by decide, rfl⟩
  · have e : (x == 0) = false := beq_eq_false_iff_ne.mpr c
    rw [e, Bool.false_or, Bool.and_eq_true] at h
    have hv : 1 ≤ x ∧ x ≤ 6 := by simpa [valOk, inR] using h.1
    refine ⟨?_, by rw [fit, e, Bool.false_or]; exact h.2⟩
    have : x = 1 ∨ x = 2 ∨ x = 3 ∨ x = 4 ∨ x = 5 ∨ x = 6 := by omega
    rcases this with rfl | rfl | rfl | rfl | rfl | rfl <;> decide
theorem r7_all (f : Int → Bool) (g : Int → Bool) (h : (r7.all fun x => !g x || f x) = true) (x : Int) (hx : x ∈ r7) (hg : g x = true) : f x = true := by
  have := List.all_eq_true.1 h x hx
  rwa [hg, Bool.not_true, Bool.false_or] at this
theorem chk_at (a b c d s : Int) (ha : a ∈ r7) (hb : b ∈ r7 ∧ fit [a] b = true) (hc : c ∈ r7 ∧ fit [a, b] c = true) (hd : d ∈ r7 ∧ fit [a, b, c] d = true) (hs : inR s 0 5 = true) : same a b c d s = true := by
  have h0 : chk a = true := by
    have : a = 0 ∨ a = 1 ∨ a = 2 ∨ a = 3 ∨ a = 4 ∨ a = 5 ∨ a = 6 := by simpa [r7] using ha
    rcases this with rfl | rfl | rfl | rfl | rfl | rfl | rfl
    · exact chk0
    · exact chk1
    · exact chk2
    · exact chk3
    · exact chk4
    · exact chk5
    · exact chk6
  unfold chk at h0
  have h1 := r7_all _ _ h0 b hb.1 hb.2
  have h2 := r7_all _ _ h1 c hc.1 hc.2
  have h3 := r7_all _ _ h2 d hd.1 hd.2
  have hs' : 0 ≤ s ∧ s ≤ 5 := by simpa [inR] using hs
  have hm : s ∈ ([0, 1, 2, 3, 4, 5] : List Int) := by
    have : s = 0 ∨ s = 1 ∨ s = 2 ∨ s = 3 ∨ s = 4 ∨ s = 5 := by omega
    rcases this with rfl | rfl | rfl | rfl | rfl | rfl <;> decide
  exact List.all_eq_true.1 h3 s hm
theorem WordsOf_ev (l : List Int) (s : Int) (hl : l.length ≤ 1048576) : ∃ W : List Int, W.length ≤ 20 ∧ Ev (fun k => spec_WordsOf.f k l s) W ∧ Ev (fun k => impl_WordsOf.f k l s) W := by
  cases hr : rowsOk l s
  · refine ⟨[], by simp, ?_, ?_⟩
    · unfold spec_WordsOf.f
      refine Ev.bind (spec_RowsOk_ev l s hl) ?_
      simp only [hr, Bool.false_eq_true, if_false]
      exact Ev.now _
    · unfold impl_WordsOf.f
      refine Ev.bind (impl_RowsOk_ev l s hl) ?_
      simp only [hr, Bool.false_eq_true, if_false]
      exact Ev.now _
  · have hr' := hr
    unfold rowsOk at hr'
    rw [Bool.and_eq_true, Bool.and_eq_true] at hr'
    obtain ⟨hh, h4, hs⟩ := hr'
    have h4' : l.length = 4 := by have := of_decide_eq_true h4; omega
    obtain ⟨a, b, c, d, rfl⟩ : ∃ a b c d, l = [a, b, c, d] := by
      match l, h4' with
      | [a, b, c, d], _ => exact ⟨a, b, c, d, rfl⟩
    simp only [heldOk, List.nil_append, List.cons_append, Bool.and_eq_true] at hh
    obtain ⟨ka, kb, kc, kd, _⟩ := hh
    have hsame := chk_at a b c d s (held_fit a [] ka).1 (held_fit b [a] kb) (held_fit c [a, b] kc) (held_fit d [a, b, c] kd) hs
    unfold same at hsame
    split at hsame
    · rename_i x y hx hy
      rw [Bool.and_eq_true] at hsame
      obtain ⟨hxy, hlen⟩ := hsame
      have hxy : x = y := eq_of_beq hxy
      subst hxy
      refine ⟨x, by have := of_decide_eq_true hlen; omega, ?_, ?_⟩
      · unfold spec_WordsOf.f
        refine Ev.bind (spec_RowsOk_ev _ s hl) ?_
        simp only [hr, if_true, if_pos (show (20 : Nat) ≤ 35184372088832 by decide)]
        exact Ev_mono 30 hx (fun k => (spec_WordsOf.mono_l k).1 _ _ _ _)
      · unfold impl_WordsOf.f
        refine Ev.bind (impl_RowsOk_ev _ s hl) ?_
        simp only [hr, if_true, Option.bind_some]
        have hb : (List.replicate 20 (0 : Int)).length + [a, b, c, d].length < 17592186044416 := by simp
        simp only [if_pos hb, if_pos (show (20 : Nat) ≤ 35184372088832 by decide)]
        exact Ev_mono 10 hy (fun k => impl_WordsOf.mono_l k _ _ _ _ _ _)
    · exact absurd hsame (by decide)
theorem Ev_posF {α : Type} {x : Int} {g h : Nat → Option α} {r : α} (hx : 0 ≤ x) : Ev (fun k => if x < 0 then h k else g k) r = Ev g r := by
  have h' : ¬ x < 0 := by omega
  simp only [if_neg h']
/-- What is marked of tries, from a number on; and the number behind it. -/
def mkDs : Int → List S119 → List S119
  | _, [] => []
  | a, d :: ds => ⟨a, a + 1, (List.range d.f2.length).map (mk122 (a + 2)), ⟨a + 2 + 3 * (d.f2.length : Int), (List.range d.f3.f1.length).map (mkI (a + 2 + 3 * (d.f2.length : Int) + 1))⟩⟩ :: mkDs (a + 2 + 3 * (d.f2.length : Int) + 1 + (d.f3.f1.length : Int)) ds
def enDs : Int → List S119 → Int
  | a, [] => a
  | a, d :: ds => enDs (a + 2 + 3 * (d.f2.length : Int) + 1 + (d.f3.f1.length : Int)) ds
theorem mkDs_length : ∀ (ds : List S119) (a : Int), (mkDs a ds).length = ds.length
  | [], _ => rfl
  | _ :: ds, _ => by simp only [mkDs, List.length_cons, mkDs_length ds]
theorem enDs_ge : ∀ (ds : List S119) (a : Int), a ≤ enDs a ds
  | [], _ => Int.le_refl _
  | d :: ds, a => by have := enDs_ge ds (a + 2 + 3 * (d.f2.length : Int) + 1 + (d.f3.f1.length : Int)); simp only [enDs]; omega
theorem rdT_mid (pre ds : List S119) (d : S119) : rd_T119 (pre ++ d :: ds) (pre.length : Int) = d := by simp [rd_T119, List.getD_eq_getElem?_getD]
theorem set_mid (pre ds : List S119) (d d' : S119) : (pre ++ d :: ds).set ((pre.length : Nat) : Int).toNat d' = (pre ++ [d']) ++ ds := by
  rw [Int.toNat_natCast, List.set_append, if_neg (by omega), Nat.sub_self, List.set_cons_zero, List.append_assoc]
  rfl
theorem markDs_ev : ∀ (ds pre : List S119) (a : Int), (∀ y ∈ ds, (y.f2.length ≤ 1048576) ∧ (y.f3.f1.length ≤ 1048576)) → pre.length + ds.length ≤ 1048576 → 0 ≤ a → a + 8388608 * (ds.length : Int) ≤ 100000000000000 →
    Ev (fun k => laws_markDescS.l0 k (pre ++ ds) a (pre.length : Int)) (enDs a ds, pre ++ mkDs a ds)
  | [], pre, a, _, hl, h0, h1 => by
    refine Ev_at 1 (fun k => ?_)
    simp only [laws_markDescS.l0]
    rw [if_neg (by simp)]
    rfl
  | d :: ds, pre, a, hs, hl, h0, h1 => by
    simp only [List.length_cons] at hl h1
    obtain ⟨s2, s4⟩ := hs d List.mem_cons_self
    have w1 : wrap64 (a + 1) = a + 1 := by unfold wrap64; omega
    have w2 : wrap64 (a + 1 + 1) = a + 2 := by unfold wrap64; omega
    have w3 : wrap64 (a + 2 + 3 * (d.f2.length : Int) + 1) = a + 2 + 3 * (d.f2.length : Int) + 1 := by unfold wrap64; omega
    have hE := laws_markEntryS_ev d.f2 s2 (a + 2) (by omega) (by omega)
    have hI := laws_markIntS_ev d.f3.f1 s4 (a + 2 + 3 * (d.f2.length : Int) + 1) (by omega) (by omega)
    have hr := markDs_ev ds (pre ++ [⟨a, a + 1, (List.range d.f2.length).map (mk122 (a + 2)), ⟨a + 2 + 3 * (d.f2.length : Int), (List.range d.f3.f1.length).map (mkI (a + 2 + 3 * (d.f2.length : Int) + 1))⟩⟩]) (a + 2 + 3 * (d.f2.length : Int) + 1 + (d.f3.f1.length : Int)) (fun y hy => hs y (List.mem_cons_of_mem _ hy)) (by simp only [List.length_append, List.length_cons, List.length_nil]; omega) (by omega) (by omega)
    rw [List.append_assoc _ _ (mkDs _ _), List.length_append, List.length_cons, List.length_nil] at hr
    refine Ev.step (f := fun k => (laws_markEntryS.f k d.f2 (a + 2)).bind fun p => (laws_markIntS.f k d.f3.f1 (wrap64 (p.1 + 1))).bind fun q => laws_markDescS.l0 k ((pre ++ d :: ds).set ((pre.length : Nat) : Int).toNat ⟨a, a + 1, p.2, ⟨p.1, q.2⟩⟩) q.1 ((pre.length + 1 : Nat) : Int)) (fun k => ?_) ?_
    · simp only [laws_markDescS.l0, rdT_mid, w1, w2]
      rw [if_pos (by simp; omega), if_pos (by omega), wrap_up pre.length (by omega)]
    · refine Ev.bind hE ?_
      simp only [w3]
      refine Ev.bind hI ?_
      simp only [set_mid]
      exact hr
theorem heldDs_ev : ∀ (ds pre : List S119) (a : Int), (∀ y ∈ ds, (y.f2.length ≤ 1048576) ∧ (y.f3.f1.length ≤ 1048576)) → pre.length + ds.length ≤ 1048576 → 0 ≤ a → a + 8388608 * (ds.length : Int) ≤ 100000000000000 →
    Ev (fun k => laws_heldDescS.l0 k (pre ++ mkDs a ds) a (pre.length : Int)) (enDs a ds)
  | [], pre, a, _, hl, h0, h1 => by
    refine Ev_at 1 (fun k => ?_)
    simp only [laws_heldDescS.l0]
    rw [if_neg (by simp [mkDs])]
    rfl
  | d :: ds, pre, a, hs, hl, h0, h1 => by
    simp only [List.length_cons] at hl h1
    obtain ⟨s2, s4⟩ := hs d List.mem_cons_self
    have w1 : wrap64 (a + 1) = a + 1 := by unfold wrap64; omega
    have w2 : wrap64 (a + 1 + 1) = a + 2 := by unfold wrap64; omega
    have w3 : wrap64 (a + 2 + 3 * (d.f2.length : Int) + 1) = a + 2 + 3 * (d.f2.length : Int) + 1 := by unfold wrap64; omega
    have hE := laws_heldEntryS_ev d.f2.length s2 (a + 2) (by omega) (by omega)
    have hI := laws_heldIntS_ev d.f3.f1.length s4 (a + 2 + 3 * (d.f2.length : Int) + 1) (by omega) (by omega)
    generalize hd' : (⟨a, a + 1, (List.range d.f2.length).map (mk122 (a + 2)), ⟨a + 2 + 3 * (d.f2.length : Int), (List.range d.f3.f1.length).map (mkI (a + 2 + 3 * (d.f2.length : Int) + 1))⟩⟩ : S119) = d'
    have e0 : d'.f0 = a := by rw [← hd']
    have e1 : d'.f1 = a + 1 := by rw [← hd']
    have e2 : d'.f2 = (List.range d.f2.length).map (mk122 (a + 2)) := by rw [← hd']
    have e3 : d'.f3.f0 = a + 2 + 3 * (d.f2.length : Int) := by rw [← hd']
    have e4 : d'.f3.f1 = (List.range d.f3.f1.length).map (mkI (a + 2 + 3 * (d.f2.length : Int) + 1)) := by rw [← hd']
    have em : mkDs a (d :: ds) = d' :: mkDs (a + 2 + 3 * (d.f2.length : Int) + 1 + (d.f3.f1.length : Int)) ds := by rw [← hd']; rfl
    have hr := heldDs_ev ds (pre ++ [d']) (a + 2 + 3 * (d.f2.length : Int) + 1 + (d.f3.f1.length : Int)) (fun y hy => hs y (List.mem_cons_of_mem _ hy)) (by simp only [List.length_append, List.length_cons, List.length_nil]; omega) (by omega) (by omega)
    rw [List.append_assoc, List.length_append, List.length_cons, List.length_nil] at hr
    rw [em]
    refine Ev.step (f := fun k => (laws_heldEntryS.f k ((List.range d.f2.length).map (mk122 (a + 2))) (a + 2)).bind fun t347 => (if t347 < 0 then (some (-1)) else (if (a + 2 + 3 * (d.f2.length : Int)) = t347 then ((laws_heldIntS.f k ((List.range d.f3.f1.length).map (mkI (a + 2 + 3 * (d.f2.length : Int) + 1))) (wrap64 (t347 + 1))).bind fun t350 => (if t350 < 0 then (some (-1)) else (laws_heldDescS.l0 k (pre ++ d' :: mkDs (a + 2 + 3 * (d.f2.length : Int) + 1 + (d.f3.f1.length : Int)) ds) t350 ((pre.length + 1 : Nat) : Int)))) else (some (-1))))) (fun k => ?_) ?_
    · simp only [laws_heldDescS.l0, rdT_mid, w1, w2, e0, e1, e2, e3, e4]
      rw [if_pos (by simp; omega), if_pos (by omega), wrap_up pre.length (by omega)]
      simp only [if_true]
    · refine Ev.bind hE ?_
      simp only [if_neg (show ¬ (a + 2 + 3 * (d.f2.length : Int)) < 0 by omega), if_true, w3]
      refine Ev.bind hI ?_
      simp only [if_neg (show ¬ (a + 2 + 3 * (d.f2.length : Int) + 1 + (d.f3.f1.length : Int)) < 0 by omega)]
      exact hr
/-- A memory's marks are held. -/
theorem markMem_ev (ws : List S95) (ds : List S119) (hw : ws.length ≤ 1048576) (hd : smallD ds) : ∃ r ms mds, 0 ≤ r ∧ Ev (fun k => laws_markMem.f k ws ds 1) (r, ms, mds) ∧ Ev (fun k => laws_heldMem.f k ms mds 1) r := by
  have hM := markDs_ev ds [] (1 + 3 * (ws.length : Int)) hd.2 (by simpa using hd.1) (by omega) (by have := hd.1; omega)
  have hH := heldDs_ev ds [] (1 + 3 * (ws.length : Int)) hd.2 (by simpa using hd.1) (by omega) (by have := hd.1; omega)
  have hg := enDs_ge ds (1 + 3 * (ws.length : Int))
  refine ⟨enDs (1 + 3 * (ws.length : Int)) ds, (List.range ws.length).map (mk95 1), mkDs (1 + 3 * (ws.length : Int)) ds, by omega, ?_, ?_⟩
  · unfold laws_markMem.f
    refine Ev.bind (laws_markWordS_ev ws hw 1 (by omega) (by omega)) ?_
    have hM' : Ev (fun k => laws_markDescS.g k ds (1 + 3 * (ws.length : Int))) (enDs (1 + 3 * (ws.length : Int)) ds, mkDs (1 + 3 * (ws.length : Int)) ds) := by simpa [laws_markDescS.g] using hM
    refine Ev.bind hM' ?_
    exact Ev.now _
  · unfold laws_heldMem.f
    refine Ev.bind (laws_heldWordS_ev ws.length hw 1 (by omega) (by omega)) ?_
    simp only [if_neg (show ¬ (1 + 3 * (ws.length : Int)) < 0 by omega)]
    have hH' : Ev (fun k => laws_heldDescS.f k (mkDs (1 + 3 * (ws.length : Int)) ds) (1 + 3 * (ws.length : Int))) (enDs (1 + 3 * (ws.length : Int)) ds) := by simpa [laws_heldDescS.f] using hH
    refine Ev.bind hH' ?_
    simp only [if_neg (show ¬ enDs (1 + 3 * (ws.length : Int)) ds < 0 by omega)]
    exact Ev.now _
def wordN (n : Int) : S95 := ⟨n, 0, 0⟩
def zdesc (n : Int) : List S119 := if inR n 1 4 then List.replicate n.toNat z119 else []
theorem zdesc_small (n : Int) : smallD (zdesc n) := by
  unfold zdesc
  split
  · rename_i h
    have := (inR_iff n 1 4).1 h
    refine ⟨by simp; omega, fun y hy => ?_⟩
    have := List.eq_of_mem_replicate hy
    subst this
    exact ⟨Nat.zero_le _, Nat.zero_le _⟩
  · exact ⟨Nat.zero_le _, fun y hy => absurd hy List.not_mem_nil⟩
def memNew (W : List Int) (n : Int) : List S95 × List S119 × Bool :=
  if memOk (W.map wordN) (zdesc n) = true then (W.map wordN, zdesc n, true) else ([], [], false)
theorem spec_MemNew_ev (l : List Int) (s n : Int) (W : List Int) (hW : W.length ≤ 20) (h : Ev (fun k => spec_WordsOf.f k l s) W) : Ev (fun k => spec_MemNew.f k l s n) (memNew W n) := by
  unfold spec_MemNew.f
  refine Ev.bind h ?_
  have hmk : ∀ ds, smallD ds → Ev (fun k => (spec_MemOk.f k (W.map wordN) ds).bind fun t => if t = true then some (W.map wordN, ds, true) else some (([] : List S95), ([] : List S119), false)) (if memOk (W.map wordN) ds = true then (W.map wordN, ds, true) else ([], [], false)) := by
    intro ds hd
    refine Ev.bind (spec_MemOk_ev _ _ (by simp; omega) hd) ?_
    by_cases c : memOk (W.map wordN) ds = true
    · simp only [c, if_true]; exact Ev.now _
    · simp only [c, if_false]; exact Ev.now _
  have key : ∀ i, i ≤ W.length → Ev (fun k => spec_MemNew.l0 k n W (i : Int) ((W.take i).map wordN)) (memNew W n) := by
    refine Ev_down (L := fun i k => spec_MemNew.l0 k n W (i : Int) ((W.take i).map wordN)) W.length ?_ ?_
    · have hz := hmk (zdesc n) (zdesc_small n)
      unfold memNew
      by_cases c : inR n 1 4 = true
      · have hc := (inR_iff n 1 4).1 c
        have ez : zdesc n = List.replicate n.toNat z119 := by unfold zdesc; rw [if_pos c]
        rw [ez] at hz ⊢
        refine Ev.step (f := fun k => (spec_MemOk.f k (W.map wordN) (List.replicate n.toNat z119)).bind fun t => if t = true then some (W.map wordN, List.replicate n.toNat z119, true) else some (([] : List S95), ([] : List S119), false)) (fun k => ?_) hz
        simp only [spec_MemNew.l0, spec_l1In_eq, Option.bind_some, c, if_true, List.take_length]
        rw [if_neg (by omega), if_pos (by omega), if_pos (by omega)]
      · have ez : zdesc n = [] := by unfold zdesc; rw [if_neg c]
        rw [ez] at hz ⊢
        refine Ev.step (f := fun k => (spec_MemOk.f k (W.map wordN) []).bind fun t => if t = true then some (W.map wordN, [], true) else some (([] : List S95), ([] : List S119), false)) (fun k => ?_) hz
        simp only [spec_MemNew.l0, spec_l1In_eq, Option.bind_some, c, if_false, List.take_length]
        rw [if_neg (by omega)]
        rfl
    · intro i hi ih
      have hl : ((W.take i).map wordN).length < 5864062014805 := by simp; omega
      rw [List.take_succ_eq_append_getElem hi, List.map_append] at ih
      refine Ev.step (f := fun k => spec_MemNew.l0 k n W ((i + 1 : Nat) : Int) ((W.take i).map wordN ++ [wordN W[i]])) (fun k => ?_) ih
      simp only [spec_MemNew.l0]
      rw [if_pos (by omega), if_pos (by omega), if_pos hl, wrap_up i (by omega), rd_at W i hi]
      rfl
  exact key 0 (Nat.zero_le _)
theorem impl_MemNew_ev (l : List Int) (s n : Int) (W : List Int) (hW : W.length ≤ 20) (h : Ev (fun k => impl_WordsOf.f k l s) W) : Ev (fun k => impl_MemNew.f k l s n) (memNew W n) := by
  unfold impl_MemNew.f
  simp only [impl_from_eq, Option.bind_some]
  by_cases c : inR n 1 4 = true
  · have hc := (inR_iff n 1 4).1 c
    simp only [c, if_true, if_pos (show 0 ≤ n by omega), if_pos (show n.toNat ≤ 3909374676536 by omega)]
    refine Ev.bind h ?_
    have ez : zdesc n = List.replicate n.toNat z119 := by unfold zdesc; rw [if_pos c]
    unfold memNew
    rw [← ez]
    have key : ∀ i, i ≤ W.length → Ev (fun k => impl_MemNew.l0 k W (W.length : Int) (i : Int) ((W.take i).map wordN) (zdesc n)) (if memOk (W.map wordN) (zdesc n) = true then (W.map wordN, zdesc n, true) else ([], [], false)) := by
      refine Ev_down (L := fun i k => impl_MemNew.l0 k W (W.length : Int) (i : Int) ((W.take i).map wordN) (zdesc n)) W.length ?_ ?_
      · refine Ev.step (f := fun k => (impl_MemOk.f k (W.map wordN) (zdesc n)).bind fun t => if t = true then some (W.map wordN, zdesc n, true) else some (([] : List S95), ([] : List S119), false)) (fun k => ?_) ?_
        · simp only [impl_MemNew.l0, List.take_length]
          rw [if_neg (by omega)]
        · refine Ev.bind (impl_MemOk_ev _ _ (by simp; omega) (zdesc_small n)) ?_
          by_cases c : memOk (W.map wordN) (zdesc n) = true
          · simp only [c, if_true]; exact Ev.now _
          · simp only [c, if_false]; exact Ev.now _
      · intro i hi ih
        have hl : ((W.take i).map wordN).length < 5864062014805 := by simp; omega
        rw [List.take_succ_eq_append_getElem hi, List.map_append] at ih
        refine Ev.step (f := fun k => impl_MemNew.l0 k W (W.length : Int) ((i + 1 : Nat) : Int) ((W.take i).map wordN ++ [wordN W[i]]) (zdesc n)) (fun k => ?_) ih
        simp only [impl_MemNew.l0]
        rw [if_pos (by omega), if_pos (by omega), if_pos (by omega), if_pos hl, wrap_up i (by omega), rd_at W i hi]
        rfl
    exact key 0 (Nat.zero_le _)
  · have c2 : inR n 1 4 = false := by simpa using c
    have ez : zdesc n = [] := by unfold zdesc; rw [if_neg c]
    have hm : memNew W n = ([], [], false) := by
      unfold memNew
      rw [ez]
      have : memOk (W.map wordN) [] = false := by simp [memOk, inR]
      rw [this]
      rfl
    rw [hm]
    simp only [c2, Bool.false_eq_true, if_false]
    exact Ev.now _
theorem memNew_small (W : List Int) (n : Int) (hW : W.length ≤ 20) : (memNew W n).1.length ≤ 1048576 ∧ smallD (memNew W n).2.1 := by
  unfold memNew
  split
  · exact ⟨by simp; omega, zdesc_small n⟩
  · exact ⟨Nat.zero_le _, Nat.zero_le _, fun y hy => absurd hy List.not_mem_nil⟩

theorem FnExactMemNew (l0_0 : List Int) (a0_1 : Int) (a1 : Int) (gl0_0 : (fun l : List Int => l.length ≤ maxLen ∧ ∀ x ∈ l, (fun n : Int => (Lit.int .i64 n).wf = true) x) l0_0) (ga0_1 : (fun n : Int => (Lit.int .i64 n).wf = true) a0_1) (ga1 : (fun n : Int => (Lit.int .i64 n).wf = true) a1) : ∃ k, laws_FnExactMemNew.f k l0_0 a0_1 a1 = some true := by
  refine Ev.rounds (r := true) ?_
  unfold laws_FnExactMemNew.f
  obtain ⟨r, er, pr⟩ := laws_szRows_some l0_0 a0_1 gl0_0.1 1048576 (by omega) (by omega)
  simp only [er, Option.bind_some]
  by_cases c : r < 0
  · simp only [if_pos c]; exact Ev.now _
  simp only [if_neg c]
  obtain ⟨hr, h0⟩ := pr (by omega)
  have hto := laws_toRows_ev l0_0 a0_1 h0
  obtain ⟨W, hW, hs, hi⟩ := WordsOf_ev l0_0 a0_1 h0
  have hS := spec_MemNew_ev l0_0 a0_1 a1 W hW hs
  have hI := impl_MemNew_ev l0_0 a0_1 a1 W hW hi
  obtain ⟨hw, hd⟩ := memNew_small W a1 hW
  generalize memNew W a1 = M at hS hI hw hd
  obtain ⟨ws, ds, ok⟩ := M
  have hq := laws_eqMem_refl ws ds hw hd
  have hm0 := laws_markRows_ev l0_0 a0_1 h0 1 (by omega) (by omega)
  obtain ⟨q, ms, mds, q0, hmk, hh⟩ := markMem_ev ws ds hw hd
  have hqn : ¬ q < 0 := by omega
  have hX : (ok != ok) = false := by cases ok <;> rfl
  refine Ev.bind hto ?_
  refine Ev.bind hS ?_
  refine Ev.bind hto ?_
  refine Ev.bind hI ?_
  refine Ev.bind hq ?_
  simp only [if_true, hX]
  refine Ev.step (f := fun k => (laws_toRows.f k l0_0 a0_1).bind fun bt382 => ((laws_eqRows.f k l0_0 a0_1 bt382.1 bt382.2).bind fun t386 => (if t386 = true then ((laws_markRows.f k l0_0 a0_1 1).bind fun bt387 => (if bt387.1 < 0 then (laws_FnExactMemNew.j1 k a1 ok true l0_0 a0_1 ws ds ws ds) else ((laws_eqMem.f k ws ds ws ds).bind fun t389 => (if t389 = true then (laws_FnExactMemNew.j1 k a1 ok (ok != ok) l0_0 a0_1 ws ds ws ds) else (laws_FnExactMemNew.j1 k a1 ok true l0_0 a0_1 ws ds ws ds))))) else (none)))) (fun k => ?_) ?_
  · simp only [laws_FnExactMemNew.j0, Bool.false_eq_true, if_false]
  refine Ev.bind hto ?_
  refine Ev.bind (laws_eqRows_refl _ _ h0) ?_
  simp only [if_true]
  refine Ev.bind hm0 ?_
  rw [Ev_posF (by first | omega | (simp; omega))]
  refine Ev.bind hq ?_
  simp only [if_true, hX]
  refine Ev.step (f := fun k => (laws_markMem.f k ws ds 1).bind fun bt390 => ((laws_heldMem.f k bt390.2.1 bt390.2.2 1).bind fun t392 => (if t392 < 0 then (none) else (if t392 = bt390.1 then ((laws_toRows.f k l0_0 a0_1).bind fun bt393 => ((impl_MemNew.f k bt393.1 bt393.2 a1).bind fun bt397 => ((laws_eqMem.f k bt397.1 bt397.2.1 ws ds).bind fun t405 => (if t405 = true then (laws_FnExactMemNew.j2 k bt390.1 (bt397.2.2 != ok) bt390.2.1 bt390.2.2) else (laws_FnExactMemNew.j2 k bt390.1 true bt390.2.1 bt390.2.2))))) else (none))))) (fun k => ?_) ?_
  · simp only [laws_FnExactMemNew.j1, Bool.false_eq_true, if_false]
  refine Ev.bind hmk ?_
  refine Ev.bind hh ?_
  simp only [if_neg hqn, if_true]
  refine Ev.bind hto ?_
  refine Ev.bind hI ?_
  refine Ev.bind hq ?_
  simp only [if_true, hX]
  refine Ev.step (f := fun k => (laws_heldMem.f k ms mds 1).bind fun t406 => (if t406 < 0 then (none) else (if t406 = q then (some true) else (none)))) (fun k => ?_) ?_
  · simp only [laws_FnExactMemNew.j2, Bool.false_eq_true, if_false]
  refine Ev.bind hh ?_
  simp only [if_neg hqn, if_true]
  exact Ev.now _

end Go.Proofs.Ytmkhghbalnadlaa.Pure
