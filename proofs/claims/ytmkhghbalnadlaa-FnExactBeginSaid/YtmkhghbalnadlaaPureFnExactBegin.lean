/- The pure statement behind the law FnExactBegin: over plain values. No condition beyond that numbers are of their kind and lengths below 2^63. -/
import Derived.Test.YtmkhghbalnadlaaOpnFnExactBegin
namespace Go.Proofs.Ytmkhghbalnadlaa.Pure
open Go.RowKit Go.Proofs.Ytmkhghbalnadlaa.Op Go.Proofs.YtmkhghbalnadlaaW.PrintWords Go.Proofs.YtmkhghbalnadlaaW.PrintLast Go.Proofs.Ytmkhghbalnadlaa.PFnExactBegin Go.Proofs.Ytmkhghbalnadlaa.fnExactBegin

-- PACKS
set_option linter.unusedVariables false
set_option linter.unusedSimpArgs false
theorem Ev.now {α : Type} (r : α) : Ev (fun _ => some r) r := ⟨0, fun _ _ => rfl⟩
theorem Ev.rounds {α : Type} {g : Nat → Option α} {r : α} (h : Ev g r) : ∃ k, g k = some r := by
  obtain ⟨K, hK⟩ := h
  exact ⟨K, hK K (Nat.le_refl K)⟩
theorem Ev_at {α : Type} {g : Nat → Option α} {r : α} (n : Nat) (h : ∀ k, g (k + n) = some r) : Ev g r := ⟨n, fun k hk => by
  obtain ⟨m, rfl⟩ : ∃ m, k = m + n := ⟨k - n, by omega⟩
  exact h m⟩
theorem Ev_down {α : Type} {L : Nat → Nat → Option α} {r : α} (n : Nat) (hn : Ev (L n) r) (hs : ∀ i, i < n → Ev (L (i + 1)) r → Ev (L i) r) : ∀ i, i ≤ n → Ev (L i) r := by
  have key : ∀ d i, i + d = n → Ev (L i) r := by
    intro d
    induction d with
    | zero => intro i h; obtain rfl : i = n := (by omega); exact hn
    | succ d ih => intro i h; exact hs i (by omega) (ih (i + 1) (by omega))
  exact fun i h => key (n - i) i (by omega)
theorem wrap_up (i : Nat) (h : i < 9223372036854775807) : wrap64 ((i : Int) + 1) = ((i + 1 : Nat) : Int) := by unfold wrap64; omega
theorem set_fill {α β : Type} (l : List α) (i : Nat) (hi : i < l.length) (z : β) (f : α → β) (v : β) (hv : v = f (l[i]'hi)) :
    ((l.take i).map f ++ List.replicate (l.length - i) z).set (i : Int).toNat v = (l.take (i + 1)).map f ++ List.replicate (l.length - (i + 1)) z := by
  subst hv
  have h1 : ((l.take i).map f).length = i := by simp; omega
  rw [Int.toNat_natCast, List.set_append, if_neg (by omega), h1, Nat.sub_self]
  obtain ⟨m, hm⟩ : ∃ m, l.length - i = m + 1 := ⟨l.length - i - 1, by omega⟩
  rw [hm, List.replicate_succ, List.set_cons_zero, show l.length - (i + 1) = m by omega, List.take_succ_eq_append_getElem hi, List.map_append, List.append_assoc]
  rfl
theorem set_fill_id {α : Type} (l : List α) (i : Nat) (hi : i < l.length) (z : α) (v : α) (hv : v = l[i]'hi) :
    (l.take i ++ List.replicate (l.length - i) z).set (i : Int).toNat v = l.take (i + 1) ++ List.replicate (l.length - (i + 1)) z := by
  have := set_fill l i hi z id v hv
  simpa using this
theorem Ev_downR {α : Type} {L : Nat → Nat → Option α} {R : Nat → α} (n : Nat) (hn : Ev (L n) (R n)) (hs : ∀ i, i < n → Ev (L (i + 1)) (R (i + 1)) → Ev (L i) (R i)) : ∀ i, i ≤ n → Ev (L i) (R i) := by
  have key : ∀ d i, i + d = n → Ev (L i) (R i) := by
    intro d
    induction d with
    | zero => intro i h; obtain rfl : i = n := (by omega); exact hn
    | succ d ih => intro i h; exact hs i (by omega) (ih (i + 1) (by omega))
  exact fun i h => key (n - i) i (by omega)
theorem rd_at (l : List Int) (i : Nat) (hi : i < l.length) : rd l (i : Int) = l[i] := by simp [rd, List.getD_eq_getElem?_getD, hi]
theorem mark_fill {α : Type} (g : Nat → α) (l : List α) (i : Nat) (hi : i < l.length) : ((List.range i).map g ++ l.drop i).set i (g i) = (List.range (i + 1)).map g ++ l.drop (i + 1) := by
  rw [List.set_append, if_neg (by simp), List.length_map, List.length_range, Nat.sub_self, List.drop_eq_getElem_cons hi, List.set_cons_zero, List.range_succ, List.map_append, List.append_assoc]
  rfl
theorem Ev_pos {α : Type} {x : Int} {g : Nat → Option α} {r : α} (h : 0 ≤ x) : Ev (fun k => if x < 0 then none else g k) r = Ev g r := by
  have h' : ¬ x < 0 := by omega
  simp only [if_neg h']
def inR (x lo hi : Int) : Bool := decide (lo ≤ x) && decide (x ≤ hi)
def keyOk (k : Int) : Bool := inR k 0 3
def valOk (v : Int) : Bool := inR v 1 6
def isClass (c : Int) : Bool := inR c 0 2
def classOf (v : Int) : Int := if valOk v then Int.tmod v 3 else -1
theorem spec_l1In_eq (x lo hi : Int) : spec_l1In.f x lo hi = some (inR x lo hi) := by
  unfold spec_l1In.f inR
  by_cases h : lo ≤ x <;> simp [h]
theorem impl_from_eq (x lo hi : Int) : impl_from.f x lo hi = some (inR x lo hi) := by
  unfold impl_from.f inR
  by_cases h : lo ≤ x <;> simp [h]
def wordOk (n t s th : Int) : Bool := if t = 0 then inR n 0 1000 && s == 0 else n == 0 && inR t 1 th && inR s 1 1000000
theorem spec_WordOk_eq (n t s th : Int) : spec_WordOk.f n t s th = some (wordOk n t s th) := by
  unfold spec_WordOk.f wordOk
  simp only [spec_l1In_eq, Option.bind_some]
  by_cases h1 : t = 0 <;> by_cases h2 : s = 0 <;> by_cases h3 : n = 0 <;> cases h4 : inR t 1 th <;> simp [h1, h2, h3, h4]
theorem impl_WordOk_eq (n t s th : Int) : impl_WordOk.f n t s th = some (wordOk n t s th) := by
  unfold impl_WordOk.f wordOk
  simp only [impl_isWordNum.f, impl_from_eq, Option.bind_some]
  by_cases h1 : t = 0 <;> by_cases h2 : n = 0 <;> cases h3 : inR n 0 1000 <;> cases h4 : inR t 1 th <;> simp_all
def conv124 (x : S124) : S122 := ⟨x.f0, x.f1, x.f2⟩
theorem laws_toEntry_eq (a0 : Int) (a1 : Int) (a2 : Int) : laws_toEntry.f a0 a1 a2 = some (a0, a1, a2) := rfl
theorem laws_eqEntry_refl (a0 : Int) (a1 : Int) (a2 : Int) : laws_eqEntry.f a0 a1 a2 a0 a1 a2 = some true := by simp [laws_eqEntry.f]
theorem laws_toEntryS_ev (l : List S124) (h : (l.length ≤ 1048576)) : Ev (fun k => laws_toEntryS.f k l) (l.map conv124) := by
  have hl : l.length ≤ 1048576 := h
  have key : ∀ i, i ≤ l.length → Ev (fun k => laws_toEntryS.l0 k l ((l.take i).map conv124 ++ List.replicate (l.length - i) z122) (i : Int)) (l.map conv124) := by
    refine Ev_down (L := fun i k => laws_toEntryS.l0 k l ((l.take i).map conv124 ++ List.replicate (l.length - i) z122) (i : Int)) l.length ?_ ?_
    · refine Ev_at 1 (fun k => ?_)
      simp only [laws_toEntryS.l0]
      rw [if_neg (by omega)]
      simp
    · intro i hi ih
      refine Ev.step (f := fun k => laws_toEntryS.l0 k l ((l.take (i+1)).map conv124 ++ List.replicate (l.length - (i+1)) z122) ((i+1 : Nat) : Int)) (fun k => ?_) ?_
      · simp only [laws_toEntryS.l0]
        rw [if_pos (by omega), if_pos (by omega)]
        simp only [laws_toEntry_eq, Option.bind_some]
        rw [if_pos (by simp; omega), wrap_up i (by omega)]
        congr 1
        exact set_fill l i hi z122 conv124 _ (by simp [rd_T124, conv124, List.getD_eq_getElem?_getD, hi])
      · exact ih
  have := key 0 (Nat.zero_le _)
  have hc : ((l.length : Int) : Int).toNat ≤ 11728124029610 := by omega
  unfold laws_toEntryS.f
  simp only [if_pos (Int.natCast_nonneg l.length), if_pos hc]
  simpa using this
theorem laws_eqEntryS_refl (l : List S122) (h : (l.length ≤ 1048576)) : Ev (fun k => laws_eqEntryS.f k l l) true := by
  have hl : l.length ≤ 1048576 := h
  have key : ∀ i, i ≤ l.length → Ev (fun k => laws_eqEntryS.l0 k l l (i : Int)) true := by
    refine Ev_down (L := fun i k => laws_eqEntryS.l0 k l l (i : Int)) l.length ?_ ?_
    · refine Ev_at 1 (fun k => ?_)
      simp only [laws_eqEntryS.l0]
      rw [if_neg (by omega)]
    · intro i hi ih
      refine Ev.step (f := fun k => laws_eqEntryS.l0 k l l ((i+1 : Nat) : Int)) (fun k => ?_) ih
      simp only [laws_eqEntryS.l0]
      rw [if_pos (by omega), if_pos (by omega), if_pos (by omega), laws_eqEntry_refl, Option.bind_some, if_pos rfl, wrap_up i (by omega)]
  have := key 0 (Nat.zero_le _)
  unfold laws_eqEntryS.f
  simp only [if_pos]
  exact this
theorem laws_szEntryS_some (l : List S124) (hb : l.length ≤ maxLen) (left : Int) (h0 : 0 ≤ left) (h1 : left ≤ 1048576) : ∃ r, laws_szEntryS.f l left = some r ∧ (0 ≤ r → r ≤ left ∧ l.length ≤ 1048576) := by
  have hm : maxLen = 9223372036854775807 := rfl
  have hw : wrap64 (left - (l.length : Int)) = left - (l.length : Int) := by unfold wrap64; omega
  unfold laws_szEntryS.f
  rw [hw]
  by_cases c : left - (l.length : Int) < 0
  · exact ⟨-1, by rw [if_pos c], fun h => by omega⟩
  · exact ⟨_, by rw [if_neg c], fun _ => by omega⟩
theorem rdset122 (l : List S122) (i : Nat) (hi : i < l.length) (v : S122) : rd_T122 (l.set i v) (i : Int) = v := by simp [rd_T122, List.getD_eq_getElem?_getD, hi]
def mk122 (a : Int) (j : Nat) : S122 := ⟨a + 3 * (j : Int), a + 3 * (j : Int) + 1, a + 3 * (j : Int) + 2⟩
theorem laws_markEntryS_ev (l : List S122) (h : l.length ≤ 1048576) (a : Int) (h0 : 0 ≤ a) (h1 : a ≤ 1000000000000000) : Ev (fun k => laws_markEntryS.f k l a) (a + 3 * (l.length : Int), (List.range l.length).map (mk122 a)) := by
  have key : ∀ i, i ≤ l.length → Ev (fun k => laws_markEntryS.l0 k ((List.range i).map (mk122 a) ++ l.drop i) (a + 3 * (i : Int)) (i : Int)) (a + 3 * (l.length : Int), (List.range l.length).map (mk122 a)) := by
    refine Ev_down (L := fun i k => laws_markEntryS.l0 k ((List.range i).map (mk122 a) ++ l.drop i) (a + 3 * (i : Int)) (i : Int)) l.length ?_ ?_
    · refine Ev_at 1 (fun k => ?_)
      simp only [laws_markEntryS.l0]
      rw [if_neg (by simp)]
      simp
    · intro i hi ih
      have hlen : ((List.range i).map (mk122 a) ++ l.drop i).length = l.length := by simp; omega
      have w0 : wrap64 (a + 3 * (i : Int) + 1) = a + 3 * (i : Int) + 1 := by unfold wrap64; omega
      have w1 : wrap64 (a + 3 * (i : Int) + 1 + 1) = a + 3 * (i : Int) + 2 := by unfold wrap64; omega
      have w2 : wrap64 (a + 3 * (i : Int) + 2 + 1) = a + 3 * (i : Int) + 3 := by unfold wrap64; omega
      have hfin : a + 3 * ((i + 1 : Nat) : Int) = a + 3 * (i : Int) + 3 := by omega
      refine Ev.step (f := fun k => laws_markEntryS.l0 k ((List.range (i + 1)).map (mk122 a) ++ l.drop (i + 1)) (a + 3 * ((i + 1 : Nat) : Int)) ((i + 1 : Nat) : Int)) (fun k => ?_) ih
      rw [← mark_fill (mk122 a) l i hi, hfin]
      simp only [laws_markEntryS.l0, Option.bind_some, hlen]
      rw [if_pos (by omega), if_pos (by omega), wrap_up i (by omega)]
      simp only [Int.toNat_natCast, rdset122 _ i (by rw [hlen]; exact hi), w0, w1, w2, List.set_set]
      rfl
  have := key 0 (Nat.zero_le _)
  unfold laws_markEntryS.f
  simpa using this
theorem laws_heldEntryS_ev (n : Nat) (h : n ≤ 1048576) (a : Int) (h0 : 0 ≤ a) (h1 : a ≤ 1000000000000000) : Ev (fun k => laws_heldEntryS.f k ((List.range n).map (mk122 a)) a) (a + 3 * (n : Int)) := by
  have key : ∀ i, i ≤ n → Ev (fun k => laws_heldEntryS.l0 k ((List.range n).map (mk122 a)) (a + 3 * (i : Int)) (i : Int)) (a + 3 * (n : Int)) := by
    refine Ev_down (L := fun i k => laws_heldEntryS.l0 k ((List.range n).map (mk122 a)) (a + 3 * (i : Int)) (i : Int)) n ?_ ?_
    · refine Ev_at 1 (fun k => ?_)
      simp only [laws_heldEntryS.l0]
      rw [if_neg (by simp)]
    · intro i hi ih
      have hr : rd_T122 ((List.range n).map (mk122 a)) (i : Int) = mk122 a i := by simp [rd_T122, List.getD_eq_getElem?_getD, hi]
      have w0 : wrap64 (a + 3 * (i : Int) + 1) = a + 3 * (i : Int) + 1 := by unfold wrap64; omega
      have w1 : wrap64 (a + 3 * (i : Int) + 1 + 1) = a + 3 * (i : Int) + 2 := by unfold wrap64; omega
      have w2 : wrap64 (a + 3 * (i : Int) + 2 + 1) = a + 3 * (i : Int) + 3 := by unfold wrap64; omega
      have hfin : a + 3 * ((i + 1 : Nat) : Int) = a + 3 * (i : Int) + 3 := by omega
      refine Ev.step (f := fun k => laws_heldEntryS.l0 k ((List.range n).map (mk122 a)) (a + 3 * ((i + 1 : Nat) : Int)) ((i + 1 : Nat) : Int)) (fun k => ?_) ih
      rw [hfin]
      simp only [laws_heldEntryS.l0, hr, mk122, w0, w1, w2]
      rw [if_pos (by simp; omega), if_pos (by omega), wrap_up i (by omega)]
      simp only [if_true]
  have := key 0 (Nat.zero_le _)
  unfold laws_heldEntryS.f
  simpa using this
theorem laws_toIntS_ev (l : List Int) (h : (l.length ≤ 1048576)) : Ev (fun k => laws_toIntS.f k l) (l) := by
  have hl : l.length ≤ 1048576 := h
  have key : ∀ i, i ≤ l.length → Ev (fun k => laws_toIntS.l0 k l ((l.take i) ++ List.replicate (l.length - i) 0) (i : Int)) (l) := by
    refine Ev_down (L := fun i k => laws_toIntS.l0 k l ((l.take i) ++ List.replicate (l.length - i) 0) (i : Int)) l.length ?_ ?_
    · refine Ev_at 1 (fun k => ?_)
      simp only [laws_toIntS.l0]
      rw [if_neg (by omega)]
      simp
    · intro i hi ih
      refine Ev.step (f := fun k => laws_toIntS.l0 k l ((l.take (i+1)) ++ List.replicate (l.length - (i+1)) 0) ((i+1 : Nat) : Int)) (fun k => ?_) ?_
      · simp only [laws_toIntS.l0]
        rw [if_pos (by omega), if_pos (by omega)]
        rw [if_pos (by simp; omega), wrap_up i (by omega)]
        congr 1
        exact set_fill_id l i hi 0 _ (by simp [rd, List.getD_eq_getElem?_getD, hi])
      · exact ih
  have := key 0 (Nat.zero_le _)
  have hc : ((l.length : Int) : Int).toNat ≤ 35184372088832 := by omega
  unfold laws_toIntS.f
  simp only [if_pos (Int.natCast_nonneg l.length), if_pos hc]
  simpa using this
theorem laws_eqIntS_refl (l : List Int) (h : (l.length ≤ 1048576)) : Ev (fun k => laws_eqIntS.f k l l) true := by
  have hl : l.length ≤ 1048576 := h
  have key : ∀ i, i ≤ l.length → Ev (fun k => laws_eqIntS.l0 k l l (i : Int)) true := by
    refine Ev_down (L := fun i k => laws_eqIntS.l0 k l l (i : Int)) l.length ?_ ?_
    · refine Ev_at 1 (fun k => ?_)
      simp only [laws_eqIntS.l0]
      rw [if_neg (by omega)]
    · intro i hi ih
      refine Ev.step (f := fun k => laws_eqIntS.l0 k l l ((i+1 : Nat) : Int)) (fun k => ?_) ih
      simp only [laws_eqIntS.l0]
      rw [if_pos (by omega), if_pos (by omega), if_pos (by omega), if_pos trivial, wrap_up i (by omega)]
  have := key 0 (Nat.zero_le _)
  unfold laws_eqIntS.f
  simp only [if_pos]
  exact this
theorem laws_szIntS_some (l : List Int) (hb : l.length ≤ maxLen) (left : Int) (h0 : 0 ≤ left) (h1 : left ≤ 1048576) : ∃ r, laws_szIntS.f l left = some r ∧ (0 ≤ r → r ≤ left ∧ l.length ≤ 1048576) := by
  have hm : maxLen = 9223372036854775807 := rfl
  have hw : wrap64 (left - (l.length : Int)) = left - (l.length : Int) := by unfold wrap64; omega
  unfold laws_szIntS.f
  rw [hw]
  by_cases c : left - (l.length : Int) < 0
  · exact ⟨-1, by rw [if_pos c], fun h => by omega⟩
  · exact ⟨_, by rw [if_neg c], fun _ => by omega⟩
def conv41 (x : S41) : S49 := ⟨x.f0, x.f1⟩
theorem laws_toRes_ev (a0 : Int) (l1 : List Int) (h1 : (l1.length ≤ 1048576)) : Ev (fun k => laws_toRes.f k a0 l1) (a0, l1) := by
  unfold laws_toRes.f
  try simp only [Option.bind_some]
  refine Ev.bind (laws_toIntS_ev l1 h1) ?_
  exact Ev.now _
theorem laws_eqRes_refl (a0 : Int) (l1 : List Int) (h1 : (l1.length ≤ 1048576)) : Ev (fun k => laws_eqRes.f k a0 l1 a0 l1) true := by
  unfold laws_eqRes.f
  try simp only [if_pos, Option.bind_some]
  refine Ev.bind (laws_eqIntS_refl l1 h1) ?_
  try simp only [if_true, if_pos, bne_self_eq_false, Bool.false_eq_true, if_false]
  exact Ev.now _
theorem laws_szRes_some (a0 : Int) (l1 : List Int) (b1 : l1.length ≤ maxLen) (left : Int) (h0 : 0 ≤ left) (h1 : left ≤ 1048576) : ∃ r, laws_szRes.f a0 l1 left = some r ∧ (0 ≤ r → r ≤ left ∧ (l1.length ≤ 1048576)) := by
  unfold laws_szRes.f
  obtain ⟨r0, e0, p0⟩ := laws_szIntS_some l1 b1 left (by omega) (by omega)
  simp only [e0, Option.bind_some]
  by_cases c0 : r0 < 0
  · exact ⟨-1, by simp [c0], fun h => by omega⟩
  simp only [if_neg c0]
  have q0 := p0 (by omega)
  refine ⟨_, rfl, fun _ => ⟨by omega, ?_⟩⟩
  simp_all
def mkI (a : Int) (j : Nat) : Int := a + (j : Int)
theorem laws_markIntS_ev (l : List Int) (h : l.length ≤ 1048576) (a : Int) (h0 : 0 ≤ a) (h1 : a ≤ 1000000000000000) : Ev (fun k => laws_markIntS.f k l a) (a + (l.length : Int), (List.range l.length).map (mkI a)) := by
  have key : ∀ i, i ≤ l.length → Ev (fun k => laws_markIntS.l0 k ((List.range i).map (mkI a) ++ l.drop i) (a + (i : Int)) (i : Int)) (a + (l.length : Int), (List.range l.length).map (mkI a)) := by
    refine Ev_down (L := fun i k => laws_markIntS.l0 k ((List.range i).map (mkI a) ++ l.drop i) (a + (i : Int)) (i : Int)) l.length ?_ ?_
    · refine Ev_at 1 (fun k => ?_)
      simp only [laws_markIntS.l0]
      rw [if_neg (by simp)]
      simp
    · intro i hi ih
      have hlen : ((List.range i).map (mkI a) ++ l.drop i).length = l.length := by simp; omega
      have w0 : wrap64 (a + (i : Int) + 1) = a + (i : Int) + 1 := by unfold wrap64; omega
      have hfin : a + ((i + 1 : Nat) : Int) = a + (i : Int) + 1 := by omega
      refine Ev.step (f := fun k => laws_markIntS.l0 k ((List.range (i + 1)).map (mkI a) ++ l.drop (i + 1)) (a + ((i + 1 : Nat) : Int)) ((i + 1 : Nat) : Int)) (fun k => ?_) ih
      rw [← mark_fill (mkI a) l i hi, hfin]
      simp only [laws_markIntS.l0, Option.bind_some, hlen]
      rw [if_pos (by omega), if_pos (by omega), wrap_up i (by omega)]
      simp only [Int.toNat_natCast, w0, List.set_set]
      rfl
  have := key 0 (Nat.zero_le _)
  unfold laws_markIntS.f
  simpa using this
theorem laws_heldIntS_ev (n : Nat) (h : n ≤ 1048576) (a : Int) (h0 : 0 ≤ a) (h1 : a ≤ 1000000000000000) : Ev (fun k => laws_heldIntS.f k ((List.range n).map (mkI a)) a) (a + (n : Int)) := by
  have key : ∀ i, i ≤ n → Ev (fun k => laws_heldIntS.l0 k ((List.range n).map (mkI a)) (a + (i : Int)) (i : Int)) (a + (n : Int)) := by
    refine Ev_down (L := fun i k => laws_heldIntS.l0 k ((List.range n).map (mkI a)) (a + (i : Int)) (i : Int)) n ?_ ?_
    · refine Ev_at 1 (fun k => ?_)
      simp only [laws_heldIntS.l0]
      rw [if_neg (by simp)]
    · intro i hi ih
      have hr : rd ((List.range n).map (mkI a)) (i : Int) = mkI a i := by simp [rd, List.getD_eq_getElem?_getD, hi]
      have w0 : wrap64 (a + (i : Int) + 1) = a + (i : Int) + 1 := by unfold wrap64; omega
      have hfin : a + ((i + 1 : Nat) : Int) = a + (i : Int) + 1 := by omega
      refine Ev.step (f := fun k => laws_heldIntS.l0 k ((List.range n).map (mkI a)) (a + ((i + 1 : Nat) : Int)) ((i + 1 : Nat) : Int)) (fun k => ?_) ih
      rw [hfin]
      simp only [laws_heldIntS.l0, hr, mkI, w0]
      rw [if_pos (by simp; omega), if_pos (by omega), wrap_up i (by omega)]
      simp only [if_true]
  have := key 0 (Nat.zero_le _)
  unfold laws_heldIntS.f
  simpa using this
def conv140 (x : S140) : S95 := ⟨x.f0, x.f1, x.f2⟩
theorem laws_toWord_eq (a0 : Int) (a1 : Int) (a2 : Int) : laws_toWord.f a0 a1 a2 = some (a0, a1, a2) := rfl
theorem laws_eqWord_refl (a0 : Int) (a1 : Int) (a2 : Int) : laws_eqWord.f a0 a1 a2 a0 a1 a2 = some true := by simp [laws_eqWord.f]
theorem laws_toWordS_ev (l : List S140) (h : (l.length ≤ 1048576)) : Ev (fun k => laws_toWordS.f k l) (l.map conv140) := by
  have hl : l.length ≤ 1048576 := h
  have key : ∀ i, i ≤ l.length → Ev (fun k => laws_toWordS.l0 k l ((l.take i).map conv140 ++ List.replicate (l.length - i) z95) (i : Int)) (l.map conv140) := by
    refine Ev_down (L := fun i k => laws_toWordS.l0 k l ((l.take i).map conv140 ++ List.replicate (l.length - i) z95) (i : Int)) l.length ?_ ?_
    · refine Ev_at 1 (fun k => ?_)
      simp only [laws_toWordS.l0]
      rw [if_neg (by omega)]
      simp
    · intro i hi ih
      refine Ev.step (f := fun k => laws_toWordS.l0 k l ((l.take (i+1)).map conv140 ++ List.replicate (l.length - (i+1)) z95) ((i+1 : Nat) : Int)) (fun k => ?_) ?_
      · simp only [laws_toWordS.l0]
        rw [if_pos (by omega), if_pos (by omega)]
        simp only [laws_toWord_eq, Option.bind_some]
        rw [if_pos (by simp; omega), wrap_up i (by omega)]
        congr 1
        exact set_fill l i hi z95 conv140 _ (by simp [rd_T140, conv140, List.getD_eq_getElem?_getD, hi])
      · exact ih
  have := key 0 (Nat.zero_le _)
  have hc : ((l.length : Int) : Int).toNat ≤ 11728124029610 := by omega
  unfold laws_toWordS.f
  simp only [if_pos (Int.natCast_nonneg l.length), if_pos hc]
  simpa using this
theorem laws_eqWordS_refl (l : List S95) (h : (l.length ≤ 1048576)) : Ev (fun k => laws_eqWordS.f k l l) true := by
  have hl : l.length ≤ 1048576 := h
  have key : ∀ i, i ≤ l.length → Ev (fun k => laws_eqWordS.l0 k l l (i : Int)) true := by
    refine Ev_down (L := fun i k => laws_eqWordS.l0 k l l (i : Int)) l.length ?_ ?_
    · refine Ev_at 1 (fun k => ?_)
      simp only [laws_eqWordS.l0]
      rw [if_neg (by omega)]
    · intro i hi ih
      refine Ev.step (f := fun k => laws_eqWordS.l0 k l l ((i+1 : Nat) : Int)) (fun k => ?_) ih
      simp only [laws_eqWordS.l0]
      rw [if_pos (by omega), if_pos (by omega), if_pos (by omega), laws_eqWord_refl, Option.bind_some, if_pos rfl, wrap_up i (by omega)]
  have := key 0 (Nat.zero_le _)
  unfold laws_eqWordS.f
  simp only [if_pos]
  exact this
theorem laws_szWordS_some (l : List S140) (hb : l.length ≤ maxLen) (left : Int) (h0 : 0 ≤ left) (h1 : left ≤ 1048576) : ∃ r, laws_szWordS.f l left = some r ∧ (0 ≤ r → r ≤ left ∧ l.length ≤ 1048576) := by
  have hm : maxLen = 9223372036854775807 := rfl
  have hw : wrap64 (left - (l.length : Int)) = left - (l.length : Int) := by unfold wrap64; omega
  unfold laws_szWordS.f
  rw [hw]
  by_cases c : left - (l.length : Int) < 0
  · exact ⟨-1, by rw [if_pos c], fun h => by omega⟩
  · exact ⟨_, by rw [if_neg c], fun _ => by omega⟩
def conv134 (x : S134) : S119 := ⟨x.f0, x.f1, x.f2.map conv124, ⟨x.f3.f0, x.f3.f1⟩⟩
theorem laws_toDesc_ev (a0 : Int) (a1 : Int) (l2 : List S124) (a3 : Int) (l4 : List Int) (h2 : (l2.length ≤ 1048576)) (h4 : (l4.length ≤ 1048576)) : Ev (fun k => laws_toDesc.f k a0 a1 l2 a3 l4) (a0, a1, l2.map conv124, a3, l4) := by
  unfold laws_toDesc.f
  try simp only [Option.bind_some]
  refine Ev.bind (laws_toEntryS_ev l2 h2) ?_
  refine Ev.bind (laws_toRes_ev a3 l4 h4) ?_
  exact Ev.now _
theorem laws_eqDesc_refl (a0 : Int) (a1 : Int) (l2 : List S122) (a3 : Int) (l4 : List Int) (h2 : (l2.length ≤ 1048576)) (h4 : (l4.length ≤ 1048576)) : Ev (fun k => laws_eqDesc.f k a0 a1 l2 a3 l4 a0 a1 l2 a3 l4) true := by
  unfold laws_eqDesc.f
  try simp only [if_pos, Option.bind_some]
  refine Ev.bind (laws_eqEntryS_refl l2 h2) ?_
  try simp only [if_true, if_pos, bne_self_eq_false, Bool.false_eq_true, if_false]
  refine Ev.bind (laws_eqRes_refl a3 l4 h4) ?_
  try simp only [if_true, if_pos, bne_self_eq_false, Bool.false_eq_true, if_false]
  exact Ev.now _
theorem laws_szDesc_some (a0 : Int) (a1 : Int) (l2 : List S124) (a3 : Int) (l4 : List Int) (b2 : l2.length ≤ maxLen) (b4 : l4.length ≤ maxLen) (left : Int) (h0 : 0 ≤ left) (h1 : left ≤ 1048576) : ∃ r, laws_szDesc.f a0 a1 l2 a3 l4 left = some r ∧ (0 ≤ r → r ≤ left ∧ (l2.length ≤ 1048576) ∧ (l4.length ≤ 1048576)) := by
  unfold laws_szDesc.f
  obtain ⟨r0, e0, p0⟩ := laws_szEntryS_some l2 b2 left (by omega) (by omega)
  simp only [e0, Option.bind_some]
  by_cases c0 : r0 < 0
  · exact ⟨-1, by simp [c0], fun h => by omega⟩
  simp only [if_neg c0]
  have q0 := p0 (by omega)
  obtain ⟨r1, e1, p1⟩ := laws_szRes_some a3 l4 b4 r0 (by omega) (by omega)
  simp only [e1, Option.bind_some]
  by_cases c1 : r1 < 0
  · exact ⟨-1, by simp [c1], fun h => by omega⟩
  simp only [if_neg c1]
  have q1 := p1 (by omega)
  refine ⟨_, rfl, fun _ => ⟨by omega, ?_⟩⟩
  simp_all
theorem laws_toDescS_ev (l : List S134) (h : ((l.length ≤ 1048576) ∧ ∀ y ∈ l, (y.f2.length ≤ 1048576) ∧ (y.f3.f1.length ≤ 1048576))) : Ev (fun k => laws_toDescS.f k l) (l.map conv134) := by
  have hl : l.length ≤ 1048576 := h.1
  have key : ∀ i, i ≤ l.length → Ev (fun k => laws_toDescS.l0 k l ((l.take i).map conv134 ++ List.replicate (l.length - i) z119) (i : Int)) (l.map conv134) := by
    refine Ev_down (L := fun i k => laws_toDescS.l0 k l ((l.take i).map conv134 ++ List.replicate (l.length - i) z119) (i : Int)) l.length ?_ ?_
    · refine Ev_at 1 (fun k => ?_)
      simp only [laws_toDescS.l0]
      rw [if_neg (by omega)]
      simp
    · intro i hi ih
      have hlen : (i : Int) < (((l.take i).map conv134 ++ List.replicate (l.length - i) z119).length : Int) := by simp; omega
      have hrd : rd_T134 l (i : Int) = l[i] := by simp [rd_T134, List.getD_eq_getElem?_getD, hi]
      obtain ⟨q2, q4⟩ := h.2 l[i] (List.getElem_mem hi)
      refine Ev.step (f := fun k => (laws_toDesc.f k (l[i]).f0 (l[i]).f1 (l[i]).f2 (l[i]).f3.f0 (l[i]).f3.f1).bind fun t => laws_toDescS.l0 k l (((l.take i).map conv134 ++ List.replicate (l.length - i) z119).set (i : Int).toNat (⟨t.1, t.2.1, t.2.2.1, (⟨t.2.2.2.1, t.2.2.2.2⟩ : S49)⟩ : S119)) ((i+1 : Nat) : Int)) (fun k => ?_) ?_
      · simp only [laws_toDescS.l0]
        rw [if_pos (by omega), if_pos (by omega), hrd, wrap_up i (by omega)]
        simp only [if_pos hlen]
      · refine Ev.bind (laws_toDesc_ev (l[i]).f0 (l[i]).f1 (l[i]).f2 (l[i]).f3.f0 (l[i]).f3.f1 q2 q4) ?_
        rw [← set_fill l i hi z119 conv134 (conv134 l[i]) rfl] at ih
        exact ih
  have := key 0 (Nat.zero_le _)
  have hc : ((l.length : Int) : Int).toNat ≤ 3909374676536 := by omega
  unfold laws_toDescS.f
  simp only [if_pos (Int.natCast_nonneg l.length), if_pos hc]
  simpa using this
theorem small134_map (l : List S134) (h : ((l.length ≤ 1048576) ∧ ∀ y ∈ l, (y.f2.length ≤ 1048576) ∧ (y.f3.f1.length ≤ 1048576))) : (((l.map conv134).length ≤ 1048576) ∧ ∀ y ∈ (l.map conv134), (y.f2.length ≤ 1048576) ∧ (y.f3.f1.length ≤ 1048576)) := by
  refine ⟨by simpa using h.1, fun y hy => ?_⟩
  obtain ⟨x, hx, rfl⟩ := List.mem_map.1 hy
  have := h.2 x hx
  simpa [conv134] using this
theorem laws_eqDescS_refl (l : List S119) (h : ((l.length ≤ 1048576) ∧ ∀ y ∈ l, (y.f2.length ≤ 1048576) ∧ (y.f3.f1.length ≤ 1048576))) : Ev (fun k => laws_eqDescS.f k l l) true := by
  have hl : l.length ≤ 1048576 := h.1
  have key : ∀ i, i ≤ l.length → Ev (fun k => laws_eqDescS.l0 k l l (i : Int)) true := by
    refine Ev_down (L := fun i k => laws_eqDescS.l0 k l l (i : Int)) l.length ?_ ?_
    · refine Ev_at 1 (fun k => ?_)
      simp only [laws_eqDescS.l0]
      rw [if_neg (by omega)]
    · intro i hi ih
      have hrd : rd_T119 l (i : Int) = l[i] := by simp [rd_T119, List.getD_eq_getElem?_getD, hi]
      obtain ⟨q2, q4⟩ := h.2 l[i] (List.getElem_mem hi)
      refine Ev.step (f := fun k => (laws_eqDesc.f k (l[i]).f0 (l[i]).f1 (l[i]).f2 (l[i]).f3.f0 (l[i]).f3.f1 (l[i]).f0 (l[i]).f1 (l[i]).f2 (l[i]).f3.f0 (l[i]).f3.f1).bind fun t => if t = true then laws_eqDescS.l0 k l l ((i+1 : Nat) : Int) else none) (fun k => ?_) ?_
      · simp only [laws_eqDescS.l0]
        rw [if_pos (by omega), if_pos (by omega), if_pos (by omega), hrd, wrap_up i (by omega)]
      · refine Ev.bind (laws_eqDesc_refl (l[i]).f0 (l[i]).f1 (l[i]).f2 (l[i]).f3.f0 (l[i]).f3.f1 q2 q4) ?_
        simp only [if_true]
        exact ih
  have := key 0 (Nat.zero_le _)
  unfold laws_eqDescS.f
  simp only [if_pos]
  exact this
theorem laws_szDescS_ev (l : List S134) (hb : l.length ≤ maxLen) (hb2 : ∀ y ∈ l, y.f2.length ≤ maxLen ∧ y.f3.f1.length ≤ maxLen) (left : Int) (h0 : 0 ≤ left) (h1 : left ≤ 1048576) : ∃ r, Ev (fun k => laws_szDescS.f k l left) r ∧ (0 ≤ r → r ≤ left ∧ ((l.length ≤ 1048576) ∧ ∀ y ∈ l, (y.f2.length ≤ 1048576) ∧ (y.f3.f1.length ≤ 1048576))) := by
  have hm : maxLen = 9223372036854775807 := rfl
  have hw : wrap64 (left - (l.length : Int)) = left - (l.length : Int) := by unfold wrap64; omega
  have key : ∀ d i : Nat, i + d = l.length → l.length ≤ 1048576 → ∀ a : Int, 0 ≤ a → a ≤ 1048576 → ∃ r, Ev (fun k => laws_szDescS.l0 k l a (i : Int)) r ∧ (0 ≤ r → r ≤ a ∧ ∀ y ∈ l.drop i, (y.f2.length ≤ 1048576) ∧ (y.f3.f1.length ≤ 1048576)) := by
    intro d
    induction d with
    | zero =>
      intro i hi hl a ha0 ha1
      refine ⟨a, Ev_at 1 (fun k => ?_), fun _ => ⟨Int.le_refl _, ?_⟩⟩
      · simp only [laws_szDescS.l0]
        rw [if_neg (by omega)]
      · rw [List.drop_eq_nil_of_le (by omega)]; simp
    | succ d ih =>
      intro i hi hl a ha0 ha1
      have hil : i < l.length := by omega
      have hrd : rd_T134 l (i : Int) = l[i] := by simp [rd_T134, List.getD_eq_getElem?_getD, hil]
      obtain ⟨b2, b4⟩ := hb2 l[i] (List.getElem_mem hil)
      obtain ⟨r1, e1, p1⟩ := laws_szDesc_some (l[i]).f0 (l[i]).f1 (l[i]).f2 (l[i]).f3.f0 (l[i]).f3.f1 b2 b4 a ha0 ha1
      by_cases c : r1 < 0
      · refine ⟨-1, Ev_at 1 (fun k => ?_), fun h => by omega⟩
        simp only [laws_szDescS.l0]
        rw [if_pos (by omega), if_pos (by omega), hrd, e1]
        simp only [Option.bind_some, if_pos c]
      · obtain ⟨hr1, hr2⟩ := p1 (by omega)
        obtain ⟨r, hr, hp⟩ := ih (i + 1) (by omega) hl r1 (by omega) (by omega)
        refine ⟨r, Ev.step (f := fun k => laws_szDescS.l0 k l r1 ((i + 1 : Nat) : Int)) (fun k => ?_) hr, fun h => ?_⟩
        · simp only [laws_szDescS.l0]
          rw [if_pos (by omega), if_pos (by omega), hrd, e1, wrap_up i (by omega)]
          simp only [Option.bind_some, if_neg c]
        · obtain ⟨x1, x2⟩ := hp h
          refine ⟨by omega, ?_⟩
          rw [List.drop_eq_getElem_cons hil]
          intro y hy
          rcases List.mem_cons.1 hy with rfl | hy
          · exact hr2
          · exact x2 y hy
  unfold laws_szDescS.f
  simp only [hw]
  by_cases c : left - (l.length : Int) < 0
  · exact ⟨-1, by simp only [if_pos c]; exact Ev.now _, fun h => by omega⟩
  · obtain ⟨r, hr, hp⟩ := key l.length 0 (by omega) (by omega) (left - (l.length : Int)) (by omega) (by omega)
    refine ⟨r, by simp only [if_neg c]; exact hr, fun h => ?_⟩
    obtain ⟨x1, x2⟩ := hp h
    exact ⟨by omega, by omega, by simpa using x2⟩
theorem laws_toMem_ev (l0 : List S140) (l1 : List S134) (h0 : (l0.length ≤ 1048576)) (h1 : ((l1.length ≤ 1048576) ∧ ∀ y ∈ l1, (y.f2.length ≤ 1048576) ∧ (y.f3.f1.length ≤ 1048576))) : Ev (fun k => laws_toMem.f k l0 l1) (l0.map conv140, l1.map conv134) := by
  unfold laws_toMem.f
  try simp only [Option.bind_some]
  refine Ev.bind (laws_toWordS_ev l0 h0) ?_
  refine Ev.bind (laws_toDescS_ev l1 h1) ?_
  exact Ev.now _
theorem laws_eqMem_refl (l0 : List S95) (l1 : List S119) (h0 : (l0.length ≤ 1048576)) (h1 : ((l1.length ≤ 1048576) ∧ ∀ y ∈ l1, (y.f2.length ≤ 1048576) ∧ (y.f3.f1.length ≤ 1048576))) : Ev (fun k => laws_eqMem.f k l0 l1 l0 l1) true := by
  unfold laws_eqMem.f
  try simp only [if_pos, Option.bind_some]
  refine Ev.bind (laws_eqWordS_refl l0 h0) ?_
  try simp only [if_true, if_pos, bne_self_eq_false, Bool.false_eq_true, if_false]
  refine Ev.bind (laws_eqDescS_refl l1 h1) ?_
  try simp only [if_true, if_pos, bne_self_eq_false, Bool.false_eq_true, if_false]
  exact Ev.now _
-- laws_szMem: by hand (rounds)
theorem rdset95 (l : List S95) (i : Nat) (hi : i < l.length) (v : S95) : rd_T95 (l.set i v) (i : Int) = v := by simp [rd_T95, List.getD_eq_getElem?_getD, hi]
def mk95 (a : Int) (j : Nat) : S95 := ⟨a + 3 * (j : Int), a + 3 * (j : Int) + 1, a + 3 * (j : Int) + 2⟩
theorem laws_markWordS_ev (l : List S95) (h : l.length ≤ 1048576) (a : Int) (h0 : 0 ≤ a) (h1 : a ≤ 1000000000000000) : Ev (fun k => laws_markWordS.f k l a) (a + 3 * (l.length : Int), (List.range l.length).map (mk95 a)) := by
  have key : ∀ i, i ≤ l.length → Ev (fun k => laws_markWordS.l0 k ((List.range i).map (mk95 a) ++ l.drop i) (a + 3 * (i : Int)) (i : Int)) (a + 3 * (l.length : Int), (List.range l.length).map (mk95 a)) := by
    refine Ev_down (L := fun i k => laws_markWordS.l0 k ((List.range i).map (mk95 a) ++ l.drop i) (a + 3 * (i : Int)) (i : Int)) l.length ?_ ?_
    · refine Ev_at 1 (fun k => ?_)
      simp only [laws_markWordS.l0]
      rw [if_neg (by simp)]
      simp
    · intro i hi ih
      have hlen : ((List.range i).map (mk95 a) ++ l.drop i).length = l.length := by simp; omega
      have w0 : wrap64 (a + 3 * (i : Int) + 1) = a + 3 * (i : Int) + 1 := by unfold wrap64; omega
      have w1 : wrap64 (a + 3 * (i : Int) + 1 + 1) = a + 3 * (i : Int) + 2 := by unfold wrap64; omega
      have w2 : wrap64 (a + 3 * (i : Int) + 2 + 1) = a + 3 * (i : Int) + 3 := by unfold wrap64; omega
      have hfin : a + 3 * ((i + 1 : Nat) : Int) = a + 3 * (i : Int) + 3 := by omega
      refine Ev.step (f := fun k => laws_markWordS.l0 k ((List.range (i + 1)).map (mk95 a) ++ l.drop (i + 1)) (a + 3 * ((i + 1 : Nat) : Int)) ((i + 1 : Nat) : Int)) (fun k => ?_) ih
      rw [← mark_fill (mk95 a) l i hi, hfin]
      simp only [laws_markWordS.l0, Option.bind_some, hlen]
      rw [if_pos (by omega), if_pos (by omega), wrap_up i (by omega)]
      simp only [Int.toNat_natCast, rdset95 _ i (by rw [hlen]; exact hi), w0, w1, w2, List.set_set]
      rfl
  have := key 0 (Nat.zero_le _)
  unfold laws_markWordS.f
  simpa using this
theorem laws_heldWordS_ev (n : Nat) (h : n ≤ 1048576) (a : Int) (h0 : 0 ≤ a) (h1 : a ≤ 1000000000000000) : Ev (fun k => laws_heldWordS.f k ((List.range n).map (mk95 a)) a) (a + 3 * (n : Int)) := by
  have key : ∀ i, i ≤ n → Ev (fun k => laws_heldWordS.l0 k ((List.range n).map (mk95 a)) (a + 3 * (i : Int)) (i : Int)) (a + 3 * (n : Int)) := by
    refine Ev_down (L := fun i k => laws_heldWordS.l0 k ((List.range n).map (mk95 a)) (a + 3 * (i : Int)) (i : Int)) n ?_ ?_
    · refine Ev_at 1 (fun k => ?_)
      simp only [laws_heldWordS.l0]
      rw [if_neg (by simp)]
    · intro i hi ih
      have hr : rd_T95 ((List.range n).map (mk95 a)) (i : Int) = mk95 a i := by simp [rd_T95, List.getD_eq_getElem?_getD, hi]
      have w0 : wrap64 (a + 3 * (i : Int) + 1) = a + 3 * (i : Int) + 1 := by unfold wrap64; omega
      have w1 : wrap64 (a + 3 * (i : Int) + 1 + 1) = a + 3 * (i : Int) + 2 := by unfold wrap64; omega
      have w2 : wrap64 (a + 3 * (i : Int) + 2 + 1) = a + 3 * (i : Int) + 3 := by unfold wrap64; omega
      have hfin : a + 3 * ((i + 1 : Nat) : Int) = a + 3 * (i : Int) + 3 := by omega
      refine Ev.step (f := fun k => laws_heldWordS.l0 k ((List.range n).map (mk95 a)) (a + 3 * ((i + 1 : Nat) : Int)) ((i + 1 : Nat) : Int)) (fun k => ?_) ih
      rw [hfin]
      simp only [laws_heldWordS.l0, hr, mk95, w0, w1, w2]
      rw [if_pos (by simp; omega), if_pos (by omega), wrap_up i (by omega)]
      simp only [if_true]
  have := key 0 (Nat.zero_le _)
  unfold laws_heldWordS.f
  simpa using this
theorem rdT_Entry (l : List S122) (i : Nat) (hi : i < l.length) : rd_T122 l (i : Int) = l[i] := by simp [rd_T122, List.getD_eq_getElem?_getD, hi]
def entF (v : Int) : List S122 → Int × Int × Int × Bool
  | [] => (0, 0, 0, false)
  | e :: es => if e.f0 = v then (e.f0, e.f1, e.f2, true) else entF v es
theorem spec_Entries_ev (sq st : Int) (l : List S122) (c : Int) (rl : List Int) (v : Int) (hl : l.length ≤ 1048576) : Ev (fun k => spec_Entries.f k sq st l c rl v) (entF v l) := by
  have key : ∀ i, i ≤ l.length → Ev (fun k => spec_Entries.l0 k v (i : Int) sq st l c rl) (entF v (l.drop i)) := by
    refine Ev_downR (L := fun i k => spec_Entries.l0 k v (i : Int) sq st l c rl) (R := fun i => entF v (l.drop i)) l.length ?_ ?_
    · refine Ev_at 1 (fun k => ?_)
      simp only [spec_Entries.l0]
      rw [if_neg (by omega), List.drop_length]
      rfl
    · intro i hi ih
      refine Ev.step (f := fun k => if (l[i]).f0 = v then some ((l[i]).f0, (l[i]).f1, (l[i]).f2, true) else spec_Entries.l0 k v ((i + 1 : Nat) : Int) sq st l c rl) (fun k => ?_) ?_
      · simp only [spec_Entries.l0]
        rw [if_pos (by omega), if_pos (by omega), rdT_Entry l i hi, wrap_up i (by omega)]
      · rw [List.drop_eq_getElem_cons hi]
        by_cases h : (l[i]).f0 = v
        · simp only [if_pos h, entF]; exact Ev.now _
        · simp only [if_neg h, entF]; exact ih
  exact key 0 (Nat.zero_le _)
theorem impl_Entries_ev (sq st : Int) (l : List S122) (c : Int) (rl : List Int) (v : Int) (hl : l.length ≤ 1048576) : Ev (fun k => impl_Entries.f k sq st l c rl v) (entF v l) := by
  have key : ∀ i, i ≤ l.length → Ev (fun k => impl_Entries.l0 k v l (l.length : Int) (i : Int)) (entF v (l.drop i)) := by
    refine Ev_downR (L := fun i k => impl_Entries.l0 k v l (l.length : Int) (i : Int)) (R := fun i => entF v (l.drop i)) l.length ?_ ?_
    · refine Ev_at 1 (fun k => ?_)
      simp only [impl_Entries.l0]
      rw [if_neg (by omega), List.drop_length]
      rfl
    · intro i hi ih
      refine Ev.step (f := fun k => if (l[i]).f0 = v then some ((l[i]).f0, (l[i]).f1, (l[i]).f2, true) else impl_Entries.l0 k v l (l.length : Int) ((i + 1 : Nat) : Int)) (fun k => ?_) ?_
      · simp only [impl_Entries.l0]
        rw [if_pos (by omega), if_pos (by omega), if_pos (by omega), rdT_Entry l i hi, wrap_up i (by omega)]
      · rw [List.drop_eq_getElem_cons hi]
        by_cases h : (l[i]).f0 = v
        · simp only [if_pos h, entF]; exact Ev.now _
        · simp only [if_neg h, entF]; exact ih
  exact key 0 (Nat.zero_le _)
def entsOk (prev : Int) : List S122 → Bool
  | [] => true
  | e :: es => inR e.f0 0 19 && (inR e.f1 0 1000 && (inR e.f2 0 1000 && (decide (prev < e.f0) && entsOk e.f0 es)))
def descOk (sq st : Int) (l : List S122) (c : Int) (rl : List Int) : Bool :=
  if sq = 0 then decide (st = 0) && (decide (l.length = 0) && (decide (c = 0) && decide (rl.length = 0)))
  else inR sq 1 1000000 && (inR st 1 3 && (decide (l.length ≤ 20) && entsOk (-1) l))
def prevAt (l : List S122) (i : Nat) : Int := if h : 0 < i ∧ i ≤ l.length then (l[i - 1]'(by omega)).f0 else -1
theorem prevAt_succ (l : List S122) (i : Nat) (hi : i < l.length) : prevAt l (i + 1) = (l[i]).f0 := by
  unfold prevAt
  rw [dif_pos (by omega)]
  simp
theorem ent_prev {β : Type} (l : List S122) (i : Nat) (hi : i < l.length) (hl : l.length ≤ 1048576) (go no bad : β) (h0 : inR (l[i]).f0 0 19 = true) :
    (if (i : Int) > 0 then (if 0 ≤ wrap64 ((i : Int) - 1) then (if wrap64 ((i : Int) - 1) < (l.length : Int) then (if (rd_T122 l (wrap64 ((i : Int) - 1))).f0 ≥ (l[i]).f0 then no else go) else bad) else bad) else go) = if prevAt l i < (l[i]).f0 then go else no := by
  rcases Nat.eq_zero_or_pos i with h | h
  · subst h
    have hp : prevAt l 0 = -1 := by simp [prevAt]
    have h1 : 0 ≤ (l[0]).f0 := by simp [inR] at h0; omega
    rw [if_neg (by omega), hp, if_pos (by omega)]
  · obtain ⟨j, rfl⟩ : ∃ j, i = j + 1 := ⟨i - 1, by omega⟩
    have e : wrap64 (((j + 1 : Nat) : Int) - 1) = (j : Int) := by unfold wrap64; omega
    rw [if_pos (by omega), e, if_pos (by omega), if_pos (by omega), rdT_Entry l j (by omega), prevAt_succ l j (by omega)]
    by_cases hc : (l[j]).f0 < (l[j + 1]).f0
    · rw [if_neg (by omega), if_pos hc]
    · rw [if_pos (by omega), if_neg hc]
theorem entsOk_at (l : List S122) (i : Nat) (hi : i < l.length) : entsOk (prevAt l i) (l.drop i) = (inR (l[i]).f0 0 19 && (inR (l[i]).f1 0 1000 && (inR (l[i]).f2 0 1000 && (decide (prevAt l i < (l[i]).f0) && entsOk (prevAt l (i + 1)) (l.drop (i + 1)))))) := by
  rw [List.drop_eq_getElem_cons hi, prevAt_succ l i hi]; rfl
theorem Ev_ifB {g : Nat → Option Bool} (b : Bool) {r : Bool} (h : b = true → Ev g r) : Ev (fun k => if b = true then g k else some false) (b && r) := by
  cases b
  · exact Ev.now _
  · exact h rfl
theorem Ev_ifD {g : Nat → Option Bool} (p : Prop) [Decidable p] {r : Bool} (h : p → Ev g r) : Ev (fun k => if p then g k else some false) (decide p && r) := by
  by_cases hp : p
  · simp only [if_pos hp, decide_eq_true hp, Bool.true_and]; exact h hp
  · simp only [if_neg hp, decide_eq_false hp, Bool.false_and]; exact Ev.now _
theorem spec_DescOk_ev (sq st : Int) (l : List S122) (c : Int) (rl : List Int) (hl : l.length ≤ 1048576) : Ev (fun k => spec_DescOk.f k sq st l c rl) (descOk sq st l c rl) := by
  have key : ∀ i, i ≤ l.length → Ev (fun k => spec_DescOk.l0 k (i : Int) sq st l c rl) (entsOk (prevAt l i) (l.drop i)) := by
    refine Ev_downR (L := fun i k => spec_DescOk.l0 k (i : Int) sq st l c rl) (R := fun i => entsOk (prevAt l i) (l.drop i)) l.length ?_ ?_
    · refine Ev_at 1 (fun k => ?_)
      simp only [spec_DescOk.l0]
      rw [if_neg (by omega), List.drop_length]
      rfl
    · intro i hi ih
      refine Ev.step (f := fun k => if inR (l[i]).f0 0 19 = true then (if inR (l[i]).f1 0 1000 = true then (if inR (l[i]).f2 0 1000 = true then (if prevAt l i < (l[i]).f0 then spec_DescOk.l0 k ((i + 1 : Nat) : Int) sq st l c rl else some false) else some false) else some false) else some false) (fun k => ?_) ?_
      · simp only [spec_DescOk.l0, spec_l1In_eq, Option.bind_some]
        rw [if_pos (by omega), if_pos (by omega), rdT_Entry l i hi, wrap_up i (by omega)]
        cases h0 : inR (l[i]).f0 0 19
        · rfl
        · simp only [if_true]
          rw [ent_prev l i hi hl _ _ _ h0]
      · rw [entsOk_at l i hi]
        exact Ev_ifB _ fun _ => Ev_ifB _ fun _ => Ev_ifB _ fun _ => Ev_ifD _ fun _ => ih
  have k0 := key 0 (Nat.zero_le _)
  have hp : prevAt l 0 = -1 := by simp [prevAt]
  rw [hp, List.drop_zero] at k0
  unfold spec_DescOk.f descOk
  by_cases h : sq = 0
  · simp only [if_pos h]
    refine Ev_ifD _ fun _ => ?_
    by_cases h2 : l.length = 0
    · have h2' : (l.length : Int) = 0 := by omega
      simp only [if_pos h2', decide_eq_true h2, Bool.true_and]
      refine Ev_ifD _ fun _ => ?_
      have e : ((rl.length : Int) == 0) = decide (rl.length = 0) := by
        by_cases h3 : rl.length = 0 <;> simp [h3]
      rw [e]; exact Ev.now _
    · have h2' : ¬ (l.length : Int) = 0 := by omega
      simp only [if_neg h2', decide_eq_false h2, Bool.false_and]; exact Ev.now _
  · simp only [if_neg h, spec_l1In_eq, Option.bind_some]
    have hj : ∀ b : Bool, Ev (fun k => spec_DescOk.j0 k b sq st l c rl) (!b && entsOk (-1) l) := by
      intro b
      refine Ev.step (f := fun k => if b = true then some false else spec_DescOk.l0 k 0 sq st l c rl) (fun k => by simp only [spec_DescOk.j0]) ?_
      cases b
      · exact k0
      · exact Ev.now _
    cases h1 : inR sq 1 1000000
    · exact hj true
    · simp only [if_true]
      cases h2 : inR st 1 3
      · exact hj true
      · simp only [if_true, Bool.true_and]
        have e : decide (l.length ≤ 20) = !decide ((l.length : Int) > 20) := by
          by_cases h3 : l.length ≤ 20
          · have : ¬ (l.length : Int) > 20 := by omega
            simp [h3, this]
          · have : (l.length : Int) > 20 := by omega
            simp [h3, this]
        rw [e]
        exact hj _
theorem impl_DescOk_ev (sq st : Int) (l : List S122) (c : Int) (rl : List Int) (hl : l.length ≤ 1048576) : Ev (fun k => impl_DescOk.f k sq st l c rl) (descOk sq st l c rl) := by
  have key : ∀ i, i ≤ l.length → Ev (fun k => impl_DescOk.l0 k l (l.length : Int) (i : Int) sq st l c rl) (entsOk (prevAt l i) (l.drop i) && (inR sq 1 1000000 && (inR st 1 3 && decide (l.length ≤ 20)))) := by
    refine Ev_downR (L := fun i k => impl_DescOk.l0 k l (l.length : Int) (i : Int) sq st l c rl) (R := fun i => entsOk (prevAt l i) (l.drop i) && (inR sq 1 1000000 && (inR st 1 3 && decide (l.length ≤ 20)))) l.length ?_ ?_
    · refine Ev_at 1 (fun k => ?_)
      simp only [impl_DescOk.l0, impl_from_eq, Option.bind_some]
      rw [if_neg (by omega), List.drop_length]
      have e : decide ((l.length : Int) ≤ 20) = decide (l.length ≤ 20) := by
        by_cases h3 : l.length ≤ 20
        · have : (l.length : Int) ≤ 20 := by omega
          simp [h3, this]
        · have : ¬ (l.length : Int) ≤ 20 := by omega
          simp [h3, this]
      rw [e]
      cases inR sq 1 1000000 <;> cases inR st 1 3 <;> simp [entsOk]
    · intro i hi ih
      refine Ev.step (f := fun k => if inR (l[i]).f0 0 19 = true then (if inR (l[i]).f1 0 1000 = true then (if inR (l[i]).f2 0 1000 = true then (if prevAt l i < (l[i]).f0 then impl_DescOk.l0 k l (l.length : Int) ((i + 1 : Nat) : Int) sq st l c rl else some false) else some false) else some false) else some false) (fun k => ?_) ?_
      · simp only [impl_DescOk.l0, impl_isPlace.f, impl_isWordNum.f, impl_from_eq, Option.bind_some]
        rw [if_pos (by omega), if_pos (by omega), if_pos (by omega), rdT_Entry l i hi, wrap_up i (by omega)]
        cases h0 : inR (l[i]).f0 0 19
        · rfl
        · simp only [if_true]
          rw [ent_prev l i hi hl _ _ _ h0]
      · rw [entsOk_at l i hi, Bool.and_assoc, Bool.and_assoc, Bool.and_assoc, Bool.and_assoc]
        exact Ev_ifB _ fun _ => Ev_ifB _ fun _ => Ev_ifB _ fun _ => Ev_ifD _ fun _ => ih
  have k0 := key 0 (Nat.zero_le _)
  have hp : prevAt l 0 = -1 := by simp [prevAt]
  rw [hp, List.drop_zero] at k0
  unfold impl_DescOk.f descOk
  by_cases h : sq = 0
  · simp only [if_pos h]
    refine Ev_ifD _ fun _ => ?_
    by_cases h2 : l.length = 0
    · have h2' : (l.length : Int) = 0 := by omega
      simp only [if_pos h2', decide_eq_true h2, Bool.true_and]
      refine Ev_ifD _ fun _ => ?_
      have e : ((rl.length : Int) == 0) = decide (rl.length = 0) := by
        by_cases h3 : rl.length = 0 <;> simp [h3]
      rw [e]; exact Ev.now _
    · have h2' : ¬ (l.length : Int) = 0 := by omega
      simp only [if_neg h2', decide_eq_false h2, Bool.false_and]; exact Ev.now _
  · simp only [if_neg h]
    have e : (entsOk (-1) l && (inR sq 1 1000000 && (inR st 1 3 && decide (l.length ≤ 20)))) = (inR sq 1 1000000 && (inR st 1 3 && (decide (l.length ≤ 20) && entsOk (-1) l))) := by
      cases entsOk (-1) l <;> cases inR sq 1 1000000 <;> cases inR st 1 3 <;> cases decide (l.length ≤ 20) <;> rfl
    rw [← e]
    exact k0
theorem rdT_Word (l : List S95) (i : Nat) (hi : i < l.length) : rd_T95 l (i : Int) = l[i] := by simp [rd_T95, List.getD_eq_getElem?_getD, hi]
theorem rdT_Desc (l : List S119) (i : Nat) (hi : i < l.length) : rd_T119 l (i : Int) = l[i] := by simp [rd_T119, List.getD_eq_getElem?_getD, hi]
def smallD (l : List S119) : Prop := l.length ≤ 1048576 ∧ ∀ y ∈ l, (y.f2.length ≤ 1048576) ∧ (y.f3.f1.length ≤ 1048576)
theorem inR_iff (x lo hi : Int) : inR x lo hi = true ↔ lo ≤ x ∧ x ≤ hi := by simp [inR]
def ndesc (d : S119) : Bool := descOk d.f0 d.f1 d.f2 d.f3.f0 d.f3.f1
/-- A word at place i is as a memory needs it. -/
def wordAt (ds : List S119) (i : Int) (w : S95) : Bool :=
  wordOk w.f0 w.f1 w.f2 (ds.length : Int) && (decide (w.f1 = 0) || ((entF i (rd_T119 ds (w.f1 - 1)).f2).2.2.2 && decide ((rd_T119 ds (w.f1 - 1)).f0 = w.f2)))
def wordsFrom (ds : List S119) : Int → List S95 → Bool
  | _, [] => true
  | i, w :: ws => wordAt ds i w && wordsFrom ds (i + 1) ws
def memOk (ws : List S95) (ds : List S119) : Bool :=
  decide (ws.length = 20) && (inR (ds.length : Int) 1 4 && (ds.all ndesc && wordsFrom ds 0 ws))
theorem wordOk_T (n t s th : Int) (h : wordOk n t s th = true) : t = 0 ∨ (1 ≤ t ∧ t ≤ th) := by
  unfold wordOk at h
  by_cases h0 : t = 0
  · exact .inl h0
  · rw [if_neg h0] at h
    simp [inR] at h
    exact .inr h.1.2
theorem spec_MemOk_ev (ws : List S95) (ds : List S119) (hw : ws.length ≤ 1048576) (hd : smallD ds) : Ev (fun k => spec_MemOk.f k ws ds) (memOk ws ds) := by
  have hdl := hd.1
  have key1 : ∀ i, i ≤ ws.length → Ev (fun k => spec_MemOk.l1 k (i : Int) ws ds) (wordsFrom ds i (ws.drop i)) := by
    refine Ev_downR (L := fun i k => spec_MemOk.l1 k (i : Int) ws ds) (R := fun i => wordsFrom ds i (ws.drop i)) ws.length ?_ ?_
    · refine Ev_at 1 (fun k => ?_)
      simp only [spec_MemOk.l1]
      rw [if_neg (by omega), List.drop_length]
      rfl
    · intro i hi ih
      rw [List.drop_eq_getElem_cons hi]
      show Ev _ (wordAt ds i ws[i] && wordsFrom ds ((i + 1 : Nat) : Int) (ws.drop (i + 1)))
      generalize hx : ws[i] = x
      have hrd : rd_T95 ws (i : Int) = x := by rw [rdT_Word ws i hi, hx]
      unfold wordAt
      refine Ev.step (f := fun k => if wordOk x.f0 x.f1 x.f2 (ds.length : Int) = true then (if x.f1 > 0 then (if 0 ≤ wrap64 (x.f1 - 1) then (if wrap64 (x.f1 - 1) < (ds.length : Int) then ((spec_Entries.f k (rd_T119 ds (wrap64 (x.f1 - 1))).f0 (rd_T119 ds (wrap64 (x.f1 - 1))).f1 (rd_T119 ds (wrap64 (x.f1 - 1))).f2 (rd_T119 ds (wrap64 (x.f1 - 1))).f3.f0 (rd_T119 ds (wrap64 (x.f1 - 1))).f3.f1 (i : Int)).bind fun b => (if b.2.2.2 = true then (if (rd_T119 ds (wrap64 (x.f1 - 1))).f0 = x.f2 then spec_MemOk.l1 k ((i + 1 : Nat) : Int) ws ds else some false) else some false)) else none) else none) else spec_MemOk.l1 k ((i + 1 : Nat) : Int) ws ds) else some false) (fun k => ?_) ?_
      · simp only [spec_MemOk.l1, spec_WordOk_eq, Option.bind_some, hrd]
        rw [if_pos (by omega), if_pos (by omega), wrap_up i (by omega)]
      · cases hok : wordOk x.f0 x.f1 x.f2 (ds.length : Int)
        · exact Ev.now _
        · simp only [if_true, Bool.true_and]
          rcases wordOk_T _ _ _ _ hok with h0 | ⟨h1, h2⟩
          · have hn : ¬ x.f1 > 0 := by omega
            simp only [if_neg hn, decide_eq_true h0, Bool.true_or, Bool.true_and]
            exact ih
          · have hn : x.f1 > 0 := by omega
            have h0 : ¬ x.f1 = 0 := by omega
            have e2 : wrap64 (x.f1 - 1) = x.f1 - 1 := by unfold wrap64; omega
            have p3 : 0 ≤ x.f1 - 1 := by omega
            have p4 : x.f1 - 1 < (ds.length : Int) := by omega
            simp only [if_pos hn, e2, if_pos p3, if_pos p4, decide_eq_false h0, Bool.false_or]
            obtain ⟨j, hj⟩ : ∃ j : Nat, x.f1 - 1 = (j : Int) := ⟨(x.f1 - 1).toNat, by omega⟩
            have hjl : j < ds.length := by omega
            rw [hj, rdT_Desc ds j hjl]
            refine Ev.bind (spec_Entries_ev _ _ _ _ _ _ (hd.2 ds[j] (List.getElem_mem hjl)).1) ?_
            cases (entF (i : Int) (ds[j]).f2).2.2.2
            · exact Ev.now _
            · simp only [if_true, Bool.true_and]
              exact Ev_ifD _ fun _ => ih
  have key0 : ∀ i, i ≤ ds.length → Ev (fun k => spec_MemOk.l0 k (i : Int) ws ds) ((ds.drop i).all ndesc && wordsFrom ds 0 ws) := by
    refine Ev_downR (L := fun i k => spec_MemOk.l0 k (i : Int) ws ds) (R := fun i => (ds.drop i).all ndesc && wordsFrom ds 0 ws) ds.length ?_ ?_
    · refine Ev.step (f := fun k => spec_MemOk.l1 k 0 ws ds) (fun k => ?_) ?_
      · simp only [spec_MemOk.l0]
        rw [if_neg (by omega)]
      · rw [List.drop_length]
        exact key1 0 (Nat.zero_le _)
    · intro i hi ih
      rw [List.drop_eq_getElem_cons hi, List.all_cons, Bool.and_assoc]
      have hm := hd.2 ds[i] (List.getElem_mem hi)
      refine Ev.step (f := fun k => (spec_DescOk.f k (ds[i]).f0 (ds[i]).f1 (ds[i]).f2 (ds[i]).f3.f0 (ds[i]).f3.f1).bind fun t => if t = true then spec_MemOk.l0 k ((i + 1 : Nat) : Int) ws ds else some false) (fun k => ?_) ?_
      · simp only [spec_MemOk.l0, rdT_Desc ds i hi]
        rw [if_pos (by omega), if_pos (by omega), wrap_up i (by omega)]
      · refine Ev.bind (spec_DescOk_ev _ _ _ _ _ hm.1) ?_
        exact Ev_ifB _ fun _ => ih
  unfold spec_MemOk.f memOk
  have hj : ∀ b : Bool, Ev (fun k => spec_MemOk.j0 k b ws ds) (!b && (ds.all ndesc && wordsFrom ds 0 ws)) := by
    intro b
    refine Ev.step (f := fun k => if b = true then some false else spec_MemOk.l0 k 0 ws ds) (fun k => by simp only [spec_MemOk.j0]) ?_
    cases b
    · exact key0 0 (Nat.zero_le _)
    · exact Ev.now _
  by_cases h : ws.length = 20
  · have h' : (ws.length : Int) = 20 := by omega
    simp only [if_pos h', decide_eq_true h, Bool.true_and, spec_l1In_eq, Option.bind_some]
    have := hj (!inR (ds.length : Int) 1 4)
    rwa [Bool.not_not] at this
  · have h' : ¬ (ws.length : Int) = 20 := by omega
    simp only [if_neg h', decide_eq_false h, Bool.false_and]
    exact hj true
theorem impl_MemOk_c1_ev (d : S119) (h : d.f2.length ≤ 1048576) : Ev (fun k => impl_MemOk_c1.f k d.f0 d.f1 d.f2 d.f3.f0 d.f3.f1) (!ndesc d) := by
  unfold impl_MemOk_c1.f
  exact Ev.bind (impl_DescOk_ev _ _ _ _ _ h) (Ev.now _)
theorem has_bad (ds : List S119) (hd : smallD ds) : Ev (fun k => slices_ContainsFuncMemOk_c1.f k ds) (!ds.all ndesc) := by
  have hdl := hd.1
  have key : ∀ i, i ≤ ds.length → ∃ r, Ev (fun k => slices_IndexFuncMemOk_c1.l0 k ds (ds.length : Int) (i : Int)) r ∧ decide (r ≥ 0) = !(ds.drop i).all ndesc := by
    have step : ∀ d i, i + d = ds.length → ∃ r, Ev (fun k => slices_IndexFuncMemOk_c1.l0 k ds (ds.length : Int) (i : Int)) r ∧ decide (r ≥ 0) = !(ds.drop i).all ndesc := by
      intro d
      induction d with
      | zero =>
        intro i hi
        refine ⟨-1, Ev_at 1 (fun k => ?_), ?_⟩
        · simp only [slices_IndexFuncMemOk_c1.l0]
          rw [if_neg (by omega)]
        · rw [List.drop_eq_nil_of_le (by omega)]; rfl
      | succ d ih =>
        intro i hi
        have hil : i < ds.length := by omega
        have hm := hd.2 ds[i] (List.getElem_mem hil)
        have hs : ∀ r, Ev (fun k => if (!ndesc ds[i]) = true then some (i : Int) else slices_IndexFuncMemOk_c1.l0 k ds (ds.length : Int) ((i + 1 : Nat) : Int)) r → Ev (fun k => slices_IndexFuncMemOk_c1.l0 k ds (ds.length : Int) (i : Int)) r := by
          intro r hr
          refine Ev.step (f := fun k => (impl_MemOk_c1.f k (ds[i]).f0 (ds[i]).f1 (ds[i]).f2 (ds[i]).f3.f0 (ds[i]).f3.f1).bind fun t => if t = true then some (i : Int) else slices_IndexFuncMemOk_c1.l0 k ds (ds.length : Int) ((i + 1 : Nat) : Int)) (fun k => ?_) (Ev.bind (impl_MemOk_c1_ev ds[i] hm.1) hr)
          simp only [slices_IndexFuncMemOk_c1.l0, rdT_Desc ds i hil]
          rw [if_pos (by omega), if_pos (by omega), if_pos (by omega), wrap_up i (by omega)]
        cases hn : ndesc ds[i]
        · refine ⟨(i : Int), hs _ (by simp only [hn, Bool.not_false, if_true]; exact Ev.now _), ?_⟩
          rw [List.drop_eq_getElem_cons hil, List.all_cons, hn]
          simp
        · obtain ⟨r, hr, he⟩ := ih (i + 1) (by omega)
          refine ⟨r, hs _ (by simp only [hn, Bool.not_true, Bool.false_eq_true, if_false]; exact hr), ?_⟩
          rw [List.drop_eq_getElem_cons hil, List.all_cons, hn, he]
          simp
    intro i hi
    exact step (ds.length - i) i (by omega)
  obtain ⟨r, hr, he⟩ := key 0 (Nat.zero_le _)
  unfold slices_ContainsFuncMemOk_c1.f slices_IndexFuncMemOk_c1.f
  refine Ev.bind hr ?_
  rw [he]
  exact Ev.now _
theorem impl_MemOk_ev (ws : List S95) (ds : List S119) (hw : ws.length ≤ 1048576) (hd : smallD ds) : Ev (fun k => impl_MemOk.f k ws ds) (memOk ws ds) := by
  have hdl := hd.1
  have key1 : ∀ i, i ≤ ws.length → Ev (fun k => impl_MemOk.l0 k ws (ws.length : Int) (i : Int) ws ds) (wordsFrom ds i (ws.drop i)) := by
    refine Ev_downR (L := fun i k => impl_MemOk.l0 k ws (ws.length : Int) (i : Int) ws ds) (R := fun i => wordsFrom ds i (ws.drop i)) ws.length ?_ ?_
    · refine Ev_at 1 (fun k => ?_)
      simp only [impl_MemOk.l0]
      rw [if_neg (by omega), List.drop_length]
      rfl
    · intro i hi ih
      rw [List.drop_eq_getElem_cons hi]
      show Ev _ (wordAt ds i ws[i] && wordsFrom ds ((i + 1 : Nat) : Int) (ws.drop (i + 1)))
      generalize hx : ws[i] = x
      have hrd : rd_T95 ws (i : Int) = x := by rw [rdT_Word ws i hi, hx]
      unfold wordAt
      refine Ev.step (f := fun k => if wordOk x.f0 x.f1 x.f2 (ds.length : Int) = true then (if x.f1 = 0 then impl_MemOk.l0 k ws (ws.length : Int) ((i + 1 : Nat) : Int) ws ds else (if 0 ≤ wrap64 (x.f1 - 1) then (if wrap64 (x.f1 - 1) < (ds.length : Int) then ((impl_Entries.f k (rd_T119 ds (wrap64 (x.f1 - 1))).f0 (rd_T119 ds (wrap64 (x.f1 - 1))).f1 (rd_T119 ds (wrap64 (x.f1 - 1))).f2 (rd_T119 ds (wrap64 (x.f1 - 1))).f3.f0 (rd_T119 ds (wrap64 (x.f1 - 1))).f3.f1 (i : Int)).bind fun b => (if b.2.2.2 = true then (if (rd_T119 ds (wrap64 (x.f1 - 1))).f0 = x.f2 then impl_MemOk.l0 k ws (ws.length : Int) ((i + 1 : Nat) : Int) ws ds else some false) else some false)) else none) else none)) else some false) (fun k => ?_) ?_
      · simp only [impl_MemOk.l0, impl_WordOk_eq, Option.bind_some, hrd]
        rw [if_pos (by omega), if_pos (by omega), if_pos (by omega), wrap_up i (by omega)]
      · cases hok : wordOk x.f0 x.f1 x.f2 (ds.length : Int)
        · exact Ev.now _
        · simp only [if_true, Bool.true_and]
          rcases wordOk_T _ _ _ _ hok with h0 | ⟨h1, h2⟩
          · simp only [if_pos h0, decide_eq_true h0, Bool.true_or, Bool.true_and]
            exact ih
          · have h0 : ¬ x.f1 = 0 := by omega
            have e2 : wrap64 (x.f1 - 1) = x.f1 - 1 := by unfold wrap64; omega
            have p3 : 0 ≤ x.f1 - 1 := by omega
            have p4 : x.f1 - 1 < (ds.length : Int) := by omega
            simp only [if_neg h0, e2, if_pos p3, if_pos p4, decide_eq_false h0, Bool.false_or]
            obtain ⟨j, hj⟩ : ∃ j : Nat, x.f1 - 1 = (j : Int) := ⟨(x.f1 - 1).toNat, by omega⟩
            have hjl : j < ds.length := by omega
            rw [hj, rdT_Desc ds j hjl]
            refine Ev.bind (impl_Entries_ev _ _ _ _ _ _ (hd.2 ds[j] (List.getElem_mem hjl)).1) ?_
            cases (entF (i : Int) (ds[j]).f2).2.2.2
            · exact Ev.now _
            · simp only [if_true, Bool.true_and]
              exact Ev_ifD _ fun _ => ih
  have hj : ∀ b : Bool, Ev (fun k => impl_MemOk.j0 k b ws ds) (!b && wordsFrom ds 0 ws) := by
    intro b
    refine Ev.step (f := fun k => if b = true then some false else impl_MemOk.l0 k ws (ws.length : Int) 0 ws ds) (fun k => by simp only [impl_MemOk.j0]) ?_
    cases b
    · exact key1 0 (Nat.zero_le _)
    · exact Ev.now _
  unfold impl_MemOk.f memOk
  by_cases h : ws.length = 20
  · have h' : (ws.length : Int) = 20 := by omega
    simp only [if_pos h', decide_eq_true h, Bool.true_and, impl_from_eq, Option.bind_some]
    cases inR (ds.length : Int) 1 4
    · exact hj true
    · simp only [if_true, Bool.true_and]
      refine Ev.bind (has_bad ds hd) ?_
      have := hj (!ds.all ndesc)
      rwa [Bool.not_not] at this
  · have h' : ¬ (ws.length : Int) = 20 := by omega
    simp only [if_neg h', decide_eq_false h, Bool.false_and]
    exact hj true
theorem laws_szMem_ev (l0 : List S140) (l1 : List S134) (b0 : l0.length ≤ maxLen) (b1 : l1.length ≤ maxLen) (b2 : ∀ y ∈ l1, y.f2.length ≤ maxLen ∧ y.f3.f1.length ≤ maxLen) (left : Int) (h0 : 0 ≤ left) (h1 : left ≤ 1048576) :
    ∃ r, Ev (fun k => laws_szMem.f k l0 l1 left) r ∧ (0 ≤ r → r ≤ left ∧ l0.length ≤ 1048576 ∧ (l1.length ≤ 1048576 ∧ ∀ y ∈ l1, (y.f2.length ≤ 1048576) ∧ (y.f3.f1.length ≤ 1048576))) := by
  unfold laws_szMem.f
  obtain ⟨r1, e1, p1⟩ := laws_szWordS_some l0 b0 left h0 h1
  simp only [e1, Option.bind_some]
  by_cases c1 : r1 < 0
  · exact ⟨-1, by simp only [if_pos c1]; exact Ev.now _, fun h => by omega⟩
  obtain ⟨q1, q2⟩ := p1 (by omega)
  obtain ⟨r2, e2, p2⟩ := laws_szDescS_ev l1 b1 b2 r1 (by omega) (by omega)
  simp only [if_neg c1]
  by_cases c2 : r2 < 0
  · exact ⟨-1, Ev.bind e2 (by simp only [if_pos c2]; exact Ev.now _), fun h => by omega⟩
  · exact ⟨r2, Ev.bind e2 (by simp only [if_neg c2]; exact Ev.now _), fun h => ⟨by have := (p2 h).1; omega, q2, (p2 h).2⟩⟩
theorem Ev_posF {α : Type} {x : Int} {g h : Nat → Option α} {r : α} (hx : 0 ≤ x) : Ev (fun k => if x < 0 then h k else g k) r = Ev g r := by
  have h' : ¬ x < 0 := by omega
  simp only [if_neg h']
/-- What is marked of tries, from a number on; and the number behind it. -/
def mkDs : Int → List S119 → List S119
  | _, [] => []
  | a, d :: ds => ⟨a, a + 1, (List.range d.f2.length).map (mk122 (a + 2)), ⟨a + 2 + 3 * (d.f2.length : Int), (List.range d.f3.f1.length).map (mkI (a + 2 + 3 * (d.f2.length : Int) + 1))⟩⟩ :: mkDs (a + 2 + 3 * (d.f2.length : Int) + 1 + (d.f3.f1.length : Int)) ds
def enDs : Int → List S119 → Int
  | a, [] => a
  | a, d :: ds => enDs (a + 2 + 3 * (d.f2.length : Int) + 1 + (d.f3.f1.length : Int)) ds
theorem mkDs_length : ∀ (ds : List S119) (a : Int), (mkDs a ds).length = ds.length
  | [], _ => rfl
  | _ :: ds, _ => by simp only [mkDs, List.length_cons, mkDs_length ds]
theorem enDs_le : ∀ (ds : List S119) (a : Int), (∀ y ∈ ds, (y.f2.length ≤ 1048576) ∧ (y.f3.f1.length ≤ 1048576)) → enDs a ds ≤ a + 8388608 * (ds.length : Int)
  | [], a, _ => by simp only [enDs, List.length_nil]; omega
  | d :: ds, a, h => by
    have := enDs_le ds (a + 2 + 3 * (d.f2.length : Int) + 1 + (d.f3.f1.length : Int)) (fun y hy => h y (List.mem_cons_of_mem _ hy))
    have h2 := h d List.mem_cons_self
    simp only [enDs, List.length_cons]
    omega
theorem enDs_ge : ∀ (ds : List S119) (a : Int), a ≤ enDs a ds
  | [], _ => Int.le_refl _
  | d :: ds, a => by have := enDs_ge ds (a + 2 + 3 * (d.f2.length : Int) + 1 + (d.f3.f1.length : Int)); simp only [enDs]; omega
theorem rdT_mid (pre ds : List S119) (d : S119) : rd_T119 (pre ++ d :: ds) (pre.length : Int) = d := by simp [rd_T119, List.getD_eq_getElem?_getD]
theorem set_mid (pre ds : List S119) (d d' : S119) : (pre ++ d :: ds).set ((pre.length : Nat) : Int).toNat d' = (pre ++ [d']) ++ ds := by
  rw [Int.toNat_natCast, List.set_append, if_neg (by omega), Nat.sub_self, List.set_cons_zero, List.append_assoc]
  rfl
theorem markDs_ev : ∀ (ds pre : List S119) (a : Int), (∀ y ∈ ds, (y.f2.length ≤ 1048576) ∧ (y.f3.f1.length ≤ 1048576)) → pre.length + ds.length ≤ 1048576 → 0 ≤ a → a + 8388608 * (ds.length : Int) ≤ 100000000000000 →
    Ev (fun k => laws_markDescS.l0 k (pre ++ ds) a (pre.length : Int)) (enDs a ds, pre ++ mkDs a ds)
  | [], pre, a, _, hl, h0, h1 => by
    refine Ev_at 1 (fun k => ?_)
    simp only [laws_markDescS.l0]
    rw [if_neg (by simp)]
    rfl
  | d :: ds, pre, a, hs, hl, h0, h1 => by
    simp only [List.length_cons] at hl h1
    obtain ⟨s2, s4⟩ := hs d List.mem_cons_self
    have w1 : wrap64 (a + 1) = a + 1 := by unfold wrap64; omega
    have w2 : wrap64 (a + 1 + 1) = a + 2 := by unfold wrap64; omega
    have w3 : wrap64 (a + 2 + 3 * (d.f2.length : Int) + 1) = a + 2 + 3 * (d.f2.length : Int) + 1 := by unfold wrap64; omega
    have hE := laws_markEntryS_ev d.f2 s2 (a + 2) (by omega) (by omega)
    have hI := laws_markIntS_ev d.f3.f1 s4 (a + 2 + 3 * (d.f2.length : Int) + 1) (by omega) (by omega)
    have hr := markDs_ev ds (pre ++ [⟨a, a + 1, (List.range d.f2.length).map (mk122 (a + 2)), ⟨a + 2 + 3 * (d.f2.length : Int), (List.range d.f3.f1.length).map (mkI (a + 2 + 3 * (d.f2.length : Int) + 1))⟩⟩]) (a + 2 + 3 * (d.f2.length : Int) + 1 + (d.f3.f1.length : Int)) (fun y hy => hs y (List.mem_cons_of_mem _ hy)) (by simp only [List.length_append, List.length_cons, List.length_nil]; omega) (by omega) (by omega)
    rw [List.append_assoc _ _ (mkDs _ _), List.length_append, List.length_cons, List.length_nil] at hr
    refine Ev.step (f := fun k => (laws_markEntryS.f k d.f2 (a + 2)).bind fun p => (laws_markIntS.f k d.f3.f1 (wrap64 (p.1 + 1))).bind fun q => laws_markDescS.l0 k ((pre ++ d :: ds).set ((pre.length : Nat) : Int).toNat ⟨a, a + 1, p.2, ⟨p.1, q.2⟩⟩) q.1 ((pre.length + 1 : Nat) : Int)) (fun k => ?_) ?_
    · simp only [laws_markDescS.l0, rdT_mid, w1, w2]
      rw [if_pos (by simp; omega), if_pos (by omega), wrap_up pre.length (by omega)]
    · refine Ev.bind hE ?_
      simp only [w3]
      refine Ev.bind hI ?_
      simp only [set_mid]
      exact hr
theorem heldDs_ev : ∀ (ds pre : List S119) (a : Int), (∀ y ∈ ds, (y.f2.length ≤ 1048576) ∧ (y.f3.f1.length ≤ 1048576)) → pre.length + ds.length ≤ 1048576 → 0 ≤ a → a + 8388608 * (ds.length : Int) ≤ 100000000000000 →
    Ev (fun k => laws_heldDescS.l0 k (pre ++ mkDs a ds) a (pre.length : Int)) (enDs a ds)
  | [], pre, a, _, hl, h0, h1 => by
    refine Ev_at 1 (fun k => ?_)
    simp only [laws_heldDescS.l0]
    rw [if_neg (by simp [mkDs])]
    rfl
  | d :: ds, pre, a, hs, hl, h0, h1 => by
    simp only [List.length_cons] at hl h1
    obtain ⟨s2, s4⟩ := hs d List.mem_cons_self
    have w1 : wrap64 (a + 1) = a + 1 := by unfold wrap64; omega
    have w2 : wrap64 (a + 1 + 1) = a + 2 := by unfold wrap64; omega
    have w3 : wrap64 (a + 2 + 3 * (d.f2.length : Int) + 1) = a + 2 + 3 * (d.f2.length : Int) + 1 := by unfold wrap64; omega
    have hE := laws_heldEntryS_ev d.f2.length s2 (a + 2) (by omega) (by omega)
    have hI := laws_heldIntS_ev d.f3.f1.length s4 (a + 2 + 3 * (d.f2.length : Int) + 1) (by omega) (by omega)
    generalize hd' : (⟨a, a + 1, (List.range d.f2.length).map (mk122 (a + 2)), ⟨a + 2 + 3 * (d.f2.length : Int), (List.range d.f3.f1.length).map (mkI (a + 2 + 3 * (d.f2.length : Int) + 1))⟩⟩ : S119) = d'
    have e0 : d'.f0 = a := by rw [← hd']
    have e1 : d'.f1 = a + 1 := by rw [← hd']
    have e2 : d'.f2 = (List.range d.f2.length).map (mk122 (a + 2)) := by rw [← hd']
    have e3 : d'.f3.f0 = a + 2 + 3 * (d.f2.length : Int) := by rw [← hd']
    have e4 : d'.f3.f1 = (List.range d.f3.f1.length).map (mkI (a + 2 + 3 * (d.f2.length : Int) + 1)) := by rw [← hd']
    have em : mkDs a (d :: ds) = d' :: mkDs (a + 2 + 3 * (d.f2.length : Int) + 1 + (d.f3.f1.length : Int)) ds := by rw [← hd']; rfl
    have hr := heldDs_ev ds (pre ++ [d']) (a + 2 + 3 * (d.f2.length : Int) + 1 + (d.f3.f1.length : Int)) (fun y hy => hs y (List.mem_cons_of_mem _ hy)) (by simp only [List.length_append, List.length_cons, List.length_nil]; omega) (by omega) (by omega)
    rw [List.append_assoc, List.length_append, List.length_cons, List.length_nil] at hr
    rw [em]
    refine Ev.step (f := fun k => (laws_heldEntryS.f k ((List.range d.f2.length).map (mk122 (a + 2))) (a + 2)).bind fun t347 => (if t347 < 0 then (some (-1)) else (if (a + 2 + 3 * (d.f2.length : Int)) = t347 then ((laws_heldIntS.f k ((List.range d.f3.f1.length).map (mkI (a + 2 + 3 * (d.f2.length : Int) + 1))) (wrap64 (t347 + 1))).bind fun t350 => (if t350 < 0 then (some (-1)) else (laws_heldDescS.l0 k (pre ++ d' :: mkDs (a + 2 + 3 * (d.f2.length : Int) + 1 + (d.f3.f1.length : Int)) ds) t350 ((pre.length + 1 : Nat) : Int)))) else (some (-1))))) (fun k => ?_) ?_
    · simp only [laws_heldDescS.l0, rdT_mid, w1, w2, e0, e1, e2, e3, e4]
      rw [if_pos (by simp; omega), if_pos (by omega), wrap_up pre.length (by omega)]
      simp only [if_true]
    · refine Ev.bind hE ?_
      simp only [if_neg (show ¬ (a + 2 + 3 * (d.f2.length : Int)) < 0 by omega), if_true, w3]
      refine Ev.bind hI ?_
      simp only [if_neg (show ¬ (a + 2 + 3 * (d.f2.length : Int) + 1 + (d.f3.f1.length : Int)) < 0 by omega)]
      exact hr
/-- A memory's marks are held. -/
theorem markMem_ev (ws : List S95) (ds : List S119) (hw : ws.length ≤ 1048576) (hd : smallD ds) : ∃ r ms mds, (0 ≤ r ∧ r ≤ 100000000000000) ∧ Ev (fun k => laws_markMem.f k ws ds 1) (r, ms, mds) ∧ Ev (fun k => laws_heldMem.f k ms mds 1) r := by
  have hM := markDs_ev ds [] (1 + 3 * (ws.length : Int)) hd.2 (by simpa using hd.1) (by omega) (by have := hd.1; omega)
  have hH := heldDs_ev ds [] (1 + 3 * (ws.length : Int)) hd.2 (by simpa using hd.1) (by omega) (by have := hd.1; omega)
  have hg := enDs_ge ds (1 + 3 * (ws.length : Int))
  refine ⟨enDs (1 + 3 * (ws.length : Int)) ds, (List.range ws.length).map (mk95 1), mkDs (1 + 3 * (ws.length : Int)) ds, ⟨by omega, by have := enDs_le ds (1 + 3 * (ws.length : Int)) hd.2; have := hd.1; omega⟩, ?_, ?_⟩
  · unfold laws_markMem.f
    refine Ev.bind (laws_markWordS_ev ws hw 1 (by omega) (by omega)) ?_
    have hM' : Ev (fun k => laws_markDescS.g k ds (1 + 3 * (ws.length : Int))) (enDs (1 + 3 * (ws.length : Int)) ds, mkDs (1 + 3 * (ws.length : Int)) ds) := by simpa [laws_markDescS.g] using hM
    refine Ev.bind hM' ?_
    exact Ev.now _
  · unfold laws_heldMem.f
    refine Ev.bind (laws_heldWordS_ev ws.length hw 1 (by omega) (by omega)) ?_
    simp only [if_neg (show ¬ (1 + 3 * (ws.length : Int)) < 0 by omega)]
    have hH' : Ev (fun k => laws_heldDescS.f k (mkDs (1 + 3 * (ws.length : Int)) ds) (1 + 3 * (ws.length : Int))) (enDs (1 + 3 * (ws.length : Int)) ds) := by simpa [laws_heldDescS.f] using hH
    refine Ev.bind hH' ?_
    simp only [if_neg (show ¬ enDs (1 + 3 * (ws.length : Int)) ds < 0 by omega)]
    exact Ev.now _
def marked (ws : List S95) (t : Int) : Bool := ws.any fun w => decide (w.f1 = t + 1)
theorem marks_spec (ws : List S95) (ds : List S119) (t : Int) (hw : ws.length ≤ 1048576) (h0 : 0 ≤ t) (h1 : t ≤ 1048576) : Ev (fun k => spec_l7Marks.f k ws ds t) (marked ws t) := by
  unfold spec_l7Marks.f
  have w1 : wrap64 (t + 1) = t + 1 := by unfold wrap64; omega
  have key : ∀ i, i ≤ ws.length → Ev (fun k => spec_l7Marks.l0 k t (i : Int) ws ds) (marked (ws.drop i) t) := by
    refine Ev_downR (L := fun i k => spec_l7Marks.l0 k t (i : Int) ws ds) (R := fun i => marked (ws.drop i) t) ws.length ?_ ?_
    · refine Ev_at 1 (fun k => ?_)
      simp only [spec_l7Marks.l0]
      rw [if_neg (by omega), List.drop_length]
      rfl
    · intro i hi ih
      rw [List.drop_eq_getElem_cons hi]
      refine Ev.step (f := fun k => if (ws[i]).f1 = t + 1 then some true else spec_l7Marks.l0 k t ((i + 1 : Nat) : Int) ws ds) (fun k => ?_) ?_
      · simp only [spec_l7Marks.l0, rdT_Word ws i hi, w1]
        rw [if_pos (by omega), if_pos (by omega), wrap_up i (by omega)]
        by_cases c : (ws[i]).f1 = t + 1
        · rw [if_pos c, if_pos (by omega), if_neg (by omega)]
        · rw [if_neg c]
          by_cases c2 : (ws[i]).f1 > 0
          · rw [if_pos c2, if_neg (by omega)]
          · rw [if_neg c2]
      · unfold marked
        rw [List.any_cons]
        by_cases c : (ws[i]).f1 = t + 1
        · simp only [if_pos c, decide_eq_true c, Bool.true_or]
          exact Ev.now _
        · simp only [if_neg c, decide_eq_false c, Bool.false_or]
          exact ih
  exact key 0 (Nat.zero_le _)
theorem marks_impl (ws : List S95) (t : Int) (hw : ws.length ≤ 1048576) (h0 : 0 ≤ t) (h1 : t ≤ 1048576) : Ev (fun k => slices_ContainsFuncBegin_c1.f k ws t) (marked ws t) := by
  have w1 : wrap64 (t + 1) = t + 1 := by unfold wrap64; omega
  have step : ∀ d i, i + d = ws.length → ∃ r, Ev (fun k => slices_IndexFuncBegin_c1.l0 k ws t (ws.length : Int) (i : Int)) r ∧ decide (r ≥ 0) = marked (ws.drop i) t := by
    intro d
    induction d with
    | zero =>
      intro i hi
      refine ⟨-1, Ev_at 1 (fun k => ?_), ?_⟩
      · simp only [slices_IndexFuncBegin_c1.l0]
        rw [if_neg (by omega)]
      · rw [List.drop_eq_nil_of_le (by omega)]; rfl
    | succ d ih =>
      intro i hi
      have hil : i < ws.length := by omega
      have hs : ∀ r, Ev (fun k => if ((ws[i]).f1 == t + 1) = true then some (i : Int) else slices_IndexFuncBegin_c1.l0 k ws t (ws.length : Int) ((i + 1 : Nat) : Int)) r → Ev (fun k => slices_IndexFuncBegin_c1.l0 k ws t (ws.length : Int) (i : Int)) r := by
        intro r hr
        refine Ev.step (f := fun k => if ((ws[i]).f1 == t + 1) = true then some (i : Int) else slices_IndexFuncBegin_c1.l0 k ws t (ws.length : Int) ((i + 1 : Nat) : Int)) (fun k => ?_) hr
        simp only [slices_IndexFuncBegin_c1.l0, rdT_Word ws i hil, impl_Begin_c1.f, Option.bind_some, w1]
        rw [if_pos (by omega), if_pos (by omega), if_pos (by omega), wrap_up i (by omega)]
      rw [List.drop_eq_getElem_cons hil]
      by_cases c : (ws[i]).f1 = t + 1
      · refine ⟨(i : Int), hs _ (by simp only [beq_iff_eq, if_pos c]; exact Ev.now _), ?_⟩
        simp only [marked, List.any_cons, decide_eq_true c, Bool.true_or]
        exact decide_eq_true (Int.natCast_nonneg i)
      · obtain ⟨r, hr, he⟩ := ih (i + 1) (by omega)
        refine ⟨r, hs _ (by simp only [beq_iff_eq, if_neg c]; exact hr), ?_⟩
        rw [he]
        simp only [marked, List.any_cons, decide_eq_false c, Bool.false_or]
  obtain ⟨r, hr, he⟩ := step ws.length 0 (by omega)
  unfold slices_ContainsFuncBegin_c1.f slices_IndexFuncBegin_c1.f
  refine Ev.bind hr ?_
  rw [he]
  exact Ev.now _
theorem copy_Res (c : Int) (l : List Int) (h : l.length ≤ 1048576) : spec_l6Res.f c l = some (c, l) := by
  have hb : ([] : List Int).length + l.length < 17592186044416 := by simp; omega
  simp only [spec_l6Res.f, Option.bind_some, if_pos hb, List.nil_append]
theorem copy_ResI (c : Int) (l : List Int) (h : l.length ≤ 1048576) : impl_copyRes.f c l = some (c, l) := by
  have hb : ([] : List Int).length + l.length < 17592186044416 := by simp; omega
  simp only [impl_copyRes.f, slices_Clone_int_int.f, Option.bind_some, if_pos hb, List.nil_append]
theorem copy_Entry (l : List S122) (h : l.length ≤ 1048576) : impl_Entry.f l = some l := by
  have hb : ([] : List S122).length + l.length < 5864062014805 := by simp; omega
  simp only [impl_Entry.f, Option.bind_some, if_pos hb, List.nil_append]
theorem copy_Mem (ws : List S95) (ds : List S119) (hw : ws.length ≤ 1048576) (hd : smallD ds) : Ev (fun k => spec_l7Copy.f k ws ds) (ws, ds) := by
  have hdl := hd.1
  have key : ∀ i, i ≤ ds.length → Ev (fun k => spec_l6Descs.l0 k ds (ds.take i) (i : Int)) ds := by
    refine Ev_down (L := fun i k => spec_l6Descs.l0 k ds (ds.take i) (i : Int)) ds.length ?_ ?_
    · refine Ev_at 1 (fun k => ?_)
      simp only [spec_l6Descs.l0]
      rw [if_neg (by omega), List.take_length]
    · intro i hi ih
      rw [List.take_succ_eq_append_getElem hi] at ih
      have hm := hd.2 ds[i] (List.getElem_mem hi)
      have hb : ([] : List S122).length + (ds[i]).f2.length < 5864062014805 := by simp; omega
      have hl : (ds.take i).length < 1954687338268 := by simp; omega
      refine Ev.step (f := fun k => spec_l6Descs.l0 k ds (ds.take i ++ [ds[i]]) ((i + 1 : Nat) : Int)) (fun k => ?_) ih
      simp only [spec_l6Descs.l0, rdT_Desc ds i hi, spec_l6Desc.f, Option.bind_some, if_pos hb, copy_Res _ _ hm.2, List.nil_append]
      rw [if_pos (by omega), if_pos (by omega), if_pos hl, wrap_up i (by omega)]
  have hb : ([] : List S95).length + ws.length < 5864062014805 := by simp; omega
  unfold spec_l7Copy.f spec_l6Descs.f
  simp only [Option.bind_some, if_pos hb, List.nil_append]
  exact Ev.bind (key 0 (Nat.zero_le _)) (Ev.now _)
theorem copy_MemI (ws : List S95) (ds : List S119) (hw : ws.length ≤ 1048576) (hd : smallD ds) : Ev (fun k => impl_copyMem.f k ws ds) (ws, ds) := by
  have hdl := hd.1
  have hb : ([] : List S95).length + ws.length < 5864062014805 := by simp; omega
  have key : ∀ i, i ≤ ds.length → Ev (fun k => impl_copyMem.l0 k ds (ds.length : Int) (i : Int) ws (ds.take i)) (ws, ds) := by
    refine Ev_down (L := fun i k => impl_copyMem.l0 k ds (ds.length : Int) (i : Int) ws (ds.take i)) ds.length ?_ ?_
    · refine Ev_at 1 (fun k => ?_)
      simp only [impl_copyMem.l0]
      rw [if_neg (by omega), List.take_length]
    · intro i hi ih
      rw [List.take_succ_eq_append_getElem hi] at ih
      have hm := hd.2 ds[i] (List.getElem_mem hi)
      have hl : (ds.take i).length < 1954687338268 := by simp; omega
      refine Ev.step (f := fun k => impl_copyMem.l0 k ds (ds.length : Int) ((i + 1 : Nat) : Int) ws (ds.take i ++ [ds[i]])) (fun k => ?_) ih
      simp only [impl_copyMem.l0, rdT_Desc ds i hi, copy_Entry _ hm.1, copy_ResI _ _ hm.2, Option.bind_some]
      rw [if_pos (by omega), if_pos (by omega), if_pos (by omega), if_pos hl, wrap_up i (by omega)]
  unfold impl_copyMem.f impl_Word_148.f
  simp only [Option.bind_some, if_pos hb, List.nil_append]
  exact key 0 (Nat.zero_le _)
/-- The tries with thread t's begun anew. -/
def begun (ds : List S119) (t : Int) (list : List S122) (c : Int) (rl : List Int) : List S119 := ds.set t.toNat ⟨wrap64 ((rd_T119 ds t).f0 + 1), 1, list, ⟨c, rl⟩⟩
theorem begun_small (ds : List S119) (t : Int) (list : List S122) (c : Int) (rl : List Int) (hd : smallD ds) (hl : list.length ≤ 1048576) (hr : rl.length ≤ 1048576) : smallD (begun ds t list c rl) := by
  refine ⟨by unfold begun; rw [List.length_set]; exact hd.1, fun y hy => ?_⟩
  rcases List.mem_or_eq_of_mem_set hy with h | rfl
  · exact hd.2 y h
  · exact ⟨hl, hr⟩
def beginF (ws : List S95) (ds : List S119) (t : Int) (list : List S122) (c : Int) (rl : List Int) : List S95 × List S119 × Int × Int × Int × Int × Bool :=
  if memOk ws ds = true ∧ (0 ≤ t ∧ t ≤ (ds.length : Int) - 1) ∧ marked ws t = false ∧ memOk ws (begun ds t list c rl) = true then (ws, begun ds t list c rl, t, wrap64 ((rd_T119 ds t).f0 + 1), 0, 0, true) else (ws, ds, 0, 0, 0, 0, false)
theorem Begin_spec_ev (ws : List S95) (ds : List S119) (t : Int) (list : List S122) (c : Int) (rl : List Int) (hw : ws.length ≤ 1048576) (hd : smallD ds) (hl : list.length ≤ 1048576) (hr : rl.length ≤ 1048576) : Ev (fun k => spec_Begin.f k ws ds t list c rl) (beginF ws ds t list c rl) := by
  have hdl := hd.1
  have w1 : wrap64 ((ds.length : Int) - 1) = (ds.length : Int) - 1 := by unfold wrap64; omega
  have jt : ∀ r, r = (ws, ds, 0, 0, 0, 0, false) → Ev (fun k => spec_Begin.j0 k t list true ws ds c rl ws ds) r := by
    rintro r rfl
    refine Ev_at 1 (fun k => ?_)
    simp only [spec_Begin.j0, if_true]
  unfold spec_Begin.f
  refine Ev.bind (copy_Mem ws ds hw hd) ?_
  refine Ev.bind (spec_MemOk_ev ws ds hw hd) ?_
  by_cases h1 : memOk ws ds = true
  · simp only [h1, if_true, spec_l1In_eq, Option.bind_some, w1]
    by_cases h2 : inR t 0 ((ds.length : Int) - 1) = true
    · have h2' := (inR_iff _ _ _).1 h2
      simp only [h2, if_true]
      refine Ev.bind (marks_spec ws ds t hw h2'.1 (by omega)) ?_
      cases h3 : marked ws t
      · have hb : ([] : List S122).length + list.length < 5864062014805 := by simp; omega
        have h5 : t < (ds.length : Int) := by omega
        refine Ev.step (f := fun k => (spec_l7Copy.f k ws ds).bind fun bt329 => (if 0 ≤ t then (if t < (ds.length : Int) then ((some (([] : List (S122)) : List (S122))).bind fun y337 => (if y337.length + list.length < 5864062014805 then ((spec_l6Res.f c rl).bind fun bt343 => (if t < (bt329.2.length : Int) then ((some (bt329.2.set (t : Int).toNat (⟨wrap64 (((rd_T119 ds t).f0) + 1), 1, (y337 ++ list), (⟨bt343.1, bt343.2⟩ : S49)⟩ : S119) : List (S119))).bind fun y347 => ((spec_MemOk.f k bt329.1 y347).bind fun t348 => (if t348 = true then (some (bt329.1, y347, t, wrap64 (((rd_T119 ds t).f0) + 1), 0, 0, true)) else (some (ws, ds, 0, 0, 0, 0, false))))) else (none))) else (none))) else (none)) else (none))) (fun k => by simp only [spec_Begin.j0, Bool.false_eq_true, if_false]) ?_
        refine Ev.bind (copy_Mem ws ds hw hd) ?_
        simp only [if_pos h2'.1, if_pos h5, Option.bind_some, if_pos hb, copy_Res _ _ hr, List.nil_append]
        refine Ev.bind (spec_MemOk_ev ws _ hw (begun_small ds t list c rl hd hl hr)) ?_
        unfold beginF
        by_cases h4 : memOk ws (begun ds t list c rl) = true
        · have h4' := h4
          unfold begun at h4'
          rw [if_pos h4', if_pos ⟨h1, h2', h3, h4⟩]
          exact Ev.now _
        · have h4' := h4
          unfold begun at h4'
          rw [if_neg h4', if_neg (fun h => h4 h.2.2.2)]
          exact Ev.now _
      · exact jt _ (by unfold beginF; rw [if_neg (fun h => by rw [h3] at h; exact absurd h.2.2.1 (by decide))])
    · simp only [if_neg h2]
      exact jt _ (by unfold beginF; rw [if_neg (fun h => h2 ((inR_iff _ _ _).2 h.2.1))])
  · simp only [if_neg h1]
    exact jt _ (by unfold beginF; rw [if_neg (fun h => h1 h.1)])
theorem Begin_impl_ev (ws : List S95) (ds : List S119) (t : Int) (list : List S122) (c : Int) (rl : List Int) (hw : ws.length ≤ 1048576) (hd : smallD ds) (hl : list.length ≤ 1048576) (hr : rl.length ≤ 1048576) : Ev (fun k => impl_Begin.f k ws ds t list c rl) (beginF ws ds t list c rl) := by
  have hdl := hd.1
  have w1 : wrap64 ((ds.length : Int) - 1) = (ds.length : Int) - 1 := by unfold wrap64; omega
  have jt : ∀ r, r = (ws, ds, 0, 0, 0, 0, false) → Ev (fun k => impl_Begin.j0 k list true ws ds t c rl ws ds) r := by
    rintro r rfl
    refine Ev_at 1 (fun k => ?_)
    simp only [impl_Begin.j0, if_true]
  unfold impl_Begin.f
  refine Ev.bind (copy_MemI ws ds hw hd) ?_
  refine Ev.bind (impl_MemOk_ev ws ds hw hd) ?_
  by_cases h1 : memOk ws ds = true
  · simp only [h1, if_true, impl_from_eq, Option.bind_some, w1]
    by_cases h2 : inR t 0 ((ds.length : Int) - 1) = true
    · have h2' := (inR_iff _ _ _).1 h2
      simp only [h2, if_true]
      refine Ev.bind (marks_impl ws t hw h2'.1 (by omega)) ?_
      cases h3 : marked ws t
      · have hb : ([] : List S122).length + list.length < 5864062014805 := by simp; omega
        have h5 : t < (ds.length : Int) := by omega
        refine Ev.step (f := fun k => if 0 ≤ t then (if t < (ds.length : Int) then ((impl_copyMem.f k ws ds).bind fun bt447 => ((impl_Entry.f list).bind fun t454 => ((impl_copyRes.f c rl).bind fun bt457 => (if t < (bt447.2.length : Int) then ((some (bt447.2.set (t : Int).toNat (⟨wrap64 (((rd_T119 ds t).f0) + 1), 1, t454, (⟨bt457.1, bt457.2⟩ : S49)⟩ : S119) : List (S119))).bind fun y461 => ((impl_MemOk.f k bt447.1 y461).bind fun t462 => (if t462 = true then (some (bt447.1, y461, t, wrap64 (((rd_T119 ds t).f0) + 1), 0, 0, true)) else (some (ws, ds, 0, 0, 0, 0, false))))) else (none))))) else (none)) else (none)) (fun k => by simp only [impl_Begin.j0, Bool.false_eq_true, if_false]) ?_
        simp only [if_pos h2'.1, if_pos h5]
        refine Ev.bind (copy_MemI ws ds hw hd) ?_
        simp only [if_pos h5, Option.bind_some, copy_Entry _ hl, copy_ResI _ _ hr, List.nil_append]
        refine Ev.bind (impl_MemOk_ev ws _ hw (begun_small ds t list c rl hd hl hr)) ?_
        unfold beginF
        by_cases h4 : memOk ws (begun ds t list c rl) = true
        · have h4' := h4
          unfold begun at h4'
          rw [if_pos h4', if_pos ⟨h1, h2', h3, h4⟩]
          exact Ev.now _
        · have h4' := h4
          unfold begun at h4'
          rw [if_neg h4', if_neg (fun h => h4 h.2.2.2)]
          exact Ev.now _
      · exact jt _ (by unfold beginF; rw [if_neg (fun h => by rw [h3] at h; exact absurd h.2.2.1 (by decide))])
    · simp only [if_neg h2]
      exact jt _ (by unfold beginF; rw [if_neg (fun h => h2 ((inR_iff _ _ _).2 h.2.1))])
  · simp only [if_neg h1]
    exact jt _ (by unfold beginF; rw [if_neg (fun h => h1 h.1)])
theorem beginF_small (ws : List S95) (ds : List S119) (t : Int) (list : List S122) (c : Int) (rl : List Int) (hw : ws.length ≤ 1048576) (hd : smallD ds) (hl : list.length ≤ 1048576) (hr : rl.length ≤ 1048576) : (beginF ws ds t list c rl).1.length ≤ 1048576 ∧ smallD (beginF ws ds t list c rl).2.1 := by
  unfold beginF
  split
  · exact ⟨hw, begun_small ds t list c rl hd hl hr⟩
  · exact ⟨hw, hd⟩
theorem markRes_ev (a0 : Int) (l : List Int) (h : l.length ≤ 1048576) (a : Int) (h0 : 0 ≤ a) (h1 : a ≤ 1000000000000000) : Ev (fun k => laws_markRes.f k a0 l a) (a + (l.length : Int), (List.range l.length).map (mkI a)) := by
  unfold laws_markRes.f
  exact Ev.bind (laws_markIntS_ev l h a h0 h1) (Ev.now _)

theorem FnExactBegin (l0_0 : List S140) (l0_1 : List S134) (a1 : Int) (l2 : List S124) (a3_0 : Int) (l3_1 : List Int) (gl0_0 : (fun l : List S140 => l.length ≤ maxLen ∧ ∀ x ∈ l, good140 x) l0_0) (gl0_1 : (fun l : List S134 => l.length ≤ maxLen ∧ ∀ x ∈ l, good134 x) l0_1) (ga1 : (fun n : Int => (Lit.int .i64 n).wf = true) a1) (gl2 : (fun l : List S124 => l.length ≤ maxLen ∧ ∀ x ∈ l, good124 x) l2) (ga3_0 : (fun n : Int => (Lit.int .i64 n).wf = true) a3_0) (gl3_1 : (fun l : List Int => l.length ≤ maxLen ∧ ∀ x ∈ l, (fun n : Int => (Lit.int .i64 n).wf = true) x) l3_1) : ∃ k, laws_FnExactBegin.f k l0_0 l0_1 a1 l2 a3_0 l3_1 = some true := by
  refine Ev.rounds (r := true) ?_
  unfold laws_FnExactBegin.f
  have hg : ∀ y ∈ l0_1, y.f2.length ≤ maxLen ∧ y.f3.f1.length ≤ maxLen := fun y hy => by
    have := gl0_1.2 y hy
    exact ⟨this.2.2.1.1, this.2.2.2.2.1⟩
  obtain ⟨r, er, pr⟩ := laws_szMem_ev l0_0 l0_1 gl0_0.1 gl0_1.1 hg 1048576 (by omega) (by omega)
  refine Ev.bind er ?_
  by_cases c : r < 0
  · simp only [if_pos c]; exact Ev.now _
  simp only [if_neg c]
  obtain ⟨hr, hl0, hl1⟩ := pr (by omega)
  obtain ⟨r2, er2, pr2⟩ := laws_szEntryS_some l2 gl2.1 r (by omega) (by omega)
  simp only [er2, Option.bind_some]
  by_cases c2 : r2 < 0
  · simp only [if_pos c2]; exact Ev.now _
  simp only [if_neg c2]
  obtain ⟨hr2, hl2⟩ := pr2 (by omega)
  obtain ⟨r3, er3, pr3⟩ := laws_szRes_some a3_0 l3_1 gl3_1.1 r2 (by omega) (by omega)
  simp only [er3, Option.bind_some]
  by_cases c3 : r3 < 0
  · simp only [if_pos c3]; exact Ev.now _
  simp only [if_neg c3]
  obtain ⟨hr3, hl3⟩ := pr3 (by omega)
  have hw : (l0_0.map conv140).length ≤ 1048576 := by simpa using hl0
  have hd := small134_map l0_1 hl1
  have hl : (l2.map conv124).length ≤ 1048576 := by simpa using hl2
  have htM := laws_toMem_ev l0_0 l0_1 hl0 hl1
  have htE := laws_toEntryS_ev l2 hl2
  have htR := laws_toRes_ev a3_0 l3_1 hl3
  have hS := Begin_spec_ev _ _ a1 _ a3_0 l3_1 hw hd hl hl3
  have hI := Begin_impl_ev _ _ a1 _ a3_0 l3_1 hw hd hl hl3
  obtain ⟨hw2, hd2⟩ := beginF_small _ _ a1 _ a3_0 l3_1 hw hd hl hl3
  generalize beginF (l0_0.map conv140) (l0_1.map conv134) a1 (l2.map conv124) a3_0 l3_1 = M at hS hI hw2 hd2
  obtain ⟨ws, ds, p, q, u, v, ok⟩ := M
  have hq := laws_eqMem_refl ws ds hw2 hd2
  have hq0 := laws_eqMem_refl _ _ hw hd
  have hh : laws_eqHelp.f p q u v p q u v = some true := by simp [laws_eqHelp.f]
  obtain ⟨n1, ms1, md1, z1, hmk1, -⟩ := markMem_ev (l0_0.map conv140) (l0_1.map conv134) hw hd
  obtain ⟨r9, ms, mds, q0, hmk, hhd⟩ := markMem_ev ws ds hw2 hd2
  have hqn : ¬ r9 < 0 := by omega
  have hX : (ok != ok) = false := by cases ok <;> rfl
  refine Ev.bind htM ?_
  refine Ev.bind htE ?_
  refine Ev.bind htR ?_
  refine Ev.bind hS ?_
  refine Ev.bind htM ?_
  refine Ev.bind htE ?_
  refine Ev.bind htR ?_
  refine Ev.bind hI ?_
  refine Ev.bind hq ?_
  simp only [if_true, hh, Option.bind_some, hX]
  refine Ev.step (f := fun k => (laws_toMem.f k l0_0 l0_1).bind fun bt526 => ((laws_eqMem.f k (l0_0.map conv140) (l0_1.map conv134) bt526.1 bt526.2).bind fun t532 => (if t532 = true then ((laws_toEntryS.f k l2).bind fun t533 => ((laws_eqEntryS.f k (l2.map conv124) t533).bind fun t536 => (if t536 = true then ((laws_toRes.f k a3_0 l3_1).bind fun bt537 => ((laws_eqRes.f k a3_0 l3_1 bt537.1 bt537.2).bind fun t541 => (if t541 = true then ((laws_markMem.f k (l0_0.map conv140) (l0_1.map conv134) 1).bind fun bt542 => ((laws_markEntryS.f k (l2.map conv124) bt542.1).bind fun bt544 => ((laws_markRes.f k a3_0 l3_1 bt544.1).bind fun bt546 => (if bt546.1 < 0 then (laws_FnExactBegin.j1 k a1 l2 ok true l0_0 l0_1 a3_0 l3_1 ws ds p q u v ws ds) else ((laws_eqMem.f k ws ds ws ds).bind fun t548 => (if t548 = true then ((laws_eqHelp.f p q u v p q u v).bind fun t549 => (if t549 = true then (laws_FnExactBegin.j1 k a1 l2 ok (ok != ok) l0_0 l0_1 a3_0 l3_1 ws ds p q u v ws ds) else (laws_FnExactBegin.j1 k a1 l2 ok true l0_0 l0_1 a3_0 l3_1 ws ds p q u v ws ds))) else (laws_FnExactBegin.j1 k a1 l2 ok true l0_0 l0_1 a3_0 l3_1 ws ds p q u v ws ds))))))) else (none)))) else (none)))) else (none)))) (fun k => by simp only [laws_FnExactBegin.j0, Bool.false_eq_true, if_false, hX]) ?_
  refine Ev.bind htM ?_
  refine Ev.bind hq0 ?_
  simp only [if_true]
  refine Ev.bind htE ?_
  refine Ev.bind (laws_eqEntryS_refl _ hl) ?_
  simp only [if_true]
  refine Ev.bind htR ?_
  refine Ev.bind (laws_eqRes_refl _ _ hl3) ?_
  simp only [if_true]
  refine Ev.bind hmk1 ?_
  refine Ev.bind (laws_markEntryS_ev _ hl n1 z1.1 (by omega)) ?_
  refine Ev.bind (markRes_ev a3_0 l3_1 hl3 _ (by omega) (by omega)) ?_
  rw [Ev_posF (by first | omega | (simp; omega))]
  refine Ev.bind hq ?_
  simp only [if_true, hh, Option.bind_some, hX]
  refine Ev.step (f := fun k => (laws_markMem.f k ws ds 1).bind fun bt550 => ((laws_heldMem.f k bt550.2.1 bt550.2.2 1).bind fun t552 => (if t552 < 0 then (none) else (if t552 = bt550.1 then ((laws_toMem.f k l0_0 l0_1).bind fun bt553 => ((laws_toEntryS.f k l2).bind fun t559 => ((laws_toRes.f k a3_0 l3_1).bind fun bt562 => ((impl_Begin.f k bt553.1 bt553.2 a1 t559 bt562.1 bt562.2).bind fun bt566 => ((laws_eqMem.f k bt566.1 bt566.2.1 ws ds).bind fun t579 => (if t579 = true then ((laws_eqHelp.f bt566.2.2.1 bt566.2.2.2.1 bt566.2.2.2.2.1 bt566.2.2.2.2.2.1 p q u v).bind fun t580 => (if t580 = true then (laws_FnExactBegin.j2 k bt550.1 (bt566.2.2.2.2.2.2 != ok) bt550.2.1 bt550.2.2) else (laws_FnExactBegin.j2 k bt550.1 true bt550.2.1 bt550.2.2))) else (laws_FnExactBegin.j2 k bt550.1 true bt550.2.1 bt550.2.2))))))) else (none))))) (fun k => by simp only [laws_FnExactBegin.j1, Bool.false_eq_true, if_false, hX]) ?_
  refine Ev.bind hmk ?_
  refine Ev.bind hhd ?_
  simp only [if_neg hqn, if_true]
  refine Ev.bind htM ?_
  refine Ev.bind htE ?_
  refine Ev.bind htR ?_
  refine Ev.bind hI ?_
  refine Ev.bind hq ?_
  simp only [if_true, hh, Option.bind_some, hX]
  refine Ev.step (f := fun k => (laws_heldMem.f k ms mds 1).bind fun t581 => (if t581 < 0 then (none) else (if t581 = r9 then (some true) else (none)))) (fun k => by simp only [laws_FnExactBegin.j2, Bool.false_eq_true, if_false, hX]) ?_
  refine Ev.bind hhd ?_
  simp only [if_neg hqn, if_true]
  exact Ev.now _

end Go.Proofs.Ytmkhghbalnadlaa.Pure
