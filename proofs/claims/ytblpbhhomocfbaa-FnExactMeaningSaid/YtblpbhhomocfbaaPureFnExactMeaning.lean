/- The pure statement behind the law FnExactMeaning: over plain values. No condition beyond that numbers are of their kind and lengths below 2^63. -/
import Derived.Test.YtblpbhhomocfbaaOpnFnExactMeaning
namespace Go.Proofs.Ytblpbhhomocfbaa.Pure
open Go.RowKit Go.Proofs.Ytblpbhhomocfbaa.Op Go.Proofs.YtblpbhhomocfbaaW.PrintWords Go.Proofs.YtblpbhhomocfbaaW.PrintLast Go.Proofs.Ytblpbhhomocfbaa.PFnExactMeaning Go.Proofs.Ytblpbhhomocfbaa.fnExactMeaning

-- PACKS
set_option linter.unusedVariables false
set_option linter.unusedSimpArgs false
theorem Ev_at {α : Type} {g : Nat → Option α} {r : α} (n : Nat) (h : ∀ k, g (k + n) = some r) : Ev g r := ⟨n, fun k hk => by
  obtain ⟨m, rfl⟩ : ∃ m, k = m + n := ⟨k - n, by omega⟩
  exact h m⟩
theorem Ev_down {α : Type} {L : Nat → Nat → Option α} {r : α} (n : Nat) (hn : Ev (L n) r) (hs : ∀ i, i < n → Ev (L (i + 1)) r → Ev (L i) r) : ∀ i, i ≤ n → Ev (L i) r := by
  have key : ∀ d i, i + d = n → Ev (L i) r := by
    intro d
    induction d with
    | zero => intro i h; obtain rfl : i = n := by omega
              exact hn
    | succ d ih => intro i h; exact hs i (by omega) (ih (i + 1) (by omega))
  exact fun i h => key (n - i) i (by omega)
theorem wrap_up (i : Nat) (h : i < 9223372036854775807) : wrap64 ((i : Int) + 1) = ((i + 1 : Nat) : Int) := by unfold wrap64; omega
theorem set_fill {α β : Type} (l : List α) (i : Nat) (hi : i < l.length) (z : β) (f : α → β) (v : β) (hv : v = f (l[i]'hi)) :
    ((l.take i).map f ++ List.replicate (l.length - i) z).set (i : Int).toNat v = (l.take (i + 1)).map f ++ List.replicate (l.length - (i + 1)) z := by
  subst hv
  have h1 : ((l.take i).map f).length = i := by simp; omega
  rw [Int.toNat_natCast, List.set_append, if_neg (by omega), h1, Nat.sub_self]
  obtain ⟨m, hm⟩ : ∃ m, l.length - i = m + 1 := ⟨l.length - i - 1, by omega⟩
  rw [hm, List.replicate_succ, List.set_cons_zero, show l.length - (i + 1) = m by omega, List.take_succ_eq_append_getElem hi, List.map_append, List.append_assoc]
  rfl
theorem set_fill_id {α : Type} (l : List α) (i : Nat) (hi : i < l.length) (z : α) (v : α) (hv : v = l[i]'hi) :
    (l.take i ++ List.replicate (l.length - i) z).set (i : Int).toNat v = l.take (i + 1) ++ List.replicate (l.length - (i + 1)) z := by
  have := set_fill l i hi z id v hv
  simpa using this
theorem Ev_downR {α : Type} {L : Nat → Nat → Option α} {R : Nat → α} (n : Nat) (hn : Ev (L n) (R n)) (hs : ∀ i, i < n → Ev (L (i + 1)) (R (i + 1)) → Ev (L i) (R i)) : ∀ i, i ≤ n → Ev (L i) (R i) := by
  have key : ∀ d i, i + d = n → Ev (L i) (R i) := by
    intro d
    induction d with
    | zero => intro i h; obtain rfl : i = n := by omega
              exact hn
    | succ d ih => intro i h; exact hs i (by omega) (ih (i + 1) (by omega))
  exact fun i h => key (n - i) i (by omega)
theorem rd_at (l : List Int) (i : Nat) (hi : i < l.length) : rd l (i : Int) = l[i] := by simp [rd, List.getD_eq_getElem?_getD, hi]
theorem mark_fill {α : Type} (g : Nat → α) (l : List α) (i : Nat) (hi : i < l.length) : ((List.range i).map g ++ l.drop i).set i (g i) = (List.range (i + 1)).map g ++ l.drop (i + 1) := by
  rw [List.set_append, if_neg (by simp), List.length_map, List.length_range, Nat.sub_self, List.drop_eq_getElem_cons hi, List.set_cons_zero, List.range_succ, List.map_append, List.append_assoc]
  rfl
theorem Ev_pos {α : Type} {x : Int} {g : Nat → Option α} {r : α} (h : 0 ≤ x) : Ev (fun k => if x < 0 then none else g k) r = Ev g r := by
  have h' : ¬ x < 0 := by omega
  simp only [if_neg h']
def inR (x lo hi : Int) : Bool := decide (lo ≤ x) && decide (x ≤ hi)
def keyOk (k : Int) : Bool := inR k 0 3
def valOk (v : Int) : Bool := inR v 1 6
def isClass (c : Int) : Bool := inR c 0 2
def classOf (v : Int) : Int := if valOk v then Int.tmod v 3 else -1
theorem spec_l1In_eq (x lo hi : Int) : spec_l1In.f x lo hi = some (inR x lo hi) := by
  unfold spec_l1In.f inR
  by_cases h : lo ≤ x <;> simp [h]
theorem impl_from_eq (x lo hi : Int) : impl_from.f x lo hi = some (inR x lo hi) := by
  unfold impl_from.f inR
  by_cases h : lo ≤ x <;> simp [h]
def conv128 (x : S128) : S119 := ⟨x.f0, x.f1, x.f2⟩
theorem laws_toWord_eq (a0 : Int) (a1 : Int) (a2 : Int) : laws_toWord.f a0 a1 a2 = some (a0, a1, a2) := rfl
theorem laws_eqWord_refl (a0 : Int) (a1 : Int) (a2 : Int) : laws_eqWord.f a0 a1 a2 a0 a1 a2 = some true := by simp [laws_eqWord.f]
theorem laws_toWordS_ev (l : List S128) (h : (l.length ≤ 1048576)) : Ev (fun k => laws_toWordS.f k l) (l.map conv128) := by
  have hl : l.length ≤ 1048576 := h
  have key : ∀ i, i ≤ l.length → Ev (fun k => laws_toWordS.l0 k l ((l.take i).map conv128 ++ List.replicate (l.length - i) z119) (i : Int)) (l.map conv128) := by
    refine Ev_down (L := fun i k => laws_toWordS.l0 k l ((l.take i).map conv128 ++ List.replicate (l.length - i) z119) (i : Int)) l.length ?_ ?_
    · refine Ev_at 1 (fun k => ?_)
      simp only [laws_toWordS.l0]
      rw [if_neg (by omega)]
      simp
    · intro i hi ih
      refine Ev.step (f := fun k => laws_toWordS.l0 k l ((l.take (i+1)).map conv128 ++ List.replicate (l.length - (i+1)) z119) ((i+1 : Nat) : Int)) (fun k => ?_) ?_
      · simp only [laws_toWordS.l0]
        rw [if_pos (by omega), if_pos (by omega)]
        simp only [laws_toWord_eq, Option.bind_some]
        rw [if_pos (by simp; omega), wrap_up i (by omega)]
        congr 1
        exact set_fill l i hi z119 conv128 _ (by simp [rd_T128, conv128, List.getD_eq_getElem?_getD, hi])
      · exact ih
  have := key 0 (Nat.zero_le _)
  have hc : ((l.length : Int) : Int).toNat ≤ 11728124029610 := by omega
  unfold laws_toWordS.f
  simp only [if_pos (Int.natCast_nonneg l.length), if_pos hc]
  simpa using this
theorem laws_eqWordS_refl (l : List S119) (h : (l.length ≤ 1048576)) : Ev (fun k => laws_eqWordS.f k l l) true := by
  have hl : l.length ≤ 1048576 := h
  have key : ∀ i, i ≤ l.length → Ev (fun k => laws_eqWordS.l0 k l l (i : Int)) true := by
    refine Ev_down (L := fun i k => laws_eqWordS.l0 k l l (i : Int)) l.length ?_ ?_
    · refine Ev_at 1 (fun k => ?_)
      simp only [laws_eqWordS.l0]
      rw [if_neg (by omega)]
    · intro i hi ih
      refine Ev.step (f := fun k => laws_eqWordS.l0 k l l ((i+1 : Nat) : Int)) (fun k => ?_) ih
      simp only [laws_eqWordS.l0]
      rw [if_pos (by omega), if_pos (by omega), if_pos (by omega), laws_eqWord_refl, Option.bind_some, if_pos rfl, wrap_up i (by omega)]
  have := key 0 (Nat.zero_le _)
  unfold laws_eqWordS.f
  simp only [if_pos]
  exact this
theorem laws_szWordS_some (l : List S128) (hb : l.length ≤ maxLen) (left : Int) (h0 : 0 ≤ left) (h1 : left ≤ 1048576) : ∃ r, laws_szWordS.f l left = some r ∧ (0 ≤ r → r ≤ left ∧ l.length ≤ 1048576) := by
  have hm : maxLen = 9223372036854775807 := rfl
  have hw : wrap64 (left - (l.length : Int)) = left - (l.length : Int) := by unfold wrap64; omega
  unfold laws_szWordS.f
  rw [hw]
  by_cases c : left - (l.length : Int) < 0
  · exact ⟨-1, by rw [if_pos c], fun h => by omega⟩
  · exact ⟨_, by rw [if_neg c], fun _ => by omega⟩
def conv180 (x : S180) : S124 := ⟨x.f0, x.f1, x.f2⟩
theorem laws_toEntry_eq (a0 : Int) (a1 : Int) (a2 : Int) : laws_toEntry.f a0 a1 a2 = some (a0, a1, a2) := rfl
theorem laws_eqEntry_refl (a0 : Int) (a1 : Int) (a2 : Int) : laws_eqEntry.f a0 a1 a2 a0 a1 a2 = some true := by simp [laws_eqEntry.f]
theorem laws_toEntryS_ev (l : List S180) (h : (l.length ≤ 1048576)) : Ev (fun k => laws_toEntryS.f k l) (l.map conv180) := by
  have hl : l.length ≤ 1048576 := h
  have key : ∀ i, i ≤ l.length → Ev (fun k => laws_toEntryS.l0 k l ((l.take i).map conv180 ++ List.replicate (l.length - i) z124) (i : Int)) (l.map conv180) := by
    refine Ev_down (L := fun i k => laws_toEntryS.l0 k l ((l.take i).map conv180 ++ List.replicate (l.length - i) z124) (i : Int)) l.length ?_ ?_
    · refine Ev_at 1 (fun k => ?_)
      simp only [laws_toEntryS.l0]
      rw [if_neg (by omega)]
      simp
    · intro i hi ih
      refine Ev.step (f := fun k => laws_toEntryS.l0 k l ((l.take (i+1)).map conv180 ++ List.replicate (l.length - (i+1)) z124) ((i+1 : Nat) : Int)) (fun k => ?_) ?_
      · simp only [laws_toEntryS.l0]
        rw [if_pos (by omega), if_pos (by omega)]
        simp only [laws_toEntry_eq, Option.bind_some]
        rw [if_pos (by simp; omega), wrap_up i (by omega)]
        congr 1
        exact set_fill l i hi z124 conv180 _ (by simp [rd_T180, conv180, List.getD_eq_getElem?_getD, hi])
      · exact ih
  have := key 0 (Nat.zero_le _)
  have hc : ((l.length : Int) : Int).toNat ≤ 11728124029610 := by omega
  unfold laws_toEntryS.f
  simp only [if_pos (Int.natCast_nonneg l.length), if_pos hc]
  simpa using this
theorem laws_eqEntryS_refl (l : List S124) (h : (l.length ≤ 1048576)) : Ev (fun k => laws_eqEntryS.f k l l) true := by
  have hl : l.length ≤ 1048576 := h
  have key : ∀ i, i ≤ l.length → Ev (fun k => laws_eqEntryS.l0 k l l (i : Int)) true := by
    refine Ev_down (L := fun i k => laws_eqEntryS.l0 k l l (i : Int)) l.length ?_ ?_
    · refine Ev_at 1 (fun k => ?_)
      simp only [laws_eqEntryS.l0]
      rw [if_neg (by omega)]
    · intro i hi ih
      refine Ev.step (f := fun k => laws_eqEntryS.l0 k l l ((i+1 : Nat) : Int)) (fun k => ?_) ih
      simp only [laws_eqEntryS.l0]
      rw [if_pos (by omega), if_pos (by omega), if_pos (by omega), laws_eqEntry_refl, Option.bind_some, if_pos rfl, wrap_up i (by omega)]
  have := key 0 (Nat.zero_le _)
  unfold laws_eqEntryS.f
  simp only [if_pos]
  exact this
theorem laws_szEntryS_some (l : List S180) (hb : l.length ≤ maxLen) (left : Int) (h0 : 0 ≤ left) (h1 : left ≤ 1048576) : ∃ r, laws_szEntryS.f l left = some r ∧ (0 ≤ r → r ≤ left ∧ l.length ≤ 1048576) := by
  have hm : maxLen = 9223372036854775807 := rfl
  have hw : wrap64 (left - (l.length : Int)) = left - (l.length : Int) := by unfold wrap64; omega
  unfold laws_szEntryS.f
  rw [hw]
  by_cases c : left - (l.length : Int) < 0
  · exact ⟨-1, by rw [if_pos c], fun h => by omega⟩
  · exact ⟨_, by rw [if_neg c], fun _ => by omega⟩
theorem laws_toIntS_ev (l : List Int) (h : (l.length ≤ 1048576)) : Ev (fun k => laws_toIntS.f k l) (l) := by
  have hl : l.length ≤ 1048576 := h
  have key : ∀ i, i ≤ l.length → Ev (fun k => laws_toIntS.l0 k l ((l.take i) ++ List.replicate (l.length - i) 0) (i : Int)) (l) := by
    refine Ev_down (L := fun i k => laws_toIntS.l0 k l ((l.take i) ++ List.replicate (l.length - i) 0) (i : Int)) l.length ?_ ?_
    · refine Ev_at 1 (fun k => ?_)
      simp only [laws_toIntS.l0]
      rw [if_neg (by omega)]
      simp
    · intro i hi ih
      refine Ev.step (f := fun k => laws_toIntS.l0 k l ((l.take (i+1)) ++ List.replicate (l.length - (i+1)) 0) ((i+1 : Nat) : Int)) (fun k => ?_) ?_
      · simp only [laws_toIntS.l0]
        rw [if_pos (by omega), if_pos (by omega)]
        rw [if_pos (by simp; omega), wrap_up i (by omega)]
        congr 1
        exact set_fill_id l i hi 0 _ (by simp [rd, List.getD_eq_getElem?_getD, hi])
      · exact ih
  have := key 0 (Nat.zero_le _)
  have hc : ((l.length : Int) : Int).toNat ≤ 35184372088832 := by omega
  unfold laws_toIntS.f
  simp only [if_pos (Int.natCast_nonneg l.length), if_pos hc]
  simpa using this
theorem laws_eqIntS_refl (l : List Int) (h : (l.length ≤ 1048576)) : Ev (fun k => laws_eqIntS.f k l l) true := by
  have hl : l.length ≤ 1048576 := h
  have key : ∀ i, i ≤ l.length → Ev (fun k => laws_eqIntS.l0 k l l (i : Int)) true := by
    refine Ev_down (L := fun i k => laws_eqIntS.l0 k l l (i : Int)) l.length ?_ ?_
    · refine Ev_at 1 (fun k => ?_)
      simp only [laws_eqIntS.l0]
      rw [if_neg (by omega)]
    · intro i hi ih
      refine Ev.step (f := fun k => laws_eqIntS.l0 k l l ((i+1 : Nat) : Int)) (fun k => ?_) ih
      simp only [laws_eqIntS.l0]
      rw [if_pos (by omega), if_pos (by omega), if_pos (by omega), if_pos trivial, wrap_up i (by omega)]
  have := key 0 (Nat.zero_le _)
  unfold laws_eqIntS.f
  simp only [if_pos]
  exact this
theorem laws_szIntS_some (l : List Int) (hb : l.length ≤ maxLen) (left : Int) (h0 : 0 ≤ left) (h1 : left ≤ 1048576) : ∃ r, laws_szIntS.f l left = some r ∧ (0 ≤ r → r ≤ left ∧ l.length ≤ 1048576) := by
  have hm : maxLen = 9223372036854775807 := rfl
  have hw : wrap64 (left - (l.length : Int)) = left - (l.length : Int) := by unfold wrap64; omega
  unfold laws_szIntS.f
  rw [hw]
  by_cases c : left - (l.length : Int) < 0
  · exact ⟨-1, by rw [if_pos c], fun h => by omega⟩
  · exact ⟨_, by rw [if_neg c], fun _ => by omega⟩
def conv82 (x : S82) : S90 := ⟨x.f0, x.f1⟩
theorem laws_toRes_ev (a0 : Int) (l1 : List Int) (h1 : (l1.length ≤ 1048576)) : Ev (fun k => laws_toRes.f k a0 l1) (a0, l1) := by
  unfold laws_toRes.f
  try simp only [Option.bind_some]
  refine Ev.bind (laws_toIntS_ev l1 h1) ?_
  exact Ev.now _
theorem laws_eqRes_refl (a0 : Int) (l1 : List Int) (h1 : (l1.length ≤ 1048576)) : Ev (fun k => laws_eqRes.f k a0 l1 a0 l1) true := by
  unfold laws_eqRes.f
  try simp only [if_pos, Option.bind_some]
  refine Ev.bind (laws_eqIntS_refl l1 h1) ?_
  try simp only [if_true, if_pos, bne_self_eq_false, Bool.false_eq_true, if_false]
  exact Ev.now _
theorem laws_szRes_some (a0 : Int) (l1 : List Int) (b1 : l1.length ≤ maxLen) (left : Int) (h0 : 0 ≤ left) (h1 : left ≤ 1048576) : ∃ r, laws_szRes.f a0 l1 left = some r ∧ (0 ≤ r → r ≤ left ∧ (l1.length ≤ 1048576)) := by
  unfold laws_szRes.f
  obtain ⟨r0, e0, p0⟩ := laws_szIntS_some l1 b1 left (by omega) (by omega)
  simp only [e0, Option.bind_some]
  by_cases c0 : r0 < 0
  · exact ⟨-1, by simp [c0], fun h => by omega⟩
  simp only [if_neg c0]
  have q0 := p0 (by omega)
  refine ⟨_, rfl, fun _ => ⟨by omega, ?_⟩⟩
  simp_all
def conv116 (x : S116) : S122 := ⟨x.f0, x.f1, x.f2.map conv180, ⟨x.f3.f0, x.f3.f1⟩⟩
theorem laws_toDesc_ev (a0 : Int) (a1 : Int) (l2 : List S180) (a3 : Int) (l4 : List Int) (h2 : (l2.length ≤ 1048576)) (h4 : (l4.length ≤ 1048576)) : Ev (fun k => laws_toDesc.f k a0 a1 l2 a3 l4) (a0, a1, l2.map conv180, a3, l4) := by
  unfold laws_toDesc.f
  try simp only [Option.bind_some]
  refine Ev.bind (laws_toEntryS_ev l2 h2) ?_
  refine Ev.bind (laws_toRes_ev a3 l4 h4) ?_
  exact Ev.now _
theorem laws_eqDesc_refl (a0 : Int) (a1 : Int) (l2 : List S124) (a3 : Int) (l4 : List Int) (h2 : (l2.length ≤ 1048576)) (h4 : (l4.length ≤ 1048576)) : Ev (fun k => laws_eqDesc.f k a0 a1 l2 a3 l4 a0 a1 l2 a3 l4) true := by
  unfold laws_eqDesc.f
  try simp only [if_pos, Option.bind_some]
  refine Ev.bind (laws_eqEntryS_refl l2 h2) ?_
  try simp only [if_true, if_pos, bne_self_eq_false, Bool.false_eq_true, if_false]
  refine Ev.bind (laws_eqRes_refl a3 l4 h4) ?_
  try simp only [if_true, if_pos, bne_self_eq_false, Bool.false_eq_true, if_false]
  exact Ev.now _
theorem laws_szDesc_some (a0 : Int) (a1 : Int) (l2 : List S180) (a3 : Int) (l4 : List Int) (b2 : l2.length ≤ maxLen) (b4 : l4.length ≤ maxLen) (left : Int) (h0 : 0 ≤ left) (h1 : left ≤ 1048576) : ∃ r, laws_szDesc.f a0 a1 l2 a3 l4 left = some r ∧ (0 ≤ r → r ≤ left ∧ (l2.length ≤ 1048576) ∧ (l4.length ≤ 1048576)) := by
  unfold laws_szDesc.f
  obtain ⟨r0, e0, p0⟩ := laws_szEntryS_some l2 b2 left (by omega) (by omega)
  simp only [e0, Option.bind_some]
  by_cases c0 : r0 < 0
  · exact ⟨-1, by simp [c0], fun h => by omega⟩
  simp only [if_neg c0]
  have q0 := p0 (by omega)
  obtain ⟨r1, e1, p1⟩ := laws_szRes_some a3 l4 b4 r0 (by omega) (by omega)
  simp only [e1, Option.bind_some]
  by_cases c1 : r1 < 0
  · exact ⟨-1, by simp [c1], fun h => by omega⟩
  simp only [if_neg c1]
  have q1 := p1 (by omega)
  refine ⟨_, rfl, fun _ => ⟨by omega, ?_⟩⟩
  simp_all
theorem laws_toDescS_ev (l : List S116) (h : ((l.length ≤ 1048576) ∧ ∀ y ∈ l, (y.f2.length ≤ 1048576) ∧ (y.f3.f1.length ≤ 1048576))) : Ev (fun k => laws_toDescS.f k l) (l.map conv116) := by
  have hl : l.length ≤ 1048576 := h.1
  have key : ∀ i, i ≤ l.length → Ev (fun k => laws_toDescS.l0 k l ((l.take i).map conv116 ++ List.replicate (l.length - i) z122) (i : Int)) (l.map conv116) := by
    refine Ev_down (L := fun i k => laws_toDescS.l0 k l ((l.take i).map conv116 ++ List.replicate (l.length - i) z122) (i : Int)) l.length ?_ ?_
    · refine Ev_at 1 (fun k => ?_)
      simp only [laws_toDescS.l0]
      rw [if_neg (by omega)]
      simp
    · intro i hi ih
      have hlen : (i : Int) < (((l.take i).map conv116 ++ List.replicate (l.length - i) z122).length : Int) := by simp; omega
      have hrd : rd_T116 l (i : Int) = l[i] := by simp [rd_T116, List.getD_eq_getElem?_getD, hi]
      obtain ⟨q2, q4⟩ := h.2 l[i] (List.getElem_mem hi)
      refine Ev.step (f := fun k => (laws_toDesc.f k (l[i]).f0 (l[i]).f1 (l[i]).f2 (l[i]).f3.f0 (l[i]).f3.f1).bind fun t => laws_toDescS.l0 k l (((l.take i).map conv116 ++ List.replicate (l.length - i) z122).set (i : Int).toNat (⟨t.1, t.2.1, t.2.2.1, (⟨t.2.2.2.1, t.2.2.2.2⟩ : S90)⟩ : S122)) ((i+1 : Nat) : Int)) (fun k => ?_) ?_
      · simp only [laws_toDescS.l0]
        rw [if_pos (by omega), if_pos (by omega), hrd, wrap_up i (by omega)]
        simp only [if_pos hlen]
      · refine Ev.bind (laws_toDesc_ev (l[i]).f0 (l[i]).f1 (l[i]).f2 (l[i]).f3.f0 (l[i]).f3.f1 q2 q4) ?_
        rw [← set_fill l i hi z122 conv116 (conv116 l[i]) rfl] at ih
        exact ih
  have := key 0 (Nat.zero_le _)
  have hc : ((l.length : Int) : Int).toNat ≤ 3909374676536 := by omega
  unfold laws_toDescS.f
  simp only [if_pos (Int.natCast_nonneg l.length), if_pos hc]
  simpa using this
theorem small116_map (l : List S116) (h : ((l.length ≤ 1048576) ∧ ∀ y ∈ l, (y.f2.length ≤ 1048576) ∧ (y.f3.f1.length ≤ 1048576))) : (((l.map conv116).length ≤ 1048576) ∧ ∀ y ∈ (l.map conv116), (y.f2.length ≤ 1048576) ∧ (y.f3.f1.length ≤ 1048576)) := by
  refine ⟨by simpa using h.1, fun y hy => ?_⟩
  obtain ⟨x, hx, rfl⟩ := List.mem_map.1 hy
  have := h.2 x hx
  simpa [conv116] using this
theorem laws_eqDescS_refl (l : List S122) (h : ((l.length ≤ 1048576) ∧ ∀ y ∈ l, (y.f2.length ≤ 1048576) ∧ (y.f3.f1.length ≤ 1048576))) : Ev (fun k => laws_eqDescS.f k l l) true := by
  have hl : l.length ≤ 1048576 := h.1
  have key : ∀ i, i ≤ l.length → Ev (fun k => laws_eqDescS.l0 k l l (i : Int)) true := by
    refine Ev_down (L := fun i k => laws_eqDescS.l0 k l l (i : Int)) l.length ?_ ?_
    · refine Ev_at 1 (fun k => ?_)
      simp only [laws_eqDescS.l0]
      rw [if_neg (by omega)]
    · intro i hi ih
      have hrd : rd_T122 l (i : Int) = l[i] := by simp [rd_T122, List.getD_eq_getElem?_getD, hi]
      obtain ⟨q2, q4⟩ := h.2 l[i] (List.getElem_mem hi)
      refine Ev.step (f := fun k => (laws_eqDesc.f k (l[i]).f0 (l[i]).f1 (l[i]).f2 (l[i]).f3.f0 (l[i]).f3.f1 (l[i]).f0 (l[i]).f1 (l[i]).f2 (l[i]).f3.f0 (l[i]).f3.f1).bind fun t => if t = true then laws_eqDescS.l0 k l l ((i+1 : Nat) : Int) else none) (fun k => ?_) ?_
      · simp only [laws_eqDescS.l0]
        rw [if_pos (by omega), if_pos (by omega), if_pos (by omega), hrd, wrap_up i (by omega)]
      · refine Ev.bind (laws_eqDesc_refl (l[i]).f0 (l[i]).f1 (l[i]).f2 (l[i]).f3.f0 (l[i]).f3.f1 q2 q4) ?_
        simp only [if_true]
        exact ih
  have := key 0 (Nat.zero_le _)
  unfold laws_eqDescS.f
  simp only [if_pos]
  exact this
theorem laws_szDescS_ev (l : List S116) (hb : l.length ≤ maxLen) (hb2 : ∀ y ∈ l, y.f2.length ≤ maxLen ∧ y.f3.f1.length ≤ maxLen) (left : Int) (h0 : 0 ≤ left) (h1 : left ≤ 1048576) : ∃ r, Ev (fun k => laws_szDescS.f k l left) r ∧ (0 ≤ r → r ≤ left ∧ ((l.length ≤ 1048576) ∧ ∀ y ∈ l, (y.f2.length ≤ 1048576) ∧ (y.f3.f1.length ≤ 1048576))) := by
  have hm : maxLen = 9223372036854775807 := rfl
  have hw : wrap64 (left - (l.length : Int)) = left - (l.length : Int) := by unfold wrap64; omega
  have key : ∀ d i : Nat, i + d = l.length → l.length ≤ 1048576 → ∀ a : Int, 0 ≤ a → a ≤ 1048576 → ∃ r, Ev (fun k => laws_szDescS.l0 k l a (i : Int)) r ∧ (0 ≤ r → r ≤ a ∧ ∀ y ∈ l.drop i, (y.f2.length ≤ 1048576) ∧ (y.f3.f1.length ≤ 1048576)) := by
    intro d
    induction d with
    | zero =>
      intro i hi hl a ha0 ha1
      refine ⟨a, Ev_at 1 (fun k => ?_), fun _ => ⟨Int.le_refl _, ?_⟩⟩
      · simp only [laws_szDescS.l0]
        rw [if_neg (by omega)]
      · rw [List.drop_eq_nil_of_le (by omega)]; simp
    | succ d ih =>
      intro i hi hl a ha0 ha1
      have hil : i < l.length := by omega
      have hrd : rd_T116 l (i : Int) = l[i] := by simp [rd_T116, List.getD_eq_getElem?_getD, hil]
      obtain ⟨b2, b4⟩ := hb2 l[i] (List.getElem_mem hil)
      obtain ⟨r1, e1, p1⟩ := laws_szDesc_some (l[i]).f0 (l[i]).f1 (l[i]).f2 (l[i]).f3.f0 (l[i]).f3.f1 b2 b4 a ha0 ha1
      by_cases c : r1 < 0
      · refine ⟨-1, Ev_at 1 (fun k => ?_), fun h => by omega⟩
        simp only [laws_szDescS.l0]
        rw [if_pos (by omega), if_pos (by omega), hrd, e1]
        simp only [Option.bind_some, if_pos c]
      · obtain ⟨hr1, hr2⟩ := p1 (by omega)
        obtain ⟨r, hr, hp⟩ := ih (i + 1) (by omega) hl r1 (by omega) (by omega)
        refine ⟨r, Ev.step (f := fun k => laws_szDescS.l0 k l r1 ((i + 1 : Nat) : Int)) (fun k => ?_) hr, fun h => ?_⟩
        · simp only [laws_szDescS.l0]
          rw [if_pos (by omega), if_pos (by omega), hrd, e1, wrap_up i (by omega)]
          simp only [Option.bind_some, if_neg c]
        · obtain ⟨x1, x2⟩ := hp h
          refine ⟨by omega, ?_⟩
          rw [List.drop_eq_getElem_cons hil]
          intro y hy
          rcases List.mem_cons.1 hy with rfl | hy
          · exact hr2
          · exact x2 y hy
  unfold laws_szDescS.f
  simp only [hw]
  by_cases c : left - (l.length : Int) < 0
  · exact ⟨-1, by simp only [if_pos c]; exact Ev.now _, fun h => by omega⟩
  · obtain ⟨r, hr, hp⟩ := key l.length 0 (by omega) (by omega) (left - (l.length : Int)) (by omega) (by omega)
    refine ⟨r, by simp only [if_neg c]; exact hr, fun h => ?_⟩
    obtain ⟨x1, x2⟩ := hp h
    exact ⟨by omega, by omega, by simpa using x2⟩
theorem rdset119 (l : List S119) (i : Nat) (hi : i < l.length) (v : S119) : rd_T119 (l.set i v) (i : Int) = v := by simp [rd_T119, List.getD_eq_getElem?_getD, hi]
def mk119 (a : Int) (j : Nat) : S119 := ⟨a + 3 * (j : Int), a + 3 * (j : Int) + 1, a + 3 * (j : Int) + 2⟩
theorem laws_markWordS_ev (l : List S119) (h : l.length ≤ 1048576) (a : Int) (h0 : 0 ≤ a) (h1 : a ≤ 1000000000000000) : Ev (fun k => laws_markWordS.f k l a) (a + 3 * (l.length : Int), (List.range l.length).map (mk119 a)) := by
  have key : ∀ i, i ≤ l.length → Ev (fun k => laws_markWordS.l0 k ((List.range i).map (mk119 a) ++ l.drop i) (a + 3 * (i : Int)) (i : Int)) (a + 3 * (l.length : Int), (List.range l.length).map (mk119 a)) := by
    refine Ev_down (L := fun i k => laws_markWordS.l0 k ((List.range i).map (mk119 a) ++ l.drop i) (a + 3 * (i : Int)) (i : Int)) l.length ?_ ?_
    · refine Ev_at 1 (fun k => ?_)
      simp only [laws_markWordS.l0]
      rw [if_neg (by simp)]
      simp
    · intro i hi ih
      have hlen : ((List.range i).map (mk119 a) ++ l.drop i).length = l.length := by simp; omega
      have w0 : wrap64 (a + 3 * (i : Int) + 1) = a + 3 * (i : Int) + 1 := by unfold wrap64; omega
      have w1 : wrap64 (a + 3 * (i : Int) + 1 + 1) = a + 3 * (i : Int) + 2 := by unfold wrap64; omega
      have w2 : wrap64 (a + 3 * (i : Int) + 2 + 1) = a + 3 * (i : Int) + 3 := by unfold wrap64; omega
      have hfin : a + 3 * ((i + 1 : Nat) : Int) = a + 3 * (i : Int) + 3 := by omega
      refine Ev.step (f := fun k => laws_markWordS.l0 k ((List.range (i + 1)).map (mk119 a) ++ l.drop (i + 1)) (a + 3 * ((i + 1 : Nat) : Int)) ((i + 1 : Nat) : Int)) (fun k => ?_) ih
      rw [← mark_fill (mk119 a) l i hi, hfin]
      simp only [laws_markWordS.l0, Option.bind_some, hlen]
      rw [if_pos (by omega), if_pos (by omega), wrap_up i (by omega)]
      simp only [Int.toNat_natCast, rdset119 _ i (by rw [hlen]; exact hi), w0, w1, w2, List.set_set]
      rfl
  have := key 0 (Nat.zero_le _)
  unfold laws_markWordS.f
  simpa using this
theorem rdset124 (l : List S124) (i : Nat) (hi : i < l.length) (v : S124) : rd_T124 (l.set i v) (i : Int) = v := by simp [rd_T124, List.getD_eq_getElem?_getD, hi]
def mk124 (a : Int) (j : Nat) : S124 := ⟨a + 3 * (j : Int), a + 3 * (j : Int) + 1, a + 3 * (j : Int) + 2⟩
theorem laws_markEntryS_ev (l : List S124) (h : l.length ≤ 1048576) (a : Int) (h0 : 0 ≤ a) (h1 : a ≤ 1000000000000000) : Ev (fun k => laws_markEntryS.f k l a) (a + 3 * (l.length : Int), (List.range l.length).map (mk124 a)) := by
  have key : ∀ i, i ≤ l.length → Ev (fun k => laws_markEntryS.l0 k ((List.range i).map (mk124 a) ++ l.drop i) (a + 3 * (i : Int)) (i : Int)) (a + 3 * (l.length : Int), (List.range l.length).map (mk124 a)) := by
    refine Ev_down (L := fun i k => laws_markEntryS.l0 k ((List.range i).map (mk124 a) ++ l.drop i) (a + 3 * (i : Int)) (i : Int)) l.length ?_ ?_
    · refine Ev_at 1 (fun k => ?_)
      simp only [laws_markEntryS.l0]
      rw [if_neg (by simp)]
      simp
    · intro i hi ih
      have hlen : ((List.range i).map (mk124 a) ++ l.drop i).length = l.length := by simp; omega
      have w0 : wrap64 (a + 3 * (i : Int) + 1) = a + 3 * (i : Int) + 1 := by unfold wrap64; omega
      have w1 : wrap64 (a + 3 * (i : Int) + 1 + 1) = a + 3 * (i : Int) + 2 := by unfold wrap64; omega
      have w2 : wrap64 (a + 3 * (i : Int) + 2 + 1) = a + 3 * (i : Int) + 3 := by unfold wrap64; omega
      have hfin : a + 3 * ((i + 1 : Nat) : Int) = a + 3 * (i : Int) + 3 := by omega
      refine Ev.step (f := fun k => laws_markEntryS.l0 k ((List.range (i + 1)).map (mk124 a) ++ l.drop (i + 1)) (a + 3 * ((i + 1 : Nat) : Int)) ((i + 1 : Nat) : Int)) (fun k => ?_) ih
      rw [← mark_fill (mk124 a) l i hi, hfin]
      simp only [laws_markEntryS.l0, Option.bind_some, hlen]
      rw [if_pos (by omega), if_pos (by omega), wrap_up i (by omega)]
      simp only [Int.toNat_natCast, rdset124 _ i (by rw [hlen]; exact hi), w0, w1, w2, List.set_set]
      rfl
  have := key 0 (Nat.zero_le _)
  unfold laws_markEntryS.f
  simpa using this
def mkI (a : Int) (j : Nat) : Int := a + (j : Int)
theorem laws_markIntS_ev (l : List Int) (h : l.length ≤ 1048576) (a : Int) (h0 : 0 ≤ a) (h1 : a ≤ 1000000000000000) : Ev (fun k => laws_markIntS.f k l a) (a + (l.length : Int), (List.range l.length).map (mkI a)) := by
  have key : ∀ i, i ≤ l.length → Ev (fun k => laws_markIntS.l0 k ((List.range i).map (mkI a) ++ l.drop i) (a + (i : Int)) (i : Int)) (a + (l.length : Int), (List.range l.length).map (mkI a)) := by
    refine Ev_down (L := fun i k => laws_markIntS.l0 k ((List.range i).map (mkI a) ++ l.drop i) (a + (i : Int)) (i : Int)) l.length ?_ ?_
    · refine Ev_at 1 (fun k => ?_)
      simp only [laws_markIntS.l0]
      rw [if_neg (by simp)]
      simp
    · intro i hi ih
      have hlen : ((List.range i).map (mkI a) ++ l.drop i).length = l.length := by simp; omega
      have w0 : wrap64 (a + (i : Int) + 1) = a + (i : Int) + 1 := by unfold wrap64; omega
      have hfin : a + ((i + 1 : Nat) : Int) = a + (i : Int) + 1 := by omega
      refine Ev.step (f := fun k => laws_markIntS.l0 k ((List.range (i + 1)).map (mkI a) ++ l.drop (i + 1)) (a + ((i + 1 : Nat) : Int)) ((i + 1 : Nat) : Int)) (fun k => ?_) ih
      rw [← mark_fill (mkI a) l i hi, hfin]
      simp only [laws_markIntS.l0, Option.bind_some, hlen]
      rw [if_pos (by omega), if_pos (by omega), wrap_up i (by omega)]
      simp only [Int.toNat_natCast, w0, List.set_set]
      rfl
  have := key 0 (Nat.zero_le _)
  unfold laws_markIntS.f
  simpa using this
theorem laws_heldIntS_ev (n : Nat) (h : n ≤ 1048576) (a : Int) (h0 : 0 ≤ a) (h1 : a ≤ 1000000000000000) : Ev (fun k => laws_heldIntS.f k ((List.range n).map (mkI a)) a) (a + (n : Int)) := by
  have key : ∀ i, i ≤ n → Ev (fun k => laws_heldIntS.l0 k ((List.range n).map (mkI a)) (a + (i : Int)) (i : Int)) (a + (n : Int)) := by
    refine Ev_down (L := fun i k => laws_heldIntS.l0 k ((List.range n).map (mkI a)) (a + (i : Int)) (i : Int)) n ?_ ?_
    · refine Ev_at 1 (fun k => ?_)
      simp only [laws_heldIntS.l0]
      rw [if_neg (by simp)]
    · intro i hi ih
      have hr : rd ((List.range n).map (mkI a)) (i : Int) = mkI a i := by simp [rd, List.getD_eq_getElem?_getD, hi]
      have w0 : wrap64 (a + (i : Int) + 1) = a + (i : Int) + 1 := by unfold wrap64; omega
      have hfin : a + ((i + 1 : Nat) : Int) = a + (i : Int) + 1 := by omega
      refine Ev.step (f := fun k => laws_heldIntS.l0 k ((List.range n).map (mkI a)) (a + ((i + 1 : Nat) : Int)) ((i + 1 : Nat) : Int)) (fun k => ?_) ih
      rw [hfin]
      simp only [laws_heldIntS.l0, hr, mkI, w0]
      rw [if_pos (by simp; omega), if_pos (by omega), wrap_up i (by omega)]
      simp only [if_true]
  have := key 0 (Nat.zero_le _)
  unfold laws_heldIntS.f
  simpa using this
theorem rdT_Entry (l : List S124) (i : Nat) (hi : i < l.length) : rd_T124 l (i : Int) = l[i] := by simp [rd_T124, List.getD_eq_getElem?_getD, hi]
def entF (v : Int) : List S124 → Int × Int × Int × Bool
  | [] => (0, 0, 0, false)
  | e :: es => if e.f0 = v then (e.f0, e.f1, e.f2, true) else entF v es
theorem spec_Entries_ev (sq st : Int) (l : List S124) (c : Int) (rl : List Int) (v : Int) (hl : l.length ≤ 1048576) : Ev (fun k => spec_Entries.f k sq st l c rl v) (entF v l) := by
  have key : ∀ i, i ≤ l.length → Ev (fun k => spec_Entries.l0 k v (i : Int) sq st l c rl) (entF v (l.drop i)) := by
    refine Ev_downR (L := fun i k => spec_Entries.l0 k v (i : Int) sq st l c rl) (R := fun i => entF v (l.drop i)) l.length ?_ ?_
    · refine Ev_at 1 (fun k => ?_)
      simp only [spec_Entries.l0]
      rw [if_neg (by omega), List.drop_length]
      rfl
    · intro i hi ih
      refine Ev.step (f := fun k => if (l[i]).f0 = v then some ((l[i]).f0, (l[i]).f1, (l[i]).f2, true) else spec_Entries.l0 k v ((i + 1 : Nat) : Int) sq st l c rl) (fun k => ?_) ?_
      · simp only [spec_Entries.l0]
        rw [if_pos (by omega), if_pos (by omega), rdT_Entry l i hi, wrap_up i (by omega)]
      · rw [List.drop_eq_getElem_cons hi]
        by_cases h : (l[i]).f0 = v
        · simp only [if_pos h, entF]; exact Ev.now _
        · simp only [if_neg h, entF]; exact ih
  exact key 0 (Nat.zero_le _)
theorem impl_Entries_ev (sq st : Int) (l : List S124) (c : Int) (rl : List Int) (v : Int) (hl : l.length ≤ 1048576) : Ev (fun k => impl_Entries.f k sq st l c rl v) (entF v l) := by
  have key : ∀ i, i ≤ l.length → Ev (fun k => impl_Entries.l0 k v l (l.length : Int) (i : Int)) (entF v (l.drop i)) := by
    refine Ev_downR (L := fun i k => impl_Entries.l0 k v l (l.length : Int) (i : Int)) (R := fun i => entF v (l.drop i)) l.length ?_ ?_
    · refine Ev_at 1 (fun k => ?_)
      simp only [impl_Entries.l0]
      rw [if_neg (by omega), List.drop_length]
      rfl
    · intro i hi ih
      refine Ev.step (f := fun k => if (l[i]).f0 = v then some ((l[i]).f0, (l[i]).f1, (l[i]).f2, true) else impl_Entries.l0 k v l (l.length : Int) ((i + 1 : Nat) : Int)) (fun k => ?_) ?_
      · simp only [impl_Entries.l0]
        rw [if_pos (by omega), if_pos (by omega), if_pos (by omega), rdT_Entry l i hi, wrap_up i (by omega)]
      · rw [List.drop_eq_getElem_cons hi]
        by_cases h : (l[i]).f0 = v
        · simp only [if_pos h, entF]; exact Ev.now _
        · simp only [if_neg h, entF]; exact ih
  exact key 0 (Nat.zero_le _)
theorem rdT_Word (l : List S119) (i : Nat) (hi : i < l.length) : rd_T119 l (i : Int) = l[i] := by simp [rd_T119, List.getD_eq_getElem?_getD, hi]
theorem rdT_Desc (l : List S122) (i : Nat) (hi : i < l.length) : rd_T122 l (i : Int) = l[i] := by simp [rd_T122, List.getD_eq_getElem?_getD, hi]
def smallD (l : List S122) : Prop := l.length ≤ 1048576 ∧ ∀ y ∈ l, (y.f2.length ≤ 1048576) ∧ (y.f3.f1.length ≤ 1048576)
theorem inR_iff (x lo hi : Int) : inR x lo hi = true ↔ lo ≤ x ∧ x ≤ hi := by simp [inR]
def valueAt (ws : List S119) (ds : List S122) (i : Int) : Int :=
  if inR i 0 ((ws.length : Int) - 1) then
    (if (rd_T119 ws i).f1 = 0 then (rd_T119 ws i).f0
    else if inR (rd_T119 ws i).f1 1 (ds.length : Int) then
      (if (rd_T122 ds ((rd_T119 ws i).f1 - 1)).f0 = (rd_T119 ws i).f2 then
        (if (rd_T122 ds ((rd_T119 ws i).f1 - 1)).f1 = 2 then (entF i (rd_T122 ds ((rd_T119 ws i).f1 - 1)).f2).2.2.1 else (entF i (rd_T122 ds ((rd_T119 ws i).f1 - 1)).f2).2.1)
      else (entF i (rd_T122 ds ((rd_T119 ws i).f1 - 1)).f2).2.1)
    else 0)
  else 0
theorem spec_ValueAt_ev (ws : List S119) (ds : List S122) (i : Int) (hw : ws.length ≤ 1048576) (hd : smallD ds) : Ev (fun k => spec_ValueAt.f k ws ds i) (valueAt ws ds i) := by
  unfold spec_ValueAt.f valueAt
  have e : wrap64 ((ws.length : Int) - 1) = (ws.length : Int) - 1 := by unfold wrap64; omega
  simp only [spec_l1In_eq, Option.bind_some, e]
  by_cases h : inR i 0 ((ws.length : Int) - 1) = true
  · have h' := (inR_iff _ _ _).1 h
    have p1 : 0 ≤ i := h'.1
    have p2 : i < (ws.length : Int) := by omega
    simp only [if_pos h, if_pos p1, if_pos p2]
    generalize hx : rd_T119 ws i = x
    by_cases h0 : x.f1 = 0
    · simp only [if_pos h0]; exact Ev.now _
    · simp only [if_neg h0]
      by_cases h1 : inR x.f1 1 (ds.length : Int) = true
      · have h1' := (inR_iff _ _ _).1 h1
        have hdl := hd.1
        have e2 : wrap64 (x.f1 - 1) = x.f1 - 1 := by unfold wrap64; omega
        have p3 : 0 ≤ x.f1 - 1 := by omega
        have p4 : x.f1 - 1 < (ds.length : Int) := by omega
        simp only [if_pos h1, e2, if_pos p3, if_pos p4]
        obtain ⟨j, hj⟩ : ∃ j : Nat, x.f1 - 1 = (j : Int) := ⟨(x.f1 - 1).toNat, by omega⟩
        have hjl : j < ds.length := by omega
        rw [hj, rdT_Desc ds j hjl]
        have hm := hd.2 ds[j] (List.getElem_mem hjl)
        refine Ev.bind (spec_Entries_ev _ _ _ _ _ i hm.1) ?_
        by_cases c1 : (ds[j]).f0 = x.f2
        · simp only [if_pos c1]
          by_cases c2 : (ds[j]).f1 = 2
          · simp only [if_pos c2]; exact Ev.now _
          · simp only [if_neg c2]; exact Ev.now _
        · simp only [if_neg c1]; exact Ev.now _
      · simp only [if_neg h1]; exact Ev.now _
  · simp only [if_neg h]; exact Ev.now _
theorem impl_ValueAt_ev (ws : List S119) (ds : List S122) (i : Int) (hw : ws.length ≤ 1048576) (hd : smallD ds) : Ev (fun k => impl_ValueAt.f k ws ds i) (valueAt ws ds i) := by
  unfold impl_ValueAt.f valueAt
  have e : wrap64 ((ws.length : Int) - 1) = (ws.length : Int) - 1 := by unfold wrap64; omega
  simp only [impl_from_eq, Option.bind_some, e]
  by_cases h : inR i 0 ((ws.length : Int) - 1) = true
  · have h' := (inR_iff _ _ _).1 h
    have p1 : 0 ≤ i := h'.1
    have p2 : i < (ws.length : Int) := by omega
    simp only [if_pos h, if_pos p1, if_pos p2]
    generalize hx : rd_T119 ws i = x
    by_cases h0 : x.f1 = 0
    · simp only [if_pos h0]; exact Ev.now _
    · simp only [if_neg h0]
      by_cases h1 : inR x.f1 1 (ds.length : Int) = true
      · have h1' := (inR_iff _ _ _).1 h1
        have hdl := hd.1
        have e2 : wrap64 (x.f1 - 1) = x.f1 - 1 := by unfold wrap64; omega
        have p3 : 0 ≤ x.f1 - 1 := by omega
        have p4 : x.f1 - 1 < (ds.length : Int) := by omega
        simp only [if_pos h1, e2, if_pos p3, if_pos p4]
        obtain ⟨j, hj⟩ : ∃ j : Nat, x.f1 - 1 = (j : Int) := ⟨(x.f1 - 1).toNat, by omega⟩
        have hjl : j < ds.length := by omega
        rw [hj, rdT_Desc ds j hjl]
        have hm := hd.2 ds[j] (List.getElem_mem hjl)
        refine Ev.bind (impl_Entries_ev _ _ _ _ _ i hm.1) ?_
        by_cases c1 : (ds[j]).f0 = x.f2
        · simp only [if_pos c1]
          by_cases c2 : (ds[j]).f1 = 2
          · simp only [if_pos c2]; exact Ev.now _
          · simp only [if_neg c2]; exact Ev.now _
        · simp only [if_neg c1]; exact Ev.now _
      · simp only [if_neg h1]; exact Ev.now _
  · simp only [if_neg h]; exact Ev.now _
def meanF (ws : List S119) (ds : List S122) : List Int := (List.range ws.length).map fun (i : Nat) => valueAt ws ds (i : Int)
theorem spec_Meaning_ev (ws : List S119) (ds : List S122) (hw : ws.length ≤ 1048576) (hd : smallD ds) : Ev (fun k => spec_Meaning.f k ws ds) (meanF ws ds) := by
  have key : ∀ i, i ≤ ws.length → Ev (fun k => spec_Meaning.l0 k ws ds ((List.range i).map fun (i : Nat) => valueAt ws ds (i : Int)) (i : Int)) (meanF ws ds) := by
    refine Ev_down (L := fun i k => spec_Meaning.l0 k ws ds ((List.range i).map fun (i : Nat) => valueAt ws ds (i : Int)) (i : Int)) ws.length ?_ ?_
    · refine Ev_at 1 (fun k => ?_)
      simp only [spec_Meaning.l0]
      rw [if_neg (by omega)]
      rfl
    · intro i hi ih
      rw [List.range_succ, List.map_append, List.map_cons, List.map_nil] at ih
      refine Ev.step (f := fun k => (spec_ValueAt.f k ws ds (i : Int)).bind fun t => if ((List.range i).map fun (i : Nat) => valueAt ws ds (i : Int)).length < 17592186044416 then spec_Meaning.l0 k ws ds (((List.range i).map fun (i : Nat) => valueAt ws ds (i : Int)) ++ [t]) ((i + 1 : Nat) : Int) else none) (fun k => ?_) ?_
      · simp only [spec_Meaning.l0]
        rw [if_pos (by omega), wrap_up i (by omega)]
      · refine Ev.bind (spec_ValueAt_ev ws ds i hw hd) ?_
        have : ((List.range i).map fun (i : Nat) => valueAt ws ds (i : Int)).length < 17592186044416 := by simp; omega
        simp only [if_pos this]
        exact ih
  exact key 0 (Nat.zero_le _)
theorem impl_Meaning_ev (ws : List S119) (ds : List S122) (hw : ws.length ≤ 1048576) (hd : smallD ds) : Ev (fun k => impl_Meaning.f k ws ds) (meanF ws ds) := by
  have key : ∀ i, i ≤ ws.length → Ev (fun k => impl_Meaning.l0 k ws ds ((List.range i).map fun (i : Nat) => valueAt ws ds (i : Int)) (ws.length : Int) (i : Int)) (meanF ws ds) := by
    refine Ev_down (L := fun i k => impl_Meaning.l0 k ws ds ((List.range i).map fun (i : Nat) => valueAt ws ds (i : Int)) (ws.length : Int) (i : Int)) ws.length ?_ ?_
    · refine Ev_at 1 (fun k => ?_)
      simp only [impl_Meaning.l0]
      rw [if_neg (by omega)]
      rfl
    · intro i hi ih
      rw [List.range_succ, List.map_append, List.map_cons, List.map_nil] at ih
      refine Ev.step (f := fun k => (impl_ValueAt.f k ws ds (i : Int)).bind fun t => if ((List.range i).map fun (i : Nat) => valueAt ws ds (i : Int)).length < 17592186044416 then impl_Meaning.l0 k ws ds (((List.range i).map fun (i : Nat) => valueAt ws ds (i : Int)) ++ [t]) (ws.length : Int) ((i + 1 : Nat) : Int) else none) (fun k => ?_) ?_
      · simp only [impl_Meaning.l0]
        rw [if_pos (by omega), wrap_up i (by omega)]
      · refine Ev.bind (impl_ValueAt_ev ws ds i hw hd) ?_
        have : ((List.range i).map fun (i : Nat) => valueAt ws ds (i : Int)).length < 17592186044416 := by simp; omega
        simp only [if_pos this]
        exact ih
  exact key 0 (Nat.zero_le _)
theorem markD_ex (n : Nat) (hn : n ≤ 1048576) : ∀ (d i : Nat) (xs : List S122) (a : Int), i + d = n → xs.length = n → (∀ j : Nat, i ≤ j → j < n → (rd_T122 xs (j : Int)).f2.length ≤ 1048576 ∧ (rd_T122 xs (j : Int)).f3.f1.length ≤ 1048576) → 0 ≤ a → a + 8388608 * (d : Int) ≤ 100000000000000 →
    ∃ r l, Ev (fun k => laws_markDescS.l0 k xs a (i : Int)) (r, l) ∧ a ≤ r := by
  intro d
  induction d with
  | zero =>
    intro i xs a hi hl hs h0 h1
    refine ⟨a, xs, Ev_at 1 (fun k => ?_), by omega⟩
    simp only [laws_markDescS.l0]
    rw [if_neg (by omega)]
  | succ d ih =>
    intro i xs a hi hl hs h0 h1
    obtain ⟨s2, s4⟩ := hs i (Nat.le_refl _) (by omega)
    have w1 : wrap64 (a + 1) = a + 1 := by unfold wrap64; omega
    have w2 : wrap64 (a + 1 + 1) = a + 2 := by unfold wrap64; omega
    generalize he : rd_T122 xs (i : Int) = e at s2 s4
    have w3 : wrap64 (a + 2 + 3 * (e.f2.length : Int) + 1) = a + 2 + 3 * (e.f2.length : Int) + 1 := by unfold wrap64; omega
    have hE := laws_markEntryS_ev e.f2 s2 (a + 2) (by omega) (by omega)
    have hI := laws_markIntS_ev e.f3.f1 s4 (a + 2 + 3 * (e.f2.length : Int) + 1) (by omega) (by omega)
    obtain ⟨r, l, hr, hr0⟩ := ih (i + 1) (xs.set (i : Int).toNat ⟨a, a + 1, (List.range e.f2.length).map (mk124 (a + 2)), ⟨a + 2 + 3 * (e.f2.length : Int), (List.range e.f3.f1.length).map (mkI (a + 2 + 3 * (e.f2.length : Int) + 1))⟩⟩) (a + 2 + 3 * (e.f2.length : Int) + 1 + (e.f3.f1.length : Int)) (by omega) (by rw [List.length_set]; exact hl) (fun j h2 h3 => by
      have : rd_T122 (xs.set (i : Int).toNat ⟨a, a + 1, (List.range e.f2.length).map (mk124 (a + 2)), ⟨a + 2 + 3 * (e.f2.length : Int), (List.range e.f3.f1.length).map (mkI (a + 2 + 3 * (e.f2.length : Int) + 1))⟩⟩) (j : Int) = rd_T122 xs (j : Int) := by
        simp only [rd_T122, List.getD_eq_getElem?_getD, Int.toNat_natCast]
        rw [List.getElem?_set_ne (by omega)]
      rw [this]
      exact hs j (by omega) h3) (by omega) (by omega)
    refine ⟨r, l, Ev.step (f := fun k => (laws_markEntryS.f k e.f2 (a + 2)).bind fun p => (laws_markIntS.f k e.f3.f1 (wrap64 (p.1 + 1))).bind fun q => laws_markDescS.l0 k (xs.set (i : Int).toNat ⟨a, a + 1, p.2, ⟨p.1, q.2⟩⟩) q.1 ((i + 1 : Nat) : Int)) (fun k => ?_) ?_, by omega⟩
    · simp only [laws_markDescS.l0, he, w1, w2]
      rw [if_pos (by omega), if_pos (by omega), wrap_up i (by omega)]
    · refine Ev.bind hE ?_
      simp only [w3]
      refine Ev.bind hI ?_
      exact hr
theorem markDescS_ev (ds : List S122) (hd : smallD ds) (a : Int) (h0 : 0 ≤ a) (h1 : a ≤ 1000000000) : ∃ r, Ev (fun k => laws_markDescS.f k ds a) r ∧ 0 ≤ r := by
  obtain ⟨hl, hs⟩ := hd
  obtain ⟨r, l, ⟨N, hN⟩, hr⟩ := markD_ex ds.length hl ds.length 0 ds a (by omega) rfl (fun j _ h3 => by rw [rdT_Desc ds j h3]; exact hs _ (List.getElem_mem h3)) h0 (by omega)
  refine ⟨r, ⟨N, fun k hk => ?_⟩, by omega⟩
  have h := hN k hk
  show ((laws_markDescS.l0 k ds a 0).map (·.1)) = some r
  rw [show laws_markDescS.l0 k ds a 0 = some (r, l) from h]
  rfl

theorem FnExactMeaning (l0 : List S128) (l1 : List S116) (gl0 : (fun l : List S128 => l.length ≤ maxLen ∧ ∀ x ∈ l, good128 x) l0) (gl1 : (fun l : List S116 => l.length ≤ maxLen ∧ ∀ x ∈ l, good116 x) l1) : ∃ k, laws_FnExactMeaning.f k l0 l1 = some true := by
  refine Ev.rounds (r := true) ?_
  unfold laws_FnExactMeaning.f
  obtain ⟨r, er, pr⟩ := laws_szWordS_some l0 gl0.1 1048576 (by omega) (by omega)
  simp only [er, Option.bind_some]
  by_cases c : r < 0
  · simp only [if_pos c]; exact Ev.now _
  simp only [if_neg c]
  obtain ⟨hr, hl0⟩ := pr (by omega)
  have hg : ∀ y ∈ l1, y.f2.length ≤ maxLen ∧ y.f3.f1.length ≤ maxLen := fun y hy => by
    have := gl1.2 y hy
    exact ⟨this.2.2.1.1, this.2.2.2.2.1⟩
  obtain ⟨r2, er2, pr2⟩ := laws_szDescS_ev l1 gl1.1 hg r (by omega) (by omega)
  refine Ev.bind er2 ?_
  by_cases c2 : r2 < 0
  · simp only [if_pos c2]; exact Ev.now _
  simp only [if_neg c2]
  obtain ⟨hr2, hl1⟩ := pr2 (by omega)
  have hw : (l0.map conv128).length ≤ 1048576 := by simpa using hl0
  have hd := small116_map l1 hl1
  have hm : (meanF (l0.map conv128) (l1.map conv116)).length ≤ 1048576 := by simpa [meanF] using hl0
  refine Ev.bind (laws_toWordS_ev l0 hl0) ?_
  refine Ev.bind (laws_toDescS_ev l1 hl1) ?_
  refine Ev.bind (spec_Meaning_ev _ _ hw hd) ?_
  refine Ev.bind (laws_toWordS_ev l0 hl0) ?_
  refine Ev.bind (laws_toDescS_ev l1 hl1) ?_
  refine Ev.bind (impl_Meaning_ev _ _ hw hd) ?_
  refine Ev.bind (laws_eqIntS_refl _ hm) ?_
  simp only [if_true]
  refine Ev.bind (laws_toWordS_ev l0 hl0) ?_
  refine Ev.bind (laws_eqWordS_refl _ hw) ?_
  simp only [if_true]
  refine Ev.bind (laws_toDescS_ev l1 hl1) ?_
  refine Ev.bind (laws_eqDescS_refl _ hd) ?_
  simp only [if_true]
  refine Ev.bind (laws_markWordS_ev _ hw 1 (by omega) (by omega)) ?_
  obtain ⟨q, hq, q0⟩ := markDescS_ev _ hd (1 + 3 * ((l0.map conv128).length : Int)) (by omega) (by omega)
  refine Ev.bind hq ?_
  simp only [if_neg (show ¬ q < 0 by omega)]
  refine Ev.bind (laws_eqIntS_refl _ hm) ?_
  refine Ev.step (f := fun k => (laws_markIntS.f k (meanF (l0.map conv128) (l1.map conv116)) 1).bind fun bt272 => ((laws_heldIntS.f k bt272.2 1).bind fun t274 => (if t274 < 0 then (none) else (if t274 = bt272.1 then ((laws_toWordS.f k l0).bind fun t275 => ((laws_toDescS.f k l1).bind fun t278 => ((impl_Meaning.f k t275 t278).bind fun t281 => ((laws_eqIntS.f k t281 (meanF (l0.map conv128) (l1.map conv116))).bind fun t284 => (if t284 = true then ((laws_heldIntS.f k bt272.2 1).bind fun t285 => (if t285 < 0 then (none) else (if t285 = bt272.1 then (some true) else (none)))) else (none)))))) else (none))))) (fun k => ?_) ?_
  · simp only [laws_FnExactMeaning.j0, Bool.not_true, Bool.false_eq_true, if_false]
  have hM : ¬ (1 + ((meanF (l0.map conv128) (l1.map conv116)).length : Int)) < 0 := by omega
  refine Ev.bind (laws_markIntS_ev _ hm 1 (by omega) (by omega)) ?_
  refine Ev.bind (laws_heldIntS_ev _ hm 1 (by omega) (by omega)) ?_
  simp only [if_neg hM, if_true]
  refine Ev.bind (laws_toWordS_ev l0 hl0) ?_
  refine Ev.bind (laws_toDescS_ev l1 hl1) ?_
  refine Ev.bind (impl_Meaning_ev _ _ hw hd) ?_
  refine Ev.bind (laws_eqIntS_refl _ hm) ?_
  simp only [if_true]
  refine Ev.bind (laws_heldIntS_ev _ hm 1 (by omega) (by omega)) ?_
  simp only [if_neg hM, if_true]
  exact Ev.now _

end Go.Proofs.Ytblpbhhomocfbaa.Pure
