/- The pure statement behind the law FnExactValueAt: over plain values. No condition beyond that numbers are of their kind and lengths below 2^63. -/
import Derived.Test.YtblpbhhomocfbaaOpnFnExactValueAt
namespace Go.Proofs.Ytblpbhhomocfbaa.Pure
open Go.RowKit Go.Proofs.Ytblpbhhomocfbaa.Op Go.Proofs.YtblpbhhomocfbaaW.PrintWords Go.Proofs.YtblpbhhomocfbaaW.PrintLast Go.Proofs.Ytblpbhhomocfbaa.PFnExactValueAt Go.Proofs.Ytblpbhhomocfbaa.fnExactValueAt

-- PACKS
set_option linter.unusedVariables false
set_option linter.unusedSimpArgs false
theorem Ev_at {α : Type} {g : Nat → Option α} {r : α} (n : Nat) (h : ∀ k, g (k + n) = some r) : Ev g r := ⟨n, fun k hk => by
  obtain ⟨m, rfl⟩ : ∃ m, k = m + n := ⟨k - n, by omega⟩
  exact h m⟩
theorem Ev_down {α : Type} {L : Nat → Nat → Option α} {r : α} (n : Nat) (hn : Ev (L n) r) (hs : ∀ i, i < n → Ev (L (i + 1)) r → Ev (L i) r) : ∀ i, i ≤ n → Ev (L i) r := by
  have key : ∀ d i, i + d = n → Ev (L i) r := by
    intro d
    induction d with
    | zero => intro i h; obtain rfl : i = n := by omega
              exact hn
    | succ d ih => intro i h; exact hs i (by omega) (ih (i + 1) (by omega))
  exact fun i h => key (n - i) i (by omega)
theorem wrap_up (i : Nat) (h : i < 9223372036854775807) : wrap64 ((i : Int) + 1) = ((i + 1 : Nat) : Int) := by unfold wrap64; omega
theorem set_fill {α β : Type} (l : List α) (i : Nat) (hi : i < l.length) (z : β) (f : α → β) (v : β) (hv : v = f (l[i]'hi)) :
    ((l.take i).map f ++ List.replicate (l.length - i) z).set (i : Int).toNat v = (l.take (i + 1)).map f ++ List.replicate (l.length - (i + 1)) z := by
  subst hv
  have h1 : ((l.take i).map f).length = i := by simp; omega
  rw [Int.toNat_natCast, List.set_append, if_neg (by omega), h1, Nat.sub_self]
  obtain ⟨m, hm⟩ : ∃ m, l.length - i = m + 1 := ⟨l.length - i - 1, by omega⟩
  rw [hm, List.replicate_succ, List.set_cons_zero, show l.length - (i + 1) = m by omega, List.take_succ_eq_append_getElem hi, List.map_append, List.append_assoc]
  rfl
theorem set_fill_id {α : Type} (l : List α) (i : Nat) (hi : i < l.length) (z : α) (v : α) (hv : v = l[i]'hi) :
    (l.take i ++ List.replicate (l.length - i) z).set (i : Int).toNat v = l.take (i + 1) ++ List.replicate (l.length - (i + 1)) z := by
  have := set_fill l i hi z id v hv
  simpa using this
theorem Ev_downR {α : Type} {L : Nat → Nat → Option α} {R : Nat → α} (n : Nat) (hn : Ev (L n) (R n)) (hs : ∀ i, i < n → Ev (L (i + 1)) (R (i + 1)) → Ev (L i) (R i)) : ∀ i, i ≤ n → Ev (L i) (R i) := by
  have key : ∀ d i, i + d = n → Ev (L i) (R i) := by
    intro d
    induction d with
    | zero => intro i h; obtain rfl : i = n := by omega
              exact hn
    | succ d ih => intro i h; exact hs i (by omega) (ih (i + 1) (by omega))
  exact fun i h => key (n - i) i (by omega)
theorem rd_at (l : List Int) (i : Nat) (hi : i < l.length) : rd l (i : Int) = l[i] := by simp [rd, List.getD_eq_getElem?_getD, hi]
theorem mark_fill {α : Type} (g : Nat → α) (l : List α) (i : Nat) (hi : i < l.length) : ((List.range i).map g ++ l.drop i).set i (g i) = (List.range (i + 1)).map g ++ l.drop (i + 1) := by
  rw [List.set_append, if_neg (by simp), List.length_map, List.length_range, Nat.sub_self, List.drop_eq_getElem_cons hi, List.set_cons_zero, List.range_succ, List.map_append, List.append_assoc]
  rfl
theorem Ev_pos {α : Type} {x : Int} {g : Nat → Option α} {r : α} (h : 0 ≤ x) : Ev (fun k => if x < 0 then none else g k) r = Ev g r := by
  have h' : ¬ x < 0 := by omega
  simp only [if_neg h']
def inR (x lo hi : Int) : Bool := decide (lo ≤ x) && decide (x ≤ hi)
def keyOk (k : Int) : Bool := inR k 0 3
def valOk (v : Int) : Bool := inR v 1 6
def isClass (c : Int) : Bool := inR c 0 2
def classOf (v : Int) : Int := if valOk v then Int.tmod v 3 else -1
theorem spec_l1In_eq (x lo hi : Int) : spec_l1In.f x lo hi = some (inR x lo hi) := by
  unfold spec_l1In.f inR
  by_cases h : lo ≤ x <;> simp [h]
theorem impl_from_eq (x lo hi : Int) : impl_from.f x lo hi = some (inR x lo hi) := by
  unfold impl_from.f inR
  by_cases h : lo ≤ x <;> simp [h]
def conv180 (x : S180) : S124 := ⟨x.f0, x.f1, x.f2⟩
theorem laws_toEntry_eq (a0 : Int) (a1 : Int) (a2 : Int) : laws_toEntry.f a0 a1 a2 = some (a0, a1, a2) := rfl
theorem laws_eqEntry_refl (a0 : Int) (a1 : Int) (a2 : Int) : laws_eqEntry.f a0 a1 a2 a0 a1 a2 = some true := by simp [laws_eqEntry.f]
theorem laws_toEntryS_ev (l : List S180) (h : (l.length ≤ 1048576)) : Ev (fun k => laws_toEntryS.f k l) (l.map conv180) := by
  have hl : l.length ≤ 1048576 := h
  have key : ∀ i, i ≤ l.length → Ev (fun k => laws_toEntryS.l0 k l ((l.take i).map conv180 ++ List.replicate (l.length - i) z124) (i : Int)) (l.map conv180) := by
    refine Ev_down (L := fun i k => laws_toEntryS.l0 k l ((l.take i).map conv180 ++ List.replicate (l.length - i) z124) (i : Int)) l.length ?_ ?_
    · refine Ev_at 1 (fun k => ?_)
      simp only [laws_toEntryS.l0]
      rw [if_neg (by omega)]
      simp
    · intro i hi ih
      refine Ev.step (f := fun k => laws_toEntryS.l0 k l ((l.take (i+1)).map conv180 ++ List.replicate (l.length - (i+1)) z124) ((i+1 : Nat) : Int)) (fun k => ?_) ?_
      · simp only [laws_toEntryS.l0]
        rw [if_pos (by omega), if_pos (by omega)]
        simp only [laws_toEntry_eq, Option.bind_some]
        rw [if_pos (by simp; omega), wrap_up i (by omega)]
        congr 1
        exact set_fill l i hi z124 conv180 _ (by simp [rd_T180, conv180, List.getD_eq_getElem?_getD, hi])
      · exact ih
  have := key 0 (Nat.zero_le _)
  have hc : ((l.length : Int) : Int).toNat ≤ 11728124029610 := by omega
  unfold laws_toEntryS.f
  simp only [if_pos (Int.natCast_nonneg l.length), if_pos hc]
  simpa using this
theorem laws_eqEntryS_refl (l : List S124) (h : (l.length ≤ 1048576)) : Ev (fun k => laws_eqEntryS.f k l l) true := by
  have hl : l.length ≤ 1048576 := h
  have key : ∀ i, i ≤ l.length → Ev (fun k => laws_eqEntryS.l0 k l l (i : Int)) true := by
    refine Ev_down (L := fun i k => laws_eqEntryS.l0 k l l (i : Int)) l.length ?_ ?_
    · refine Ev_at 1 (fun k => ?_)
      simp only [laws_eqEntryS.l0]
      rw [if_neg (by omega)]
    · intro i hi ih
      refine Ev.step (f := fun k => laws_eqEntryS.l0 k l l ((i+1 : Nat) : Int)) (fun k => ?_) ih
      simp only [laws_eqEntryS.l0]
      rw [if_pos (by omega), if_pos (by omega), if_pos (by omega), laws_eqEntry_refl, Option.bind_some, if_pos rfl, wrap_up i (by omega)]
  have := key 0 (Nat.zero_le _)
  unfold laws_eqEntryS.f
  simp only [if_pos]
  exact this
theorem laws_szEntryS_some (l : List S180) (hb : l.length ≤ maxLen) (left : Int) (h0 : 0 ≤ left) (h1 : left ≤ 1048576) : ∃ r, laws_szEntryS.f l left = some r ∧ (0 ≤ r → r ≤ left ∧ l.length ≤ 1048576) := by
  have hm : maxLen = 9223372036854775807 := rfl
  have hw : wrap64 (left - (l.length : Int)) = left - (l.length : Int) := by unfold wrap64; omega
  unfold laws_szEntryS.f
  rw [hw]
  by_cases c : left - (l.length : Int) < 0
  · exact ⟨-1, by rw [if_pos c], fun h => by omega⟩
  · exact ⟨_, by rw [if_neg c], fun _ => by omega⟩
theorem laws_toIntS_ev (l : List Int) (h : (l.length ≤ 1048576)) : Ev (fun k => laws_toIntS.f k l) (l) := by
  have hl : l.length ≤ 1048576 := h
  have key : ∀ i, i ≤ l.length → Ev (fun k => laws_toIntS.l0 k l ((l.take i) ++ List.replicate (l.length - i) 0) (i : Int)) (l) := by
    refine Ev_down (L := fun i k => laws_toIntS.l0 k l ((l.take i) ++ List.replicate (l.length - i) 0) (i : Int)) l.length ?_ ?_
    · refine Ev_at 1 (fun k => ?_)
      simp only [laws_toIntS.l0]
      rw [if_neg (by omega)]
      simp
    · intro i hi ih
      refine Ev.step (f := fun k => laws_toIntS.l0 k l ((l.take (i+1)) ++ List.replicate (l.length - (i+1)) 0) ((i+1 : Nat) : Int)) (fun k => ?_) ?_
      · simp only [laws_toIntS.l0]
        rw [if_pos (by omega), if_pos (by omega)]
        rw [if_pos (by simp; omega), wrap_up i (by omega)]
        congr 1
        exact set_fill_id l i hi 0 _ (by simp [rd, List.getD_eq_getElem?_getD, hi])
      · exact ih
  have := key 0 (Nat.zero_le _)
  have hc : ((l.length : Int) : Int).toNat ≤ 35184372088832 := by omega
  unfold laws_toIntS.f
  simp only [if_pos (Int.natCast_nonneg l.length), if_pos hc]
  simpa using this
theorem laws_eqIntS_refl (l : List Int) (h : (l.length ≤ 1048576)) : Ev (fun k => laws_eqIntS.f k l l) true := by
  have hl : l.length ≤ 1048576 := h
  have key : ∀ i, i ≤ l.length → Ev (fun k => laws_eqIntS.l0 k l l (i : Int)) true := by
    refine Ev_down (L := fun i k => laws_eqIntS.l0 k l l (i : Int)) l.length ?_ ?_
    · refine Ev_at 1 (fun k => ?_)
      simp only [laws_eqIntS.l0]
      rw [if_neg (by omega)]
    · intro i hi ih
      refine Ev.step (f := fun k => laws_eqIntS.l0 k l l ((i+1 : Nat) : Int)) (fun k => ?_) ih
      simp only [laws_eqIntS.l0]
      rw [if_pos (by omega), if_pos (by omega), if_pos (by omega), if_pos trivial, wrap_up i (by omega)]
  have := key 0 (Nat.zero_le _)
  unfold laws_eqIntS.f
  simp only [if_pos]
  exact this
theorem laws_szIntS_some (l : List Int) (hb : l.length ≤ maxLen) (left : Int) (h0 : 0 ≤ left) (h1 : left ≤ 1048576) : ∃ r, laws_szIntS.f l left = some r ∧ (0 ≤ r → r ≤ left ∧ l.length ≤ 1048576) := by
  have hm : maxLen = 9223372036854775807 := rfl
  have hw : wrap64 (left - (l.length : Int)) = left - (l.length : Int) := by unfold wrap64; omega
  unfold laws_szIntS.f
  rw [hw]
  by_cases c : left - (l.length : Int) < 0
  · exact ⟨-1, by rw [if_pos c], fun h => by omega⟩
  · exact ⟨_, by rw [if_neg c], fun _ => by omega⟩
def conv82 (x : S82) : S90 := ⟨x.f0, x.f1⟩
theorem laws_toRes_ev (a0 : Int) (l1 : List Int) (h1 : (l1.length ≤ 1048576)) : Ev (fun k => laws_toRes.f k a0 l1) (a0, l1) := by
  unfold laws_toRes.f
  try simp only [Option.bind_some]
  refine Ev.bind (laws_toIntS_ev l1 h1) ?_
  exact Ev.now _
theorem laws_eqRes_refl (a0 : Int) (l1 : List Int) (h1 : (l1.length ≤ 1048576)) : Ev (fun k => laws_eqRes.f k a0 l1 a0 l1) true := by
  unfold laws_eqRes.f
  try simp only [if_pos, Option.bind_some]
  refine Ev.bind (laws_eqIntS_refl l1 h1) ?_
  try simp only [if_true, if_pos, bne_self_eq_false, Bool.false_eq_true, if_false]
  exact Ev.now _
theorem laws_szRes_some (a0 : Int) (l1 : List Int) (b1 : l1.length ≤ maxLen) (left : Int) (h0 : 0 ≤ left) (h1 : left ≤ 1048576) : ∃ r, laws_szRes.f a0 l1 left = some r ∧ (0 ≤ r → r ≤ left ∧ (l1.length ≤ 1048576)) := by
  unfold laws_szRes.f
  obtain ⟨r0, e0, p0⟩ := laws_szIntS_some l1 b1 left (by omega) (by omega)
  simp only [e0, Option.bind_some]
  by_cases c0 : r0 < 0
  · exact ⟨-1, by simp [c0], fun h => by omega⟩
  simp only [if_neg c0]
  have q0 := p0 (by omega)
  refine ⟨_, rfl, fun _ => ⟨by omega, ?_⟩⟩
  simp_all
def conv116 (x : S116) : S122 := ⟨x.f0, x.f1, x.f2.map conv180, ⟨x.f3.f0, x.f3.f1⟩⟩
theorem laws_toDesc_ev (a0 : Int) (a1 : Int) (l2 : List S180) (a3 : Int) (l4 : List Int) (h2 : (l2.length ≤ 1048576)) (h4 : (l4.length ≤ 1048576)) : Ev (fun k => laws_toDesc.f k a0 a1 l2 a3 l4) (a0, a1, l2.map conv180, a3, l4) := by
  unfold laws_toDesc.f
  try simp only [Option.bind_some]
  refine Ev.bind (laws_toEntryS_ev l2 h2) ?_
  refine Ev.bind (laws_toRes_ev a3 l4 h4) ?_
  exact Ev.now _
theorem laws_eqDesc_refl (a0 : Int) (a1 : Int) (l2 : List S124) (a3 : Int) (l4 : List Int) (h2 : (l2.length ≤ 1048576)) (h4 : (l4.length ≤ 1048576)) : Ev (fun k => laws_eqDesc.f k a0 a1 l2 a3 l4 a0 a1 l2 a3 l4) true := by
  unfold laws_eqDesc.f
  try simp only [if_pos, Option.bind_some]
  refine Ev.bind (laws_eqEntryS_refl l2 h2) ?_
  try simp only [if_true, if_pos, bne_self_eq_false, Bool.false_eq_true, if_false]
  refine Ev.bind (laws_eqRes_refl a3 l4 h4) ?_
  try simp only [if_true, if_pos, bne_self_eq_false, Bool.false_eq_true, if_false]
  exact Ev.now _
theorem laws_szDesc_some (a0 : Int) (a1 : Int) (l2 : List S180) (a3 : Int) (l4 : List Int) (b2 : l2.length ≤ maxLen) (b4 : l4.length ≤ maxLen) (left : Int) (h0 : 0 ≤ left) (h1 : left ≤ 1048576) : ∃ r, laws_szDesc.f a0 a1 l2 a3 l4 left = some r ∧ (0 ≤ r → r ≤ left ∧ (l2.length ≤ 1048576) ∧ (l4.length ≤ 1048576)) := by
  unfold laws_szDesc.f
  obtain ⟨r0, e0, p0⟩ := laws_szEntryS_some l2 b2 left (by omega) (by omega)
  simp only [e0, Option.bind_some]
  by_cases c0 : r0 < 0
  · exact ⟨-1, by simp [c0], fun h => by omega⟩
  simp only [if_neg c0]
  have q0 := p0 (by omega)
  obtain ⟨r1, e1, p1⟩ := laws_szRes_some a3 l4 b4 r0 (by omega) (by omega)
  simp only [e1, Option.bind_some]
  by_cases c1 : r1 < 0
  · exact ⟨-1, by simp [c1], fun h => by omega⟩
  simp only [if_neg c1]
  have q1 := p1 (by omega)
  refine ⟨_, rfl, fun _ => ⟨by omega, ?_⟩⟩
  simp_all
theorem laws_toDescS_ev (l : List S116) (h : ((l.length ≤ 1048576) ∧ ∀ y ∈ l, (y.f2.length ≤ 1048576) ∧ (y.f3.f1.length ≤ 1048576))) : Ev (fun k => laws_toDescS.f k l) (l.map conv116) := by
  have hl : l.length ≤ 1048576 := h.1
  have key : ∀ i, i ≤ l.length → Ev (fun k => laws_toDescS.l0 k l ((l.take i).map conv116 ++ List.replicate (l.length - i) z122) (i : Int)) (l.map conv116) := by
    refine Ev_down (L := fun i k => laws_toDescS.l0 k l ((l.take i).map conv116 ++ List.replicate (l.length - i) z122) (i : Int)) l.length ?_ ?_
    · refine Ev_at 1 (fun k => ?_)
      simp only [laws_toDescS.l0]
      rw [if_neg (by omega)]
      simp
    · intro i hi ih
      have hlen : (i : Int) < (((l.take i).map conv116 ++ List.replicate (l.length - i) z122).length : Int) := by simp; omega
      have hrd : rd_T116 l (i : Int) = l[i] := by simp [rd_T116, List.getD_eq_getElem?_getD, hi]
      obtain ⟨q2, q4⟩ := h.2 l[i] (List.getElem_mem hi)
      refine Ev.step (f := fun k => (laws_toDesc.f k (l[i]).f0 (l[i]).f1 (l[i]).f2 (l[i]).f3.f0 (l[i]).f3.f1).bind fun t => laws_toDescS.l0 k l (((l.take i).map conv116 ++ List.replicate (l.length - i) z122).set (i : Int).toNat (⟨t.1, t.2.1, t.2.2.1, (⟨t.2.2.2.1, t.2.2.2.2⟩ : S90)⟩ : S122)) ((i+1 : Nat) : Int)) (fun k => ?_) ?_
      · simp only [laws_toDescS.l0]
        rw [if_pos (by omega), if_pos (by omega), hrd, wrap_up i (by omega)]
        simp only [if_pos hlen]
      · refine Ev.bind (laws_toDesc_ev (l[i]).f0 (l[i]).f1 (l[i]).f2 (l[i]).f3.f0 (l[i]).f3.f1 q2 q4) ?_
        rw [← set_fill l i hi z122 conv116 (conv116 l[i]) rfl] at ih
        exact ih
  have := key 0 (Nat.zero_le _)
  have hc : ((l.length : Int) : Int).toNat ≤ 3909374676536 := by omega
  unfold laws_toDescS.f
  simp only [if_pos (Int.natCast_nonneg l.length), if_pos hc]
  simpa using this
theorem small116_map (l : List S116) (h : ((l.length ≤ 1048576) ∧ ∀ y ∈ l, (y.f2.length ≤ 1048576) ∧ (y.f3.f1.length ≤ 1048576))) : (((l.map conv116).length ≤ 1048576) ∧ ∀ y ∈ (l.map conv116), (y.f2.length ≤ 1048576) ∧ (y.f3.f1.length ≤ 1048576)) := by
  refine ⟨by simpa using h.1, fun y hy => ?_⟩
  obtain ⟨x, hx, rfl⟩ := List.mem_map.1 hy
  have := h.2 x hx
  simpa [conv116] using this
theorem laws_eqDescS_refl (l : List S122) (h : ((l.length ≤ 1048576) ∧ ∀ y ∈ l, (y.f2.length ≤ 1048576) ∧ (y.f3.f1.length ≤ 1048576))) : Ev (fun k => laws_eqDescS.f k l l) true := by
  have hl : l.length ≤ 1048576 := h.1
  have key : ∀ i, i ≤ l.length → Ev (fun k => laws_eqDescS.l0 k l l (i : Int)) true := by
    refine Ev_down (L := fun i k => laws_eqDescS.l0 k l l (i : Int)) l.length ?_ ?_
    · refine Ev_at 1 (fun k => ?_)
      simp only [laws_eqDescS.l0]
      rw [if_neg (by omega)]
    · intro i hi ih
      have hrd : rd_T122 l (i : Int) = l[i] := by simp [rd_T122, List.getD_eq_getElem?_getD, hi]
      obtain ⟨q2, q4⟩ := h.2 l[i] (List.getElem_mem hi)
      refine Ev.step (f := fun k => (laws_eqDesc.f k (l[i]).f0 (l[i]).f1 (l[i]).f2 (l[i]).f3.f0 (l[i]).f3.f1 (l[i]).f0 (l[i]).f1 (l[i]).f2 (l[i]).f3.f0 (l[i]).f3.f1).bind fun t => if t = true then laws_eqDescS.l0 k l l ((i+1 : Nat) : Int) else none) (fun k => ?_) ?_
      · simp only [laws_eqDescS.l0]
        rw [if_pos (by omega), if_pos (by omega), if_pos (by omega), hrd, wrap_up i (by omega)]
      · refine Ev.bind (laws_eqDesc_refl (l[i]).f0 (l[i]).f1 (l[i]).f2 (l[i]).f3.f0 (l[i]).f3.f1 q2 q4) ?_
        simp only [if_true]
        exact ih
  have := key 0 (Nat.zero_le _)
  unfold laws_eqDescS.f
  simp only [if_pos]
  exact this
theorem laws_szDescS_ev (l : List S116) (hb : l.length ≤ maxLen) (hb2 : ∀ y ∈ l, y.f2.length ≤ maxLen ∧ y.f3.f1.length ≤ maxLen) (left : Int) (h0 : 0 ≤ left) (h1 : left ≤ 1048576) : ∃ r, Ev (fun k => laws_szDescS.f k l left) r ∧ (0 ≤ r → r ≤ left ∧ ((l.length ≤ 1048576) ∧ ∀ y ∈ l, (y.f2.length ≤ 1048576) ∧ (y.f3.f1.length ≤ 1048576))) := by
  have hm : maxLen = 9223372036854775807 := rfl
  have hw : wrap64 (left - (l.length : Int)) = left - (l.length : Int) := by unfold wrap64; omega
  have key : ∀ d i : Nat, i + d = l.length → l.length ≤ 1048576 → ∀ a : Int, 0 ≤ a → a ≤ 1048576 → ∃ r, Ev (fun k => laws_szDescS.l0 k l a (i : Int)) r ∧ (0 ≤ r → r ≤ a ∧ ∀ y ∈ l.drop i, (y.f2.length ≤ 1048576) ∧ (y.f3.f1.length ≤ 1048576)) := by
    intro d
    induction d with
    | zero =>
      intro i hi hl a ha0 ha1
      refine ⟨a, Ev_at 1 (fun k => ?_), fun _ => ⟨Int.le_refl _, ?_⟩⟩
      · simp only [laws_szDescS.l0]
        rw [if_neg (by omega)]
      · rw [List.drop_eq_nil_of_le (by omega)]; simp
    | succ d ih =>
      intro i hi hl a ha0 ha1
      have hil : i < l.length := by omega
      have hrd : rd_T116 l (i : Int) = l[i] := by simp [rd_T116, List.getD_eq_getElem?_getD, hil]
      obtain ⟨b2, b4⟩ := hb2 l[i] (List.getElem_mem hil)
      obtain ⟨r1, e1, p1⟩ := laws_szDesc_some (l[i]).f0 (l[i]).f1 (l[i]).f2 (l[i]).f3.f0 (l[i]).f3.f1 b2 b4 a ha0 ha1
      by_cases c : r1 < 0
      · refine ⟨-1, Ev_at 1 (fun k => ?_), fun h => by omega⟩
        simp only [laws_szDescS.l0]
        rw [if_pos (by omega), if_pos (by omega), hrd, e1]
        simp only [Option.bind_some, if_pos c]
      · obtain ⟨hr1, hr2⟩ := p1 (by omega)
        obtain ⟨r, hr, hp⟩ := ih (i + 1) (by omega) hl r1 (by omega) (by omega)
        refine ⟨r, Ev.step (f := fun k => laws_szDescS.l0 k l r1 ((i + 1 : Nat) : Int)) (fun k => ?_) hr, fun h => ?_⟩
        · simp only [laws_szDescS.l0]
          rw [if_pos (by omega), if_pos (by omega), hrd, e1, wrap_up i (by omega)]
          simp only [Option.bind_some, if_neg c]
        · obtain ⟨x1, x2⟩ := hp h
          refine ⟨by omega, ?_⟩
          rw [List.drop_eq_getElem_cons hil]
          intro y hy
          rcases List.mem_cons.1 hy with rfl | hy
          · exact hr2
          · exact x2 y hy
  unfold laws_szDescS.f
  simp only [hw]
  by_cases c : left - (l.length : Int) < 0
  · exact ⟨-1, by simp only [if_pos c]; exact Ev.now _, fun h => by omega⟩
  · obtain ⟨r, hr, hp⟩ := key l.length 0 (by omega) (by omega) (left - (l.length : Int)) (by omega) (by omega)
    refine ⟨r, by simp only [if_neg c]; exact hr, fun h => ?_⟩
    obtain ⟨x1, x2⟩ := hp h
    exact ⟨by omega, by omega, by simpa using x2⟩
def conv128 (x : S128) : S119 := ⟨x.f0, x.f1, x.f2⟩
theorem laws_toWord_eq (a0 : Int) (a1 : Int) (a2 : Int) : laws_toWord.f a0 a1 a2 = some (a0, a1, a2) := rfl
theorem laws_eqWord_refl (a0 : Int) (a1 : Int) (a2 : Int) : laws_eqWord.f a0 a1 a2 a0 a1 a2 = some true := by simp [laws_eqWord.f]
theorem laws_toWordS_ev (l : List S128) (h : (l.length ≤ 1048576)) : Ev (fun k => laws_toWordS.f k l) (l.map conv128) := by
  have hl : l.length ≤ 1048576 := h
  have key : ∀ i, i ≤ l.length → Ev (fun k => laws_toWordS.l0 k l ((l.take i).map conv128 ++ List.replicate (l.length - i) z119) (i : Int)) (l.map conv128) := by
    refine Ev_down (L := fun i k => laws_toWordS.l0 k l ((l.take i).map conv128 ++ List.replicate (l.length - i) z119) (i : Int)) l.length ?_ ?_
    · refine Ev_at 1 (fun k => ?_)
      simp only [laws_toWordS.l0]
      rw [if_neg (by omega)]
      simp
    · intro i hi ih
      refine Ev.step (f := fun k => laws_toWordS.l0 k l ((l.take (i+1)).map conv128 ++ List.replicate (l.length - (i+1)) z119) ((i+1 : Nat) : Int)) (fun k => ?_) ?_
      · simp only [laws_toWordS.l0]
        rw [if_pos (by omega), if_pos (by omega)]
        simp only [laws_toWord_eq, Option.bind_some]
        rw [if_pos (by simp; omega), wrap_up i (by omega)]
        congr 1
        exact set_fill l i hi z119 conv128 _ (by simp [rd_T128, conv128, List.getD_eq_getElem?_getD, hi])
      · exact ih
  have := key 0 (Nat.zero_le _)
  have hc : ((l.length : Int) : Int).toNat ≤ 11728124029610 := by omega
  unfold laws_toWordS.f
  simp only [if_pos (Int.natCast_nonneg l.length), if_pos hc]
  simpa using this
theorem laws_eqWordS_refl (l : List S119) (h : (l.length ≤ 1048576)) : Ev (fun k => laws_eqWordS.f k l l) true := by
  have hl : l.length ≤ 1048576 := h
  have key : ∀ i, i ≤ l.length → Ev (fun k => laws_eqWordS.l0 k l l (i : Int)) true := by
    refine Ev_down (L := fun i k => laws_eqWordS.l0 k l l (i : Int)) l.length ?_ ?_
    · refine Ev_at 1 (fun k => ?_)
      simp only [laws_eqWordS.l0]
      rw [if_neg (by omega)]
    · intro i hi ih
      refine Ev.step (f := fun k => laws_eqWordS.l0 k l l ((i+1 : Nat) : Int)) (fun k => ?_) ih
      simp only [laws_eqWordS.l0]
      rw [if_pos (by omega), if_pos (by omega), if_pos (by omega), laws_eqWord_refl, Option.bind_some, if_pos rfl, wrap_up i (by omega)]
  have := key 0 (Nat.zero_le _)
  unfold laws_eqWordS.f
  simp only [if_pos]
  exact this
theorem laws_szWordS_some (l : List S128) (hb : l.length ≤ maxLen) (left : Int) (h0 : 0 ≤ left) (h1 : left ≤ 1048576) : ∃ r, laws_szWordS.f l left = some r ∧ (0 ≤ r → r ≤ left ∧ l.length ≤ 1048576) := by
  have hm : maxLen = 9223372036854775807 := rfl
  have hw : wrap64 (left - (l.length : Int)) = left - (l.length : Int) := by unfold wrap64; omega
  unfold laws_szWordS.f
  rw [hw]
  by_cases c : left - (l.length : Int) < 0
  · exact ⟨-1, by rw [if_pos c], fun h => by omega⟩
  · exact ⟨_, by rw [if_neg c], fun _ => by omega⟩
theorem rdT_Entry (l : List S124) (i : Nat) (hi : i < l.length) : rd_T124 l (i : Int) = l[i] := by simp [rd_T124, List.getD_eq_getElem?_getD, hi]
def entF (v : Int) : List S124 → Int × Int × Int × Bool
  | [] => (0, 0, 0, false)
  | e :: es => if e.f0 = v then (e.f0, e.f1, e.f2, true) else entF v es
theorem spec_Entries_ev (sq st : Int) (l : List S124) (c : Int) (rl : List Int) (v : Int) (hl : l.length ≤ 1048576) : Ev (fun k => spec_Entries.f k sq st l c rl v) (entF v l) := by
  have key : ∀ i, i ≤ l.length → Ev (fun k => spec_Entries.l0 k v (i : Int) sq st l c rl) (entF v (l.drop i)) := by
    refine Ev_downR (L := fun i k => spec_Entries.l0 k v (i : Int) sq st l c rl) (R := fun i => entF v (l.drop i)) l.length ?_ ?_
    · refine Ev_at 1 (fun k => ?_)
      simp only [spec_Entries.l0]
      rw [if_neg (by omega), List.drop_length]
      rfl
    · intro i hi ih
      refine Ev.step (f := fun k => if (l[i]).f0 = v then some ((l[i]).f0, (l[i]).f1, (l[i]).f2, true) else spec_Entries.l0 k v ((i + 1 : Nat) : Int) sq st l c rl) (fun k => ?_) ?_
      · simp only [spec_Entries.l0]
        rw [if_pos (by omega), if_pos (by omega), rdT_Entry l i hi, wrap_up i (by omega)]
      · rw [List.drop_eq_getElem_cons hi]
        by_cases h : (l[i]).f0 = v
        · simp only [if_pos h, entF]; exact Ev.now _
        · simp only [if_neg h, entF]; exact ih
  exact key 0 (Nat.zero_le _)
theorem impl_Entries_ev (sq st : Int) (l : List S124) (c : Int) (rl : List Int) (v : Int) (hl : l.length ≤ 1048576) : Ev (fun k => impl_Entries.f k sq st l c rl v) (entF v l) := by
  have key : ∀ i, i ≤ l.length → Ev (fun k => impl_Entries.l0 k v l (l.length : Int) (i : Int)) (entF v (l.drop i)) := by
    refine Ev_downR (L := fun i k => impl_Entries.l0 k v l (l.length : Int) (i : Int)) (R := fun i => entF v (l.drop i)) l.length ?_ ?_
    · refine Ev_at 1 (fun k => ?_)
      simp only [impl_Entries.l0]
      rw [if_neg (by omega), List.drop_length]
      rfl
    · intro i hi ih
      refine Ev.step (f := fun k => if (l[i]).f0 = v then some ((l[i]).f0, (l[i]).f1, (l[i]).f2, true) else impl_Entries.l0 k v l (l.length : Int) ((i + 1 : Nat) : Int)) (fun k => ?_) ?_
      · simp only [impl_Entries.l0]
        rw [if_pos (by omega), if_pos (by omega), if_pos (by omega), rdT_Entry l i hi, wrap_up i (by omega)]
      · rw [List.drop_eq_getElem_cons hi]
        by_cases h : (l[i]).f0 = v
        · simp only [if_pos h, entF]; exact Ev.now _
        · simp only [if_neg h, entF]; exact ih
  exact key 0 (Nat.zero_le _)
theorem rdT_Word (l : List S119) (i : Nat) (hi : i < l.length) : rd_T119 l (i : Int) = l[i] := by simp [rd_T119, List.getD_eq_getElem?_getD, hi]
theorem rdT_Desc (l : List S122) (i : Nat) (hi : i < l.length) : rd_T122 l (i : Int) = l[i] := by simp [rd_T122, List.getD_eq_getElem?_getD, hi]
def smallD (l : List S122) : Prop := l.length ≤ 1048576 ∧ ∀ y ∈ l, (y.f2.length ≤ 1048576) ∧ (y.f3.f1.length ≤ 1048576)
def valueAt (ws : List S119) (ds : List S122) (i : Int) : Int :=
  if inR i 0 ((ws.length : Int) - 1) then
    (if (rd_T119 ws i).f1 = 0 then (rd_T119 ws i).f0
    else if inR (rd_T119 ws i).f1 1 (ds.length : Int) then
      (if (rd_T122 ds ((rd_T119 ws i).f1 - 1)).f0 = (rd_T119 ws i).f2 then
        (if (rd_T122 ds ((rd_T119 ws i).f1 - 1)).f1 = 2 then (entF i (rd_T122 ds ((rd_T119 ws i).f1 - 1)).f2).2.2.1 else (entF i (rd_T122 ds ((rd_T119 ws i).f1 - 1)).f2).2.1)
      else (entF i (rd_T122 ds ((rd_T119 ws i).f1 - 1)).f2).2.1)
    else 0)
  else 0
theorem inR_iff (x lo hi : Int) : inR x lo hi = true ↔ lo ≤ x ∧ x ≤ hi := by simp [inR]
theorem spec_ValueAt_ev (ws : List S119) (ds : List S122) (i : Int) (hw : ws.length ≤ 1048576) (hd : smallD ds) : Ev (fun k => spec_ValueAt.f k ws ds i) (valueAt ws ds i) := by
  unfold spec_ValueAt.f valueAt
  have e : wrap64 ((ws.length : Int) - 1) = (ws.length : Int) - 1 := by unfold wrap64; omega
  simp only [spec_l1In_eq, Option.bind_some, e]
  by_cases h : inR i 0 ((ws.length : Int) - 1) = true
  · have h' := (inR_iff _ _ _).1 h
    have p1 : 0 ≤ i := h'.1
    have p2 : i < (ws.length : Int) := by omega
    simp only [if_pos h, if_pos p1, if_pos p2]
    generalize hx : rd_T119 ws i = x
    by_cases h0 : x.f1 = 0
    · simp only [if_pos h0]; exact Ev.now _
    · simp only [if_neg h0]
      by_cases h1 : inR x.f1 1 (ds.length : Int) = true
      · have h1' := (inR_iff _ _ _).1 h1
        have hdl := hd.1
        have e2 : wrap64 (x.f1 - 1) = x.f1 - 1 := by unfold wrap64; omega
        have p3 : 0 ≤ x.f1 - 1 := by omega
        have p4 : x.f1 - 1 < (ds.length : Int) := by omega
        simp only [if_pos h1, e2, if_pos p3, if_pos p4]
        obtain ⟨j, hj⟩ : ∃ j : Nat, x.f1 - 1 = (j : Int) := ⟨(x.f1 - 1).toNat, by omega⟩
        have hjl : j < ds.length := by omega
        rw [hj, rdT_Desc ds j hjl]
        have hm := hd.2 ds[j] (List.getElem_mem hjl)
        refine Ev.bind (spec_Entries_ev _ _ _ _ _ i hm.1) ?_
        by_cases c1 : (ds[j]).f0 = x.f2
        · simp only [if_pos c1]
          by_cases c2 : (ds[j]).f1 = 2
          · simp only [if_pos c2]; exact Ev.now _
          · simp only [if_neg c2]; exact Ev.now _
        · simp only [if_neg c1]; exact Ev.now _
      · simp only [if_neg h1]; exact Ev.now _
  · simp only [if_neg h]; exact Ev.now _
theorem impl_ValueAt_ev (ws : List S119) (ds : List S122) (i : Int) (hw : ws.length ≤ 1048576) (hd : smallD ds) : Ev (fun k => impl_ValueAt.f k ws ds i) (valueAt ws ds i) := by
  unfold impl_ValueAt.f valueAt
  have e : wrap64 ((ws.length : Int) - 1) = (ws.length : Int) - 1 := by unfold wrap64; omega
  simp only [impl_from_eq, Option.bind_some, e]
  by_cases h : inR i 0 ((ws.length : Int) - 1) = true
  · have h' := (inR_iff _ _ _).1 h
    have p1 : 0 ≤ i := h'.1
    have p2 : i < (ws.length : Int) := by omega
    simp only [if_pos h, if_pos p1, if_pos p2]
    generalize hx : rd_T119 ws i = x
    by_cases h0 : x.f1 = 0
    · simp only [if_pos h0]; exact Ev.now _
    · simp only [if_neg h0]
      by_cases h1 : inR x.f1 1 (ds.length : Int) = true
      · have h1' := (inR_iff _ _ _).1 h1
        have hdl := hd.1
        have e2 : wrap64 (x.f1 - 1) = x.f1 - 1 := by unfold wrap64; omega
        have p3 : 0 ≤ x.f1 - 1 := by omega
        have p4 : x.f1 - 1 < (ds.length : Int) := by omega
        simp only [if_pos h1, e2, if_pos p3, if_pos p4]
        obtain ⟨j, hj⟩ : ∃ j : Nat, x.f1 - 1 = (j : Int) := ⟨(x.f1 - 1).toNat, by omega⟩
        have hjl : j < ds.length := by omega
        rw [hj, rdT_Desc ds j hjl]
        have hm := hd.2 ds[j] (List.getElem_mem hjl)
        refine Ev.bind (impl_Entries_ev _ _ _ _ _ i hm.1) ?_
        by_cases c1 : (ds[j]).f0 = x.f2
        · simp only [if_pos c1]
          by_cases c2 : (ds[j]).f1 = 2
          · simp only [if_pos c2]; exact Ev.now _
          · simp only [if_neg c2]; exact Ev.now _
        · simp only [if_neg c1]; exact Ev.now _
      · simp only [if_neg h1]; exact Ev.now _
  · simp only [if_neg h]; exact Ev.now _

theorem FnExactValueAt (l0 : List S128) (l1 : List S116) (a2 : Int) (gl0 : (fun l : List S128 => l.length ≤ maxLen ∧ ∀ x ∈ l, good128 x) l0) (gl1 : (fun l : List S116 => l.length ≤ maxLen ∧ ∀ x ∈ l, good116 x) l1) (ga2 : (fun n : Int => (Lit.int .i64 n).wf = true) a2) : ∃ k, laws_FnExactValueAt.f k l0 l1 a2 = some true := by
  refine Ev.rounds (r := true) ?_
  unfold laws_FnExactValueAt.f
  obtain ⟨r, er, pr⟩ := laws_szWordS_some l0 gl0.1 1048576 (by omega) (by omega)
  simp only [er, Option.bind_some]
  by_cases c : r < 0
  · simp only [if_pos c]; exact Ev.now _
  simp only [if_neg c]
  obtain ⟨hr, hl0⟩ := pr (by omega)
  have hg : ∀ y ∈ l1, y.f2.length ≤ maxLen ∧ y.f3.f1.length ≤ maxLen := fun y hy => by
    have := gl1.2 y hy
    exact ⟨this.2.2.1.1, this.2.2.2.2.1⟩
  obtain ⟨r2, er2, pr2⟩ := laws_szDescS_ev l1 gl1.1 hg r (by omega) (by omega)
  refine Ev.bind er2 ?_
  by_cases c2 : r2 < 0
  · simp only [if_pos c2]; exact Ev.now _
  simp only [if_neg c2]
  obtain ⟨hr2, hl1⟩ := pr2 (by omega)
  have hw : (l0.map conv128).length ≤ 1048576 := by simpa using hl0
  have hd := small116_map l1 hl1
  refine Ev.bind (laws_toWordS_ev l0 hl0) ?_
  refine Ev.bind (laws_toDescS_ev l1 hl1) ?_
  refine Ev.bind (spec_ValueAt_ev _ _ a2 hw hd) ?_
  refine Ev.bind (laws_toWordS_ev l0 hl0) ?_
  refine Ev.bind (laws_toDescS_ev l1 hl1) ?_
  refine Ev.bind (impl_ValueAt_ev _ _ a2 hw hd) ?_
  simp only [if_pos]
  refine Ev.bind (laws_toWordS_ev l0 hl0) ?_
  refine Ev.bind (laws_eqWordS_refl _ hw) ?_
  simp only [if_true]
  refine Ev.bind (laws_toDescS_ev l1 hl1) ?_
  refine Ev.bind (laws_eqDescS_refl _ hd) ?_
  exact Ev.now _

end Go.Proofs.Ytblpbhhomocfbaa.Pure
