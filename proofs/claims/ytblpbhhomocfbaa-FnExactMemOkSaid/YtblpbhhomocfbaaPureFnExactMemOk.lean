/- The pure statement behind the law FnExactMemOk: over plain values. No condition beyond that numbers are of their kind and lengths below 2^63. -/
import Derived.Test.YtblpbhhomocfbaaOpnFnExactMemOk
namespace Go.Proofs.Ytblpbhhomocfbaa.Pure
open Go.RowKit Go.Proofs.Ytblpbhhomocfbaa.Op Go.Proofs.YtblpbhhomocfbaaW.PrintWords Go.Proofs.YtblpbhhomocfbaaW.PrintLast Go.Proofs.Ytblpbhhomocfbaa.PFnExactMemOk Go.Proofs.Ytblpbhhomocfbaa.fnExactMemOk

-- PACKS
set_option linter.unusedVariables false
set_option linter.unusedSimpArgs false
theorem Ev_at {α : Type} {g : Nat → Option α} {r : α} (n : Nat) (h : ∀ k, g (k + n) = some r) : Ev g r := ⟨n, fun k hk => by
  obtain ⟨m, rfl⟩ : ∃ m, k = m + n := ⟨k - n, by omega⟩
  exact h m⟩
theorem Ev_down {α : Type} {L : Nat → Nat → Option α} {r : α} (n : Nat) (hn : Ev (L n) r) (hs : ∀ i, i < n → Ev (L (i + 1)) r → Ev (L i) r) : ∀ i, i ≤ n → Ev (L i) r := by
  have key : ∀ d i, i + d = n → Ev (L i) r := by
    intro d
    induction d with
    | zero => intro i h; obtain rfl : i = n := by omega
              exact hn
    | succ d ih => intro i h; exact hs i (by omega) (ih (i + 1) (by omega))
  exact fun i h => key (n - i) i (by omega)
theorem wrap_up (i : Nat) (h : i < 9223372036854775807) : wrap64 ((i : Int) + 1) = ((i + 1 : Nat) : Int) := by unfold wrap64; omega
theorem set_fill {α β : Type} (l : List α) (i : Nat) (hi : i < l.length) (z : β) (f : α → β) (v : β) (hv : v = f (l[i]'hi)) :
    ((l.take i).map f ++ List.replicate (l.length - i) z).set (i : Int).toNat v = (l.take (i + 1)).map f ++ List.replicate (l.length - (i + 1)) z := by
  subst hv
  have h1 : ((l.take i).map f).length = i := by simp; omega
  rw [Int.toNat_natCast, List.set_append, if_neg (by omega), h1, Nat.sub_self]
  obtain ⟨m, hm⟩ : ∃ m, l.length - i = m + 1 := ⟨l.length - i - 1, by omega⟩
  rw [hm, List.replicate_succ, List.set_cons_zero, show l.length - (i + 1) = m by omega, List.take_succ_eq_append_getElem hi, List.map_append, List.append_assoc]
  rfl
theorem set_fill_id {α : Type} (l : List α) (i : Nat) (hi : i < l.length) (z : α) (v : α) (hv : v = l[i]'hi) :
    (l.take i ++ List.replicate (l.length - i) z).set (i : Int).toNat v = l.take (i + 1) ++ List.replicate (l.length - (i + 1)) z := by
  have := set_fill l i hi z id v hv
  simpa using this
theorem Ev_downR {α : Type} {L : Nat → Nat → Option α} {R : Nat → α} (n : Nat) (hn : Ev (L n) (R n)) (hs : ∀ i, i < n → Ev (L (i + 1)) (R (i + 1)) → Ev (L i) (R i)) : ∀ i, i ≤ n → Ev (L i) (R i) := by
  have key : ∀ d i, i + d = n → Ev (L i) (R i) := by
    intro d
    induction d with
    | zero => intro i h; obtain rfl : i = n := by omega
              exact hn
    | succ d ih => intro i h; exact hs i (by omega) (ih (i + 1) (by omega))
  exact fun i h => key (n - i) i (by omega)
theorem rd_at (l : List Int) (i : Nat) (hi : i < l.length) : rd l (i : Int) = l[i] := by simp [rd, List.getD_eq_getElem?_getD, hi]
theorem mark_fill {α : Type} (g : Nat → α) (l : List α) (i : Nat) (hi : i < l.length) : ((List.range i).map g ++ l.drop i).set i (g i) = (List.range (i + 1)).map g ++ l.drop (i + 1) := by
  rw [List.set_append, if_neg (by simp), List.length_map, List.length_range, Nat.sub_self, List.drop_eq_getElem_cons hi, List.set_cons_zero, List.range_succ, List.map_append, List.append_assoc]
  rfl
theorem Ev_pos {α : Type} {x : Int} {g : Nat → Option α} {r : α} (h : 0 ≤ x) : Ev (fun k => if x < 0 then none else g k) r = Ev g r := by
  have h' : ¬ x < 0 := by omega
  simp only [if_neg h']
def inR (x lo hi : Int) : Bool := decide (lo ≤ x) && decide (x ≤ hi)
def keyOk (k : Int) : Bool := inR k 0 3
def valOk (v : Int) : Bool := inR v 1 6
def isClass (c : Int) : Bool := inR c 0 2
def classOf (v : Int) : Int := if valOk v then Int.tmod v 3 else -1
theorem spec_l1In_eq (x lo hi : Int) : spec_l1In.f x lo hi = some (inR x lo hi) := by
  unfold spec_l1In.f inR
  by_cases h : lo ≤ x <;> simp [h]
theorem impl_from_eq (x lo hi : Int) : impl_from.f x lo hi = some (inR x lo hi) := by
  unfold impl_from.f inR
  by_cases h : lo ≤ x <;> simp [h]
def wordOk (n t s th : Int) : Bool := if t = 0 then inR n 0 1000 && s == 0 else n == 0 && inR t 1 th && inR s 1 1000000
theorem spec_WordOk_eq (n t s th : Int) : spec_WordOk.f n t s th = some (wordOk n t s th) := by
  unfold spec_WordOk.f wordOk
  simp only [spec_l1In_eq, Option.bind_some]
  by_cases h1 : t = 0 <;> by_cases h2 : s = 0 <;> by_cases h3 : n = 0 <;> cases h4 : inR t 1 th <;> simp [h1, h2, h3, h4]
theorem impl_WordOk_eq (n t s th : Int) : impl_WordOk.f n t s th = some (wordOk n t s th) := by
  unfold impl_WordOk.f wordOk
  simp only [impl_isWordNum.f, impl_from_eq, Option.bind_some]
  by_cases h1 : t = 0 <;> by_cases h2 : n = 0 <;> cases h3 : inR n 0 1000 <;> cases h4 : inR t 1 th <;> simp_all
def conv128 (x : S128) : S119 := ⟨x.f0, x.f1, x.f2⟩
theorem laws_toWord_eq (a0 : Int) (a1 : Int) (a2 : Int) : laws_toWord.f a0 a1 a2 = some (a0, a1, a2) := rfl
theorem laws_eqWord_refl (a0 : Int) (a1 : Int) (a2 : Int) : laws_eqWord.f a0 a1 a2 a0 a1 a2 = some true := by simp [laws_eqWord.f]
theorem laws_toWordS_ev (l : List S128) (h : (l.length ≤ 1048576)) : Ev (fun k => laws_toWordS.f k l) (l.map conv128) := by
  have hl : l.length ≤ 1048576 := h
  have key : ∀ i, i ≤ l.length → Ev (fun k => laws_toWordS.l0 k l ((l.take i).map conv128 ++ List.replicate (l.length - i) z119) (i : Int)) (l.map conv128) := by
    refine Ev_down (L := fun i k => laws_toWordS.l0 k l ((l.take i).map conv128 ++ List.replicate (l.length - i) z119) (i : Int)) l.length ?_ ?_
    · refine Ev_at 1 (fun k => ?_)
      simp only [laws_toWordS.l0]
      rw [if_neg (by omega)]
      simp
    · intro i hi ih
      refine Ev.step (f := fun k => laws_toWordS.l0 k l ((l.take (i+1)).map conv128 ++ List.replicate (l.length - (i+1)) z119) ((i+1 : Nat) : Int)) (fun k => ?_) ?_
      · simp only [laws_toWordS.l0]
        rw [if_pos (by omega), if_pos (by omega)]
        simp only [laws_toWord_eq, Option.bind_some]
        rw [if_pos (by simp; omega), wrap_up i (by omega)]
        congr 1
        exact set_fill l i hi z119 conv128 _ (by simp [rd_T128, conv128, List.getD_eq_getElem?_getD, hi])
      · exact ih
  have := key 0 (Nat.zero_le _)
  have hc : ((l.length : Int) : Int).toNat ≤ 11728124029610 := by omega
  unfold laws_toWordS.f
  simp only [if_pos (Int.natCast_nonneg l.length), if_pos hc]
  simpa using this
theorem laws_eqWordS_refl (l : List S119) (h : (l.length ≤ 1048576)) : Ev (fun k => laws_eqWordS.f k l l) true := by
  have hl : l.length ≤ 1048576 := h
  have key : ∀ i, i ≤ l.length → Ev (fun k => laws_eqWordS.l0 k l l (i : Int)) true := by
    refine Ev_down (L := fun i k => laws_eqWordS.l0 k l l (i : Int)) l.length ?_ ?_
    · refine Ev_at 1 (fun k => ?_)
      simp only [laws_eqWordS.l0]
      rw [if_neg (by omega)]
    · intro i hi ih
      refine Ev.step (f := fun k => laws_eqWordS.l0 k l l ((i+1 : Nat) : Int)) (fun k => ?_) ih
      simp only [laws_eqWordS.l0]
      rw [if_pos (by omega), if_pos (by omega), if_pos (by omega), laws_eqWord_refl, Option.bind_some, if_pos rfl, wrap_up i (by omega)]
  have := key 0 (Nat.zero_le _)
  unfold laws_eqWordS.f
  simp only [if_pos]
  exact this
theorem laws_szWordS_some (l : List S128) (hb : l.length ≤ maxLen) (left : Int) (h0 : 0 ≤ left) (h1 : left ≤ 1048576) : ∃ r, laws_szWordS.f l left = some r ∧ (0 ≤ r → r ≤ left ∧ l.length ≤ 1048576) := by
  have hm : maxLen = 9223372036854775807 := rfl
  have hw : wrap64 (left - (l.length : Int)) = left - (l.length : Int) := by unfold wrap64; omega
  unfold laws_szWordS.f
  rw [hw]
  by_cases c : left - (l.length : Int) < 0
  · exact ⟨-1, by rw [if_pos c], fun h => by omega⟩
  · exact ⟨_, by rw [if_neg c], fun _ => by omega⟩
def conv180 (x : S180) : S124 := ⟨x.f0, x.f1, x.f2⟩
theorem laws_toEntry_eq (a0 : Int) (a1 : Int) (a2 : Int) : laws_toEntry.f a0 a1 a2 = some (a0, a1, a2) := rfl
theorem laws_eqEntry_refl (a0 : Int) (a1 : Int) (a2 : Int) : laws_eqEntry.f a0 a1 a2 a0 a1 a2 = some true := by simp [laws_eqEntry.f]
theorem laws_toEntryS_ev (l : List S180) (h : (l.length ≤ 1048576)) : Ev (fun k => laws_toEntryS.f k l) (l.map conv180) := by
  have hl : l.length ≤ 1048576 := h
  have key : ∀ i, i ≤ l.length → Ev (fun k => laws_toEntryS.l0 k l ((l.take i).map conv180 ++ List.replicate (l.length - i) z124) (i : Int)) (l.map conv180) := by
    refine Ev_down (L := fun i k => laws_toEntryS.l0 k l ((l.take i).map conv180 ++ List.replicate (l.length - i) z124) (i : Int)) l.length ?_ ?_
    · refine Ev_at 1 (fun k => ?_)
      simp only [laws_toEntryS.l0]
      rw [if_neg (by omega)]
      simp
    · intro i hi ih
      refine Ev.step (f := fun k => laws_toEntryS.l0 k l ((l.take (i+1)).map conv180 ++ List.replicate (l.length - (i+1)) z124) ((i+1 : Nat) : Int)) (fun k => ?_) ?_
      · simp only [laws_toEntryS.l0]
        rw [if_pos (by omega), if_pos (by omega)]
        simp only [laws_toEntry_eq, Option.bind_some]
        rw [if_pos (by simp; omega), wrap_up i (by omega)]
        congr 1
        exact set_fill l i hi z124 conv180 _ (by simp [rd_T180, conv180, List.getD_eq_getElem?_getD, hi])
      · exact ih
  have := key 0 (Nat.zero_le _)
  have hc : ((l.length : Int) : Int).toNat ≤ 11728124029610 := by omega
  unfold laws_toEntryS.f
  simp only [if_pos (Int.natCast_nonneg l.length), if_pos hc]
  simpa using this
theorem laws_eqEntryS_refl (l : List S124) (h : (l.length ≤ 1048576)) : Ev (fun k => laws_eqEntryS.f k l l) true := by
  have hl : l.length ≤ 1048576 := h
  have key : ∀ i, i ≤ l.length → Ev (fun k => laws_eqEntryS.l0 k l l (i : Int)) true := by
    refine Ev_down (L := fun i k => laws_eqEntryS.l0 k l l (i : Int)) l.length ?_ ?_
    · refine Ev_at 1 (fun k => ?_)
      simp only [laws_eqEntryS.l0]
      rw [if_neg (by omega)]
    · intro i hi ih
      refine Ev.step (f := fun k => laws_eqEntryS.l0 k l l ((i+1 : Nat) : Int)) (fun k => ?_) ih
      simp only [laws_eqEntryS.l0]
      rw [if_pos (by omega), if_pos (by omega), if_pos (by omega), laws_eqEntry_refl, Option.bind_some, if_pos rfl, wrap_up i (by omega)]
  have := key 0 (Nat.zero_le _)
  unfold laws_eqEntryS.f
  simp only [if_pos]
  exact this
theorem laws_szEntryS_some (l : List S180) (hb : l.length ≤ maxLen) (left : Int) (h0 : 0 ≤ left) (h1 : left ≤ 1048576) : ∃ r, laws_szEntryS.f l left = some r ∧ (0 ≤ r → r ≤ left ∧ l.length ≤ 1048576) := by
  have hm : maxLen = 9223372036854775807 := rfl
  have hw : wrap64 (left - (l.length : Int)) = left - (l.length : Int) := by unfold wrap64; omega
  unfold laws_szEntryS.f
  rw [hw]
  by_cases c : left - (l.length : Int) < 0
  · exact ⟨-1, by rw [if_pos c], fun h => by omega⟩
  · exact ⟨_, by rw [if_neg c], fun _ => by omega⟩
theorem laws_toIntS_ev (l : List Int) (h : (l.length ≤ 1048576)) : Ev (fun k => laws_toIntS.f k l) (l) := by
  have hl : l.length ≤ 1048576 := h
  have key : ∀ i, i ≤ l.length → Ev (fun k => laws_toIntS.l0 k l ((l.take i) ++ List.replicate (l.length - i) 0) (i : Int)) (l) := by
    refine Ev_down (L := fun i k => laws_toIntS.l0 k l ((l.take i) ++ List.replicate (l.length - i) 0) (i : Int)) l.length ?_ ?_
    · refine Ev_at 1 (fun k => ?_)
      simp only [laws_toIntS.l0]
      rw [if_neg (by omega)]
      simp
    · intro i hi ih
      refine Ev.step (f := fun k => laws_toIntS.l0 k l ((l.take (i+1)) ++ List.replicate (l.length - (i+1)) 0) ((i+1 : Nat) : Int)) (fun k => ?_) ?_
      · simp only [laws_toIntS.l0]
        rw [if_pos (by omega), if_pos (by omega)]
        rw [if_pos (by simp; omega), wrap_up i (by omega)]
        congr 1
        exact set_fill_id l i hi 0 _ (by simp [rd, List.getD_eq_getElem?_getD, hi])
      · exact ih
  have := key 0 (Nat.zero_le _)
  have hc : ((l.length : Int) : Int).toNat ≤ 35184372088832 := by omega
  unfold laws_toIntS.f
  simp only [if_pos (Int.natCast_nonneg l.length), if_pos hc]
  simpa using this
theorem laws_eqIntS_refl (l : List Int) (h : (l.length ≤ 1048576)) : Ev (fun k => laws_eqIntS.f k l l) true := by
  have hl : l.length ≤ 1048576 := h
  have key : ∀ i, i ≤ l.length → Ev (fun k => laws_eqIntS.l0 k l l (i : Int)) true := by
    refine Ev_down (L := fun i k => laws_eqIntS.l0 k l l (i : Int)) l.length ?_ ?_
    · refine Ev_at 1 (fun k => ?_)
      simp only [laws_eqIntS.l0]
      rw [if_neg (by omega)]
    · intro i hi ih
      refine Ev.step (f := fun k => laws_eqIntS.l0 k l l ((i+1 : Nat) : Int)) (fun k => ?_) ih
      simp only [laws_eqIntS.l0]
      rw [if_pos (by omega), if_pos (by omega), if_pos (by omega), if_pos trivial, wrap_up i (by omega)]
  have := key 0 (Nat.zero_le _)
  unfold laws_eqIntS.f
  simp only [if_pos]
  exact this
theorem laws_szIntS_some (l : List Int) (hb : l.length ≤ maxLen) (left : Int) (h0 : 0 ≤ left) (h1 : left ≤ 1048576) : ∃ r, laws_szIntS.f l left = some r ∧ (0 ≤ r → r ≤ left ∧ l.length ≤ 1048576) := by
  have hm : maxLen = 9223372036854775807 := rfl
  have hw : wrap64 (left - (l.length : Int)) = left - (l.length : Int) := by unfold wrap64; omega
  unfold laws_szIntS.f
  rw [hw]
  by_cases c : left - (l.length : Int) < 0
  · exact ⟨-1, by rw [if_pos c], fun h => by omega⟩
  · exact ⟨_, by rw [if_neg c], fun _ => by omega⟩
def conv82 (x : S82) : S90 := ⟨x.f0, x.f1⟩
theorem laws_toRes_ev (a0 : Int) (l1 : List Int) (h1 : (l1.length ≤ 1048576)) : Ev (fun k => laws_toRes.f k a0 l1) (a0, l1) := by
  unfold laws_toRes.f
  try simp only [Option.bind_some]
  refine Ev.bind (laws_toIntS_ev l1 h1) ?_
  exact Ev.now _
theorem laws_eqRes_refl (a0 : Int) (l1 : List Int) (h1 : (l1.length ≤ 1048576)) : Ev (fun k => laws_eqRes.f k a0 l1 a0 l1) true := by
  unfold laws_eqRes.f
  try simp only [if_pos, Option.bind_some]
  refine Ev.bind (laws_eqIntS_refl l1 h1) ?_
  try simp only [if_true, if_pos, bne_self_eq_false, Bool.false_eq_true, if_false]
  exact Ev.now _
theorem laws_szRes_some (a0 : Int) (l1 : List Int) (b1 : l1.length ≤ maxLen) (left : Int) (h0 : 0 ≤ left) (h1 : left ≤ 1048576) : ∃ r, laws_szRes.f a0 l1 left = some r ∧ (0 ≤ r → r ≤ left ∧ (l1.length ≤ 1048576)) := by
  unfold laws_szRes.f
  obtain ⟨r0, e0, p0⟩ := laws_szIntS_some l1 b1 left (by omega) (by omega)
  simp only [e0, Option.bind_some]
  by_cases c0 : r0 < 0
  · exact ⟨-1, by simp [c0], fun h => by omega⟩
  simp only [if_neg c0]
  have q0 := p0 (by omega)
  refine ⟨_, rfl, fun _ => ⟨by omega, ?_⟩⟩
  simp_all
def conv116 (x : S116) : S122 := ⟨x.f0, x.f1, x.f2.map conv180, ⟨x.f3.f0, x.f3.f1⟩⟩
theorem laws_toDesc_ev (a0 : Int) (a1 : Int) (l2 : List S180) (a3 : Int) (l4 : List Int) (h2 : (l2.length ≤ 1048576)) (h4 : (l4.length ≤ 1048576)) : Ev (fun k => laws_toDesc.f k a0 a1 l2 a3 l4) (a0, a1, l2.map conv180, a3, l4) := by
  unfold laws_toDesc.f
  try simp only [Option.bind_some]
  refine Ev.bind (laws_toEntryS_ev l2 h2) ?_
  refine Ev.bind (laws_toRes_ev a3 l4 h4) ?_
  exact Ev.now _
theorem laws_eqDesc_refl (a0 : Int) (a1 : Int) (l2 : List S124) (a3 : Int) (l4 : List Int) (h2 : (l2.length ≤ 1048576)) (h4 : (l4.length ≤ 1048576)) : Ev (fun k => laws_eqDesc.f k a0 a1 l2 a3 l4 a0 a1 l2 a3 l4) true := by
  unfold laws_eqDesc.f
  try simp only [if_pos, Option.bind_some]
  refine Ev.bind (laws_eqEntryS_refl l2 h2) ?_
  try simp only [if_true, if_pos, bne_self_eq_false, Bool.false_eq_true, if_false]
  refine Ev.bind (laws_eqRes_refl a3 l4 h4) ?_
  try simp only [if_true, if_pos, bne_self_eq_false, Bool.false_eq_true, if_false]
  exact Ev.now _
theorem laws_szDesc_some (a0 : Int) (a1 : Int) (l2 : List S180) (a3 : Int) (l4 : List Int) (b2 : l2.length ≤ maxLen) (b4 : l4.length ≤ maxLen) (left : Int) (h0 : 0 ≤ left) (h1 : left ≤ 1048576) : ∃ r, laws_szDesc.f a0 a1 l2 a3 l4 left = some r ∧ (0 ≤ r → r ≤ left ∧ (l2.length ≤ 1048576) ∧ (l4.length ≤ 1048576)) := by
  unfold laws_szDesc.f
  obtain ⟨r0, e0, p0⟩ := laws_szEntryS_some l2 b2 left (by omega) (by omega)
  simp only [e0, Option.bind_some]
  by_cases c0 : r0 < 0
  · exact ⟨-1, by simp [c0], fun h => by omega⟩
  simp only [if_neg c0]
  have q0 := p0 (by omega)
  obtain ⟨r1, e1, p1⟩ := laws_szRes_some a3 l4 b4 r0 (by omega) (by omega)
  simp only [e1, Option.bind_some]
  by_cases c1 : r1 < 0
  · exact ⟨-1, by simp [c1], fun h => by omega⟩
  simp only [if_neg c1]
  have q1 := p1 (by omega)
  refine ⟨_, rfl, fun _ => ⟨by omega, ?_⟩⟩
  simp_all
theorem laws_toDescS_ev (l : List S116) (h : ((l.length ≤ 1048576) ∧ ∀ y ∈ l, (y.f2.length ≤ 1048576) ∧ (y.f3.f1.length ≤ 1048576))) : Ev (fun k => laws_toDescS.f k l) (l.map conv116) := by
  have hl : l.length ≤ 1048576 := h.1
  have key : ∀ i, i ≤ l.length → Ev (fun k => laws_toDescS.l0 k l ((l.take i).map conv116 ++ List.replicate (l.length - i) z122) (i : Int)) (l.map conv116) := by
    refine Ev_down (L := fun i k => laws_toDescS.l0 k l ((l.take i).map conv116 ++ List.replicate (l.length - i) z122) (i : Int)) l.length ?_ ?_
    · refine Ev_at 1 (fun k => ?_)
      simp only [laws_toDescS.l0]
      rw [if_neg (by omega)]
      simp
    · intro i hi ih
      have hlen : (i : Int) < (((l.take i).map conv116 ++ List.replicate (l.length - i) z122).length : Int) := by simp; omega
      have hrd : rd_T116 l (i : Int) = l[i] := by simp [rd_T116, List.getD_eq_getElem?_getD, hi]
      obtain ⟨q2, q4⟩ := h.2 l[i] (List.getElem_mem hi)
      refine Ev.step (f := fun k => (laws_toDesc.f k (l[i]).f0 (l[i]).f1 (l[i]).f2 (l[i]).f3.f0 (l[i]).f3.f1).bind fun t => laws_toDescS.l0 k l (((l.take i).map conv116 ++ List.replicate (l.length - i) z122).set (i : Int).toNat (⟨t.1, t.2.1, t.2.2.1, (⟨t.2.2.2.1, t.2.2.2.2⟩ : S90)⟩ : S122)) ((i+1 : Nat) : Int)) (fun k => ?_) ?_
      · simp only [laws_toDescS.l0]
        rw [if_pos (by omega), if_pos (by omega), hrd, wrap_up i (by omega)]
        simp only [if_pos hlen]
      · refine Ev.bind (laws_toDesc_ev (l[i]).f0 (l[i]).f1 (l[i]).f2 (l[i]).f3.f0 (l[i]).f3.f1 q2 q4) ?_
        rw [← set_fill l i hi z122 conv116 (conv116 l[i]) rfl] at ih
        exact ih
  have := key 0 (Nat.zero_le _)
  have hc : ((l.length : Int) : Int).toNat ≤ 3909374676536 := by omega
  unfold laws_toDescS.f
  simp only [if_pos (Int.natCast_nonneg l.length), if_pos hc]
  simpa using this
theorem small116_map (l : List S116) (h : ((l.length ≤ 1048576) ∧ ∀ y ∈ l, (y.f2.length ≤ 1048576) ∧ (y.f3.f1.length ≤ 1048576))) : (((l.map conv116).length ≤ 1048576) ∧ ∀ y ∈ (l.map conv116), (y.f2.length ≤ 1048576) ∧ (y.f3.f1.length ≤ 1048576)) := by
  refine ⟨by simpa using h.1, fun y hy => ?_⟩
  obtain ⟨x, hx, rfl⟩ := List.mem_map.1 hy
  have := h.2 x hx
  simpa [conv116] using this
theorem laws_eqDescS_refl (l : List S122) (h : ((l.length ≤ 1048576) ∧ ∀ y ∈ l, (y.f2.length ≤ 1048576) ∧ (y.f3.f1.length ≤ 1048576))) : Ev (fun k => laws_eqDescS.f k l l) true := by
  have hl : l.length ≤ 1048576 := h.1
  have key : ∀ i, i ≤ l.length → Ev (fun k => laws_eqDescS.l0 k l l (i : Int)) true := by
    refine Ev_down (L := fun i k => laws_eqDescS.l0 k l l (i : Int)) l.length ?_ ?_
    · refine Ev_at 1 (fun k => ?_)
      simp only [laws_eqDescS.l0]
      rw [if_neg (by omega)]
    · intro i hi ih
      have hrd : rd_T122 l (i : Int) = l[i] := by simp [rd_T122, List.getD_eq_getElem?_getD, hi]
      obtain ⟨q2, q4⟩ := h.2 l[i] (List.getElem_mem hi)
      refine Ev.step (f := fun k => (laws_eqDesc.f k (l[i]).f0 (l[i]).f1 (l[i]).f2 (l[i]).f3.f0 (l[i]).f3.f1 (l[i]).f0 (l[i]).f1 (l[i]).f2 (l[i]).f3.f0 (l[i]).f3.f1).bind fun t => if t = true then laws_eqDescS.l0 k l l ((i+1 : Nat) : Int) else none) (fun k => ?_) ?_
      · simp only [laws_eqDescS.l0]
        rw [if_pos (by omega), if_pos (by omega), if_pos (by omega), hrd, wrap_up i (by omega)]
      · refine Ev.bind (laws_eqDesc_refl (l[i]).f0 (l[i]).f1 (l[i]).f2 (l[i]).f3.f0 (l[i]).f3.f1 q2 q4) ?_
        simp only [if_true]
        exact ih
  have := key 0 (Nat.zero_le _)
  unfold laws_eqDescS.f
  simp only [if_pos]
  exact this
theorem laws_szDescS_ev (l : List S116) (hb : l.length ≤ maxLen) (hb2 : ∀ y ∈ l, y.f2.length ≤ maxLen ∧ y.f3.f1.length ≤ maxLen) (left : Int) (h0 : 0 ≤ left) (h1 : left ≤ 1048576) : ∃ r, Ev (fun k => laws_szDescS.f k l left) r ∧ (0 ≤ r → r ≤ left ∧ ((l.length ≤ 1048576) ∧ ∀ y ∈ l, (y.f2.length ≤ 1048576) ∧ (y.f3.f1.length ≤ 1048576))) := by
  have hm : maxLen = 9223372036854775807 := rfl
  have hw : wrap64 (left - (l.length : Int)) = left - (l.length : Int) := by unfold wrap64; omega
  have key : ∀ d i : Nat, i + d = l.length → l.length ≤ 1048576 → ∀ a : Int, 0 ≤ a → a ≤ 1048576 → ∃ r, Ev (fun k => laws_szDescS.l0 k l a (i : Int)) r ∧ (0 ≤ r → r ≤ a ∧ ∀ y ∈ l.drop i, (y.f2.length ≤ 1048576) ∧ (y.f3.f1.length ≤ 1048576)) := by
    intro d
    induction d with
    | zero =>
      intro i hi hl a ha0 ha1
      refine ⟨a, Ev_at 1 (fun k => ?_), fun _ => ⟨Int.le_refl _, ?_⟩⟩
      · simp only [laws_szDescS.l0]
        rw [if_neg (by omega)]
      · rw [List.drop_eq_nil_of_le (by omega)]; simp
    | succ d ih =>
      intro i hi hl a ha0 ha1
      have hil : i < l.length := by omega
      have hrd : rd_T116 l (i : Int) = l[i] := by simp [rd_T116, List.getD_eq_getElem?_getD, hil]
      obtain ⟨b2, b4⟩ := hb2 l[i] (List.getElem_mem hil)
      obtain ⟨r1, e1, p1⟩ := laws_szDesc_some (l[i]).f0 (l[i]).f1 (l[i]).f2 (l[i]).f3.f0 (l[i]).f3.f1 b2 b4 a ha0 ha1
      by_cases c : r1 < 0
      · refine ⟨-1, Ev_at 1 (fun k => ?_), fun h => by omega⟩
        simp only [laws_szDescS.l0]
        rw [if_pos (by omega), if_pos (by omega), hrd, e1]
        simp only [Option.bind_some, if_pos c]
      · obtain ⟨hr1, hr2⟩ := p1 (by omega)
        obtain ⟨r, hr, hp⟩ := ih (i + 1) (by omega) hl r1 (by omega) (by omega)
        refine ⟨r, Ev.step (f := fun k => laws_szDescS.l0 k l r1 ((i + 1 : Nat) : Int)) (fun k => ?_) hr, fun h => ?_⟩
        · simp only [laws_szDescS.l0]
          rw [if_pos (by omega), if_pos (by omega), hrd, e1, wrap_up i (by omega)]
          simp only [Option.bind_some, if_neg c]
        · obtain ⟨x1, x2⟩ := hp h
          refine ⟨by omega, ?_⟩
          rw [List.drop_eq_getElem_cons hil]
          intro y hy
          rcases List.mem_cons.1 hy with rfl | hy
          · exact hr2
          · exact x2 y hy
  unfold laws_szDescS.f
  simp only [hw]
  by_cases c : left - (l.length : Int) < 0
  · exact ⟨-1, by simp only [if_pos c]; exact Ev.now _, fun h => by omega⟩
  · obtain ⟨r, hr, hp⟩ := key l.length 0 (by omega) (by omega) (left - (l.length : Int)) (by omega) (by omega)
    refine ⟨r, by simp only [if_neg c]; exact hr, fun h => ?_⟩
    obtain ⟨x1, x2⟩ := hp h
    exact ⟨by omega, by omega, by simpa using x2⟩
theorem laws_toMem_ev (l0 : List S128) (l1 : List S116) (h0 : (l0.length ≤ 1048576)) (h1 : ((l1.length ≤ 1048576) ∧ ∀ y ∈ l1, (y.f2.length ≤ 1048576) ∧ (y.f3.f1.length ≤ 1048576))) : Ev (fun k => laws_toMem.f k l0 l1) (l0.map conv128, l1.map conv116) := by
  unfold laws_toMem.f
  try simp only [Option.bind_some]
  refine Ev.bind (laws_toWordS_ev l0 h0) ?_
  refine Ev.bind (laws_toDescS_ev l1 h1) ?_
  exact Ev.now _
theorem laws_eqMem_refl (l0 : List S119) (l1 : List S122) (h0 : (l0.length ≤ 1048576)) (h1 : ((l1.length ≤ 1048576) ∧ ∀ y ∈ l1, (y.f2.length ≤ 1048576) ∧ (y.f3.f1.length ≤ 1048576))) : Ev (fun k => laws_eqMem.f k l0 l1 l0 l1) true := by
  unfold laws_eqMem.f
  try simp only [if_pos, Option.bind_some]
  refine Ev.bind (laws_eqWordS_refl l0 h0) ?_
  try simp only [if_true, if_pos, bne_self_eq_false, Bool.false_eq_true, if_false]
  refine Ev.bind (laws_eqDescS_refl l1 h1) ?_
  try simp only [if_true, if_pos, bne_self_eq_false, Bool.false_eq_true, if_false]
  exact Ev.now _
-- laws_szMem: by hand (rounds)
theorem laws_szMem_ev (l0 : List S128) (l1 : List S116) (b0 : l0.length ≤ maxLen) (b1 : l1.length ≤ maxLen) (b2 : ∀ y ∈ l1, y.f2.length ≤ maxLen ∧ y.f3.f1.length ≤ maxLen) (left : Int) (h0 : 0 ≤ left) (h1 : left ≤ 1048576) :
    ∃ r, Ev (fun k => laws_szMem.f k l0 l1 left) r ∧ (0 ≤ r → l0.length ≤ 1048576 ∧ (l1.length ≤ 1048576 ∧ ∀ y ∈ l1, (y.f2.length ≤ 1048576) ∧ (y.f3.f1.length ≤ 1048576))) := by
  unfold laws_szMem.f
  obtain ⟨r1, e1, p1⟩ := laws_szWordS_some l0 b0 left h0 h1
  simp only [e1, Option.bind_some]
  by_cases c1 : r1 < 0
  · exact ⟨-1, by simp only [if_pos c1]; exact Ev.now _, fun h => by omega⟩
  obtain ⟨q1, q2⟩ := p1 (by omega)
  obtain ⟨r2, e2, p2⟩ := laws_szDescS_ev l1 b1 b2 r1 (by omega) (by omega)
  simp only [if_neg c1]
  by_cases c2 : r2 < 0
  · exact ⟨-1, Ev.bind e2 (by simp only [if_pos c2]; exact Ev.now _), fun h => by omega⟩
  · exact ⟨r2, Ev.bind e2 (by simp only [if_neg c2]; exact Ev.now _), fun h => ⟨q2, (p2 h).2⟩⟩
theorem rdT_Entry (l : List S124) (i : Nat) (hi : i < l.length) : rd_T124 l (i : Int) = l[i] := by simp [rd_T124, List.getD_eq_getElem?_getD, hi]
def entF (v : Int) : List S124 → Int × Int × Int × Bool
  | [] => (0, 0, 0, false)
  | e :: es => if e.f0 = v then (e.f0, e.f1, e.f2, true) else entF v es
theorem spec_Entries_ev (sq st : Int) (l : List S124) (c : Int) (rl : List Int) (v : Int) (hl : l.length ≤ 1048576) : Ev (fun k => spec_Entries.f k sq st l c rl v) (entF v l) := by
  have key : ∀ i, i ≤ l.length → Ev (fun k => spec_Entries.l0 k v (i : Int) sq st l c rl) (entF v (l.drop i)) := by
    refine Ev_downR (L := fun i k => spec_Entries.l0 k v (i : Int) sq st l c rl) (R := fun i => entF v (l.drop i)) l.length ?_ ?_
    · refine Ev_at 1 (fun k => ?_)
      simp only [spec_Entries.l0]
      rw [if_neg (by omega), List.drop_length]
      rfl
    · intro i hi ih
      refine Ev.step (f := fun k => if (l[i]).f0 = v then some ((l[i]).f0, (l[i]).f1, (l[i]).f2, true) else spec_Entries.l0 k v ((i + 1 : Nat) : Int) sq st l c rl) (fun k => ?_) ?_
      · simp only [spec_Entries.l0]
        rw [if_pos (by omega), if_pos (by omega), rdT_Entry l i hi, wrap_up i (by omega)]
      · rw [List.drop_eq_getElem_cons hi]
        by_cases h : (l[i]).f0 = v
        · simp only [if_pos h, entF]; exact Ev.now _
        · simp only [if_neg h, entF]; exact ih
  exact key 0 (Nat.zero_le _)
theorem impl_Entries_ev (sq st : Int) (l : List S124) (c : Int) (rl : List Int) (v : Int) (hl : l.length ≤ 1048576) : Ev (fun k => impl_Entries.f k sq st l c rl v) (entF v l) := by
  have key : ∀ i, i ≤ l.length → Ev (fun k => impl_Entries.l0 k v l (l.length : Int) (i : Int)) (entF v (l.drop i)) := by
    refine Ev_downR (L := fun i k => impl_Entries.l0 k v l (l.length : Int) (i : Int)) (R := fun i => entF v (l.drop i)) l.length ?_ ?_
    · refine Ev_at 1 (fun k => ?_)
      simp only [impl_Entries.l0]
      rw [if_neg (by omega), List.drop_length]
      rfl
    · intro i hi ih
      refine Ev.step (f := fun k => if (l[i]).f0 = v then some ((l[i]).f0, (l[i]).f1, (l[i]).f2, true) else impl_Entries.l0 k v l (l.length : Int) ((i + 1 : Nat) : Int)) (fun k => ?_) ?_
      · simp only [impl_Entries.l0]
        rw [if_pos (by omega), if_pos (by omega), if_pos (by omega), rdT_Entry l i hi, wrap_up i (by omega)]
      · rw [List.drop_eq_getElem_cons hi]
        by_cases h : (l[i]).f0 = v
        · simp only [if_pos h, entF]; exact Ev.now _
        · simp only [if_neg h, entF]; exact ih
  exact key 0 (Nat.zero_le _)
def entsOk (prev : Int) : List S124 → Bool
  | [] => true
  | e :: es => inR e.f0 0 19 && (inR e.f1 0 1000 && (inR e.f2 0 1000 && (decide (prev < e.f0) && entsOk e.f0 es)))
def descOk (sq st : Int) (l : List S124) (c : Int) (rl : List Int) : Bool :=
  if sq = 0 then decide (st = 0) && (decide (l.length = 0) && (decide (c = 0) && decide (rl.length = 0)))
  else inR sq 1 1000000 && (inR st 1 3 && (decide (l.length ≤ 20) && entsOk (-1) l))
def prevAt (l : List S124) (i : Nat) : Int := if h : 0 < i ∧ i ≤ l.length then (l[i - 1]'(by omega)).f0 else -1
theorem prevAt_succ (l : List S124) (i : Nat) (hi : i < l.length) : prevAt l (i + 1) = (l[i]).f0 := by
  unfold prevAt
  rw [dif_pos (by omega)]
  simp
theorem ent_prev {β : Type} (l : List S124) (i : Nat) (hi : i < l.length) (hl : l.length ≤ 1048576) (go no bad : β) (h0 : inR (l[i]).f0 0 19 = true) :
    (if (i : Int) > 0 then (if 0 ≤ wrap64 ((i : Int) - 1) then (if wrap64 ((i : Int) - 1) < (l.length : Int) then (if (rd_T124 l (wrap64 ((i : Int) - 1))).f0 ≥ (l[i]).f0 then no else go) else bad) else bad) else go) = if prevAt l i < (l[i]).f0 then go else no := by
  rcases Nat.eq_zero_or_pos i with h | h
  · subst h
    have hp : prevAt l 0 = -1 := by simp [prevAt]
    have h1 : 0 ≤ (l[0]).f0 := by simp [inR] at h0; omega
    rw [if_neg (by omega), hp, if_pos (by omega)]
  · obtain ⟨j, rfl⟩ : ∃ j, i = j + 1 := ⟨i - 1, by omega⟩
    have e : wrap64 (((j + 1 : Nat) : Int) - 1) = (j : Int) := by unfold wrap64; omega
    rw [if_pos (by omega), e, if_pos (by omega), if_pos (by omega), rdT_Entry l j (by omega), prevAt_succ l j (by omega)]
    by_cases hc : (l[j]).f0 < (l[j + 1]).f0
    · rw [if_neg (by omega), if_pos hc]
    · rw [if_pos (by omega), if_neg hc]
theorem entsOk_at (l : List S124) (i : Nat) (hi : i < l.length) : entsOk (prevAt l i) (l.drop i) = (inR (l[i]).f0 0 19 && (inR (l[i]).f1 0 1000 && (inR (l[i]).f2 0 1000 && (decide (prevAt l i < (l[i]).f0) && entsOk (prevAt l (i + 1)) (l.drop (i + 1)))))) := by
  rw [List.drop_eq_getElem_cons hi, prevAt_succ l i hi]; rfl
theorem Ev_ifB {g : Nat → Option Bool} (b : Bool) {r : Bool} (h : b = true → Ev g r) : Ev (fun k => if b = true then g k else some false) (b && r) := by
  cases b
  · exact Ev.now _
  · exact h rfl
theorem Ev_ifD {g : Nat → Option Bool} (p : Prop) [Decidable p] {r : Bool} (h : p → Ev g r) : Ev (fun k => if p then g k else some false) (decide p && r) := by
  by_cases hp : p
  · simp only [if_pos hp, decide_eq_true hp, Bool.true_and]; exact h hp
  · simp only [if_neg hp, decide_eq_false hp, Bool.false_and]; exact Ev.now _
theorem spec_DescOk_ev (sq st : Int) (l : List S124) (c : Int) (rl : List Int) (hl : l.length ≤ 1048576) : Ev (fun k => spec_DescOk.f k sq st l c rl) (descOk sq st l c rl) := by
  have key : ∀ i, i ≤ l.length → Ev (fun k => spec_DescOk.l0 k (i : Int) sq st l c rl) (entsOk (prevAt l i) (l.drop i)) := by
    refine Ev_downR (L := fun i k => spec_DescOk.l0 k (i : Int) sq st l c rl) (R := fun i => entsOk (prevAt l i) (l.drop i)) l.length ?_ ?_
    · refine Ev_at 1 (fun k => ?_)
      simp only [spec_DescOk.l0]
      rw [if_neg (by omega), List.drop_length]
      rfl
    · intro i hi ih
      refine Ev.step (f := fun k => if inR (l[i]).f0 0 19 = true then (if inR (l[i]).f1 0 1000 = true then (if inR (l[i]).f2 0 1000 = true then (if prevAt l i < (l[i]).f0 then spec_DescOk.l0 k ((i + 1 : Nat) : Int) sq st l c rl else some false) else some false) else some false) else some false) (fun k => ?_) ?_
      · simp only [spec_DescOk.l0, spec_l1In_eq, Option.bind_some]
        rw [if_pos (by omega), if_pos (by omega), rdT_Entry l i hi, wrap_up i (by omega)]
        cases h0 : inR (l[i]).f0 0 19
        · rfl
        · simp only [if_true]
          rw [ent_prev l i hi hl _ _ _ h0]
      · rw [entsOk_at l i hi]
        exact Ev_ifB _ fun _ => Ev_ifB _ fun _ => Ev_ifB _ fun _ => Ev_ifD _ fun _ => ih
  have k0 := key 0 (Nat.zero_le _)
  have hp : prevAt l 0 = -1 := by simp [prevAt]
  rw [hp, List.drop_zero] at k0
  unfold spec_DescOk.f descOk
  by_cases h : sq = 0
  · simp only [if_pos h]
    refine Ev_ifD _ fun _ => ?_
    by_cases h2 : l.length = 0
    · have h2' : (l.length : Int) = 0 := by omega
      simp only [if_pos h2', decide_eq_true h2, Bool.true_and]
      refine Ev_ifD _ fun _ => ?_
      have e : ((rl.length : Int) == 0) = decide (rl.length = 0) := by
        by_cases h3 : rl.length = 0 <;> simp [h3]
      rw [e]; exact Ev.now _
    · have h2' : ¬ (l.length : Int) = 0 := by omega
      simp only [if_neg h2', decide_eq_false h2, Bool.false_and]; exact Ev.now _
  · simp only [if_neg h, spec_l1In_eq, Option.bind_some]
    have hj : ∀ b : Bool, Ev (fun k => spec_DescOk.j0 k b sq st l c rl) (!b && entsOk (-1) l) := by
      intro b
      refine Ev.step (f := fun k => if b = true then some false else spec_DescOk.l0 k 0 sq st l c rl) (fun k => by simp only [spec_DescOk.j0]) ?_
      cases b
      · exact k0
      · exact Ev.now _
    cases h1 : inR sq 1 1000000
    · exact hj true
    · simp only [if_true]
      cases h2 : inR st 1 3
      · exact hj true
      · simp only [if_true, Bool.true_and]
        have e : decide (l.length ≤ 20) = !decide ((l.length : Int) > 20) := by
          by_cases h3 : l.length ≤ 20
          · have : ¬ (l.length : Int) > 20 := by omega
            simp [h3, this]
          · have : (l.length : Int) > 20 := by omega
            simp [h3, this]
        rw [e]
        exact hj _
theorem impl_DescOk_ev (sq st : Int) (l : List S124) (c : Int) (rl : List Int) (hl : l.length ≤ 1048576) : Ev (fun k => impl_DescOk.f k sq st l c rl) (descOk sq st l c rl) := by
  have key : ∀ i, i ≤ l.length → Ev (fun k => impl_DescOk.l0 k l (l.length : Int) (i : Int) sq st l c rl) (entsOk (prevAt l i) (l.drop i) && (inR sq 1 1000000 && (inR st 1 3 && decide (l.length ≤ 20)))) := by
    refine Ev_downR (L := fun i k => impl_DescOk.l0 k l (l.length : Int) (i : Int) sq st l c rl) (R := fun i => entsOk (prevAt l i) (l.drop i) && (inR sq 1 1000000 && (inR st 1 3 && decide (l.length ≤ 20)))) l.length ?_ ?_
    · refine Ev_at 1 (fun k => ?_)
      simp only [impl_DescOk.l0, impl_from_eq, Option.bind_some]
      rw [if_neg (by omega), List.drop_length]
      have e : decide ((l.length : Int) ≤ 20) = decide (l.length ≤ 20) := by
        by_cases h3 : l.length ≤ 20
        · have : (l.length : Int) ≤ 20 := by omega
          simp [h3, this]
        · have : ¬ (l.length : Int) ≤ 20 := by omega
          simp [h3, this]
      rw [e]
      cases inR sq 1 1000000 <;> cases inR st 1 3 <;> simp [entsOk]
    · intro i hi ih
      refine Ev.step (f := fun k => if inR (l[i]).f0 0 19 = true then (if inR (l[i]).f1 0 1000 = true then (if inR (l[i]).f2 0 1000 = true then (if prevAt l i < (l[i]).f0 then impl_DescOk.l0 k l (l.length : Int) ((i + 1 : Nat) : Int) sq st l c rl else some false) else some false) else some false) else some false) (fun k => ?_) ?_
      · simp only [impl_DescOk.l0, impl_isPlace.f, impl_isWordNum.f, impl_from_eq, Option.bind_some]
        rw [if_pos (by omega), if_pos (by omega), if_pos (by omega), rdT_Entry l i hi, wrap_up i (by omega)]
        cases h0 : inR (l[i]).f0 0 19
        · rfl
        · simp only [if_true]
          rw [ent_prev l i hi hl _ _ _ h0]
      · rw [entsOk_at l i hi, Bool.and_assoc, Bool.and_assoc, Bool.and_assoc, Bool.and_assoc]
        exact Ev_ifB _ fun _ => Ev_ifB _ fun _ => Ev_ifB _ fun _ => Ev_ifD _ fun _ => ih
  have k0 := key 0 (Nat.zero_le _)
  have hp : prevAt l 0 = -1 := by simp [prevAt]
  rw [hp, List.drop_zero] at k0
  unfold impl_DescOk.f descOk
  by_cases h : sq = 0
  · simp only [if_pos h]
    refine Ev_ifD _ fun _ => ?_
    by_cases h2 : l.length = 0
    · have h2' : (l.length : Int) = 0 := by omega
      simp only [if_pos h2', decide_eq_true h2, Bool.true_and]
      refine Ev_ifD _ fun _ => ?_
      have e : ((rl.length : Int) == 0) = decide (rl.length = 0) := by
        by_cases h3 : rl.length = 0 <;> simp [h3]
      rw [e]; exact Ev.now _
    · have h2' : ¬ (l.length : Int) = 0 := by omega
      simp only [if_neg h2', decide_eq_false h2, Bool.false_and]; exact Ev.now _
  · simp only [if_neg h]
    have e : (entsOk (-1) l && (inR sq 1 1000000 && (inR st 1 3 && decide (l.length ≤ 20)))) = (inR sq 1 1000000 && (inR st 1 3 && (decide (l.length ≤ 20) && entsOk (-1) l))) := by
      cases entsOk (-1) l <;> cases inR sq 1 1000000 <;> cases inR st 1 3 <;> cases decide (l.length ≤ 20) <;> rfl
    rw [← e]
    exact k0
theorem rdT_Word (l : List S119) (i : Nat) (hi : i < l.length) : rd_T119 l (i : Int) = l[i] := by simp [rd_T119, List.getD_eq_getElem?_getD, hi]
theorem rdT_Desc (l : List S122) (i : Nat) (hi : i < l.length) : rd_T122 l (i : Int) = l[i] := by simp [rd_T122, List.getD_eq_getElem?_getD, hi]
def smallD (l : List S122) : Prop := l.length ≤ 1048576 ∧ ∀ y ∈ l, (y.f2.length ≤ 1048576) ∧ (y.f3.f1.length ≤ 1048576)
theorem inR_iff (x lo hi : Int) : inR x lo hi = true ↔ lo ≤ x ∧ x ≤ hi := by simp [inR]
def ndesc (d : S122) : Bool := descOk d.f0 d.f1 d.f2 d.f3.f0 d.f3.f1
/-- A word at place i is as a memory needs it. -/
def wordAt (ds : List S122) (i : Int) (w : S119) : Bool :=
  wordOk w.f0 w.f1 w.f2 (ds.length : Int) && (decide (w.f1 = 0) || ((entF i (rd_T122 ds (w.f1 - 1)).f2).2.2.2 && decide ((rd_T122 ds (w.f1 - 1)).f0 = w.f2)))
def wordsFrom (ds : List S122) : Int → List S119 → Bool
  | _, [] => true
  | i, w :: ws => wordAt ds i w && wordsFrom ds (i + 1) ws
def memOk (ws : List S119) (ds : List S122) : Bool :=
  decide (ws.length = 20) && (inR (ds.length : Int) 1 4 && (ds.all ndesc && wordsFrom ds 0 ws))
theorem wordOk_T (n t s th : Int) (h : wordOk n t s th = true) : t = 0 ∨ (1 ≤ t ∧ t ≤ th) := by
  unfold wordOk at h
  by_cases h0 : t = 0
  · exact .inl h0
  · rw [if_neg h0] at h
    simp [inR] at h
    exact .inr h.1.2
theorem spec_MemOk_ev (ws : List S119) (ds : List S122) (hw : ws.length ≤ 1048576) (hd : smallD ds) : Ev (fun k => spec_MemOk.f k ws ds) (memOk ws ds) := by
  have hdl := hd.1
  have key1 : ∀ i, i ≤ ws.length → Ev (fun k => spec_MemOk.l1 k (i : Int) ws ds) (wordsFrom ds i (ws.drop i)) := by
    refine Ev_downR (L := fun i k => spec_MemOk.l1 k (i : Int) ws ds) (R := fun i => wordsFrom ds i (ws.drop i)) ws.length ?_ ?_
    · refine Ev_at 1 (fun k => ?_)
      simp only [spec_MemOk.l1]
      rw [if_neg (by omega), List.drop_length]
      rfl
    · intro i hi ih
      rw [List.drop_eq_getElem_cons hi]
      show Ev _ (wordAt ds i ws[i] && wordsFrom ds ((i + 1 : Nat) : Int) (ws.drop (i + 1)))
      generalize hx : ws[i] = x
      have hrd : rd_T119 ws (i : Int) = x := by rw [rdT_Word ws i hi, hx]
      unfold wordAt
      refine Ev.step (f := fun k => if wordOk x.f0 x.f1 x.f2 (ds.length : Int) = true then (if x.f1 > 0 then (if 0 ≤ wrap64 (x.f1 - 1) then (if wrap64 (x.f1 - 1) < (ds.length : Int) then ((spec_Entries.f k (rd_T122 ds (wrap64 (x.f1 - 1))).f0 (rd_T122 ds (wrap64 (x.f1 - 1))).f1 (rd_T122 ds (wrap64 (x.f1 - 1))).f2 (rd_T122 ds (wrap64 (x.f1 - 1))).f3.f0 (rd_T122 ds (wrap64 (x.f1 - 1))).f3.f1 (i : Int)).bind fun b => (if b.2.2.2 = true then (if (rd_T122 ds (wrap64 (x.f1 - 1))).f0 = x.f2 then spec_MemOk.l1 k ((i + 1 : Nat) : Int) ws ds else some false) else some false)) else none) else none) else spec_MemOk.l1 k ((i + 1 : Nat) : Int) ws ds) else some false) (fun k => ?_) ?_
      · simp only [spec_MemOk.l1, spec_WordOk_eq, Option.bind_some, hrd]
        rw [if_pos (by omega), if_pos (by omega), wrap_up i (by omega)]
      · cases hok : wordOk x.f0 x.f1 x.f2 (ds.length : Int)
        · exact Ev.now _
        · simp only [if_true, Bool.true_and]
          rcases wordOk_T _ _ _ _ hok with h0 | ⟨h1, h2⟩
          · have hn : ¬ x.f1 > 0 := by omega
            simp only [if_neg hn, decide_eq_true h0, Bool.true_or, Bool.true_and]
            exact ih
          · have hn : x.f1 > 0 := by omega
            have h0 : ¬ x.f1 = 0 := by omega
            have e2 : wrap64 (x.f1 - 1) = x.f1 - 1 := by unfold wrap64; omega
            have p3 : 0 ≤ x.f1 - 1 := by omega
            have p4 : x.f1 - 1 < (ds.length : Int) := by omega
            simp only [if_pos hn, e2, if_pos p3, if_pos p4, decide_eq_false h0, Bool.false_or]
            obtain ⟨j, hj⟩ : ∃ j : Nat, x.f1 - 1 = (j : Int) := ⟨(x.f1 - 1).toNat, by omega⟩
            have hjl : j < ds.length := by omega
            rw [hj, rdT_Desc ds j hjl]
            refine Ev.bind (spec_Entries_ev _ _ _ _ _ _ (hd.2 ds[j] (List.getElem_mem hjl)).1) ?_
            cases (entF (i : Int) (ds[j]).f2).2.2.2
            · exact Ev.now _
            · simp only [if_true, Bool.true_and]
              exact Ev_ifD _ fun _ => ih
  have key0 : ∀ i, i ≤ ds.length → Ev (fun k => spec_MemOk.l0 k (i : Int) ws ds) ((ds.drop i).all ndesc && wordsFrom ds 0 ws) := by
    refine Ev_downR (L := fun i k => spec_MemOk.l0 k (i : Int) ws ds) (R := fun i => (ds.drop i).all ndesc && wordsFrom ds 0 ws) ds.length ?_ ?_
    · refine Ev.step (f := fun k => spec_MemOk.l1 k 0 ws ds) (fun k => ?_) ?_
      · simp only [spec_MemOk.l0]
        rw [if_neg (by omega)]
      · rw [List.drop_length]
        exact key1 0 (Nat.zero_le _)
    · intro i hi ih
      rw [List.drop_eq_getElem_cons hi, List.all_cons, Bool.and_assoc]
      have hm := hd.2 ds[i] (List.getElem_mem hi)
      refine Ev.step (f := fun k => (spec_DescOk.f k (ds[i]).f0 (ds[i]).f1 (ds[i]).f2 (ds[i]).f3.f0 (ds[i]).f3.f1).bind fun t => if t = true then spec_MemOk.l0 k ((i + 1 : Nat) : Int) ws ds else some false) (fun k => ?_) ?_
      · simp only [spec_MemOk.l0, rdT_Desc ds i hi]
        rw [if_pos (by omega), if_pos (by omega), wrap_up i (by omega)]
      · refine Ev.bind (spec_DescOk_ev _ _ _ _ _ hm.1) ?_
        exact Ev_ifB _ fun _ => ih
  unfold spec_MemOk.f memOk
  have hj : ∀ b : Bool, Ev (fun k => spec_MemOk.j0 k b ws ds) (!b && (ds.all ndesc && wordsFrom ds 0 ws)) := by
    intro b
    refine Ev.step (f := fun k => if b = true then some false else spec_MemOk.l0 k 0 ws ds) (fun k => by simp only [spec_MemOk.j0]) ?_
    cases b
    · exact key0 0 (Nat.zero_le _)
    · exact Ev.now _
  by_cases h : ws.length = 20
  · have h' : (ws.length : Int) = 20 := by omega
    simp only [if_pos h', decide_eq_true h, Bool.true_and, spec_l1In_eq, Option.bind_some]
    have := hj (!inR (ds.length : Int) 1 4)
    rwa [Bool.not_not] at this
  · have h' : ¬ (ws.length : Int) = 20 := by omega
    simp only [if_neg h', decide_eq_false h, Bool.false_and]
    exact hj true
theorem impl_MemOk_c1_ev (d : S122) (h : d.f2.length ≤ 1048576) : Ev (fun k => impl_MemOk_c1.f k d.f0 d.f1 d.f2 d.f3.f0 d.f3.f1) (!ndesc d) := by
  unfold impl_MemOk_c1.f
  exact Ev.bind (impl_DescOk_ev _ _ _ _ _ h) (Ev.now _)
theorem has_bad (ds : List S122) (hd : smallD ds) : Ev (fun k => slices_ContainsFuncMemOk_c1.f k ds) (!ds.all ndesc) := by
  have hdl := hd.1
  have key : ∀ i, i ≤ ds.length → ∃ r, Ev (fun k => slices_IndexFuncMemOk_c1.l0 k ds (ds.length : Int) (i : Int)) r ∧ decide (r ≥ 0) = !(ds.drop i).all ndesc := by
    have step : ∀ d i, i + d = ds.length → ∃ r, Ev (fun k => slices_IndexFuncMemOk_c1.l0 k ds (ds.length : Int) (i : Int)) r ∧ decide (r ≥ 0) = !(ds.drop i).all ndesc := by
      intro d
      induction d with
      | zero =>
        intro i hi
        refine ⟨-1, Ev_at 1 (fun k => ?_), ?_⟩
        · simp only [slices_IndexFuncMemOk_c1.l0]
          rw [if_neg (by omega)]
        · rw [List.drop_eq_nil_of_le (by omega)]; rfl
      | succ d ih =>
        intro i hi
        have hil : i < ds.length := by omega
        have hm := hd.2 ds[i] (List.getElem_mem hil)
        have hs : ∀ r, Ev (fun k => if (!ndesc ds[i]) = true then some (i : Int) else slices_IndexFuncMemOk_c1.l0 k ds (ds.length : Int) ((i + 1 : Nat) : Int)) r → Ev (fun k => slices_IndexFuncMemOk_c1.l0 k ds (ds.length : Int) (i : Int)) r := by
          intro r hr
          refine Ev.step (f := fun k => (impl_MemOk_c1.f k (ds[i]).f0 (ds[i]).f1 (ds[i]).f2 (ds[i]).f3.f0 (ds[i]).f3.f1).bind fun t => if t = true then some (i : Int) else slices_IndexFuncMemOk_c1.l0 k ds (ds.length : Int) ((i + 1 : Nat) : Int)) (fun k => ?_) (Ev.bind (impl_MemOk_c1_ev ds[i] hm.1) hr)
          simp only [slices_IndexFuncMemOk_c1.l0, rdT_Desc ds i hil]
          rw [if_pos (by omega), if_pos (by omega), if_pos (by omega), wrap_up i (by omega)]
        cases hn : ndesc ds[i]
        · refine ⟨(i : Int), hs _ (by simp only [hn, Bool.not_false, if_true]; exact Ev.now _), ?_⟩
          rw [List.drop_eq_getElem_cons hil, List.all_cons, hn]
          simp
        · obtain ⟨r, hr, he⟩ := ih (i + 1) (by omega)
          refine ⟨r, hs _ (by simp only [hn, Bool.not_true, Bool.false_eq_true, if_false]; exact hr), ?_⟩
          rw [List.drop_eq_getElem_cons hil, List.all_cons, hn, he]
          simp
    intro i hi
    exact step (ds.length - i) i (by omega)
  obtain ⟨r, hr, he⟩ := key 0 (Nat.zero_le _)
  unfold slices_ContainsFuncMemOk_c1.f slices_IndexFuncMemOk_c1.f
  refine Ev.bind hr ?_
  rw [he]
  exact Ev.now _
theorem impl_MemOk_ev (ws : List S119) (ds : List S122) (hw : ws.length ≤ 1048576) (hd : smallD ds) : Ev (fun k => impl_MemOk.f k ws ds) (memOk ws ds) := by
  have hdl := hd.1
  have key1 : ∀ i, i ≤ ws.length → Ev (fun k => impl_MemOk.l0 k ws (ws.length : Int) (i : Int) ws ds) (wordsFrom ds i (ws.drop i)) := by
    refine Ev_downR (L := fun i k => impl_MemOk.l0 k ws (ws.length : Int) (i : Int) ws ds) (R := fun i => wordsFrom ds i (ws.drop i)) ws.length ?_ ?_
    · refine Ev_at 1 (fun k => ?_)
      simp only [impl_MemOk.l0]
      rw [if_neg (by omega), List.drop_length]
      rfl
    · intro i hi ih
      rw [List.drop_eq_getElem_cons hi]
      show Ev _ (wordAt ds i ws[i] && wordsFrom ds ((i + 1 : Nat) : Int) (ws.drop (i + 1)))
      generalize hx : ws[i] = x
      have hrd : rd_T119 ws (i : Int) = x := by rw [rdT_Word ws i hi, hx]
      unfold wordAt
      refine Ev.step (f := fun k => if wordOk x.f0 x.f1 x.f2 (ds.length : Int) = true then (if x.f1 = 0 then impl_MemOk.l0 k ws (ws.length : Int) ((i + 1 : Nat) : Int) ws ds else (if 0 ≤ wrap64 (x.f1 - 1) then (if wrap64 (x.f1 - 1) < (ds.length : Int) then ((impl_Entries.f k (rd_T122 ds (wrap64 (x.f1 - 1))).f0 (rd_T122 ds (wrap64 (x.f1 - 1))).f1 (rd_T122 ds (wrap64 (x.f1 - 1))).f2 (rd_T122 ds (wrap64 (x.f1 - 1))).f3.f0 (rd_T122 ds (wrap64 (x.f1 - 1))).f3.f1 (i : Int)).bind fun b => (if b.2.2.2 = true then (if (rd_T122 ds (wrap64 (x.f1 - 1))).f0 = x.f2 then impl_MemOk.l0 k ws (ws.length : Int) ((i + 1 : Nat) : Int) ws ds else some false) else some false)) else none) else none)) else some false) (fun k => ?_) ?_
      · simp only [impl_MemOk.l0, impl_WordOk_eq, Option.bind_some, hrd]
        rw [if_pos (by omega), if_pos (by omega), if_pos (by omega), wrap_up i (by omega)]
      · cases hok : wordOk x.f0 x.f1 x.f2 (ds.length : Int)
        · exact Ev.now _
        · simp only [if_true, Bool.true_and]
          rcases wordOk_T _ _ _ _ hok with h0 | ⟨h1, h2⟩
          · simp only [if_pos h0, decide_eq_true h0, Bool.true_or, Bool.true_and]
            exact ih
          · have h0 : ¬ x.f1 = 0 := by omega
            have e2 : wrap64 (x.f1 - 1) = x.f1 - 1 := by unfold wrap64; omega
            have p3 : 0 ≤ x.f1 - 1 := by omega
            have p4 : x.f1 - 1 < (ds.length : Int) := by omega
            simp only [if_neg h0, e2, if_pos p3, if_pos p4, decide_eq_false h0, Bool.false_or]
            obtain ⟨j, hj⟩ : ∃ j : Nat, x.f1 - 1 = (j : Int) := ⟨(x.f1 - 1).toNat, by omega⟩
            have hjl : j < ds.length := by omega
            rw [hj, rdT_Desc ds j hjl]
            refine Ev.bind (impl_Entries_ev _ _ _ _ _ _ (hd.2 ds[j] (List.getElem_mem hjl)).1) ?_
            cases (entF (i : Int) (ds[j]).f2).2.2.2
            · exact Ev.now _
            · simp only [if_true, Bool.true_and]
              exact Ev_ifD _ fun _ => ih
  have hj : ∀ b : Bool, Ev (fun k => impl_MemOk.j0 k b ws ds) (!b && wordsFrom ds 0 ws) := by
    intro b
    refine Ev.step (f := fun k => if b = true then some false else impl_MemOk.l0 k ws (ws.length : Int) 0 ws ds) (fun k => by simp only [impl_MemOk.j0]) ?_
    cases b
    · exact key1 0 (Nat.zero_le _)
    · exact Ev.now _
  unfold impl_MemOk.f memOk
  by_cases h : ws.length = 20
  · have h' : (ws.length : Int) = 20 := by omega
    simp only [if_pos h', decide_eq_true h, Bool.true_and, impl_from_eq, Option.bind_some]
    cases inR (ds.length : Int) 1 4
    · exact hj true
    · simp only [if_true, Bool.true_and]
      refine Ev.bind (has_bad ds hd) ?_
      have := hj (!ds.all ndesc)
      rwa [Bool.not_not] at this
  · have h' : ¬ (ws.length : Int) = 20 := by omega
    simp only [if_neg h', decide_eq_false h, Bool.false_and]
    exact hj true

theorem FnExactMemOk (l0_0 : List S128) (l0_1 : List S116) (gl0_0 : (fun l : List S128 => l.length ≤ maxLen ∧ ∀ x ∈ l, good128 x) l0_0) (gl0_1 : (fun l : List S116 => l.length ≤ maxLen ∧ ∀ x ∈ l, good116 x) l0_1) : ∃ k, laws_FnExactMemOk.f k l0_0 l0_1 = some true := by
  refine Ev.rounds (r := true) ?_
  unfold laws_FnExactMemOk.f
  have hg : ∀ y ∈ l0_1, y.f2.length ≤ maxLen ∧ y.f3.f1.length ≤ maxLen := fun y hy => by
    have := gl0_1.2 y hy
    exact ⟨this.2.2.1.1, this.2.2.2.2.1⟩
  obtain ⟨r, er, pr⟩ := laws_szMem_ev l0_0 l0_1 gl0_0.1 gl0_1.1 hg 1048576 (by omega) (by omega)
  refine Ev.bind er ?_
  by_cases c : r < 0
  · simp only [if_pos c]; exact Ev.now _
  simp only [if_neg c]
  obtain ⟨hl0, hl1⟩ := pr (by omega)
  have hw : (l0_0.map conv128).length ≤ 1048576 := by simpa using hl0
  have hd := small116_map l0_1 hl1
  refine Ev.bind (laws_toMem_ev l0_0 l0_1 hl0 hl1) ?_
  refine Ev.bind (spec_MemOk_ev _ _ hw hd) ?_
  refine Ev.bind (laws_toMem_ev l0_0 l0_1 hl0 hl1) ?_
  refine Ev.bind (impl_MemOk_ev _ _ hw hd) ?_
  simp only [bne_self_eq_false, Bool.false_eq_true, if_false]
  refine Ev.bind (laws_toMem_ev l0_0 l0_1 hl0 hl1) ?_
  refine Ev.bind (laws_eqMem_refl _ _ hw hd) ?_
  exact Ev.now _

end Go.Proofs.Ytblpbhhomocfbaa.Pure
