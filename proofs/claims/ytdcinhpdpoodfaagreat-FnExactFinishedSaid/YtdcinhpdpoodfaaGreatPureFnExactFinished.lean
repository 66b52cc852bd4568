/- The pure statement behind the law FnExactFinished: over plain values. No condition beyond that numbers are of their kind and lengths below 2^63. -/
import Derived.Test.YtdcinhpdpoodfaaGreatOpnFnExactFinished
namespace Go.Proofs.YtdcinhpdpoodfaaGreat.Pure
open Go.RowKit Go.Proofs.YtdcinhpdpoodfaaGreat.Op Go.Proofs.YtdcinhpdpoodfaaGreatW.PrintWords Go.Proofs.YtdcinhpdpoodfaaGreatW.PrintLast Go.Proofs.YtdcinhpdpoodfaaGreat.PFnExactFinished Go.Proofs.YtdcinhpdpoodfaaGreat.fnExactFinished
set_option linter.unusedVariables false
set_option linter.unusedSimpArgs false
theorem Ev.now {α : Type} (r : α) : Ev (fun _ => some r) r := ⟨0, fun _ _ => rfl⟩
theorem Ev.rounds {α : Type} {g : Nat → Option α} {r : α} (h : Ev g r) : ∃ k, g k = some r := by
 obtain ⟨K, hK⟩ := h
 exact ⟨K, hK K (Nat.le_refl K)⟩
theorem Ev_at {α : Type} {g : Nat → Option α} {r : α} (n : Nat) (h : ∀ k, g (k + n) = some r) : Ev g r := ⟨n, fun k hk => by
 obtain ⟨m, rfl⟩ : ∃ m, k = m + n := ⟨k - n, by omega⟩
 exact h m⟩
theorem Ev_down {α : Type} {L : Nat → Nat → Option α} {r : α} (n : Nat) (hn : Ev (L n) r) (hs : ∀ i, i < n → Ev (L (i + 1)) r → Ev (L i) r) : ∀ i, i ≤ n → Ev (L i) r := by
 have key : ∀ d i, i + d = n → Ev (L i) r := by
  intro d
  induction d with
  | zero => intro i h; obtain rfl : i = n := (by omega); exact hn
  | succ d ih => intro i h; exact hs i (by omega) (ih (i + 1) (by omega))
 exact fun i h => key (n - i) i (by omega)
theorem wrap_up (i : Nat) (h : i < 9223372036854775807) : wrap64 ((i : Int) + 1) = ((i + 1 : Nat) : Int) := by unfold wrap64; omega
theorem set_fill {α β : Type} (l : List α) (i : Nat) (hi : i < l.length) (z : β) (f : α → β) (v : β) (hv : v = f (l[i]'hi)) :
  ((l.take i).map f ++ List.replicate (l.length - i) z).set (i : Int).toNat v = (l.take (i + 1)).map f ++ List.replicate (l.length - (i + 1)) z := by
 subst hv
 have h1 : ((l.take i).map f).length = i := by simp; omega
 rw [Int.toNat_natCast, List.set_append, if_neg (by omega), h1, Nat.sub_self]
 obtain ⟨m, hm⟩ : ∃ m, l.length - i = m + 1 := ⟨l.length - i - 1, by omega⟩
 rw [hm, List.replicate_succ, List.set_cons_zero, show l.length - (i + 1) = m by omega, List.take_succ_eq_append_getElem hi, List.map_append, List.append_assoc]
 rfl
theorem set_fill_id {α : Type} (l : List α) (i : Nat) (hi : i < l.length) (z : α) (v : α) (hv : v = l[i]'hi) :
  (l.take i ++ List.replicate (l.length - i) z).set (i : Int).toNat v = l.take (i + 1) ++ List.replicate (l.length - (i + 1)) z := by
 have := set_fill l i hi z id v hv
 simpa using this
theorem Ev_downR {α : Type} {L : Nat → Nat → Option α} {R : Nat → α} (n : Nat) (hn : Ev (L n) (R n)) (hs : ∀ i, i < n → Ev (L (i + 1)) (R (i + 1)) → Ev (L i) (R i)) : ∀ i, i ≤ n → Ev (L i) (R i) := by
 have key : ∀ d i, i + d = n → Ev (L i) (R i) := by
  intro d
  induction d with
  | zero => intro i h; obtain rfl : i = n := (by omega); exact hn
  | succ d ih => intro i h; exact hs i (by omega) (ih (i + 1) (by omega))
 exact fun i h => key (n - i) i (by omega)
theorem rd_at (l : List Int) (i : Nat) (hi : i < l.length) : rd l (i : Int) = l[i] := by simp [rd, List.getD_eq_getElem?_getD, hi]
def inR (x lo hi : Int) : Bool := decide (lo ≤ x) && decide (x ≤ hi)
def keyOk (k : Int) : Bool := inR k 0 3
def valOk (v : Int) : Bool := inR v 1 6
def isClass (c : Int) : Bool := inR c 0 2
theorem spec_l1In_eq (x lo hi : Int) : spec_l1In.f x lo hi = some (inR x lo hi) := by
 unfold spec_l1In.f inR
 by_cases h : lo ≤ x <;> simp [h]
theorem impl_from_eq (x lo hi : Int) : impl_from.f x lo hi = some (inR x lo hi) := by
 unfold impl_from.f inR
 by_cases h : lo ≤ x <;> simp [h]
theorem spec_KeyOk_eq (x : Int) : spec_KeyOk.f x = some (keyOk x) := by simp [spec_KeyOk.f, spec_l1In_eq, keyOk]
theorem impl_KeyOk_eq (x : Int) : impl_KeyOk.f x = some (keyOk x) := by simp [impl_KeyOk.f, impl_from_eq, keyOk]
theorem spec_ValOk_eq (x : Int) : spec_ValOk.f x = some (valOk x) := by simp [spec_ValOk.f, spec_l1In_eq, valOk]
theorem impl_ValOk_eq (x : Int) : impl_ValOk.f x = some (valOk x) := by simp [impl_ValOk.f, impl_from_eq, valOk]
def opOk (o k v : Int) : Bool :=
 if o = 1 ∨ o = 2 then keyOk k && valOk v
 else if o = 3 ∨ o = 4 then keyOk k && v == 0
 else if o = 5 ∨ o = 10 then k == 0 && valOk v
 else if o = 6 then isClass k && v == 0
 else if o = 7 ∨ o = 8 ∨ o = 9 then k == 0 && v == 0
 else false
theorem impl_isClass_eq (x : Int) : impl_isClass.f x = some (isClass x) := by simp [impl_isClass.f, impl_from_eq, isClass]
theorem spec_l4Key_eq (x : Int) : spec_l4Key.f x = some (inR x 1 4) := by simp [spec_l4Key.f, spec_l1In_eq]
theorem op_cases (o : Int) : o = 1 ∨ o = 2 ∨ o = 3 ∨ o = 4 ∨ o = 5 ∨ o = 6 ∨ o = 7 ∨ o = 8 ∨ o = 9 ∨ o = 10 ∨ (o < 1 ∨ 10 < o) := by omega
theorem spec_l4Val_eq (o : Int) : spec_l4Val.f o = some (o == 1 || o == 2 || o == 5 || o == 10) := by
 unfold spec_l4Val.f
 by_cases h1 : o = 1 <;> by_cases h2 : o = 2 <;> by_cases h3 : o = 5 <;> simp [h1, h2, h3]
theorem bsel2 (a : Bool) (x : Bool) : (if a = true then some x else some false) = some (a && x) := by cases a <;> rfl
theorem spec_OpOk_eq (o k v : Int) (n : Nat) : spec_OpOk.f (n + 2) o k v = some (opOk o k v) := by
 simp only [spec_OpOk.f, spec_OpOk.j0, spec_OpOk.j1, spec_l1In_eq, spec_l4Key_eq, spec_KeyOk_eq, spec_ValOk_eq, spec_l4Val_eq, Option.bind_some, bsel2, opOk, isClass]
 rcases op_cases o with h | h | h | h | h | h | h | h | h | h | h
 case inr.inr.inr.inr.inr.inr.inr.inr.inr.inr =>
  have e : inR o 1 10 = false := by simp [inR]; omega
  rw [e, if_neg (by simp), if_neg (by omega), if_neg (by omega), if_neg (by omega), if_neg (by omega), if_neg (by omega)]
 all_goals
  subst h
  simp [inR]
theorem impl_OpOk_eq (o k v : Int) (n : Nat) : impl_OpOk.f (n + 3) o k v = some (opOk o k v) := by
 simp only [impl_OpOk.f, impl_OpOk.j0, impl_OpOk.j1, impl_OpOk.j2, impl_from_eq, impl_KeyOk_eq, impl_ValOk_eq, impl_isClass_eq, Option.bind_some, bsel2, opOk]
 rcases op_cases o with h | h | h | h | h | h | h | h | h | h | h
 case inr.inr.inr.inr.inr.inr.inr.inr.inr.inr =>
  have e1 : o ≠ 1 := by omega
  have e2 : o ≠ 2 := by omega
  have e3 : o ≠ 3 := by omega
  have e4 : o ≠ 4 := by omega
  have e5 : o ≠ 5 := by omega
  have e6 : o ≠ 6 := by omega
  have e7 : o ≠ 7 := by omega
  have e8 : o ≠ 8 := by omega
  have e9 : o ≠ 9 := by omega
  have e10 : o ≠ 10 := by omega
  simp [e1, e2, e3, e4, e5, e6, e7, e8, e9, e10]
 all_goals
  subst h
  by_cases h3 : k = 0 <;> simp [h3]
def wordOk (n t s th : Int) : Bool := if t = 0 then inR n 0 1000 && s == 0 else n == 0 && inR t 1 th && inR s 1 1000000
theorem spec_WordOk_eq (n t s th : Int) : spec_WordOk.f n t s th = some (wordOk n t s th) := by
 unfold spec_WordOk.f wordOk
 simp only [spec_l1In_eq, Option.bind_some]
 by_cases h1 : t = 0 <;> by_cases h2 : s = 0 <;> by_cases h3 : n = 0 <;> cases h4 : inR t 1 th <;> simp [h1, h2, h3, h4]
theorem impl_WordOk_eq (n t s th : Int) : impl_WordOk.f n t s th = some (wordOk n t s th) := by
 unfold impl_WordOk.f wordOk
 simp only [impl_isWordNum.f, impl_from_eq, Option.bind_some]
 by_cases h1 : t = 0 <;> by_cases h2 : n = 0 <;> cases h3 : inR n 0 1000 <;> cases h4 : inR t 1 th <;> simp_all
def conv207 (x : S207) : S39 := ⟨x.f0, x.f1, x.f2⟩
theorem laws_toWord_eq (a0 : Int) (a1 : Int) (a2 : Int) : laws_toWord.f a0 a1 a2 = some (a0, a1, a2) := rfl
theorem laws_eqWord_refl (a0 : Int) (a1 : Int) (a2 : Int) : laws_eqWord.f a0 a1 a2 a0 a1 a2 = some true := by simp [laws_eqWord.f]
theorem laws_toWordS_ev (l : List S207) (h : (l.length ≤ 1048576)) : Ev (fun k => laws_toWordS.f k l) (l.map conv207) := by
 have hl : l.length ≤ 1048576 := h
 have key : ∀ i, i ≤ l.length → Ev (fun k => laws_toWordS.l0 k l ((l.take i).map conv207 ++ List.replicate (l.length - i) z39) (i : Int)) (l.map conv207) := by
  refine Ev_down (L := fun i k => laws_toWordS.l0 k l ((l.take i).map conv207 ++ List.replicate (l.length - i) z39) (i : Int)) l.length ?_ ?_
  ·refine Ev_at 1 (fun k => ?_)
   simp only [laws_toWordS.l0]
   rw [if_neg (by omega)]
   simp
  ·intro i hi ih
   refine Ev.step (f := fun k => laws_toWordS.l0 k l ((l.take (i+1)).map conv207 ++ List.replicate (l.length - (i+1)) z39) ((i+1 : Nat) : Int)) (fun k => ?_) ?_
   ·simp only [laws_toWordS.l0]
    rw [if_pos (by omega), if_pos (by omega)]
    simp only [laws_toWord_eq, Option.bind_some]
    rw [if_pos (by simp; omega), wrap_up i (by omega)]
    congr 1
    exact set_fill l i hi z39 conv207 _ (by simp [rd_T207, conv207, List.getD_eq_getElem?_getD, hi])
   ·exact ih
 have := key 0 (Nat.zero_le _)
 have hc : ((l.length : Int) : Int).toNat ≤ 11728124029610 := by omega
 unfold laws_toWordS.f
 simp only [if_pos (Int.natCast_nonneg l.length), if_pos hc]
 simpa using this
theorem laws_eqWordS_refl (l : List S39) (h : (l.length ≤ 1048576)) : Ev (fun k => laws_eqWordS.f k l l) true := by
 have hl : l.length ≤ 1048576 := h
 have key : ∀ i, i ≤ l.length → Ev (fun k => laws_eqWordS.l0 k l l (i : Int)) true := by
  refine Ev_down (L := fun i k => laws_eqWordS.l0 k l l (i : Int)) l.length ?_ ?_
  ·refine Ev_at 1 (fun k => ?_)
   simp only [laws_eqWordS.l0]
   rw [if_neg (by omega)]
  ·intro i hi ih
   refine Ev.step (f := fun k => laws_eqWordS.l0 k l l ((i+1 : Nat) : Int)) (fun k => ?_) ih
   simp only [laws_eqWordS.l0]
   rw [if_pos (by omega), if_pos (by omega), if_pos (by omega), laws_eqWord_refl, Option.bind_some, if_pos rfl, wrap_up i (by omega)]
 have := key 0 (Nat.zero_le _)
 unfold laws_eqWordS.f
 simp only [if_pos]
 exact this
theorem laws_szWordS_some (l : List S207) (hb : l.length ≤ maxLen) (left : Int) (h0 : 0 ≤ left) (h1 : left ≤ 1048576) : ∃ r, laws_szWordS.f l left = some r ∧ (0 ≤ r → r ≤ left ∧ l.length ≤ 1048576) := by
 have hm : maxLen = 9223372036854775807 := rfl
 have hw : wrap64 (left - (l.length : Int)) = left - (l.length : Int) := by unfold wrap64; omega
 unfold laws_szWordS.f
 rw [hw]
 by_cases c : left - (l.length : Int) < 0
 ·exact ⟨-1, by rw [if_pos c], fun h => by omega⟩
 ·exact ⟨_, by rw [if_neg c], fun _ => by omega⟩
def conv236 (x : S236) : S37 := ⟨x.f0, x.f1, x.f2⟩
theorem laws_toEntry_eq (a0 : Int) (a1 : Int) (a2 : Int) : laws_toEntry.f a0 a1 a2 = some (a0, a1, a2) := rfl
theorem laws_eqEntry_refl (a0 : Int) (a1 : Int) (a2 : Int) : laws_eqEntry.f a0 a1 a2 a0 a1 a2 = some true := by simp [laws_eqEntry.f]
theorem laws_toEntryS_ev (l : List S236) (h : (l.length ≤ 1048576)) : Ev (fun k => laws_toEntryS.f k l) (l.map conv236) := by
 have hl : l.length ≤ 1048576 := h
 have key : ∀ i, i ≤ l.length → Ev (fun k => laws_toEntryS.l0 k l ((l.take i).map conv236 ++ List.replicate (l.length - i) z37) (i : Int)) (l.map conv236) := by
  refine Ev_down (L := fun i k => laws_toEntryS.l0 k l ((l.take i).map conv236 ++ List.replicate (l.length - i) z37) (i : Int)) l.length ?_ ?_
  ·refine Ev_at 1 (fun k => ?_)
   simp only [laws_toEntryS.l0]
   rw [if_neg (by omega)]
   simp
  ·intro i hi ih
   refine Ev.step (f := fun k => laws_toEntryS.l0 k l ((l.take (i+1)).map conv236 ++ List.replicate (l.length - (i+1)) z37) ((i+1 : Nat) : Int)) (fun k => ?_) ?_
   ·simp only [laws_toEntryS.l0]
    rw [if_pos (by omega), if_pos (by omega)]
    simp only [laws_toEntry_eq, Option.bind_some]
    rw [if_pos (by simp; omega), wrap_up i (by omega)]
    congr 1
    exact set_fill l i hi z37 conv236 _ (by simp [rd_T236, conv236, List.getD_eq_getElem?_getD, hi])
   ·exact ih
 have := key 0 (Nat.zero_le _)
 have hc : ((l.length : Int) : Int).toNat ≤ 11728124029610 := by omega
 unfold laws_toEntryS.f
 simp only [if_pos (Int.natCast_nonneg l.length), if_pos hc]
 simpa using this
theorem laws_eqEntryS_refl (l : List S37) (h : (l.length ≤ 1048576)) : Ev (fun k => laws_eqEntryS.f k l l) true := by
 have hl : l.length ≤ 1048576 := h
 have key : ∀ i, i ≤ l.length → Ev (fun k => laws_eqEntryS.l0 k l l (i : Int)) true := by
  refine Ev_down (L := fun i k => laws_eqEntryS.l0 k l l (i : Int)) l.length ?_ ?_
  ·refine Ev_at 1 (fun k => ?_)
   simp only [laws_eqEntryS.l0]
   rw [if_neg (by omega)]
  ·intro i hi ih
   refine Ev.step (f := fun k => laws_eqEntryS.l0 k l l ((i+1 : Nat) : Int)) (fun k => ?_) ih
   simp only [laws_eqEntryS.l0]
   rw [if_pos (by omega), if_pos (by omega), if_pos (by omega), laws_eqEntry_refl, Option.bind_some, if_pos rfl, wrap_up i (by omega)]
 have := key 0 (Nat.zero_le _)
 unfold laws_eqEntryS.f
 simp only [if_pos]
 exact this
theorem laws_szEntryS_some (l : List S236) (hb : l.length ≤ maxLen) (left : Int) (h0 : 0 ≤ left) (h1 : left ≤ 1048576) : ∃ r, laws_szEntryS.f l left = some r ∧ (0 ≤ r → r ≤ left ∧ l.length ≤ 1048576) := by
 have hm : maxLen = 9223372036854775807 := rfl
 have hw : wrap64 (left - (l.length : Int)) = left - (l.length : Int) := by unfold wrap64; omega
 unfold laws_szEntryS.f
 rw [hw]
 by_cases c : left - (l.length : Int) < 0
 ·exact ⟨-1, by rw [if_pos c], fun h => by omega⟩
 ·exact ⟨_, by rw [if_neg c], fun _ => by omega⟩
theorem laws_toIntS_ev (l : List Int) (h : (l.length ≤ 1048576)) : Ev (fun k => laws_toIntS.f k l) (l) := by
 have hl : l.length ≤ 1048576 := h
 have key : ∀ i, i ≤ l.length → Ev (fun k => laws_toIntS.l0 k l ((l.take i) ++ List.replicate (l.length - i) 0) (i : Int)) (l) := by
  refine Ev_down (L := fun i k => laws_toIntS.l0 k l ((l.take i) ++ List.replicate (l.length - i) 0) (i : Int)) l.length ?_ ?_
  ·refine Ev_at 1 (fun k => ?_)
   simp only [laws_toIntS.l0]
   rw [if_neg (by omega)]
   simp
  ·intro i hi ih
   refine Ev.step (f := fun k => laws_toIntS.l0 k l ((l.take (i+1)) ++ List.replicate (l.length - (i+1)) 0) ((i+1 : Nat) : Int)) (fun k => ?_) ?_
   ·simp only [laws_toIntS.l0]
    rw [if_pos (by omega), if_pos (by omega)]
    rw [if_pos (by simp; omega), wrap_up i (by omega)]
    congr 1
    exact set_fill_id l i hi 0 _ (by simp [rd, List.getD_eq_getElem?_getD, hi])
   ·exact ih
 have := key 0 (Nat.zero_le _)
 have hc : ((l.length : Int) : Int).toNat ≤ 35184372088832 := by omega
 unfold laws_toIntS.f
 simp only [if_pos (Int.natCast_nonneg l.length), if_pos hc]
 simpa using this
theorem laws_eqIntS_refl (l : List Int) (h : (l.length ≤ 1048576)) : Ev (fun k => laws_eqIntS.f k l l) true := by
 have hl : l.length ≤ 1048576 := h
 have key : ∀ i, i ≤ l.length → Ev (fun k => laws_eqIntS.l0 k l l (i : Int)) true := by
  refine Ev_down (L := fun i k => laws_eqIntS.l0 k l l (i : Int)) l.length ?_ ?_
  ·refine Ev_at 1 (fun k => ?_)
   simp only [laws_eqIntS.l0]
   rw [if_neg (by omega)]
  ·intro i hi ih
   refine Ev.step (f := fun k => laws_eqIntS.l0 k l l ((i+1 : Nat) : Int)) (fun k => ?_) ih
   simp only [laws_eqIntS.l0]
   rw [if_pos (by omega), if_pos (by omega), if_pos (by omega), if_pos trivial, wrap_up i (by omega)]
 have := key 0 (Nat.zero_le _)
 unfold laws_eqIntS.f
 simp only [if_pos]
 exact this
theorem laws_szIntS_some (l : List Int) (hb : l.length ≤ maxLen) (left : Int) (h0 : 0 ≤ left) (h1 : left ≤ 1048576) : ∃ r, laws_szIntS.f l left = some r ∧ (0 ≤ r → r ≤ left ∧ l.length ≤ 1048576) := by
 have hm : maxLen = 9223372036854775807 := rfl
 have hw : wrap64 (left - (l.length : Int)) = left - (l.length : Int) := by unfold wrap64; omega
 unfold laws_szIntS.f
 rw [hw]
 by_cases c : left - (l.length : Int) < 0
 ·exact ⟨-1, by rw [if_pos c], fun h => by omega⟩
 ·exact ⟨_, by rw [if_neg c], fun _ => by omega⟩
theorem laws_toRes_ev (a0 : Int) (l1 : List Int) (h1 : (l1.length ≤ 1048576)) : Ev (fun k => laws_toRes.f k a0 l1) (a0, l1) := by
 unfold laws_toRes.f
 try simp only [Option.bind_some]
 refine Ev.bind (laws_toIntS_ev l1 h1) ?_
 exact Ev.now _
theorem laws_eqRes_refl (a0 : Int) (l1 : List Int) (h1 : (l1.length ≤ 1048576)) : Ev (fun k => laws_eqRes.f k a0 l1 a0 l1) true := by
 unfold laws_eqRes.f
 try simp only [if_pos, Option.bind_some]
 refine Ev.bind (laws_eqIntS_refl l1 h1) ?_
 try simp only [if_true, if_pos, bne_self_eq_false, Bool.false_eq_true, if_false]
 exact Ev.now _
theorem laws_szRes_some (a0 : Int) (l1 : List Int) (b1 : l1.length ≤ maxLen) (left : Int) (h0 : 0 ≤ left) (h1 : left ≤ 1048576) : ∃ r, laws_szRes.f a0 l1 left = some r ∧ (0 ≤ r → r ≤ left ∧ (l1.length ≤ 1048576)) := by
 unfold laws_szRes.f
 obtain ⟨r0, e0, p0⟩ := laws_szIntS_some l1 b1 left (by omega) (by omega)
 simp only [e0, Option.bind_some]
 by_cases c0 : r0 < 0
 ·exact ⟨-1, by simp [c0], fun h => by omega⟩
 simp only [if_neg c0]
 have q0 := p0 (by omega)
 refine ⟨_, rfl, fun _ => ⟨by omega, ?_⟩⟩
 simp_all
def conv201 (x : S201) : S52 := ⟨x.f0, x.f1, x.f2.map conv236, ⟨x.f3.f0, x.f3.f1⟩⟩
theorem laws_toDesc_ev (a0 : Int) (a1 : Int) (l2 : List S236) (a3 : Int) (l4 : List Int) (h2 : (l2.length ≤ 1048576)) (h4 : (l4.length ≤ 1048576)) : Ev (fun k => laws_toDesc.f k a0 a1 l2 a3 l4) (a0, a1, l2.map conv236, a3, l4) := by
 unfold laws_toDesc.f
 try simp only [Option.bind_some]
 refine Ev.bind (laws_toEntryS_ev l2 h2) ?_
 refine Ev.bind (laws_toRes_ev a3 l4 h4) ?_
 exact Ev.now _
theorem laws_eqDesc_refl (a0 : Int) (a1 : Int) (l2 : List S37) (a3 : Int) (l4 : List Int) (h2 : (l2.length ≤ 1048576)) (h4 : (l4.length ≤ 1048576)) : Ev (fun k => laws_eqDesc.f k a0 a1 l2 a3 l4 a0 a1 l2 a3 l4) true := by
 unfold laws_eqDesc.f
 try simp only [if_pos, Option.bind_some]
 refine Ev.bind (laws_eqEntryS_refl l2 h2) ?_
 try simp only [if_true, if_pos, bne_self_eq_false, Bool.false_eq_true, if_false]
 refine Ev.bind (laws_eqRes_refl a3 l4 h4) ?_
 try simp only [if_true, if_pos, bne_self_eq_false, Bool.false_eq_true, if_false]
 exact Ev.now _
theorem laws_szDesc_some (a0 : Int) (a1 : Int) (l2 : List S236) (a3 : Int) (l4 : List Int) (b2 : l2.length ≤ maxLen) (b4 : l4.length ≤ maxLen) (left : Int) (h0 : 0 ≤ left) (h1 : left ≤ 1048576) : ∃ r, laws_szDesc.f a0 a1 l2 a3 l4 left = some r ∧ (0 ≤ r → r ≤ left ∧ (l2.length ≤ 1048576) ∧ (l4.length ≤ 1048576)) := by
 unfold laws_szDesc.f
 obtain ⟨r0, e0, p0⟩ := laws_szEntryS_some l2 b2 left (by omega) (by omega)
 simp only [e0, Option.bind_some]
 by_cases c0 : r0 < 0
 ·exact ⟨-1, by simp [c0], fun h => by omega⟩
 simp only [if_neg c0]
 have q0 := p0 (by omega)
 obtain ⟨r1, e1, p1⟩ := laws_szRes_some a3 l4 b4 r0 (by omega) (by omega)
 simp only [e1, Option.bind_some]
 by_cases c1 : r1 < 0
 ·exact ⟨-1, by simp [c1], fun h => by omega⟩
 simp only [if_neg c1]
 have q1 := p1 (by omega)
 refine ⟨_, rfl, fun _ => ⟨by omega, ?_⟩⟩
 simp_all
theorem laws_toDescS_ev (l : List S201) (h : ((l.length ≤ 1048576) ∧ ∀ y ∈ l, (y.f2.length ≤ 1048576) ∧ (y.f3.f1.length ≤ 1048576))) : Ev (fun k => laws_toDescS.f k l) (l.map conv201) := by
 have hl : l.length ≤ 1048576 := h.1
 have key : ∀ i, i ≤ l.length → Ev (fun k => laws_toDescS.l0 k l ((l.take i).map conv201 ++ List.replicate (l.length - i) z52) (i : Int)) (l.map conv201) := by
  refine Ev_down (L := fun i k => laws_toDescS.l0 k l ((l.take i).map conv201 ++ List.replicate (l.length - i) z52) (i : Int)) l.length ?_ ?_
  ·refine Ev_at 1 (fun k => ?_)
   simp only [laws_toDescS.l0]
   rw [if_neg (by omega)]
   simp
  ·intro i hi ih
   have hlen : (i : Int) < (((l.take i).map conv201 ++ List.replicate (l.length - i) z52).length : Int) := by simp; omega
   have hrd : rd_T201 l (i : Int) = l[i] := by simp [rd_T201, List.getD_eq_getElem?_getD, hi]
   obtain ⟨q2, q4⟩ := h.2 l[i] (List.getElem_mem hi)
   refine Ev.step (f := fun k => (laws_toDesc.f k (l[i]).f0 (l[i]).f1 (l[i]).f2 (l[i]).f3.f0 (l[i]).f3.f1).bind fun t => laws_toDescS.l0 k l (((l.take i).map conv201 ++ List.replicate (l.length - i) z52).set (i : Int).toNat (⟨t.1, t.2.1, t.2.2.1, (⟨t.2.2.2.1, t.2.2.2.2⟩ : S31)⟩ : S52)) ((i+1 : Nat) : Int)) (fun k => ?_) ?_
   ·simp only [laws_toDescS.l0]
    rw [if_pos (by omega), if_pos (by omega), hrd, wrap_up i (by omega)]
    simp only [if_pos hlen]
   ·refine Ev.bind (laws_toDesc_ev (l[i]).f0 (l[i]).f1 (l[i]).f2 (l[i]).f3.f0 (l[i]).f3.f1 q2 q4) ?_
    rw [← set_fill l i hi z52 conv201 (conv201 l[i]) rfl] at ih
    exact ih
 have := key 0 (Nat.zero_le _)
 have hc : ((l.length : Int) : Int).toNat ≤ 3909374676536 := by omega
 unfold laws_toDescS.f
 simp only [if_pos (Int.natCast_nonneg l.length), if_pos hc]
 simpa using this
theorem small201_map (l : List S201) (h : ((l.length ≤ 1048576) ∧ ∀ y ∈ l, (y.f2.length ≤ 1048576) ∧ (y.f3.f1.length ≤ 1048576))) : (((l.map conv201).length ≤ 1048576) ∧ ∀ y ∈ (l.map conv201), (y.f2.length ≤ 1048576) ∧ (y.f3.f1.length ≤ 1048576)) := by
 refine ⟨by simpa using h.1, fun y hy => ?_⟩
 obtain ⟨x, hx, rfl⟩ := List.mem_map.1 hy
 have := h.2 x hx
 simpa [conv201] using this
theorem laws_eqDescS_refl (l : List S52) (h : ((l.length ≤ 1048576) ∧ ∀ y ∈ l, (y.f2.length ≤ 1048576) ∧ (y.f3.f1.length ≤ 1048576))) : Ev (fun k => laws_eqDescS.f k l l) true := by
 have hl : l.length ≤ 1048576 := h.1
 have key : ∀ i, i ≤ l.length → Ev (fun k => laws_eqDescS.l0 k l l (i : Int)) true := by
  refine Ev_down (L := fun i k => laws_eqDescS.l0 k l l (i : Int)) l.length ?_ ?_
  ·refine Ev_at 1 (fun k => ?_)
   simp only [laws_eqDescS.l0]
   rw [if_neg (by omega)]
  ·intro i hi ih
   have hrd : rd_T52 l (i : Int) = l[i] := by simp [rd_T52, List.getD_eq_getElem?_getD, hi]
   obtain ⟨q2, q4⟩ := h.2 l[i] (List.getElem_mem hi)
   refine Ev.step (f := fun k => (laws_eqDesc.f k (l[i]).f0 (l[i]).f1 (l[i]).f2 (l[i]).f3.f0 (l[i]).f3.f1 (l[i]).f0 (l[i]).f1 (l[i]).f2 (l[i]).f3.f0 (l[i]).f3.f1).bind fun t => if t = true then laws_eqDescS.l0 k l l ((i+1 : Nat) : Int) else none) (fun k => ?_) ?_
   ·simp only [laws_eqDescS.l0]
    rw [if_pos (by omega), if_pos (by omega), if_pos (by omega), hrd, wrap_up i (by omega)]
   ·refine Ev.bind (laws_eqDesc_refl (l[i]).f0 (l[i]).f1 (l[i]).f2 (l[i]).f3.f0 (l[i]).f3.f1 q2 q4) ?_
    simp only [if_true]
    exact ih
 have := key 0 (Nat.zero_le _)
 unfold laws_eqDescS.f
 simp only [if_pos]
 exact this
theorem laws_szDescS_ev (l : List S201) (hb : l.length ≤ maxLen) (hb2 : ∀ y ∈ l, y.f2.length ≤ maxLen ∧ y.f3.f1.length ≤ maxLen) (left : Int) (h0 : 0 ≤ left) (h1 : left ≤ 1048576) : ∃ r, Ev (fun k => laws_szDescS.f k l left) r ∧ (0 ≤ r → r ≤ left ∧ ((l.length ≤ 1048576) ∧ ∀ y ∈ l, (y.f2.length ≤ 1048576) ∧ (y.f3.f1.length ≤ 1048576))) := by
 have hm : maxLen = 9223372036854775807 := rfl
 have hw : wrap64 (left - (l.length : Int)) = left - (l.length : Int) := by unfold wrap64; omega
 have key : ∀ d i : Nat, i + d = l.length → l.length ≤ 1048576 → ∀ a : Int, 0 ≤ a → a ≤ 1048576 → ∃ r, Ev (fun k => laws_szDescS.l0 k l a (i : Int)) r ∧ (0 ≤ r → r ≤ a ∧ ∀ y ∈ l.drop i, (y.f2.length ≤ 1048576) ∧ (y.f3.f1.length ≤ 1048576)) := by
  intro d
  induction d with
  | zero =>
   intro i hi hl a ha0 ha1
   refine ⟨a, Ev_at 1 (fun k => ?_), fun _ => ⟨Int.le_refl _, ?_⟩⟩
   ·simp only [laws_szDescS.l0]
    rw [if_neg (by omega)]
   ·rw [List.drop_eq_nil_of_le (by omega)]; simp
  | succ d ih =>
   intro i hi hl a ha0 ha1
   have hil : i < l.length := by omega
   have hrd : rd_T201 l (i : Int) = l[i] := by simp [rd_T201, List.getD_eq_getElem?_getD, hil]
   obtain ⟨b2, b4⟩ := hb2 l[i] (List.getElem_mem hil)
   obtain ⟨r1, e1, p1⟩ := laws_szDesc_some (l[i]).f0 (l[i]).f1 (l[i]).f2 (l[i]).f3.f0 (l[i]).f3.f1 b2 b4 a ha0 ha1
   by_cases c : r1 < 0
   ·refine ⟨-1, Ev_at 1 (fun k => ?_), fun h => by omega⟩
    simp only [laws_szDescS.l0]
    rw [if_pos (by omega), if_pos (by omega), hrd, e1]
    simp only [Option.bind_some, if_pos c]
   ·obtain ⟨hr1, hr2⟩ := p1 (by omega)
    obtain ⟨r, hr, hp⟩ := ih (i + 1) (by omega) hl r1 (by omega) (by omega)
    refine ⟨r, Ev.step (f := fun k => laws_szDescS.l0 k l r1 ((i + 1 : Nat) : Int)) (fun k => ?_) hr, fun h => ?_⟩
    ·simp only [laws_szDescS.l0]
     rw [if_pos (by omega), if_pos (by omega), hrd, e1, wrap_up i (by omega)]
     simp only [Option.bind_some, if_neg c]
    ·obtain ⟨x1, x2⟩ := hp h
     refine ⟨by omega, ?_⟩
     rw [List.drop_eq_getElem_cons hil]
     intro y hy
     rcases List.mem_cons.1 hy with rfl | hy
     ·exact hr2
     ·exact x2 y hy
 unfold laws_szDescS.f
 simp only [hw]
 by_cases c : left - (l.length : Int) < 0
 ·exact ⟨-1, by simp only [if_pos c]; exact Ev.now _, fun h => by omega⟩
 ·obtain ⟨r, hr, hp⟩ := key l.length 0 (by omega) (by omega) (left - (l.length : Int)) (by omega) (by omega)
  refine ⟨r, by simp only [if_neg c]; exact hr, fun h => ?_⟩
  obtain ⟨x1, x2⟩ := hp h
  exact ⟨by omega, by omega, by simpa using x2⟩
theorem laws_toMem_ev (l0 : List S207) (l1 : List S201) (h0 : (l0.length ≤ 1048576)) (h1 : ((l1.length ≤ 1048576) ∧ ∀ y ∈ l1, (y.f2.length ≤ 1048576) ∧ (y.f3.f1.length ≤ 1048576))) : Ev (fun k => laws_toMem.f k l0 l1) (l0.map conv207, l1.map conv201) := by
 unfold laws_toMem.f
 try simp only [Option.bind_some]
 refine Ev.bind (laws_toWordS_ev l0 h0) ?_
 refine Ev.bind (laws_toDescS_ev l1 h1) ?_
 exact Ev.now _
theorem laws_eqMem_refl (l0 : List S39) (l1 : List S52) (h0 : (l0.length ≤ 1048576)) (h1 : ((l1.length ≤ 1048576) ∧ ∀ y ∈ l1, (y.f2.length ≤ 1048576) ∧ (y.f3.f1.length ≤ 1048576))) : Ev (fun k => laws_eqMem.f k l0 l1 l0 l1) true := by
 unfold laws_eqMem.f
 try simp only [if_pos, Option.bind_some]
 refine Ev.bind (laws_eqWordS_refl l0 h0) ?_
 try simp only [if_true, if_pos, bne_self_eq_false, Bool.false_eq_true, if_false]
 refine Ev.bind (laws_eqDescS_refl l1 h1) ?_
 try simp only [if_true, if_pos, bne_self_eq_false, Bool.false_eq_true, if_false]
 exact Ev.now _
def conv178 (x : S178) : S122 := ⟨x.f0, x.f1, x.f2⟩
theorem laws_toOp_eq (a0 : Int) (a1 : Int) (a2 : Int) : laws_toOp.f a0 a1 a2 = some (a0, a1, a2) := rfl
theorem laws_eqOp_refl (a0 : Int) (a1 : Int) (a2 : Int) : laws_eqOp.f a0 a1 a2 a0 a1 a2 = some true := by simp [laws_eqOp.f]
theorem laws_toOpS_ev (l : List S178) (h : (l.length ≤ 1048576)) : Ev (fun k => laws_toOpS.f k l) (l.map conv178) := by
 have hl : l.length ≤ 1048576 := h
 have key : ∀ i, i ≤ l.length → Ev (fun k => laws_toOpS.l0 k l ((l.take i).map conv178 ++ List.replicate (l.length - i) z122) (i : Int)) (l.map conv178) := by
  refine Ev_down (L := fun i k => laws_toOpS.l0 k l ((l.take i).map conv178 ++ List.replicate (l.length - i) z122) (i : Int)) l.length ?_ ?_
  ·refine Ev_at 1 (fun k => ?_)
   simp only [laws_toOpS.l0]
   rw [if_neg (by omega)]
   simp
  ·intro i hi ih
   refine Ev.step (f := fun k => laws_toOpS.l0 k l ((l.take (i+1)).map conv178 ++ List.replicate (l.length - (i+1)) z122) ((i+1 : Nat) : Int)) (fun k => ?_) ?_
   ·simp only [laws_toOpS.l0]
    rw [if_pos (by omega), if_pos (by omega)]
    simp only [laws_toOp_eq, Option.bind_some]
    rw [if_pos (by simp; omega), wrap_up i (by omega)]
    congr 1
    exact set_fill l i hi z122 conv178 _ (by simp [rd_T178, conv178, List.getD_eq_getElem?_getD, hi])
   ·exact ih
 have := key 0 (Nat.zero_le _)
 have hc : ((l.length : Int) : Int).toNat ≤ 11728124029610 := by omega
 unfold laws_toOpS.f
 simp only [if_pos (Int.natCast_nonneg l.length), if_pos hc]
 simpa using this
theorem laws_eqOpS_refl (l : List S122) (h : (l.length ≤ 1048576)) : Ev (fun k => laws_eqOpS.f k l l) true := by
 have hl : l.length ≤ 1048576 := h
 have key : ∀ i, i ≤ l.length → Ev (fun k => laws_eqOpS.l0 k l l (i : Int)) true := by
  refine Ev_down (L := fun i k => laws_eqOpS.l0 k l l (i : Int)) l.length ?_ ?_
  ·refine Ev_at 1 (fun k => ?_)
   simp only [laws_eqOpS.l0]
   rw [if_neg (by omega)]
  ·intro i hi ih
   refine Ev.step (f := fun k => laws_eqOpS.l0 k l l ((i+1 : Nat) : Int)) (fun k => ?_) ih
   simp only [laws_eqOpS.l0]
   rw [if_pos (by omega), if_pos (by omega), if_pos (by omega), laws_eqOp_refl, Option.bind_some, if_pos rfl, wrap_up i (by omega)]
 have := key 0 (Nat.zero_le _)
 unfold laws_eqOpS.f
 simp only [if_pos]
 exact this
theorem laws_szOpS_some (l : List S178) (hb : l.length ≤ maxLen) (left : Int) (h0 : 0 ≤ left) (h1 : left ≤ 1048576) : ∃ r, laws_szOpS.f l left = some r ∧ (0 ≤ r → r ≤ left ∧ l.length ≤ 1048576) := by
 have hm : maxLen = 9223372036854775807 := rfl
 have hw : wrap64 (left - (l.length : Int)) = left - (l.length : Int) := by unfold wrap64; omega
 unfold laws_szOpS.f
 rw [hw]
 by_cases c : left - (l.length : Int) < 0
 ·exact ⟨-1, by rw [if_pos c], fun h => by omega⟩
 ·exact ⟨_, by rw [if_neg c], fun _ => by omega⟩
def conv224 (x : S224) : S125 := ⟨x.f0, x.f1⟩
theorem laws_toPair_eq (a0 : Int) (a1 : Int) : laws_toPair.f a0 a1 = some (a0, a1) := rfl
theorem laws_eqPair_refl (a0 : Int) (a1 : Int) : laws_eqPair.f a0 a1 a0 a1 = some true := by simp [laws_eqPair.f]
theorem laws_toPairS_ev (l : List S224) (h : (l.length ≤ 1048576)) : Ev (fun k => laws_toPairS.f k l) (l.map conv224) := by
 have hl : l.length ≤ 1048576 := h
 have key : ∀ i, i ≤ l.length → Ev (fun k => laws_toPairS.l0 k l ((l.take i).map conv224 ++ List.replicate (l.length - i) z125) (i : Int)) (l.map conv224) := by
  refine Ev_down (L := fun i k => laws_toPairS.l0 k l ((l.take i).map conv224 ++ List.replicate (l.length - i) z125) (i : Int)) l.length ?_ ?_
  ·refine Ev_at 1 (fun k => ?_)
   simp only [laws_toPairS.l0]
   rw [if_neg (by omega)]
   simp
  ·intro i hi ih
   refine Ev.step (f := fun k => laws_toPairS.l0 k l ((l.take (i+1)).map conv224 ++ List.replicate (l.length - (i+1)) z125) ((i+1 : Nat) : Int)) (fun k => ?_) ?_
   ·simp only [laws_toPairS.l0]
    rw [if_pos (by omega), if_pos (by omega)]
    simp only [laws_toPair_eq, Option.bind_some]
    rw [if_pos (by simp; omega), wrap_up i (by omega)]
    congr 1
    exact set_fill l i hi z125 conv224 _ (by simp [rd_T224, conv224, List.getD_eq_getElem?_getD, hi])
   ·exact ih
 have := key 0 (Nat.zero_le _)
 have hc : ((l.length : Int) : Int).toNat ≤ 17592186044416 := by omega
 unfold laws_toPairS.f
 simp only [if_pos (Int.natCast_nonneg l.length), if_pos hc]
 simpa using this
theorem laws_eqPairS_refl (l : List S125) (h : (l.length ≤ 1048576)) : Ev (fun k => laws_eqPairS.f k l l) true := by
 have hl : l.length ≤ 1048576 := h
 have key : ∀ i, i ≤ l.length → Ev (fun k => laws_eqPairS.l0 k l l (i : Int)) true := by
  refine Ev_down (L := fun i k => laws_eqPairS.l0 k l l (i : Int)) l.length ?_ ?_
  ·refine Ev_at 1 (fun k => ?_)
   simp only [laws_eqPairS.l0]
   rw [if_neg (by omega)]
  ·intro i hi ih
   refine Ev.step (f := fun k => laws_eqPairS.l0 k l l ((i+1 : Nat) : Int)) (fun k => ?_) ih
   simp only [laws_eqPairS.l0]
   rw [if_pos (by omega), if_pos (by omega), if_pos (by omega), laws_eqPair_refl, Option.bind_some, if_pos rfl, wrap_up i (by omega)]
 have := key 0 (Nat.zero_le _)
 unfold laws_eqPairS.f
 simp only [if_pos]
 exact this
theorem laws_szPairS_some (l : List S224) (hb : l.length ≤ maxLen) (left : Int) (h0 : 0 ≤ left) (h1 : left ≤ 1048576) : ∃ r, laws_szPairS.f l left = some r ∧ (0 ≤ r → r ≤ left ∧ l.length ≤ 1048576) := by
 have hm : maxLen = 9223372036854775807 := rfl
 have hw : wrap64 (left - (l.length : Int)) = left - (l.length : Int) := by unfold wrap64; omega
 unfold laws_szPairS.f
 rw [hw]
 by_cases c : left - (l.length : Int) < 0
 ·exact ⟨-1, by rw [if_pos c], fun h => by omega⟩
 ·exact ⟨_, by rw [if_neg c], fun _ => by omega⟩
def conv226 (x : S226) : S42 := ⟨x.f0, x.f1, x.f2, x.f3⟩
theorem laws_toHelp_eq (a0 : Int) (a1 : Int) (a2 : Int) (a3 : Int) : laws_toHelp.f a0 a1 a2 a3 = some (a0, a1, a2, a3) := rfl
theorem laws_eqHelp_refl (a0 : Int) (a1 : Int) (a2 : Int) (a3 : Int) : laws_eqHelp.f a0 a1 a2 a3 a0 a1 a2 a3 = some true := by simp [laws_eqHelp.f]
theorem laws_toHelpS_ev (l : List S226) (h : (l.length ≤ 1048576)) : Ev (fun k => laws_toHelpS.f k l) (l.map conv226) := by
 have hl : l.length ≤ 1048576 := h
 have key : ∀ i, i ≤ l.length → Ev (fun k => laws_toHelpS.l0 k l ((l.take i).map conv226 ++ List.replicate (l.length - i) z42) (i : Int)) (l.map conv226) := by
  refine Ev_down (L := fun i k => laws_toHelpS.l0 k l ((l.take i).map conv226 ++ List.replicate (l.length - i) z42) (i : Int)) l.length ?_ ?_
  ·refine Ev_at 1 (fun k => ?_)
   simp only [laws_toHelpS.l0]
   rw [if_neg (by omega)]
   simp
  ·intro i hi ih
   refine Ev.step (f := fun k => laws_toHelpS.l0 k l ((l.take (i+1)).map conv226 ++ List.replicate (l.length - (i+1)) z42) ((i+1 : Nat) : Int)) (fun k => ?_) ?_
   ·simp only [laws_toHelpS.l0]
    rw [if_pos (by omega), if_pos (by omega)]
    simp only [laws_toHelp_eq, Option.bind_some]
    rw [if_pos (by simp; omega), wrap_up i (by omega)]
    congr 1
    exact set_fill l i hi z42 conv226 _ (by simp [rd_T226, conv226, List.getD_eq_getElem?_getD, hi])
   ·exact ih
 have := key 0 (Nat.zero_le _)
 have hc : ((l.length : Int) : Int).toNat ≤ 8796093022208 := by omega
 unfold laws_toHelpS.f
 simp only [if_pos (Int.natCast_nonneg l.length), if_pos hc]
 simpa using this
theorem laws_eqHelpS_refl (l : List S42) (h : (l.length ≤ 1048576)) : Ev (fun k => laws_eqHelpS.f k l l) true := by
 have hl : l.length ≤ 1048576 := h
 have key : ∀ i, i ≤ l.length → Ev (fun k => laws_eqHelpS.l0 k l l (i : Int)) true := by
  refine Ev_down (L := fun i k => laws_eqHelpS.l0 k l l (i : Int)) l.length ?_ ?_
  ·refine Ev_at 1 (fun k => ?_)
   simp only [laws_eqHelpS.l0]
   rw [if_neg (by omega)]
  ·intro i hi ih
   refine Ev.step (f := fun k => laws_eqHelpS.l0 k l l ((i+1 : Nat) : Int)) (fun k => ?_) ih
   simp only [laws_eqHelpS.l0]
   rw [if_pos (by omega), if_pos (by omega), if_pos (by omega), laws_eqHelp_refl, Option.bind_some, if_pos rfl, wrap_up i (by omega)]
 have := key 0 (Nat.zero_le _)
 unfold laws_eqHelpS.f
 simp only [if_pos]
 exact this
theorem laws_szHelpS_some (l : List S226) (hb : l.length ≤ maxLen) (left : Int) (h0 : 0 ≤ left) (h1 : left ≤ 1048576) : ∃ r, laws_szHelpS.f l left = some r ∧ (0 ≤ r → r ≤ left ∧ l.length ≤ 1048576) := by
 have hm : maxLen = 9223372036854775807 := rfl
 have hw : wrap64 (left - (l.length : Int)) = left - (l.length : Int) := by unfold wrap64; omega
 unfold laws_szHelpS.f
 rw [hw]
 by_cases c : left - (l.length : Int) < 0
 ·exact ⟨-1, by rw [if_pos c], fun h => by omega⟩
 ·exact ⟨_, by rw [if_neg c], fun _ => by omega⟩
def conv176 (x : S176) : S62 := ⟨x.f0.map conv178, x.f1, x.f2, x.f3.map conv224, x.f4.map conv226⟩
theorem laws_toThread_ev (l0 : List S178) (a1 : Int) (a2 : Bool) (l3 : List S224) (l4 : List S226) (h0 : (l0.length ≤ 1048576)) (h3 : (l3.length ≤ 1048576)) (h4 : (l4.length ≤ 1048576)) : Ev (fun k => laws_toThread.f k l0 a1 a2 l3 l4) (l0.map conv178, a1, a2, l3.map conv224, l4.map conv226) := by
 unfold laws_toThread.f
 try simp only [Option.bind_some]
 refine Ev.bind (laws_toOpS_ev l0 h0) ?_
 refine Ev.bind (laws_toPairS_ev l3 h3) ?_
 refine Ev.bind (laws_toHelpS_ev l4 h4) ?_
 exact Ev.now _
theorem laws_eqThread_refl (l0 : List S122) (a1 : Int) (a2 : Bool) (l3 : List S125) (l4 : List S42) (h0 : (l0.length ≤ 1048576)) (h3 : (l3.length ≤ 1048576)) (h4 : (l4.length ≤ 1048576)) : Ev (fun k => laws_eqThread.f k l0 a1 a2 l3 l4 l0 a1 a2 l3 l4) true := by
 unfold laws_eqThread.f
 try simp only [if_pos, Option.bind_some]
 refine Ev.bind (laws_eqOpS_refl l0 h0) ?_
 try simp only [if_true, if_pos, bne_self_eq_false, Bool.false_eq_true, if_false]
 refine Ev.bind (laws_eqPairS_refl l3 h3) ?_
 try simp only [if_true, if_pos, bne_self_eq_false, Bool.false_eq_true, if_false]
 refine Ev.bind (laws_eqHelpS_refl l4 h4) ?_
 try simp only [if_true, if_pos, bne_self_eq_false, Bool.false_eq_true, if_false]
 exact Ev.now _
theorem laws_szThread_some (l0 : List S178) (a1 : Int) (a2 : Bool) (l3 : List S224) (l4 : List S226) (b0 : l0.length ≤ maxLen) (b3 : l3.length ≤ maxLen) (b4 : l4.length ≤ maxLen) (left : Int) (h0 : 0 ≤ left) (h1 : left ≤ 1048576) : ∃ r, laws_szThread.f l0 a1 a2 l3 l4 left = some r ∧ (0 ≤ r → r ≤ left ∧ (l0.length ≤ 1048576) ∧ (l3.length ≤ 1048576) ∧ (l4.length ≤ 1048576)) := by
 unfold laws_szThread.f
 obtain ⟨r0, e0, p0⟩ := laws_szOpS_some l0 b0 left (by omega) (by omega)
 simp only [e0, Option.bind_some]
 by_cases c0 : r0 < 0
 ·exact ⟨-1, by simp [c0], fun h => by omega⟩
 simp only [if_neg c0]
 have q0 := p0 (by omega)
 obtain ⟨r1, e1, p1⟩ := laws_szPairS_some l3 b3 r0 (by omega) (by omega)
 simp only [e1, Option.bind_some]
 by_cases c1 : r1 < 0
 ·exact ⟨-1, by simp [c1], fun h => by omega⟩
 simp only [if_neg c1]
 have q1 := p1 (by omega)
 obtain ⟨r2, e2, p2⟩ := laws_szHelpS_some l4 b4 r1 (by omega) (by omega)
 simp only [e2, Option.bind_some]
 by_cases c2 : r2 < 0
 ·exact ⟨-1, by simp [c2], fun h => by omega⟩
 simp only [if_neg c2]
 have q2 := p2 (by omega)
 refine ⟨_, rfl, fun _ => ⟨by omega, ?_⟩⟩
 simp_all
theorem laws_toThreadS_ev (l : List S176) (h : ((l.length ≤ 1048576) ∧ ∀ y ∈ l, (y.f0.length ≤ 1048576) ∧ (y.f3.length ≤ 1048576) ∧ (y.f4.length ≤ 1048576))) : Ev (fun k => laws_toThreadS.f k l) (l.map conv176) := by
 have hl : l.length ≤ 1048576 := h.1
 have key : ∀ i, i ≤ l.length → Ev (fun k => laws_toThreadS.l0 k l ((l.take i).map conv176 ++ List.replicate (l.length - i) z62) (i : Int)) (l.map conv176) := by
  refine Ev_down (L := fun i k => laws_toThreadS.l0 k l ((l.take i).map conv176 ++ List.replicate (l.length - i) z62) (i : Int)) l.length ?_ ?_
  ·refine Ev_at 1 (fun k => ?_)
   simp only [laws_toThreadS.l0]
   rw [if_neg (by omega)]
   simp
  ·intro i hi ih
   have hlen : (i : Int) < (((l.take i).map conv176 ++ List.replicate (l.length - i) z62).length : Int) := by simp; omega
   have hrd : rd_T176 l (i : Int) = l[i] := by simp [rd_T176, List.getD_eq_getElem?_getD, hi]
   obtain ⟨q0, q3, q4⟩ := h.2 l[i] (List.getElem_mem hi)
   refine Ev.step (f := fun k => (laws_toThread.f k (l[i]).f0 (l[i]).f1 (l[i]).f2 (l[i]).f3 (l[i]).f4).bind fun t => laws_toThreadS.l0 k l (((l.take i).map conv176 ++ List.replicate (l.length - i) z62).set (i : Int).toNat (⟨t.1, t.2.1, t.2.2.1, t.2.2.2.1, t.2.2.2.2⟩ : S62)) ((i+1 : Nat) : Int)) (fun k => ?_) ?_
   ·simp only [laws_toThreadS.l0]
    rw [if_pos (by omega), if_pos (by omega), hrd, wrap_up i (by omega)]
    simp only [if_pos hlen]
   ·refine Ev.bind (laws_toThread_ev (l[i]).f0 (l[i]).f1 (l[i]).f2 (l[i]).f3 (l[i]).f4 q0 q3 q4) ?_
    rw [← set_fill l i hi z62 conv176 (conv176 l[i]) rfl] at ih
    exact ih
 have := key 0 (Nat.zero_le _)
 have hc : ((l.length : Int) : Int).toNat ≤ 3198579280802 := by omega
 unfold laws_toThreadS.f
 simp only [if_pos (Int.natCast_nonneg l.length), if_pos hc]
 simpa using this
theorem small176_map (l : List S176) (h : ((l.length ≤ 1048576) ∧ ∀ y ∈ l, (y.f0.length ≤ 1048576) ∧ (y.f3.length ≤ 1048576) ∧ (y.f4.length ≤ 1048576))) : (((l.map conv176).length ≤ 1048576) ∧ ∀ y ∈ (l.map conv176), (y.f0.length ≤ 1048576) ∧ (y.f3.length ≤ 1048576) ∧ (y.f4.length ≤ 1048576)) := by
 refine ⟨by simpa using h.1, fun y hy => ?_⟩
 obtain ⟨x, hx, rfl⟩ := List.mem_map.1 hy
 have := h.2 x hx
 simpa [conv176] using this
theorem laws_eqThreadS_refl (l : List S62) (h : ((l.length ≤ 1048576) ∧ ∀ y ∈ l, (y.f0.length ≤ 1048576) ∧ (y.f3.length ≤ 1048576) ∧ (y.f4.length ≤ 1048576))) : Ev (fun k => laws_eqThreadS.f k l l) true := by
 have hl : l.length ≤ 1048576 := h.1
 have key : ∀ i, i ≤ l.length → Ev (fun k => laws_eqThreadS.l0 k l l (i : Int)) true := by
  refine Ev_down (L := fun i k => laws_eqThreadS.l0 k l l (i : Int)) l.length ?_ ?_
  ·refine Ev_at 1 (fun k => ?_)
   simp only [laws_eqThreadS.l0]
   rw [if_neg (by omega)]
  ·intro i hi ih
   have hrd : rd_T62 l (i : Int) = l[i] := by simp [rd_T62, List.getD_eq_getElem?_getD, hi]
   obtain ⟨q0, q3, q4⟩ := h.2 l[i] (List.getElem_mem hi)
   refine Ev.step (f := fun k => (laws_eqThread.f k (l[i]).f0 (l[i]).f1 (l[i]).f2 (l[i]).f3 (l[i]).f4 (l[i]).f0 (l[i]).f1 (l[i]).f2 (l[i]).f3 (l[i]).f4).bind fun t => if t = true then laws_eqThreadS.l0 k l l ((i+1 : Nat) : Int) else none) (fun k => ?_) ?_
   ·simp only [laws_eqThreadS.l0]
    rw [if_pos (by omega), if_pos (by omega), if_pos (by omega), hrd, wrap_up i (by omega)]
   ·refine Ev.bind (laws_eqThread_refl (l[i]).f0 (l[i]).f1 (l[i]).f2 (l[i]).f3 (l[i]).f4 q0 q3 q4) ?_
    simp only [if_true]
    exact ih
 have := key 0 (Nat.zero_le _)
 unfold laws_eqThreadS.f
 simp only [if_pos]
 exact this
theorem laws_szThreadS_ev (l : List S176) (hb : l.length ≤ maxLen) (hb2 : ∀ y ∈ l, y.f0.length ≤ maxLen ∧ y.f3.length ≤ maxLen ∧ y.f4.length ≤ maxLen) (left : Int) (h0 : 0 ≤ left) (h1 : left ≤ 1048576) : ∃ r, Ev (fun k => laws_szThreadS.f k l left) r ∧ (0 ≤ r → r ≤ left ∧ ((l.length ≤ 1048576) ∧ ∀ y ∈ l, (y.f0.length ≤ 1048576) ∧ (y.f3.length ≤ 1048576) ∧ (y.f4.length ≤ 1048576))) := by
 have hm : maxLen = 9223372036854775807 := rfl
 have hw : wrap64 (left - (l.length : Int)) = left - (l.length : Int) := by unfold wrap64; omega
 have key : ∀ d i : Nat, i + d = l.length → l.length ≤ 1048576 → ∀ a : Int, 0 ≤ a → a ≤ 1048576 → ∃ r, Ev (fun k => laws_szThreadS.l0 k l a (i : Int)) r ∧ (0 ≤ r → r ≤ a ∧ ∀ y ∈ l.drop i, (y.f0.length ≤ 1048576) ∧ (y.f3.length ≤ 1048576) ∧ (y.f4.length ≤ 1048576)) := by
  intro d
  induction d with
  | zero =>
   intro i hi hl a ha0 ha1
   refine ⟨a, Ev_at 1 (fun k => ?_), fun _ => ⟨Int.le_refl _, ?_⟩⟩
   ·simp only [laws_szThreadS.l0]
    rw [if_neg (by omega)]
   ·rw [List.drop_eq_nil_of_le (by omega)]; simp
  | succ d ih =>
   intro i hi hl a ha0 ha1
   have hil : i < l.length := by omega
   have hrd : rd_T176 l (i : Int) = l[i] := by simp [rd_T176, List.getD_eq_getElem?_getD, hil]
   obtain ⟨b0, b3, b4⟩ := hb2 l[i] (List.getElem_mem hil)
   obtain ⟨r1, e1, p1⟩ := laws_szThread_some (l[i]).f0 (l[i]).f1 (l[i]).f2 (l[i]).f3 (l[i]).f4 b0 b3 b4 a ha0 ha1
   by_cases c : r1 < 0
   ·refine ⟨-1, Ev_at 1 (fun k => ?_), fun h => by omega⟩
    simp only [laws_szThreadS.l0]
    rw [if_pos (by omega), if_pos (by omega), hrd, e1]
    simp only [Option.bind_some, if_pos c]
   ·obtain ⟨hr1, hr2⟩ := p1 (by omega)
    obtain ⟨r, hr, hp⟩ := ih (i + 1) (by omega) hl r1 (by omega) (by omega)
    refine ⟨r, Ev.step (f := fun k => laws_szThreadS.l0 k l r1 ((i + 1 : Nat) : Int)) (fun k => ?_) hr, fun h => ?_⟩
    ·simp only [laws_szThreadS.l0]
     rw [if_pos (by omega), if_pos (by omega), hrd, e1, wrap_up i (by omega)]
     simp only [Option.bind_some, if_neg c]
    ·obtain ⟨x1, x2⟩ := hp h
     refine ⟨by omega, ?_⟩
     rw [List.drop_eq_getElem_cons hil]
     intro y hy
     rcases List.mem_cons.1 hy with rfl | hy
     ·exact hr2
     ·exact x2 y hy
 unfold laws_szThreadS.f
 simp only [hw]
 by_cases c : left - (l.length : Int) < 0
 ·exact ⟨-1, by simp only [if_pos c]; exact Ev.now _, fun h => by omega⟩
 ·obtain ⟨r, hr, hp⟩ := key l.length 0 (by omega) (by omega) (left - (l.length : Int)) (by omega) (by omega)
  refine ⟨r, by simp only [if_neg c]; exact hr, fun h => ?_⟩
  obtain ⟨x1, x2⟩ := hp h
  exact ⟨by omega, by omega, by simpa using x2⟩
def conv181 (x : S181) : S147 := ⟨x.f0, ⟨x.f1.f0, x.f1.f1, x.f1.f2⟩, x.f2, x.f3, x.f4, ⟨x.f5.f0, x.f5.f1⟩⟩
theorem laws_toCall_ev (a0 : Int) (a1 : Int) (a2 : Int) (a3 : Int) (a4 : Int) (a5 : Int) (a6 : Int) (a7 : Int) (l8 : List Int) (h8 : (l8.length ≤ 1048576)) : Ev (fun k => laws_toCall.f k a0 a1 a2 a3 a4 a5 a6 a7 l8) (a0, a1, a2, a3, a4, a5, a6, a7, l8) := by
 unfold laws_toCall.f
 try simp only [Option.bind_some, laws_toOp_eq]
 refine Ev.bind (laws_toRes_ev a7 l8 h8) ?_
 exact Ev.now _
theorem laws_eqCall_refl (a0 : Int) (a1 : Int) (a2 : Int) (a3 : Int) (a4 : Int) (a5 : Int) (a6 : Int) (a7 : Int) (l8 : List Int) (h8 : (l8.length ≤ 1048576)) : Ev (fun k => laws_eqCall.f k a0 a1 a2 a3 a4 a5 a6 a7 l8 a0 a1 a2 a3 a4 a5 a6 a7 l8) true := by
 unfold laws_eqCall.f
 try simp only [if_pos, Option.bind_some, laws_eqOp_refl]
 refine Ev.bind (laws_eqRes_refl a7 l8 h8) ?_
 try simp only [if_true, if_pos, bne_self_eq_false, Bool.false_eq_true, if_false]
 exact Ev.now _
theorem laws_szCall_some (a0 : Int) (a1 : Int) (a2 : Int) (a3 : Int) (a4 : Int) (a5 : Int) (a6 : Int) (a7 : Int) (l8 : List Int) (b8 : l8.length ≤ maxLen) (left : Int) (h0 : 0 ≤ left) (h1 : left ≤ 1048576) : ∃ r, laws_szCall.f a0 a1 a2 a3 a4 a5 a6 a7 l8 left = some r ∧ (0 ≤ r → r ≤ left ∧ (l8.length ≤ 1048576)) := by
 unfold laws_szCall.f
 obtain ⟨r0, e0, p0⟩ := laws_szRes_some a7 l8 b8 left (by omega) (by omega)
 simp only [e0, Option.bind_some]
 by_cases c0 : r0 < 0
 ·exact ⟨-1, by simp [c0], fun h => by omega⟩
 simp only [if_neg c0]
 have q0 := p0 (by omega)
 refine ⟨_, rfl, fun _ => ⟨by omega, ?_⟩⟩
 simp_all
theorem laws_toCallS_ev (l : List S181) (h : ((l.length ≤ 1048576) ∧ ∀ y ∈ l, (y.f5.f1.length ≤ 1048576))) : Ev (fun k => laws_toCallS.f k l) (l.map conv181) := by
 have hl : l.length ≤ 1048576 := h.1
 have key : ∀ i, i ≤ l.length → Ev (fun k => laws_toCallS.l0 k l ((l.take i).map conv181 ++ List.replicate (l.length - i) z147) (i : Int)) (l.map conv181) := by
  refine Ev_down (L := fun i k => laws_toCallS.l0 k l ((l.take i).map conv181 ++ List.replicate (l.length - i) z147) (i : Int)) l.length ?_ ?_
  ·refine Ev_at 1 (fun k => ?_)
   simp only [laws_toCallS.l0]
   rw [if_neg (by omega)]
   simp
  ·intro i hi ih
   have hlen : (i : Int) < (((l.take i).map conv181 ++ List.replicate (l.length - i) z147).length : Int) := by simp; omega
   have hrd : rd_T181 l (i : Int) = l[i] := by simp [rd_T181, List.getD_eq_getElem?_getD, hi]
   have q8 := h.2 l[i] (List.getElem_mem hi)
   refine Ev.step (f := fun k => (laws_toCall.f k (l[i]).f0 (l[i]).f1.f0 (l[i]).f1.f1 (l[i]).f1.f2 (l[i]).f2 (l[i]).f3 (l[i]).f4 (l[i]).f5.f0 (l[i]).f5.f1).bind fun t => laws_toCallS.l0 k l (((l.take i).map conv181 ++ List.replicate (l.length - i) z147).set (i : Int).toNat (⟨t.1, (⟨t.2.1, t.2.2.1, t.2.2.2.1⟩ : S122), t.2.2.2.2.1, t.2.2.2.2.2.1, t.2.2.2.2.2.2.1, (⟨t.2.2.2.2.2.2.2.1, t.2.2.2.2.2.2.2.2⟩ : S31)⟩ : S147)) ((i+1 : Nat) : Int)) (fun k => ?_) ?_
   ·simp only [laws_toCallS.l0]
    rw [if_pos (by omega), if_pos (by omega), hrd, wrap_up i (by omega)]
    simp only [if_pos hlen]
   ·refine Ev.bind (laws_toCall_ev (l[i]).f0 (l[i]).f1.f0 (l[i]).f1.f1 (l[i]).f1.f2 (l[i]).f2 (l[i]).f3 (l[i]).f4 (l[i]).f5.f0 (l[i]).f5.f1 q8) ?_
    rw [← set_fill l i hi z147 conv181 (conv181 l[i]) rfl] at ih
    exact ih
 have := key 0 (Nat.zero_le _)
 have hc : ((l.length : Int) : Int).toNat ≤ 3198579280802 := by omega
 unfold laws_toCallS.f
 simp only [if_pos (Int.natCast_nonneg l.length), if_pos hc]
 simpa using this
theorem small181_map (l : List S181) (h : ((l.length ≤ 1048576) ∧ ∀ y ∈ l, (y.f5.f1.length ≤ 1048576))) : (((l.map conv181).length ≤ 1048576) ∧ ∀ y ∈ (l.map conv181), (y.f5.f1.length ≤ 1048576)) := by
 refine ⟨by simpa using h.1, fun y hy => ?_⟩
 obtain ⟨x, hx, rfl⟩ := List.mem_map.1 hy
 have := h.2 x hx
 simpa [conv181] using this
theorem laws_eqCallS_refl (l : List S147) (h : ((l.length ≤ 1048576) ∧ ∀ y ∈ l, (y.f5.f1.length ≤ 1048576))) : Ev (fun k => laws_eqCallS.f k l l) true := by
 have hl : l.length ≤ 1048576 := h.1
 have key : ∀ i, i ≤ l.length → Ev (fun k => laws_eqCallS.l0 k l l (i : Int)) true := by
  refine Ev_down (L := fun i k => laws_eqCallS.l0 k l l (i : Int)) l.length ?_ ?_
  ·refine Ev_at 1 (fun k => ?_)
   simp only [laws_eqCallS.l0]
   rw [if_neg (by omega)]
  ·intro i hi ih
   have hrd : rd_T147 l (i : Int) = l[i] := by simp [rd_T147, List.getD_eq_getElem?_getD, hi]
   have q8 := h.2 l[i] (List.getElem_mem hi)
   refine Ev.step (f := fun k => (laws_eqCall.f k (l[i]).f0 (l[i]).f1.f0 (l[i]).f1.f1 (l[i]).f1.f2 (l[i]).f2 (l[i]).f3 (l[i]).f4 (l[i]).f5.f0 (l[i]).f5.f1 (l[i]).f0 (l[i]).f1.f0 (l[i]).f1.f1 (l[i]).f1.f2 (l[i]).f2 (l[i]).f3 (l[i]).f4 (l[i]).f5.f0 (l[i]).f5.f1).bind fun t => if t = true then laws_eqCallS.l0 k l l ((i+1 : Nat) : Int) else none) (fun k => ?_) ?_
   ·simp only [laws_eqCallS.l0]
    rw [if_pos (by omega), if_pos (by omega), if_pos (by omega), hrd, wrap_up i (by omega)]
   ·refine Ev.bind (laws_eqCall_refl (l[i]).f0 (l[i]).f1.f0 (l[i]).f1.f1 (l[i]).f1.f2 (l[i]).f2 (l[i]).f3 (l[i]).f4 (l[i]).f5.f0 (l[i]).f5.f1 q8) ?_
    simp only [if_true]
    exact ih
 have := key 0 (Nat.zero_le _)
 unfold laws_eqCallS.f
 simp only [if_pos]
 exact this
theorem laws_szCallS_ev (l : List S181) (hb : l.length ≤ maxLen) (hb2 : ∀ y ∈ l, y.f5.f1.length ≤ maxLen) (left : Int) (h0 : 0 ≤ left) (h1 : left ≤ 1048576) : ∃ r, Ev (fun k => laws_szCallS.f k l left) r ∧ (0 ≤ r → r ≤ left ∧ ((l.length ≤ 1048576) ∧ ∀ y ∈ l, (y.f5.f1.length ≤ 1048576))) := by
 have hm : maxLen = 9223372036854775807 := rfl
 have hw : wrap64 (left - (l.length : Int)) = left - (l.length : Int) := by unfold wrap64; omega
 have key : ∀ d i : Nat, i + d = l.length → l.length ≤ 1048576 → ∀ a : Int, 0 ≤ a → a ≤ 1048576 → ∃ r, Ev (fun k => laws_szCallS.l0 k l a (i : Int)) r ∧ (0 ≤ r → r ≤ a ∧ ∀ y ∈ l.drop i, (y.f5.f1.length ≤ 1048576)) := by
  intro d
  induction d with
  | zero =>
   intro i hi hl a ha0 ha1
   refine ⟨a, Ev_at 1 (fun k => ?_), fun _ => ⟨Int.le_refl _, ?_⟩⟩
   ·simp only [laws_szCallS.l0]
    rw [if_neg (by omega)]
   ·rw [List.drop_eq_nil_of_le (by omega)]; simp
  | succ d ih =>
   intro i hi hl a ha0 ha1
   have hil : i < l.length := by omega
   have hrd : rd_T181 l (i : Int) = l[i] := by simp [rd_T181, List.getD_eq_getElem?_getD, hil]
   have b8 := hb2 l[i] (List.getElem_mem hil)
   obtain ⟨r1, e1, p1⟩ := laws_szCall_some (l[i]).f0 (l[i]).f1.f0 (l[i]).f1.f1 (l[i]).f1.f2 (l[i]).f2 (l[i]).f3 (l[i]).f4 (l[i]).f5.f0 (l[i]).f5.f1 b8 a ha0 ha1
   by_cases c : r1 < 0
   ·refine ⟨-1, Ev_at 1 (fun k => ?_), fun h => by omega⟩
    simp only [laws_szCallS.l0]
    rw [if_pos (by omega), if_pos (by omega), hrd, e1]
    simp only [Option.bind_some, if_pos c]
   ·obtain ⟨hr1, hr2⟩ := p1 (by omega)
    obtain ⟨r, hr, hp⟩ := ih (i + 1) (by omega) hl r1 (by omega) (by omega)
    refine ⟨r, Ev.step (f := fun k => laws_szCallS.l0 k l r1 ((i + 1 : Nat) : Int)) (fun k => ?_) hr, fun h => ?_⟩
    ·simp only [laws_szCallS.l0]
     rw [if_pos (by omega), if_pos (by omega), hrd, e1, wrap_up i (by omega)]
     simp only [Option.bind_some, if_neg c]
    ·obtain ⟨x1, x2⟩ := hp h
     refine ⟨by omega, ?_⟩
     rw [List.drop_eq_getElem_cons hil]
     intro y hy
     rcases List.mem_cons.1 hy with rfl | hy
     ·exact hr2
     ·exact x2 y hy
 unfold laws_szCallS.f
 simp only [hw]
 by_cases c : left - (l.length : Int) < 0
 ·exact ⟨-1, by simp only [if_pos c]; exact Ev.now _, fun h => by omega⟩
 ·obtain ⟨r, hr, hp⟩ := key l.length 0 (by omega) (by omega) (left - (l.length : Int)) (by omega) (by omega)
  refine ⟨r, by simp only [if_neg c]; exact hr, fun h => ?_⟩
  obtain ⟨x1, x2⟩ := hp h
  exact ⟨by omega, by omega, by simpa using x2⟩
theorem laws_toRows_ev (l0 : List Int) (a1 : Int) (h0 : (l0.length ≤ 1048576)) : Ev (fun k => laws_toRows.f k l0 a1) (l0, a1) := by
 unfold laws_toRows.f
 try simp only [Option.bind_some]
 refine Ev.bind (laws_toIntS_ev l0 h0) ?_
 exact Ev.now _
theorem laws_eqRows_refl (l0 : List Int) (a1 : Int) (h0 : (l0.length ≤ 1048576)) : Ev (fun k => laws_eqRows.f k l0 a1 l0 a1) true := by
 unfold laws_eqRows.f
 try simp only [if_pos, Option.bind_some]
 refine Ev.bind (laws_eqIntS_refl l0 h0) ?_
 try simp only [if_true, if_pos, bne_self_eq_false, Bool.false_eq_true, if_false]
 exact Ev.now _
theorem laws_szRows_some (l0 : List Int) (a1 : Int) (b0 : l0.length ≤ maxLen) (left : Int) (h0 : 0 ≤ left) (h1 : left ≤ 1048576) : ∃ r, laws_szRows.f l0 a1 left = some r ∧ (0 ≤ r → r ≤ left ∧ (l0.length ≤ 1048576)) := by
 unfold laws_szRows.f
 obtain ⟨r0, e0, p0⟩ := laws_szIntS_some l0 b0 left (by omega) (by omega)
 simp only [e0, Option.bind_some]
 by_cases c0 : r0 < 0
 ·exact ⟨-1, by simp [c0], fun h => by omega⟩
 simp only [if_neg c0]
 have q0 := p0 (by omega)
 refine ⟨_, rfl, fun _ => ⟨by omega, ?_⟩⟩
 simp_all
theorem laws_toMachine_ev (l0 : List S207) (l1 : List S201) (l2 : List S176) (a3 : Int) (l4 : List S181) (l5 : List Int) (l6 : List Int) (a7 : Int) (h0 : (l0.length ≤ 1048576)) (h1 : ((l1.length ≤ 1048576) ∧ ∀ y ∈ l1, (y.f2.length ≤ 1048576) ∧ (y.f3.f1.length ≤ 1048576))) (h2 : ((l2.length ≤ 1048576) ∧ ∀ y ∈ l2, (y.f0.length ≤ 1048576) ∧ (y.f3.length ≤ 1048576) ∧ (y.f4.length ≤ 1048576))) (h4 : ((l4.length ≤ 1048576) ∧ ∀ y ∈ l4, (y.f5.f1.length ≤ 1048576))) (h5 : (l5.length ≤ 1048576)) (h6 : (l6.length ≤ 1048576)) : Ev (fun k => laws_toMachine.f k l0 l1 l2 a3 l4 l5 l6 a7) (l0.map conv207, l1.map conv201, l2.map conv176, a3, l4.map conv181, l5, l6, a7) := by
 unfold laws_toMachine.f
 try simp only [Option.bind_some]
 refine Ev.bind (laws_toMem_ev l0 l1 h0 h1) ?_
 refine Ev.bind (laws_toThreadS_ev l2 h2) ?_
 refine Ev.bind (laws_toCallS_ev l4 h4) ?_
 refine Ev.bind (laws_toIntS_ev l5 h5) ?_
 refine Ev.bind (laws_toRows_ev l6 a7 h6) ?_
 exact Ev.now _
theorem laws_eqMachine_refl (l0 : List S39) (l1 : List S52) (l2 : List S62) (a3 : Int) (l4 : List S147) (l5 : List Int) (l6 : List Int) (a7 : Int) (h0 : (l0.length ≤ 1048576)) (h1 : ((l1.length ≤ 1048576) ∧ ∀ y ∈ l1, (y.f2.length ≤ 1048576) ∧ (y.f3.f1.length ≤ 1048576))) (h2 : ((l2.length ≤ 1048576) ∧ ∀ y ∈ l2, (y.f0.length ≤ 1048576) ∧ (y.f3.length ≤ 1048576) ∧ (y.f4.length ≤ 1048576))) (h4 : ((l4.length ≤ 1048576) ∧ ∀ y ∈ l4, (y.f5.f1.length ≤ 1048576))) (h5 : (l5.length ≤ 1048576)) (h6 : (l6.length ≤ 1048576)) : Ev (fun k => laws_eqMachine.f k l0 l1 l2 a3 l4 l5 l6 a7 l0 l1 l2 a3 l4 l5 l6 a7) true := by
 unfold laws_eqMachine.f
 try simp only [if_pos, Option.bind_some]
 refine Ev.bind (laws_eqMem_refl l0 l1 h0 h1) ?_
 try simp only [if_true, if_pos, bne_self_eq_false, Bool.false_eq_true, if_false]
 refine Ev.bind (laws_eqThreadS_refl l2 h2) ?_
 try simp only [if_true, if_pos, bne_self_eq_false, Bool.false_eq_true, if_false]
 refine Ev.bind (laws_eqCallS_refl l4 h4) ?_
 try simp only [if_true, if_pos, bne_self_eq_false, Bool.false_eq_true, if_false]
 refine Ev.bind (laws_eqIntS_refl l5 h5) ?_
 try simp only [if_true, if_pos, bne_self_eq_false, Bool.false_eq_true, if_false]
 refine Ev.bind (laws_eqRows_refl l6 a7 h6) ?_
 try simp only [if_true, if_pos, bne_self_eq_false, Bool.false_eq_true, if_false]
 exact Ev.now _
theorem rdT_Entry (l : List S37) (i : Nat) (hi : i < l.length) : rd_T37 l (i : Int) = l[i] := by simp [rd_T37, List.getD_eq_getElem?_getD, hi]
def entF (v : Int) : List S37 → Int × Int × Int × Bool
 | [] => (0, 0, 0, false)
 | e :: es => if e.f0 = v then (e.f0, e.f1, e.f2, true) else entF v es
theorem spec_Entries_ev (sq st : Int) (l : List S37) (c : Int) (rl : List Int) (v : Int) (hl : l.length ≤ 1048576) : Ev (fun k => spec_Entries.f k sq st l c rl v) (entF v l) := by
 have key : ∀ i, i ≤ l.length → Ev (fun k => spec_Entries.l0 k v (i : Int) sq st l c rl) (entF v (l.drop i)) := by
  refine Ev_downR (L := fun i k => spec_Entries.l0 k v (i : Int) sq st l c rl) (R := fun i => entF v (l.drop i)) l.length ?_ ?_
  ·refine Ev_at 1 (fun k => ?_)
   simp only [spec_Entries.l0]
   rw [if_neg (by omega), List.drop_length]
   rfl
  ·intro i hi ih
   refine Ev.step (f := fun k => if (l[i]).f0 = v then some ((l[i]).f0, (l[i]).f1, (l[i]).f2, true) else spec_Entries.l0 k v ((i + 1 : Nat) : Int) sq st l c rl) (fun k => ?_) ?_
   ·simp only [spec_Entries.l0]
    rw [if_pos (by omega), if_pos (by omega), rdT_Entry l i hi, wrap_up i (by omega)]
   ·rw [List.drop_eq_getElem_cons hi]
    by_cases h : (l[i]).f0 = v
    ·simp only [if_pos h, entF]; exact Ev.now _
    ·simp only [if_neg h, entF]; exact ih
 exact key 0 (Nat.zero_le _)
theorem impl_Entries_ev (sq st : Int) (l : List S37) (c : Int) (rl : List Int) (v : Int) (hl : l.length ≤ 1048576) : Ev (fun k => impl_Entries.f k sq st l c rl v) (entF v l) := by
 have key : ∀ i, i ≤ l.length → Ev (fun k => impl_Entries.l0 k v l (l.length : Int) (i : Int)) (entF v (l.drop i)) := by
  refine Ev_downR (L := fun i k => impl_Entries.l0 k v l (l.length : Int) (i : Int)) (R := fun i => entF v (l.drop i)) l.length ?_ ?_
  ·refine Ev_at 1 (fun k => ?_)
   simp only [impl_Entries.l0]
   rw [if_neg (by omega), List.drop_length]
   rfl
  ·intro i hi ih
   refine Ev.step (f := fun k => if (l[i]).f0 = v then some ((l[i]).f0, (l[i]).f1, (l[i]).f2, true) else impl_Entries.l0 k v l (l.length : Int) ((i + 1 : Nat) : Int)) (fun k => ?_) ?_
   ·simp only [impl_Entries.l0]
    rw [if_pos (by omega), if_pos (by omega), if_pos (by omega), rdT_Entry l i hi, wrap_up i (by omega)]
   ·rw [List.drop_eq_getElem_cons hi]
    by_cases h : (l[i]).f0 = v
    ·simp only [if_pos h, entF]; exact Ev.now _
    ·simp only [if_neg h, entF]; exact ih
 exact key 0 (Nat.zero_le _)
def entsOk (prev : Int) : List S37 → Bool
 | [] => true
 | e :: es => inR e.f0 0 19 && (inR e.f1 0 1000 && (inR e.f2 0 1000 && (decide (prev < e.f0) && entsOk e.f0 es)))
def descOk (sq st : Int) (l : List S37) (c : Int) (rl : List Int) : Bool :=
 if sq = 0 then decide (st = 0) && (decide (l.length = 0) && (decide (c = 0) && decide (rl.length = 0)))
 else inR sq 1 1000000 && (inR st 1 3 && (decide (l.length ≤ 20) && entsOk (-1) l))
def prevAt (l : List S37) (i : Nat) : Int := if h : 0 < i ∧ i ≤ l.length then (l[i - 1]'(by omega)).f0 else -1
theorem prevAt_succ (l : List S37) (i : Nat) (hi : i < l.length) : prevAt l (i + 1) = (l[i]).f0 := by
 unfold prevAt
 rw [dif_pos (by omega)]
 simp
theorem ent_prev {β : Type} (l : List S37) (i : Nat) (hi : i < l.length) (hl : l.length ≤ 1048576) (go no bad : β) (h0 : inR (l[i]).f0 0 19 = true) :
  (if (i : Int) > 0 then (if 0 ≤ wrap64 ((i : Int) - 1) then (if wrap64 ((i : Int) - 1) < (l.length : Int) then (if (rd_T37 l (wrap64 ((i : Int) - 1))).f0 ≥ (l[i]).f0 then no else go) else bad) else bad) else go) = if prevAt l i < (l[i]).f0 then go else no := by
 rcases Nat.eq_zero_or_pos i with h | h
 ·subst h
  have hp : prevAt l 0 = -1 := by simp [prevAt]
  have h1 : 0 ≤ (l[0]).f0 := by simp [inR] at h0; omega
  rw [if_neg (by omega), hp, if_pos (by omega)]
 ·obtain ⟨j, rfl⟩ : ∃ j, i = j + 1 := ⟨i - 1, by omega⟩
  have e : wrap64 (((j + 1 : Nat) : Int) - 1) = (j : Int) := by unfold wrap64; omega
  rw [if_pos (by omega), e, if_pos (by omega), if_pos (by omega), rdT_Entry l j (by omega), prevAt_succ l j (by omega)]
  by_cases hc : (l[j]).f0 < (l[j + 1]).f0
  ·rw [if_neg (by omega), if_pos hc]
  ·rw [if_pos (by omega), if_neg hc]
theorem entsOk_at (l : List S37) (i : Nat) (hi : i < l.length) : entsOk (prevAt l i) (l.drop i) = (inR (l[i]).f0 0 19 && (inR (l[i]).f1 0 1000 && (inR (l[i]).f2 0 1000 && (decide (prevAt l i < (l[i]).f0) && entsOk (prevAt l (i + 1)) (l.drop (i + 1)))))) := by
 rw [List.drop_eq_getElem_cons hi, prevAt_succ l i hi]; rfl
theorem Ev_ifB {g : Nat → Option Bool} (b : Bool) {r : Bool} (h : b = true → Ev g r) : Ev (fun k => if b = true then g k else some false) (b && r) := by
 cases b
 ·exact Ev.now _
 ·exact h rfl
theorem Ev_ifD {g : Nat → Option Bool} (p : Prop) [Decidable p] {r : Bool} (h : p → Ev g r) : Ev (fun k => if p then g k else some false) (decide p && r) := by
 by_cases hp : p
 ·simp only [if_pos hp, decide_eq_true hp, Bool.true_and]; exact h hp
 ·simp only [if_neg hp, decide_eq_false hp, Bool.false_and]; exact Ev.now _
theorem spec_DescOk_ev (sq st : Int) (l : List S37) (c : Int) (rl : List Int) (hl : l.length ≤ 1048576) : Ev (fun k => spec_DescOk.f k sq st l c rl) (descOk sq st l c rl) := by
 have key : ∀ i, i ≤ l.length → Ev (fun k => spec_DescOk.l0 k (i : Int) sq st l c rl) (entsOk (prevAt l i) (l.drop i)) := by
  refine Ev_downR (L := fun i k => spec_DescOk.l0 k (i : Int) sq st l c rl) (R := fun i => entsOk (prevAt l i) (l.drop i)) l.length ?_ ?_
  ·refine Ev_at 1 (fun k => ?_)
   simp only [spec_DescOk.l0]
   rw [if_neg (by omega), List.drop_length]
   rfl
  ·intro i hi ih
   refine Ev.step (f := fun k => if inR (l[i]).f0 0 19 = true then (if inR (l[i]).f1 0 1000 = true then (if inR (l[i]).f2 0 1000 = true then (if prevAt l i < (l[i]).f0 then spec_DescOk.l0 k ((i + 1 : Nat) : Int) sq st l c rl else some false) else some false) else some false) else some false) (fun k => ?_) ?_
   ·simp only [spec_DescOk.l0, spec_l1In_eq, Option.bind_some]
    rw [if_pos (by omega), if_pos (by omega), rdT_Entry l i hi, wrap_up i (by omega)]
    cases h0 : inR (l[i]).f0 0 19
    ·rfl
    ·simp only [if_true]
     rw [ent_prev l i hi hl _ _ _ h0]
   ·rw [entsOk_at l i hi]
    exact Ev_ifB _ fun _ => Ev_ifB _ fun _ => Ev_ifB _ fun _ => Ev_ifD _ fun _ => ih
 have k0 := key 0 (Nat.zero_le _)
 have hp : prevAt l 0 = -1 := by simp [prevAt]
 rw [hp, List.drop_zero] at k0
 unfold spec_DescOk.f descOk
 by_cases h : sq = 0
 ·simp only [if_pos h]
  refine Ev_ifD _ fun _ => ?_
  by_cases h2 : l.length = 0
  ·have h2' : (l.length : Int) = 0 := by omega
   simp only [if_pos h2', decide_eq_true h2, Bool.true_and]
   refine Ev_ifD _ fun _ => ?_
   have e : ((rl.length : Int) == 0) = decide (rl.length = 0) := by
    by_cases h3 : rl.length = 0 <;> simp [h3]
   rw [e]; exact Ev.now _
  ·have h2' : ¬ (l.length : Int) = 0 := by omega
   simp only [if_neg h2', decide_eq_false h2, Bool.false_and]; exact Ev.now _
 ·simp only [if_neg h, spec_l1In_eq, Option.bind_some]
  have hj : ∀ b : Bool, Ev (fun k => spec_DescOk.j0 k b sq st l c rl) (!b && entsOk (-1) l) := by
   intro b
   refine Ev.step (f := fun k => if b = true then some false else spec_DescOk.l0 k 0 sq st l c rl) (fun k => by simp only [spec_DescOk.j0]) ?_
   cases b
   ·exact k0
   ·exact Ev.now _
  cases h1 : inR sq 1 1000000
  ·exact hj true
  ·simp only [if_true]
   cases h2 : inR st 1 3
   ·exact hj true
   ·simp only [if_true, Bool.true_and]
    have e : decide (l.length ≤ 20) = !decide ((l.length : Int) > 20) := by
     by_cases h3 : l.length ≤ 20
     ·have : ¬ (l.length : Int) > 20 := by omega
      simp [h3, this]
     ·have : (l.length : Int) > 20 := by omega
      simp [h3, this]
    rw [e]
    exact hj _
theorem impl_DescOk_ev (sq st : Int) (l : List S37) (c : Int) (rl : List Int) (hl : l.length ≤ 1048576) : Ev (fun k => impl_DescOk.f k sq st l c rl) (descOk sq st l c rl) := by
 have key : ∀ i, i ≤ l.length → Ev (fun k => impl_DescOk.l0 k l (l.length : Int) (i : Int) sq st l c rl) (entsOk (prevAt l i) (l.drop i) && (inR sq 1 1000000 && (inR st 1 3 && decide (l.length ≤ 20)))) := by
  refine Ev_downR (L := fun i k => impl_DescOk.l0 k l (l.length : Int) (i : Int) sq st l c rl) (R := fun i => entsOk (prevAt l i) (l.drop i) && (inR sq 1 1000000 && (inR st 1 3 && decide (l.length ≤ 20)))) l.length ?_ ?_
  ·refine Ev_at 1 (fun k => ?_)
   simp only [impl_DescOk.l0, impl_from_eq, Option.bind_some]
   rw [if_neg (by omega), List.drop_length]
   have e : decide ((l.length : Int) ≤ 20) = decide (l.length ≤ 20) := by
    by_cases h3 : l.length ≤ 20
    ·have : (l.length : Int) ≤ 20 := by omega
     simp [h3, this]
    ·have : ¬ (l.length : Int) ≤ 20 := by omega
     simp [h3, this]
   rw [e]
   cases inR sq 1 1000000 <;> cases inR st 1 3 <;> simp [entsOk]
  ·intro i hi ih
   refine Ev.step (f := fun k => if inR (l[i]).f0 0 19 = true then (if inR (l[i]).f1 0 1000 = true then (if inR (l[i]).f2 0 1000 = true then (if prevAt l i < (l[i]).f0 then impl_DescOk.l0 k l (l.length : Int) ((i + 1 : Nat) : Int) sq st l c rl else some false) else some false) else some false) else some false) (fun k => ?_) ?_
   ·simp only [impl_DescOk.l0, impl_isPlace.f, impl_isWordNum.f, impl_from_eq, Option.bind_some]
    rw [if_pos (by omega), if_pos (by omega), if_pos (by omega), rdT_Entry l i hi, wrap_up i (by omega)]
    cases h0 : inR (l[i]).f0 0 19
    ·rfl
    ·simp only [if_true]
     rw [ent_prev l i hi hl _ _ _ h0]
   ·rw [entsOk_at l i hi, Bool.and_assoc, Bool.and_assoc, Bool.and_assoc, Bool.and_assoc]
    exact Ev_ifB _ fun _ => Ev_ifB _ fun _ => Ev_ifB _ fun _ => Ev_ifD _ fun _ => ih
 have k0 := key 0 (Nat.zero_le _)
 have hp : prevAt l 0 = -1 := by simp [prevAt]
 rw [hp, List.drop_zero] at k0
 unfold impl_DescOk.f descOk
 by_cases h : sq = 0
 ·simp only [if_pos h]
  refine Ev_ifD _ fun _ => ?_
  by_cases h2 : l.length = 0
  ·have h2' : (l.length : Int) = 0 := by omega
   simp only [if_pos h2', decide_eq_true h2, Bool.true_and]
   refine Ev_ifD _ fun _ => ?_
   have e : ((rl.length : Int) == 0) = decide (rl.length = 0) := by
    by_cases h3 : rl.length = 0 <;> simp [h3]
   rw [e]; exact Ev.now _
  ·have h2' : ¬ (l.length : Int) = 0 := by omega
   simp only [if_neg h2', decide_eq_false h2, Bool.false_and]; exact Ev.now _
 ·simp only [if_neg h]
  have e : (entsOk (-1) l && (inR sq 1 1000000 && (inR st 1 3 && decide (l.length ≤ 20)))) = (inR sq 1 1000000 && (inR st 1 3 && (decide (l.length ≤ 20) && entsOk (-1) l))) := by
   cases entsOk (-1) l <;> cases inR sq 1 1000000 <;> cases inR st 1 3 <;> cases decide (l.length ≤ 20) <;> rfl
  rw [← e]
  exact k0
theorem rdT_Word (l : List S39) (i : Nat) (hi : i < l.length) : rd_T39 l (i : Int) = l[i] := by simp [rd_T39, List.getD_eq_getElem?_getD, hi]
theorem rdT_Desc (l : List S52) (i : Nat) (hi : i < l.length) : rd_T52 l (i : Int) = l[i] := by simp [rd_T52, List.getD_eq_getElem?_getD, hi]
def smallD (l : List S52) : Prop := l.length ≤ 1048576 ∧ ∀ y ∈ l, (y.f2.length ≤ 1048576) ∧ (y.f3.f1.length ≤ 1048576)
theorem inR_iff (x lo hi : Int) : inR x lo hi = true ↔ lo ≤ x ∧ x ≤ hi := by simp [inR]
def ndesc (d : S52) : Bool := descOk d.f0 d.f1 d.f2 d.f3.f0 d.f3.f1
def wordAt (ds : List S52) (i : Int) (w : S39) : Bool :=
 wordOk w.f0 w.f1 w.f2 (ds.length : Int) && (decide (w.f1 = 0) || ((entF i (rd_T52 ds (w.f1 - 1)).f2).2.2.2 && decide ((rd_T52 ds (w.f1 - 1)).f0 = w.f2)))
def wordsFrom (ds : List S52) : Int → List S39 → Bool
 | _, [] => true
 | i, w :: ws => wordAt ds i w && wordsFrom ds (i + 1) ws
def memOk (ws : List S39) (ds : List S52) : Bool :=
 decide (ws.length = 20) && (inR (ds.length : Int) 1 4 && (ds.all ndesc && wordsFrom ds 0 ws))
theorem wordOk_T (n t s th : Int) (h : wordOk n t s th = true) : t = 0 ∨ (1 ≤ t ∧ t ≤ th) := by
 unfold wordOk at h
 by_cases h0 : t = 0
 ·exact .inl h0
 ·rw [if_neg h0] at h
  simp [inR] at h
  exact .inr h.1.2
theorem spec_MemOk_ev (ws : List S39) (ds : List S52) (hw : ws.length ≤ 1048576) (hd : smallD ds) : Ev (fun k => spec_MemOk.f k ws ds) (memOk ws ds) := by
 have hdl := hd.1
 have key1 : ∀ i, i ≤ ws.length → Ev (fun k => spec_MemOk.l1 k (i : Int) ws ds) (wordsFrom ds i (ws.drop i)) := by
  refine Ev_downR (L := fun i k => spec_MemOk.l1 k (i : Int) ws ds) (R := fun i => wordsFrom ds i (ws.drop i)) ws.length ?_ ?_
  ·refine Ev_at 1 (fun k => ?_)
   simp only [spec_MemOk.l1]
   rw [if_neg (by omega), List.drop_length]
   rfl
  ·intro i hi ih
   rw [List.drop_eq_getElem_cons hi]
   show Ev _ (wordAt ds i ws[i] && wordsFrom ds ((i + 1 : Nat) : Int) (ws.drop (i + 1)))
   generalize hx : ws[i] = x
   have hrd : rd_T39 ws (i : Int) = x := by rw [rdT_Word ws i hi, hx]
   unfold wordAt
   refine Ev.step (f := fun k => if wordOk x.f0 x.f1 x.f2 (ds.length : Int) = true then (if x.f1 > 0 then (if 0 ≤ wrap64 (x.f1 - 1) then (if wrap64 (x.f1 - 1) < (ds.length : Int) then ((spec_Entries.f k (rd_T52 ds (wrap64 (x.f1 - 1))).f0 (rd_T52 ds (wrap64 (x.f1 - 1))).f1 (rd_T52 ds (wrap64 (x.f1 - 1))).f2 (rd_T52 ds (wrap64 (x.f1 - 1))).f3.f0 (rd_T52 ds (wrap64 (x.f1 - 1))).f3.f1 (i : Int)).bind fun b => (if b.2.2.2 = true then (if (rd_T52 ds (wrap64 (x.f1 - 1))).f0 = x.f2 then spec_MemOk.l1 k ((i + 1 : Nat) : Int) ws ds else some false) else some false)) else none) else none) else spec_MemOk.l1 k ((i + 1 : Nat) : Int) ws ds) else some false) (fun k => ?_) ?_
   ·simp only [spec_MemOk.l1, spec_WordOk_eq, Option.bind_some, hrd]
    rw [if_pos (by omega), if_pos (by omega), wrap_up i (by omega)]
   ·cases hok : wordOk x.f0 x.f1 x.f2 (ds.length : Int)
    ·exact Ev.now _
    ·simp only [if_true, Bool.true_and]
     rcases wordOk_T _ _ _ _ hok with h0 | ⟨h1, h2⟩
     ·have hn : ¬ x.f1 > 0 := by omega
      simp only [if_neg hn, decide_eq_true h0, Bool.true_or, Bool.true_and]
      exact ih
     ·have hn : x.f1 > 0 := by omega
      have h0 : ¬ x.f1 = 0 := by omega
      have e2 : wrap64 (x.f1 - 1) = x.f1 - 1 := by unfold wrap64; omega
      have p3 : 0 ≤ x.f1 - 1 := by omega
      have p4 : x.f1 - 1 < (ds.length : Int) := by omega
      simp only [if_pos hn, e2, if_pos p3, if_pos p4, decide_eq_false h0, Bool.false_or]
      obtain ⟨j, hj⟩ : ∃ j : Nat, x.f1 - 1 = (j : Int) := ⟨(x.f1 - 1).toNat, by omega⟩
      have hjl : j < ds.length := by omega
      rw [hj, rdT_Desc ds j hjl]
      refine Ev.bind (spec_Entries_ev _ _ _ _ _ _ (hd.2 ds[j] (List.getElem_mem hjl)).1) ?_
      cases (entF (i : Int) (ds[j]).f2).2.2.2
      ·exact Ev.now _
      ·simp only [if_true, Bool.true_and]
       exact Ev_ifD _ fun _ => ih
 have key0 : ∀ i, i ≤ ds.length → Ev (fun k => spec_MemOk.l0 k (i : Int) ws ds) ((ds.drop i).all ndesc && wordsFrom ds 0 ws) := by
  refine Ev_downR (L := fun i k => spec_MemOk.l0 k (i : Int) ws ds) (R := fun i => (ds.drop i).all ndesc && wordsFrom ds 0 ws) ds.length ?_ ?_
  ·refine Ev.step (f := fun k => spec_MemOk.l1 k 0 ws ds) (fun k => ?_) ?_
   ·simp only [spec_MemOk.l0]
    rw [if_neg (by omega)]
   ·rw [List.drop_length]
    exact key1 0 (Nat.zero_le _)
  ·intro i hi ih
   rw [List.drop_eq_getElem_cons hi, List.all_cons, Bool.and_assoc]
   have hm := hd.2 ds[i] (List.getElem_mem hi)
   refine Ev.step (f := fun k => (spec_DescOk.f k (ds[i]).f0 (ds[i]).f1 (ds[i]).f2 (ds[i]).f3.f0 (ds[i]).f3.f1).bind fun t => if t = true then spec_MemOk.l0 k ((i + 1 : Nat) : Int) ws ds else some false) (fun k => ?_) ?_
   ·simp only [spec_MemOk.l0, rdT_Desc ds i hi]
    rw [if_pos (by omega), if_pos (by omega), wrap_up i (by omega)]
   ·refine Ev.bind (spec_DescOk_ev _ _ _ _ _ hm.1) ?_
    exact Ev_ifB _ fun _ => ih
 unfold spec_MemOk.f memOk
 have hj : ∀ b : Bool, Ev (fun k => spec_MemOk.j0 k b ws ds) (!b && (ds.all ndesc && wordsFrom ds 0 ws)) := by
  intro b
  refine Ev.step (f := fun k => if b = true then some false else spec_MemOk.l0 k 0 ws ds) (fun k => by simp only [spec_MemOk.j0]) ?_
  cases b
  ·exact key0 0 (Nat.zero_le _)
  ·exact Ev.now _
 by_cases h : ws.length = 20
 ·have h' : (ws.length : Int) = 20 := by omega
  simp only [if_pos h', decide_eq_true h, Bool.true_and, spec_l1In_eq, Option.bind_some]
  have := hj (!inR (ds.length : Int) 1 4)
  rwa [Bool.not_not] at this
 ·have h' : ¬ (ws.length : Int) = 20 := by omega
  simp only [if_neg h', decide_eq_false h, Bool.false_and]
  exact hj true
theorem impl_MemOk_c1_ev (d : S52) (h : d.f2.length ≤ 1048576) : Ev (fun k => impl_MemOk_c1.f k d.f0 d.f1 d.f2 d.f3.f0 d.f3.f1) (!ndesc d) := by
 unfold impl_MemOk_c1.f
 exact Ev.bind (impl_DescOk_ev _ _ _ _ _ h) (Ev.now _)
theorem has_bad (ds : List S52) (hd : smallD ds) : Ev (fun k => slices_ContainsFuncMemOk_c1.f k ds) (!ds.all ndesc) := by
 have hdl := hd.1
 have key : ∀ i, i ≤ ds.length → ∃ r, Ev (fun k => slices_IndexFuncMemOk_c1.l0 k ds (ds.length : Int) (i : Int)) r ∧ decide (r ≥ 0) = !(ds.drop i).all ndesc := by
  have step : ∀ d i, i + d = ds.length → ∃ r, Ev (fun k => slices_IndexFuncMemOk_c1.l0 k ds (ds.length : Int) (i : Int)) r ∧ decide (r ≥ 0) = !(ds.drop i).all ndesc := by
   intro d
   induction d with
   | zero =>
    intro i hi
    refine ⟨-1, Ev_at 1 (fun k => ?_), ?_⟩
    ·simp only [slices_IndexFuncMemOk_c1.l0]
     rw [if_neg (by omega)]
    ·rw [List.drop_eq_nil_of_le (by omega)]; rfl
   | succ d ih =>
    intro i hi
    have hil : i < ds.length := by omega
    have hm := hd.2 ds[i] (List.getElem_mem hil)
    have hs : ∀ r, Ev (fun k => if (!ndesc ds[i]) = true then some (i : Int) else slices_IndexFuncMemOk_c1.l0 k ds (ds.length : Int) ((i + 1 : Nat) : Int)) r → Ev (fun k => slices_IndexFuncMemOk_c1.l0 k ds (ds.length : Int) (i : Int)) r := by
     intro r hr
     refine Ev.step (f := fun k => (impl_MemOk_c1.f k (ds[i]).f0 (ds[i]).f1 (ds[i]).f2 (ds[i]).f3.f0 (ds[i]).f3.f1).bind fun t => if t = true then some (i : Int) else slices_IndexFuncMemOk_c1.l0 k ds (ds.length : Int) ((i + 1 : Nat) : Int)) (fun k => ?_) (Ev.bind (impl_MemOk_c1_ev ds[i] hm.1) hr)
     simp only [slices_IndexFuncMemOk_c1.l0, rdT_Desc ds i hil]
     rw [if_pos (by omega), if_pos (by omega), if_pos (by omega), wrap_up i (by omega)]
    cases hn : ndesc ds[i]
    ·refine ⟨(i : Int), hs _ (by simp only [hn, Bool.not_false, if_true]; exact Ev.now _), ?_⟩
     rw [List.drop_eq_getElem_cons hil, List.all_cons, hn]
     simp
    ·obtain ⟨r, hr, he⟩ := ih (i + 1) (by omega)
     refine ⟨r, hs _ (by simp only [hn, Bool.not_true, Bool.false_eq_true, if_false]; exact hr), ?_⟩
     rw [List.drop_eq_getElem_cons hil, List.all_cons, hn, he]
     simp
  intro i hi
  exact step (ds.length - i) i (by omega)
 obtain ⟨r, hr, he⟩ := key 0 (Nat.zero_le _)
 unfold slices_ContainsFuncMemOk_c1.f slices_IndexFuncMemOk_c1.f
 refine Ev.bind hr ?_
 rw [he]
 exact Ev.now _
theorem impl_MemOk_ev (ws : List S39) (ds : List S52) (hw : ws.length ≤ 1048576) (hd : smallD ds) : Ev (fun k => impl_MemOk.f k ws ds) (memOk ws ds) := by
 have hdl := hd.1
 have key1 : ∀ i, i ≤ ws.length → Ev (fun k => impl_MemOk.l0 k ws (ws.length : Int) (i : Int) ws ds) (wordsFrom ds i (ws.drop i)) := by
  refine Ev_downR (L := fun i k => impl_MemOk.l0 k ws (ws.length : Int) (i : Int) ws ds) (R := fun i => wordsFrom ds i (ws.drop i)) ws.length ?_ ?_
  ·refine Ev_at 1 (fun k => ?_)
   simp only [impl_MemOk.l0]
   rw [if_neg (by omega), List.drop_length]
   rfl
  ·intro i hi ih
   rw [List.drop_eq_getElem_cons hi]
   show Ev _ (wordAt ds i ws[i] && wordsFrom ds ((i + 1 : Nat) : Int) (ws.drop (i + 1)))
   generalize hx : ws[i] = x
   have hrd : rd_T39 ws (i : Int) = x := by rw [rdT_Word ws i hi, hx]
   unfold wordAt
   refine Ev.step (f := fun k => if wordOk x.f0 x.f1 x.f2 (ds.length : Int) = true then (if x.f1 = 0 then impl_MemOk.l0 k ws (ws.length : Int) ((i + 1 : Nat) : Int) ws ds else (if 0 ≤ wrap64 (x.f1 - 1) then (if wrap64 (x.f1 - 1) < (ds.length : Int) then ((impl_Entries.f k (rd_T52 ds (wrap64 (x.f1 - 1))).f0 (rd_T52 ds (wrap64 (x.f1 - 1))).f1 (rd_T52 ds (wrap64 (x.f1 - 1))).f2 (rd_T52 ds (wrap64 (x.f1 - 1))).f3.f0 (rd_T52 ds (wrap64 (x.f1 - 1))).f3.f1 (i : Int)).bind fun b => (if b.2.2.2 = true then (if (rd_T52 ds (wrap64 (x.f1 - 1))).f0 = x.f2 then impl_MemOk.l0 k ws (ws.length : Int) ((i + 1 : Nat) : Int) ws ds else some false) else some false)) else none) else none)) else some false) (fun k => ?_) ?_
   ·simp only [impl_MemOk.l0, impl_WordOk_eq, Option.bind_some, hrd]
    rw [if_pos (by omega), if_pos (by omega), if_pos (by omega), wrap_up i (by omega)]
   ·cases hok : wordOk x.f0 x.f1 x.f2 (ds.length : Int)
    ·exact Ev.now _
    ·simp only [if_true, Bool.true_and]
     rcases wordOk_T _ _ _ _ hok with h0 | ⟨h1, h2⟩
     ·simp only [if_pos h0, decide_eq_true h0, Bool.true_or, Bool.true_and]
      exact ih
     ·have h0 : ¬ x.f1 = 0 := by omega
      have e2 : wrap64 (x.f1 - 1) = x.f1 - 1 := by unfold wrap64; omega
      have p3 : 0 ≤ x.f1 - 1 := by omega
      have p4 : x.f1 - 1 < (ds.length : Int) := by omega
      simp only [if_neg h0, e2, if_pos p3, if_pos p4, decide_eq_false h0, Bool.false_or]
      obtain ⟨j, hj⟩ : ∃ j : Nat, x.f1 - 1 = (j : Int) := ⟨(x.f1 - 1).toNat, by omega⟩
      have hjl : j < ds.length := by omega
      rw [hj, rdT_Desc ds j hjl]
      refine Ev.bind (impl_Entries_ev _ _ _ _ _ _ (hd.2 ds[j] (List.getElem_mem hjl)).1) ?_
      cases (entF (i : Int) (ds[j]).f2).2.2.2
      ·exact Ev.now _
      ·simp only [if_true, Bool.true_and]
       exact Ev_ifD _ fun _ => ih
 have hj : ∀ b : Bool, Ev (fun k => impl_MemOk.j0 k b ws ds) (!b && wordsFrom ds 0 ws) := by
  intro b
  refine Ev.step (f := fun k => if b = true then some false else impl_MemOk.l0 k ws (ws.length : Int) 0 ws ds) (fun k => by simp only [impl_MemOk.j0]) ?_
  cases b
  ·exact key1 0 (Nat.zero_le _)
  ·exact Ev.now _
 unfold impl_MemOk.f memOk
 by_cases h : ws.length = 20
 ·have h' : (ws.length : Int) = 20 := by omega
  simp only [if_pos h', decide_eq_true h, Bool.true_and, impl_from_eq, Option.bind_some]
  cases inR (ds.length : Int) 1 4
  ·exact hj true
  ·simp only [if_true, Bool.true_and]
   refine Ev.bind (has_bad ds hd) ?_
   have := hj (!ds.all ndesc)
   rwa [Bool.not_not] at this
 ·have h' : ¬ (ws.length : Int) = 20 := by omega
  simp only [if_neg h', decide_eq_false h, Bool.false_and]
  exact hj true
def idxF (v : Int) : List Int → Int → Int
 | [], _ => -1
 | x :: xs, i => if x = v then i else idxF v xs (i + 1)
theorem idxF_new (v : Int) (rest : List Int) : ∀ (pre : List Int) (j : Int), v ∉ pre → idxF v (pre ++ v :: rest) j = j + pre.length
 | [], j, _ => by simp [idxF]
 | x :: xs, j, h => by
  have h1 : x ≠ v := fun e => h (by simp [e])
  have h2 : v ∉ xs := fun e => h (by simp [e])
  simp only [List.cons_append, idxF, if_neg h1, idxF_new v rest xs (j + 1) h2, List.length_cons]
  omega
theorem idxF_old (v : Int) (rest : List Int) : ∀ (pre : List Int) (j : Int), v ∈ pre → j ≤ idxF v (pre ++ rest) j ∧ idxF v (pre ++ rest) j < j + pre.length
 | [], j, h => by simp at h
 | x :: xs, j, h => by
  by_cases h1 : x = v
  ·simp only [List.cons_append, idxF, if_pos h1, List.length_cons]; omega
  ·have h2 : v ∈ xs := by simpa [Ne.symm h1] using h
   have := idxF_old v rest xs (j + 1) h2
   simp only [List.cons_append, idxF, if_neg h1, List.length_cons]; omega
theorem idxF_none (v : Int) : ∀ (l : List Int) (j : Int), v ∉ l → idxF v l j = -1
 | [], j, _ => rfl
 | x :: xs, j, h => by
  have h1 : x ≠ v := fun e => h (by simp [e])
  have h2 : v ∉ xs := fun e => h (by simp [e])
  simp only [idxF, if_neg h1, idxF_none v xs (j + 1) h2]
theorem idxF_mem (v : Int) (l : List Int) : decide (idxF v l 0 ≥ 0) = decide (v ∈ l) := by
 by_cases h : v ∈ l
 ·have := idxF_old v [] l 0 h
  simp only [List.append_nil] at this
  simp [h, this.1]
 ·rw [idxF_none v l 0 h]; simp [h]
theorem slices_Index_ev (l : List Int) (v : Int) (hl : l.length ≤ 1048576) : Ev (fun k => slices_Index_int_int.f k l v) (idxF v l 0) := by
 have key : ∀ i, i ≤ l.length → Ev (fun k => slices_Index_int_int.l0 k l v (l.length : Int) (i : Int)) (idxF v (l.drop i) i) := by
  refine Ev_downR (L := fun i k => slices_Index_int_int.l0 k l v (l.length : Int) (i : Int)) (R := fun i => idxF v (l.drop i) i) l.length ?_ ?_
  ·refine Ev_at 1 (fun k => ?_)
   simp only [slices_Index_int_int.l0]
   rw [if_neg (by omega)]
   simp [idxF]
  ·intro i hi ih
   refine Ev.step (f := fun k => if l[i] = v then some (i : Int) else slices_Index_int_int.l0 k l v (l.length : Int) ((i + 1 : Nat) : Int)) (fun k => ?_) ?_
   ·simp only [slices_Index_int_int.l0]
    rw [if_pos (by omega), if_pos (by omega), if_pos (by omega), rd_at l i hi, wrap_up i (by omega)]
    by_cases h : l[i] = v
    ·rw [if_pos h, if_pos h.symm]
    ·rw [if_neg h, if_neg (Ne.symm h)]
   ·rw [List.drop_eq_getElem_cons hi]
    by_cases h : l[i] = v
    ·simp only [if_pos h, idxF]; exact Ev.now _
    ·simp only [if_neg h, idxF]; exact ih
 exact key 0 (Nat.zero_le _)
theorem spec_KeyOf_ev (l : List Int) (st v : Int) (hl : l.length ≤ 1048576) : Ev (fun k => spec_KeyOf.f k l st v) (idxF v l 0) := by
 have key : ∀ i, i ≤ l.length → Ev (fun k => spec_KeyOf.l0 k v (i : Int) l st) (idxF v (l.drop i) i) := by
  refine Ev_downR (L := fun i k => spec_KeyOf.l0 k v (i : Int) l st) (R := fun i => idxF v (l.drop i) i) l.length ?_ ?_
  ·refine Ev_at 1 (fun k => ?_)
   simp only [spec_KeyOf.l0]
   rw [if_neg (by omega)]
   simp [idxF]
  ·intro i hi ih
   refine Ev.step (f := fun k => if l[i] = v then some (i : Int) else spec_KeyOf.l0 k v ((i + 1 : Nat) : Int) l st) (fun k => ?_) ?_
   ·simp only [spec_KeyOf.l0]
    rw [if_pos (by omega), if_pos (by omega), rd_at l i hi, wrap_up i (by omega)]
   ·rw [List.drop_eq_getElem_cons hi]
    by_cases h : l[i] = v
    ·simp only [if_pos h, idxF]; exact Ev.now _
    ·simp only [if_neg h, idxF]; exact ih
 exact key 0 (Nat.zero_le _)
theorem slices_Contains_ev (l : List Int) (v : Int) (hl : l.length ≤ 1048576) : Ev (fun k => slices_Contains_int_int.f k l v) (decide (v ∈ l)) := by
 unfold slices_Contains_int_int.f
 refine Ev.bind (slices_Index_ev l v hl) ?_
 rw [← idxF_mem]
 exact Ev.now _
def heldOk : List Int → List Int → Bool
 | _, [] => true
 | pre, v :: vs => (v == 0 || (valOk v && !decide (v ∈ pre))) && heldOk (pre ++ [v]) vs
def rowsOk (l : List Int) (s : Int) : Bool := heldOk [] l && (decide ((l.length : Int) = 4) && inR s 0 5)
theorem idx_here (l : List Int) (i : Nat) (hi : i < l.length) : decide (idxF l[i] l 0 = (i : Int)) = !decide (l[i] ∈ l.take i) := by
 have hs : l = l.take i ++ l[i] :: l.drop (i + 1) := by rw [← List.drop_eq_getElem_cons hi, List.take_append_drop]
 have hlen : (l.take i).length = i := by simp; omega
 by_cases h : l[i] ∈ l.take i
 ·have := idxF_old l[i] (l[i] :: l.drop (i + 1)) (l.take i) 0 h
  rw [← hs, hlen] at this
  simp [h]; omega
 ·have := idxF_new l[i] (l.drop (i + 1)) (l.take i) 0 h
  rw [← hs, hlen] at this
  simp [h, this]
theorem heldOk_at (l : List Int) (i : Nat) (hi : i < l.length) : heldOk (l.take i) (l.drop i) = ((l[i] == 0 || (valOk l[i] && !decide (l[i] ∈ l.take i))) && heldOk (l.take (i + 1)) (l.drop (i + 1))) := by
 rw [List.drop_eq_getElem_cons hi, List.take_succ_eq_append_getElem hi]; rfl
theorem spec_RowsOk_ev (l : List Int) (st : Int) (hl : l.length ≤ 1048576) : Ev (fun k => spec_RowsOk.f k l st) (rowsOk l st) := by
 have key : ∀ i, i ≤ l.length → Ev (fun k => spec_RowsOk.l0 k (i : Int) l st) (heldOk (l.take i) (l.drop i) && (decide ((l.length : Int) = 4) && inR st 0 5)) := by
  refine Ev_downR (L := fun i k => spec_RowsOk.l0 k (i : Int) l st) (R := fun i => heldOk (l.take i) (l.drop i) && (decide ((l.length : Int) = 4) && inR st 0 5)) l.length ?_ ?_
  ·refine Ev_at 1 (fun k => ?_)
   simp only [spec_RowsOk.l0, spec_l1In_eq, Option.bind_some]
   rw [if_neg (by omega)]
   by_cases h : (l.length : Int) = 4 <;> simp [h, heldOk]
  ·intro i hi ih
   refine Ev.step (f := fun k => if l[i] = 0 then spec_RowsOk.l0 k ((i + 1 : Nat) : Int) l st else (if valOk l[i] = true then (spec_KeyOf.f k l st l[i]).bind fun t => (if t = (i : Int) then spec_RowsOk.l0 k ((i + 1 : Nat) : Int) l st else some false) else some false)) (fun k => ?_) ?_
   ·simp only [spec_RowsOk.l0, spec_ValOk_eq, Option.bind_some]
    rw [if_pos (by omega), if_pos (by omega), rd_at l i hi, wrap_up i (by omega)]
   ·rw [heldOk_at l i hi]
    by_cases h : l[i] = 0
    ·have e : (l[i] == 0 || (valOk l[i] && !decide (l[i] ∈ l.take i))) = true := by simp [h]
     simp only [if_pos h, e, Bool.true_and]; exact ih
    ·simp only [if_neg h]
     cases hv : valOk l[i]
     ·have e : (l[i] == 0 || (false && !decide (l[i] ∈ l.take i))) = false := by simp [h]
      rw [e]
      simp only [Bool.false_and, Bool.false_eq_true, if_false]; exact Ev.now _
     ·simp only [if_true]
      refine Ev.bind (spec_KeyOf_ev l st l[i] hl) ?_
      have := idx_here l i hi
      by_cases h2 : l[i] ∈ l.take i
      ·rw [decide_eq_true h2] at this
       have h3 : ¬ idxF l[i] l 0 = (i : Int) := by simpa using this
       have e : (l[i] == 0 || (true && !decide (l[i] ∈ l.take i))) = false := by simp [h, h2]
       rw [e]
       simp only [if_neg h3, Bool.false_and]; exact Ev.now _
      ·rw [decide_eq_false h2] at this
       have h3 : idxF l[i] l 0 = (i : Int) := by simpa using this
       have e : (l[i] == 0 || (true && !decide (l[i] ∈ l.take i))) = true := by simp [h, h2]
       rw [e]
       simp only [if_pos h3, Bool.true_and]; exact ih
 have := key 0 (Nat.zero_le _)
 simpa [spec_RowsOk.f, rowsOk] using this
theorem impl_RowsOk_ev (l : List Int) (st : Int) (hl : l.length ≤ 1048576) : Ev (fun k => impl_RowsOk.f k l st) (rowsOk l st) := by
 have key : ∀ i, i ≤ l.length → Ev (fun k => impl_RowsOk.l0 k l (l.length : Int) (i : Int) l st) (heldOk (l.take i) (l.drop i) && (decide ((l.length : Int) = 4) && inR st 0 5)) := by
  refine Ev_downR (L := fun i k => impl_RowsOk.l0 k l (l.length : Int) (i : Int) l st) (R := fun i => heldOk (l.take i) (l.drop i) && (decide ((l.length : Int) = 4) && inR st 0 5)) l.length ?_ ?_
  ·refine Ev_at 1 (fun k => ?_)
   simp only [impl_RowsOk.l0, impl_from_eq, Option.bind_some]
   rw [if_neg (by omega)]
   by_cases h : (l.length : Int) = 4 <;> simp [h, heldOk]
  ·intro i hi ih
   refine Ev.step (f := fun k => if l[i] = 0 then impl_RowsOk.l0 k l (l.length : Int) ((i + 1 : Nat) : Int) l st else (if valOk l[i] = true then (slices_Contains_int_int.f k (l.take i) l[i]).bind fun t => (if t = true then some false else impl_RowsOk.l0 k l (l.length : Int) ((i + 1 : Nat) : Int) l st) else some false)) (fun k => ?_) ?_
   ·simp only [impl_RowsOk.l0, impl_ValOk_eq, Option.bind_some]
    rw [if_pos (by omega), if_pos (by omega), if_pos (by omega), rd_at l i hi, wrap_up i (by omega), if_pos (show (i : Int) ≤ (l.length : Int) by omega), Int.toNat_natCast]
   ·rw [heldOk_at l i hi]
    by_cases h : l[i] = 0
    ·have e : (l[i] == 0 || (valOk l[i] && !decide (l[i] ∈ l.take i))) = true := by simp [h]
     simp only [if_pos h, e, Bool.true_and]; exact ih
    ·simp only [if_neg h]
     cases hv : valOk l[i]
     ·have e : (l[i] == 0 || (false && !decide (l[i] ∈ l.take i))) = false := by simp [h]
      rw [e]
      simp only [Bool.false_and, Bool.false_eq_true, if_false]; exact Ev.now _
     ·simp only [if_true]
      refine Ev.bind (slices_Contains_ev (l.take i) l[i] (Nat.le_trans (List.length_take_le' _ _) hl)) ?_
      by_cases h2 : l[i] ∈ l.take i
      ·have e : (l[i] == 0 || (true && !decide (l[i] ∈ l.take i))) = false := by simp [h, h2]
       rw [e]
       simp only [decide_eq_true h2, if_true, Bool.false_and]; exact Ev.now _
      ·have e : (l[i] == 0 || (true && !decide (l[i] ∈ l.take i))) = true := by simp [h, h2]
       rw [e]
       simp only [decide_eq_false h2, Bool.false_eq_true, if_false, Bool.true_and]; exact ih
 have := key 0 (Nat.zero_le _)
 simpa [impl_RowsOk.f, rowsOk] using this
theorem allfunc {α : Type} (xs : List α) (p : α → Bool) (L : Nat → Int → Option Bool) (R : Bool) (hn : Ev (fun k => L k (xs.length : Int)) R) (hs : ∀ (i : Nat) (hi : i < xs.length) (r : Bool), Ev (fun k => L k ((i + 1 : Nat) : Int)) r → Ev (fun k => L k (i : Int)) (p xs[i] && r)) : Ev (fun k => L k 0) (xs.all p && R) := by
 have key : ∀ d i, i + d = xs.length → Ev (fun k => L k (i : Int)) ((xs.drop i).all p && R) := by
  intro d
  induction d with
  | zero =>
   intro i hi
   obtain rfl : i = xs.length := by omega
   rw [List.drop_length]
   exact hn
  | succ d ih =>
   intro i hi
   have hil : i < xs.length := by omega
   have := hs i hil _ (ih (i + 1) (by omega))
   rw [List.drop_eq_getElem_cons hil, List.all_cons, Bool.and_assoc]
   exact this
 have := key xs.length 0 (by omega)
 simpa using this
theorem idxfunc {α : Type} (xs : List α) (p : α → Bool) (L : Nat → Int → Option Int) (hn : Ev (fun k => L k (xs.length : Int)) (-1)) (hs : ∀ (i : Nat) (hi : i < xs.length) (r : Int), Ev (fun k => if (!p xs[i]) = true then some (i : Int) else L k ((i + 1 : Nat) : Int)) r → Ev (fun k => L k (i : Int)) r) : ∃ r, Ev (fun k => L k 0) r ∧ decide (r ≥ 0) = !xs.all p := by
 have key : ∀ d i, i + d = xs.length → ∃ r, Ev (fun k => L k (i : Int)) r ∧ decide (r ≥ 0) = !(xs.drop i).all p := by
  intro d
  induction d with
  | zero =>
   intro i hi
   obtain rfl : i = xs.length := by omega
   exact ⟨-1, hn, by rw [List.drop_length]; rfl⟩
  | succ d ih =>
   intro i hi
   have hil : i < xs.length := by omega
   cases hp : p xs[i]
   ·refine ⟨(i : Int), hs i hil _ (by simp only [hp, Bool.not_false, if_true]; exact Ev.now _), ?_⟩
    rw [List.drop_eq_getElem_cons hil, List.all_cons, hp]
    simp
   ·obtain ⟨r, hr, he⟩ := ih (i + 1) (by omega)
    refine ⟨r, hs i hil _ (by simp only [hp, Bool.not_true, Bool.false_eq_true, if_false]; exact hr), ?_⟩
    rw [List.drop_eq_getElem_cons hil, List.all_cons, hp, he]
    simp
 obtain ⟨r, h1, h2⟩ := key xs.length 0 (by omega)
 exact ⟨r, h1, by simpa using h2⟩
theorem rdT_Op (l : List S122) (i : Nat) (hi : i < l.length) : rd_T122 l (i : Int) = l[i] := by simp [rd_T122, List.getD_eq_getElem?_getD, hi]
theorem rdT_Pair (l : List S125) (i : Nat) (hi : i < l.length) : rd_T125 l (i : Int) = l[i] := by simp [rd_T125, List.getD_eq_getElem?_getD, hi]
theorem rdT_Help (l : List S42) (i : Nat) (hi : i < l.length) : rd_T42 l (i : Int) = l[i] := by simp [rd_T42, List.getD_eq_getElem?_getD, hi]
def opOkS (o : S122) : Bool := opOk o.f0 o.f1 o.f2
def pairOk (p : S125) : Bool := inR p.f0 0 19 && inR p.f1 0 1000
def helpOk (n : Int) (h : S42) : Bool := inR h.f0 0 (n - 1) && (inR h.f1 1 1000000 && (inR h.f2 0 20 && inR h.f3 0 20))
def rowsT (ops : List S122) (got : List S125) (st : List S42) (n : Int) : Bool := ops.all opOkS && (got.all pairOk && st.all (helpOk n))
def shapeT (ops : List S122) (pc : Int) (on : Bool) (got : List S125) (st : List S42) : Bool :=
 decide (ops.length ≤ 8) && (inR pc 0 (ops.length : Int) && (!(on && decide (pc = (ops.length : Int))) && ((on || (decide (got.length = 0) && decide (st.length = 0))) && (decide (got.length ≤ 12) && decide (st.length ≤ 2)))))
def threadOk (ops : List S122) (pc : Int) (on : Bool) (got : List S125) (st : List S42) (n : Int) : Bool := shapeT ops pc on got st && rowsT ops got st n
theorem spec_ThreadOk_ev (ops : List S122) (pc : Int) (on : Bool) (got : List S125) (st : List S42) (n : Int) (h1 : ops.length ≤ 1048576) (h2 : got.length ≤ 1048576) (h3 : st.length ≤ 1048576) (hn : -1000 ≤ n) : Ev (fun k => spec_ThreadOk.f k ops pc on got st n) (threadOk ops pc on got st n) := by
 have k2 : Ev (fun k => spec_ThreadOk.l2 k n 0 ops pc on got st) (st.all (helpOk n)) := by
  have := allfunc st (helpOk n) (fun k i => spec_ThreadOk.l2 k n i ops pc on got st) true ?_ ?_
  ·simpa using this
  ·refine Ev_at 1 (fun k => ?_)
   simp only [spec_ThreadOk.l2]
   rw [if_neg (by omega)]
  ·intro i hi r hr
   refine Ev.step (f := fun k => if (st[i]).f0 < 0 then some false else if (st[i]).f0 ≥ n then some false else if inR (st[i]).f1 1 1000000 = true then (if inR (st[i]).f2 0 20 = true then (if inR (st[i]).f3 0 20 = true then spec_ThreadOk.l2 k n ((i + 1 : Nat) : Int) ops pc on got st else some false) else some false) else some false) (fun k => ?_) ?_
   ·simp only [spec_ThreadOk.l2, rdT_Help st i hi, spec_l1In_eq, Option.bind_some]
    rw [if_pos (by omega), if_pos (by omega), wrap_up i (by omega)]
   ·have e : inR (st[i]).f0 0 (n - 1) = (!decide ((st[i]).f0 < 0) && !decide ((st[i]).f0 ≥ n)) := by
     simp only [inR]
     by_cases a : (st[i]).f0 < 0 <;> by_cases b : (st[i]).f0 ≥ n <;> simp [a, b] <;> omega
    simp only [helpOk, e]
    by_cases a : (st[i]).f0 < 0
    ·simp only [if_pos a, decide_eq_true a, Bool.not_true, Bool.false_and]; exact Ev.now _
    ·by_cases b : (st[i]).f0 ≥ n
     ·simp only [if_neg a, if_pos b, decide_eq_true b, Bool.not_true, Bool.false_and, Bool.and_false]; exact Ev.now _
     ·simp only [if_neg a, if_neg b, decide_eq_false a, decide_eq_false b, Bool.not_false, Bool.true_and]
      cases inR (st[i]).f1 1 1000000
      ·simp only [Bool.false_eq_true, if_false, Bool.false_and]; exact Ev.now _
      ·cases inR (st[i]).f2 0 20
       ·simp only [Bool.false_eq_true, if_false, if_true, Bool.false_and, Bool.and_false]; exact Ev.now _
       ·cases inR (st[i]).f3 0 20
        ·simp only [Bool.false_eq_true, if_false, if_true, Bool.false_and, Bool.and_false]; exact Ev.now _
        ·simp only [if_true, Bool.true_and]; exact hr
 have k1 : Ev (fun k => spec_ThreadOk.l1 k n 0 ops pc on got st) (got.all pairOk && st.all (helpOk n)) := by
  refine allfunc got pairOk (fun k i => spec_ThreadOk.l1 k n i ops pc on got st) _ ?_ ?_
  ·refine Ev.step (f := fun k => spec_ThreadOk.l2 k n 0 ops pc on got st) (fun k => ?_) k2
   simp only [spec_ThreadOk.l1]
   rw [if_neg (by omega)]
  ·intro i hi r hr
   refine Ev.step (f := fun k => if inR (got[i]).f0 0 19 = true then (if inR (got[i]).f1 0 1000 = true then spec_ThreadOk.l1 k n ((i + 1 : Nat) : Int) ops pc on got st else some false) else some false) (fun k => ?_) ?_
   ·simp only [spec_ThreadOk.l1, rdT_Pair got i hi, spec_l1In_eq, Option.bind_some]
    rw [if_pos (by omega), if_pos (by omega), wrap_up i (by omega)]
   ·simp only [pairOk]
    cases inR (got[i]).f0 0 19
    ·simp only [Bool.false_eq_true, if_false, Bool.false_and]; exact Ev.now _
    ·cases inR (got[i]).f1 0 1000
     ·simp only [Bool.false_eq_true, if_false, if_true, Bool.false_and, Bool.and_false]; exact Ev.now _
     ·simp only [if_true, Bool.true_and]; exact hr
 have k0 : Ev (fun k => spec_ThreadOk.l0 k n 0 ops pc on got st) (rowsT ops got st n) := by
  refine allfunc ops opOkS (fun k i => spec_ThreadOk.l0 k n i ops pc on got st) _ ?_ ?_
  ·refine Ev.step (f := fun k => spec_ThreadOk.l1 k n 0 ops pc on got st) (fun k => ?_) k1
   simp only [spec_ThreadOk.l0]
   rw [if_neg (by omega)]
  ·intro i hi r hr
   refine Ev.step (f := fun k => (spec_OpOk.f k (ops[i]).f0 (ops[i]).f1 (ops[i]).f2).bind fun t => if t = true then spec_ThreadOk.l0 k n ((i + 1 : Nat) : Int) ops pc on got st else some false) (fun k => ?_) (Ev.bind (Ev_at 2 (fun k => spec_OpOk_eq _ _ _ k)) ?_)
   ·simp only [spec_ThreadOk.l0, rdT_Op ops i hi]
    rw [if_pos (by omega), if_pos (by omega), wrap_up i (by omega)]
   ·simp only [opOkS]
    cases opOk (ops[i]).f0 (ops[i]).f1 (ops[i]).f2
    ·simp only [Bool.false_eq_true, if_false, Bool.false_and]; exact Ev.now _
    ·simp only [if_true, Bool.true_and]; exact hr
 have hj : ∀ b : Bool, Ev (fun k => spec_ThreadOk.j0 k n b ops pc on got st) (!b && rowsT ops got st n) := by
  intro b
  refine Ev.step (f := fun k => if b = true then some false else spec_ThreadOk.l0 k n 0 ops pc on got st) (fun k => by simp only [spec_ThreadOk.j0]) ?_
  cases b
  ·simp only [Bool.false_eq_true, if_false, Bool.not_false, Bool.true_and]; exact k0
  ·simp only [if_true, Bool.not_true, Bool.false_and]; exact Ev.now _
 have hw : wrap64 ((got.length : Int) + (st.length : Int)) = (got.length : Int) + (st.length : Int) := by unfold wrap64; omega
 unfold spec_ThreadOk.f threadOk
 simp only [spec_l1In_eq, Option.bind_some, hw]
 have fin : ∀ b : Bool, (!b) = shapeT ops pc on got st → Ev (fun k => spec_ThreadOk.j0 k n b ops pc on got st) (shapeT ops pc on got st && rowsT ops got st n) := fun b hb => hb ▸ hj b
 by_cases c1 : (ops.length : Int) > 8
 ·simp only [if_pos c1]
  exact fin true (by simp [shapeT, show ¬ ops.length ≤ 8 by omega])
 simp only [if_neg c1]
 cases c2 : inR pc 0 (ops.length : Int)
 ·simp only [Bool.false_eq_true, if_false]
  exact fin true (by simp [shapeT, c2])
 simp only [if_true]
 have c2' := (inR_iff _ _ _).1 c2
 cases on
 ·simp only [Bool.false_eq_true, if_false]
  by_cases c3 : (got.length : Int) + (st.length : Int) > 0
  ·simp only [if_pos c3]
   refine fin true ?_
   by_cases a : got.length = 0
   ·have b : ¬ st.length = 0 := by omega
    simp [shapeT, a, b]
   ·simp [shapeT, a]
  ·have a : got.length = 0 := by omega
   have b : st.length = 0 := by omega
   simp only [if_neg c3, if_neg (show ¬ (got.length : Int) > 12 by omega)]
   exact fin _ (by simp [shapeT, c2, a, b, show ops.length ≤ 8 by omega])
 ·simp only [if_true]
  by_cases c3 : pc ≥ (ops.length : Int)
  ·simp only [if_pos c3]
   have : pc = (ops.length : Int) := by omega
   exact fin true (by simp [shapeT, this])
  ·have c3' : ¬ pc = (ops.length : Int) := by omega
   simp only [if_neg c3]
   by_cases c4 : (got.length : Int) > 12
   ·simp only [if_pos c4]
    exact fin true (by simp [shapeT, show ¬ got.length ≤ 12 by omega])
   ·simp only [if_neg c4]
    refine fin _ ?_
    by_cases c5 : st.length ≤ 2
    ·simp [shapeT, c2, c3', c5, show ops.length ≤ 8 by omega, show got.length ≤ 12 by omega]
     omega
    ·simp [shapeT, c5]
     omega
theorem impl_ThreadOk_ev (ops : List S122) (pc : Int) (on : Bool) (got : List S125) (st : List S42) (n : Int) (h1 : ops.length ≤ 1048576) (h2 : got.length ≤ 1048576) (h3 : st.length ≤ 1048576) (hn : -1000 ≤ n) (hn2 : n ≤ 1048576) : Ev (fun k => impl_ThreadOk.f k ops pc on got st n) (threadOk ops pc on got st n) := by
 have b1 : Ev (fun k => slices_ContainsFuncThreadOk_c1.f k ops) (!ops.all opOkS) := by
  obtain ⟨r, hr, he⟩ := idxfunc ops opOkS (fun k i => slices_IndexFuncThreadOk_c1.l0 k ops (ops.length : Int) i) (Ev_at 1 (fun k => by
   simp only [slices_IndexFuncThreadOk_c1.l0]
   rw [if_neg (by omega)])) (fun i hi r hr => by
   refine Ev.step (f := fun k => (impl_ThreadOk_c1.f k (ops[i]).f0 (ops[i]).f1 (ops[i]).f2).bind fun t => if t = true then some (i : Int) else slices_IndexFuncThreadOk_c1.l0 k ops (ops.length : Int) ((i + 1 : Nat) : Int)) (fun k => ?_) (Ev.bind (a := !opOkS ops[i]) ?_ hr)
   ·simp only [slices_IndexFuncThreadOk_c1.l0, rdT_Op ops i hi]
    rw [if_pos (by omega), if_pos (by omega), if_pos (by omega), wrap_up i (by omega)]
   ·unfold impl_ThreadOk_c1.f
    exact Ev.bind (Ev_at 3 (fun k => impl_OpOk_eq _ _ _ k)) (Ev.now _))
  unfold slices_ContainsFuncThreadOk_c1.f slices_IndexFuncThreadOk_c1.f
  refine Ev.bind hr ?_
  rw [he]
  exact Ev.now _
 have b2 : Ev (fun k => slices_ContainsFuncThreadOk_c2.f k got) (!got.all pairOk) := by
  obtain ⟨r, hr, he⟩ := idxfunc got pairOk (fun k i => slices_IndexFuncThreadOk_c2.l0 k got (got.length : Int) i) (Ev_at 1 (fun k => by
   simp only [slices_IndexFuncThreadOk_c2.l0]
   rw [if_neg (by omega)])) (fun i hi r hr => by
   have e : impl_ThreadOk_c2.f (got[i]).f0 (got[i]).f1 = some (!pairOk got[i]) := by
    simp only [impl_ThreadOk_c2.f, impl_isPlace.f, impl_isWordNum.f, impl_from_eq, Option.bind_some, pairOk]
    cases inR (got[i]).f0 0 19 <;> simp
   refine Ev.step (f := fun k => if (!pairOk got[i]) = true then some (i : Int) else slices_IndexFuncThreadOk_c2.l0 k got (got.length : Int) ((i + 1 : Nat) : Int)) (fun k => ?_) hr
   simp only [slices_IndexFuncThreadOk_c2.l0, rdT_Pair got i hi, e, Option.bind_some]
   rw [if_pos (by omega), if_pos (by omega), if_pos (by omega), wrap_up i (by omega)])
  unfold slices_ContainsFuncThreadOk_c2.f slices_IndexFuncThreadOk_c2.f
  refine Ev.bind hr ?_
  rw [he]
  exact Ev.now _
 have b3 : Ev (fun k => slices_ContainsFuncThreadOk_c3.f k st n) (!st.all (helpOk n)) := by
  have ew : wrap64 (n - 1) = n - 1 := by unfold wrap64; omega
  obtain ⟨r, hr, he⟩ := idxfunc st (helpOk n) (fun k i => slices_IndexFuncThreadOk_c3.l0 k st n (st.length : Int) i) (Ev_at 1 (fun k => by
   simp only [slices_IndexFuncThreadOk_c3.l0]
   rw [if_neg (by omega)])) (fun i hi r hr => by
   have e : impl_ThreadOk_c3.f (st[i]).f0 (st[i]).f1 (st[i]).f2 (st[i]).f3 n = some (!helpOk n st[i]) := by
    simp only [impl_ThreadOk_c3.f, impl_from_eq, Option.bind_some, helpOk, ew]
    cases inR (st[i]).f0 0 (n - 1) <;> cases inR (st[i]).f1 1 1000000 <;> cases inR (st[i]).f2 0 20 <;> simp
   refine Ev.step (f := fun k => if (!helpOk n st[i]) = true then some (i : Int) else slices_IndexFuncThreadOk_c3.l0 k st n (st.length : Int) ((i + 1 : Nat) : Int)) (fun k => ?_) hr
   simp only [slices_IndexFuncThreadOk_c3.l0, rdT_Help st i hi, e, Option.bind_some]
   rw [if_pos (by omega), if_pos (by omega), if_pos (by omega), wrap_up i (by omega)])
  unfold slices_ContainsFuncThreadOk_c3.f slices_IndexFuncThreadOk_c3.f
  refine Ev.bind hr ?_
  rw [he]
  exact Ev.now _
 have hj1 : ∀ b : Bool, Ev (fun k => impl_ThreadOk.j1 k n b ops pc on got st) (!b && (got.all pairOk && st.all (helpOk n))) := by
  intro b
  refine Ev.step (f := fun k => if b = true then some false else (slices_ContainsFuncThreadOk_c2.f k got).bind fun t480 => (if t480 = true then (some false) else ((slices_ContainsFuncThreadOk_c3.f k st n).bind fun t481 => (some (!t481))))) (fun k => by simp only [impl_ThreadOk.j1]) ?_
  cases b
  ·simp only [Bool.false_eq_true, if_false, Bool.not_false, Bool.true_and]
   refine Ev.bind b2 ?_
   cases got.all pairOk
   ·simp only [Bool.not_false, if_true, Bool.false_and]; exact Ev.now _
   ·simp only [Bool.not_true, Bool.false_eq_true, if_false, Bool.true_and]
    refine Ev.bind b3 ?_
    rw [Bool.not_not]
    exact Ev.now _
  ·simp only [if_true, Bool.not_true, Bool.false_and]; exact Ev.now _
 have hw : wrap64 ((got.length : Int) + (st.length : Int)) = (got.length : Int) + (st.length : Int) := by unfold wrap64; omega
 have hj : ∀ b : Bool, Ev (fun k => impl_ThreadOk.j0 k n b ops pc on got st) (!b && ((on || !decide ((got.length : Int) + (st.length : Int) > 0)) && (got.all pairOk && st.all (helpOk n)))) := by
  intro b
  refine Ev.step (f := fun k => if b = true then some false else if on = true then impl_ThreadOk.j1 k n false ops pc on got st else impl_ThreadOk.j1 k n (decide ((got.length : Int) + (st.length : Int) > 0)) ops pc on got st) (fun k => by simp only [impl_ThreadOk.j0, hw]) ?_
  cases b
  ·simp only [Bool.false_eq_true, if_false, Bool.not_false, Bool.true_and]
   cases on
   ·simp only [Bool.false_eq_true, if_false, Bool.false_or]; exact hj1 _
   ·simp only [if_true, Bool.true_or, Bool.true_and]
    have := hj1 false
    simpa using this
  ·simp only [if_true, Bool.not_true, Bool.false_and]; exact Ev.now _
 unfold impl_ThreadOk.f
 simp only [impl_from_eq, Option.bind_some]
 have fin : ∀ b : Bool, (!b && ((on || !decide ((got.length : Int) + (st.length : Int) > 0)) && (got.all pairOk && st.all (helpOk n)))) = threadOk ops pc on got st n → Ev (fun k => impl_ThreadOk.j0 k n b ops pc on got st) (threadOk ops pc on got st n) := fun b hb => hb ▸ hj b
 have hgs : (on || !decide ((got.length : Int) + (st.length : Int) > 0)) = (on || (decide (got.length = 0) && decide (st.length = 0))) := by
  cases on
  ·by_cases a : got.length = 0 <;> by_cases b : st.length = 0 <;> simp [a, b] <;> omega
  ·rfl
 rw [hgs] at fin
 by_cases c1 : (ops.length : Int) > 8
 ·simp only [if_pos c1]
  exact fin true (by simp [threadOk, shapeT, show ¬ ops.length ≤ 8 by omega])
 simp only [if_neg c1]
 refine Ev.bind b1 ?_
 have c1' : ops.length ≤ 8 := by omega
 cases c0 : ops.all opOkS
 ·simp only [Bool.not_false, if_true]
  exact fin true (by simp [threadOk, rowsT, c0])
 simp only [Bool.not_true, Bool.false_eq_true, if_false]
 cases c2 : inR pc 0 (ops.length : Int)
 ·simp only [Bool.false_eq_true, if_false]
  exact fin true (by simp [threadOk, shapeT, c2])
 simp only [if_true]
 have body : (!(on && decide (pc = (ops.length : Int)))) = true → Ev (fun k => if (got.length : Int) > 12 then impl_ThreadOk.j0 k n true ops pc on got st else impl_ThreadOk.j0 k n (decide ((st.length : Int) > 2)) ops pc on got st) (threadOk ops pc on got st n) := by
  intro h
  by_cases c4 : (got.length : Int) > 12
  ·simp only [if_pos c4]
   exact fin true (by simp [threadOk, shapeT, show ¬ got.length ≤ 12 by omega])
  ·simp only [if_neg c4]
   refine fin _ ?_
   have c4' : got.length ≤ 12 := by omega
   have e5 : (!decide ((st.length : Int) > 2)) = decide (st.length ≤ 2) := by by_cases c5 : st.length ≤ 2 <;> simp [c5] <;> omega
   simp only [threadOk, shapeT, rowsT, c0, c2, h, e5, decide_eq_true c1', decide_eq_true c4', Bool.true_and]
   cases decide (st.length ≤ 2) <;> cases (on || decide (got.length = 0) && decide (st.length = 0)) <;> simp
 cases on
 ·simp only [Bool.false_eq_true, if_false]
  exact body rfl
 ·simp only [if_true]
  by_cases c3 : pc = (ops.length : Int)
  ·simp only [if_pos c3]
   exact fin true (by simp [threadOk, shapeT, c3])
  ·simp only [if_neg c3]
   exact body (by simp [c3])
theorem rdT_Call (l : List S147) (i : Nat) (hi : i < l.length) : rd_T147 l (i : Int) = l[i] := by simp [rd_T147, List.getD_eq_getElem?_getD, hi]
theorem rdT_Thread (l : List S62) (i : Nat) (hi : i < l.length) : rd_T62 l (i : Int) = l[i] := by simp [rd_T62, List.getD_eq_getElem?_getD, hi]
def callOk (n tm : Int) (c : S147) : Bool := inR c.f0 0 (n - 1) && (opOk c.f1.f0 c.f1.f1 c.f1.f2 && (inR c.f2 0 tm && ((decide (c.f3 = -1) || inR c.f3 c.f2 tm) && (decide (c.f4 = -1) || inR c.f4 c.f2 tm))))
theorem spec_l9Call_ev (ws : List S39) (ds : List S52) (ts : List S62) (tm : Int) (cs : List S147) (O H : List Int) (s : Int) (c : S147) (ht : ts.length ≤ 1048576) : Ev (fun k => spec_l9Call.f k ws ds ts tm cs O H s c.f0 c.f1.f0 c.f1.f1 c.f1.f2 c.f2 c.f3 c.f4 c.f5.f0 c.f5.f1) (callOk (ts.length : Int) tm c) := by
 have ew : wrap64 ((ts.length : Int) - 1) = (ts.length : Int) - 1 := by unfold wrap64; omega
 unfold spec_l9Call.f callOk
 simp only [spec_l1In_eq, Option.bind_some, ew]
 cases inR c.f0 0 ((ts.length : Int) - 1)
 ·simp only [Bool.false_eq_true, if_false, Bool.false_and]; exact Ev.now _
 simp only [if_true, Bool.true_and]
 refine Ev.bind (Ev_at 2 (fun k => spec_OpOk_eq _ _ _ k)) ?_
 cases opOk c.f1.f0 c.f1.f1 c.f1.f2
 ·simp only [Bool.false_eq_true, if_false, Bool.false_and]; exact Ev.now _
 simp only [if_true, Bool.true_and]
 cases inR c.f2 0 tm
 ·simp only [Bool.false_eq_true, if_false, Bool.false_and]; exact Ev.now _
 simp only [if_true, Bool.true_and]
 by_cases a : c.f3 = -1
 ·simp only [if_pos a, decide_eq_true a, Bool.true_or, Bool.true_and]
  by_cases b : c.f4 = -1
  ·simp only [if_pos b, decide_eq_true b, Bool.true_or]; exact Ev.now _
  ·simp only [if_neg b, decide_eq_false b, Bool.false_or]; exact Ev.now _
 ·simp only [if_neg a, decide_eq_false a, Bool.false_or]
  cases inR c.f3 c.f2 tm
  ·simp only [Bool.false_eq_true, if_false, Bool.false_and]; exact Ev.now _
  ·simp only [if_true, Bool.true_and]
   by_cases b : c.f4 = -1
   ·simp only [if_pos b, decide_eq_true b, Bool.true_or]; exact Ev.now _
   ·simp only [if_neg b, decide_eq_false b, Bool.false_or]; exact Ev.now _
theorem when_eq (c : S147) (x tm : Int) : impl_MachineOkWhen.f c.f0 c.f1.f0 c.f1.f1 c.f1.f2 c.f2 c.f3 c.f4 c.f5.f0 c.f5.f1 x tm = some (decide (x = -1) || inR x c.f2 tm) := by
 unfold impl_MachineOkWhen.f
 by_cases a : x = -1
 ·simp only [if_pos a, decide_eq_true a, Bool.true_or]
 ·simp only [if_neg a, decide_eq_false a, Bool.false_or, impl_from_eq, Option.bind_some]
def lins : List S147 → Int
 | [] => 0
 | c :: r => (if c.f3 ≥ 0 then 1 else 0) + lins r
def ordAt (cs : List S147) (O : List Int) (i : Nat) : Bool :=
 inR (rd O (i : Int)) 0 ((cs.length : Int) - 1) && (!decide ((rd_T147 cs (rd O (i : Int))).f3 < 0) && (!decide (rd O (i : Int) ∈ O.take i) && (decide (i = 0) || !decide ((rd_T147 cs (rd O ((i : Int) - 1))).f3 > (rd_T147 cs (rd O (i : Int))).f3))))
def ordAll (cs : List S147) (O : List Int) : Nat → Nat → Bool
 | 0, _ => true
 | d + 1, i => ordAt cs O i && ordAll cs O d (i + 1)
theorem spec_order_ev (ws : List S39) (ds : List S52) (ts : List S62) (tm : Int) (cs : List S147) (O H : List Int) (s n : Int) (hc : cs.length ≤ 1048576) (hO : O.length ≤ 1048576) : Ev (fun k => spec_l9Calls.l1 k n 0 ws ds ts tm cs O H s) (ordAll cs O O.length 0 && (decide (cs.length ≤ 40) && n == (O.length : Int))) := by
 have ew : wrap64 ((cs.length : Int) - 1) = (cs.length : Int) - 1 := by unfold wrap64; omega
 have key : ∀ d i, i + d = O.length → (∀ j : Nat, j + 1 = i → inR (rd O (j : Int)) 0 ((cs.length : Int) - 1) = true) → Ev (fun k => spec_l9Calls.l1 k n (i : Int) ws ds ts tm cs O H s) (ordAll cs O d i && (decide (cs.length ≤ 40) && n == (O.length : Int))) := by
  intro d
  induction d with
  | zero =>
   intro i hi _
   refine Ev_at 1 (fun k => ?_)
   simp only [spec_l9Calls.l1]
   rw [if_neg (by omega)]
   by_cases c : cs.length ≤ 40
   ·rw [if_pos (by omega)]; simp [ordAll, c]
   ·rw [if_neg (by omega)]; simp [ordAll, c]
  | succ d ih =>
   intro i hi hp
   have hil : i < O.length := by omega
   have l2 : ∀ r, Ev (fun k => spec_l9Calls.l1 k n ((i + 1 : Nat) : Int) ws ds ts tm cs O H s) r → Ev (fun k => spec_l9Calls.l2 k n (i : Int) (rd O (i : Int)) 0 ws ds ts tm cs O H s) (!decide (rd O (i : Int) ∈ O.take i) && r) := by
    intro r hr
    have k2 : ∀ e j, j + e = i → Ev (fun k => spec_l9Calls.l2 k n (i : Int) (rd O (i : Int)) (j : Int) ws ds ts tm cs O H s) (!decide (rd O (i : Int) ∈ (O.take i).drop j) && r) := by
     intro e
     induction e with
     | zero =>
      intro j hj
      have : (O.take i).drop j = [] := List.drop_eq_nil_of_le (by rw [List.length_take]; omega)
      rw [this]
      refine Ev.step (f := fun k => spec_l9Calls.l1 k n ((i + 1 : Nat) : Int) ws ds ts tm cs O H s) (fun k => ?_) (by simpa using hr)
      simp only [spec_l9Calls.l2]
      rw [if_neg (by omega), wrap_up i (by omega)]
     | succ e ih2 =>
      intro j hj
      have hjl : j < (O.take i).length := by rw [List.length_take]; omega
      have hd : (O.take i).drop j = rd O (j : Int) :: (O.take i).drop (j + 1) := by
       rw [List.drop_eq_getElem_cons hjl, List.getElem_take, rd_at O j (by omega)]
      rw [hd]
      by_cases c : rd O (j : Int) = rd O (i : Int)
      ·refine Ev_at 1 (fun k => ?_)
       simp only [spec_l9Calls.l2]
       rw [if_pos (by omega), if_pos (by omega), if_pos (by omega), if_pos c]
       simp [c]
      ·refine Ev.step (f := fun k => spec_l9Calls.l2 k n (i : Int) (rd O (i : Int)) ((j + 1 : Nat) : Int) ws ds ts tm cs O H s) (fun k => ?_) ?_
       ·simp only [spec_l9Calls.l2]
        rw [if_pos (by omega), if_pos (by omega), if_pos (by omega), if_neg c, wrap_up j (by omega)]
       ·have := ih2 (j + 1) (by omega)
        have e3 : decide (rd O (i : Int) ∈ rd O (j : Int) :: (O.take i).drop (j + 1)) = decide (rd O (i : Int) ∈ (O.take i).drop (j + 1)) := by
         have c' : ¬ rd O (i : Int) = rd O (j : Int) := fun e => c e.symm
         simp only [List.mem_cons, c', false_or]
        rw [e3]
        exact this
    have := k2 i 0 (by omega)
    simpa using this
   have j2 : ∀ (b : Bool) r, Ev (fun k => spec_l9Calls.l1 k n ((i + 1 : Nat) : Int) ws ds ts tm cs O H s) r → Ev (fun k => spec_l9Calls.j2 k n (i : Int) (rd O (i : Int)) b ws ds ts tm cs O H s) (!b && (!decide (rd O (i : Int) ∈ O.take i) && r)) := by
    intro b r hr
    refine Ev.step (f := fun k => if b = true then some false else spec_l9Calls.l2 k n (i : Int) (rd O (i : Int)) 0 ws ds ts tm cs O H s) (fun k => by simp only [spec_l9Calls.j2]) ?_
    cases b
    ·simp only [Bool.false_eq_true, if_false, Bool.not_false, Bool.true_and]; exact l2 r hr
    ·simp only [if_true, Bool.not_true, Bool.false_and]; exact Ev.now _
   cases hin : inR (rd O (i : Int)) 0 ((cs.length : Int) - 1)
   ·refine Ev.step (f := fun k => spec_l9Calls.j2 k n (i : Int) (rd O (i : Int)) true ws ds ts tm cs O H s) (fun k => ?_) ?_
    ·simp only [spec_l9Calls.l1, spec_l1In_eq, Option.bind_some, ew, hin]
     rw [if_pos (by omega), if_pos (by omega)]
     simp
    ·refine Ev.step (f := fun _ => some false) (fun k => by simp only [spec_l9Calls.j2, if_true]) ?_
     simp only [ordAll, ordAt, hin, Bool.false_and]
     exact Ev.now _
   ·have hin' := (inR_iff _ _ _).1 hin
    have hr := ih (i + 1) (by omega) (fun j hj => by obtain rfl : j = i := (by omega); exact hin)
    have g1 : 0 ≤ rd O (i : Int) := hin'.1
    have g2 : rd O (i : Int) < (cs.length : Int) := by omega
    by_cases c1 : (rd_T147 cs (rd O (i : Int))).f3 < 0
    ·refine Ev.step (f := fun k => spec_l9Calls.j2 k n (i : Int) (rd O (i : Int)) true ws ds ts tm cs O H s) (fun k => ?_) ?_
     ·simp only [spec_l9Calls.l1, spec_l1In_eq, Option.bind_some, ew, hin, if_true]
      rw [if_pos (by omega), if_pos (by omega), if_pos g1, if_pos g2, if_pos c1]
     ·refine Ev.step (f := fun _ => some false) (fun k => by simp only [spec_l9Calls.j2, if_true]) ?_
      simp only [ordAll, ordAt, hin, decide_eq_true c1, Bool.not_true, Bool.false_and, Bool.and_false]
      exact Ev.now _
    ·by_cases c2 : i = 0
     ·subst c2
      refine Ev.step (f := fun k => spec_l9Calls.j2 k n ((0 : Nat) : Int) (rd O ((0 : Nat) : Int)) false ws ds ts tm cs O H s) (fun k => ?_) ?_
      ·simp only [spec_l9Calls.l1, spec_l1In_eq, Option.bind_some, ew, hin, if_true]
       rw [if_pos (by omega), if_pos (by omega), if_pos g1, if_pos g2, if_neg c1, if_neg (by omega)]
      ·have := j2 false _ hr
       simp only [ordAll, ordAt, hin, decide_eq_false c1, Bool.not_false, Bool.true_and, decide_true, Bool.true_or, Bool.and_true] at this ⊢
       rw [Bool.and_assoc]
       exact this
     ·have ew2 : wrap64 ((i : Int) - 1) = (i : Int) - 1 := by unfold wrap64; omega
      obtain ⟨j, hj⟩ : ∃ j : Nat, j + 1 = i := ⟨i - 1, by omega⟩
      have hpj := (inR_iff _ _ _).1 (hp j hj)
      have ej : (i : Int) - 1 = (j : Int) := by omega
      refine Ev.step (f := fun k => spec_l9Calls.j2 k n (i : Int) (rd O (i : Int)) (decide ((rd_T147 cs (rd O ((i : Int) - 1))).f3 > (rd_T147 cs (rd O (i : Int))).f3)) ws ds ts tm cs O H s) (fun k => ?_) ?_
      ·simp only [spec_l9Calls.l1, spec_l1In_eq, Option.bind_some, ew, hin, if_true, ew2]
       rw [if_pos (by omega), if_pos (by omega), if_pos g1, if_pos g2, if_neg c1, if_pos (by omega), if_pos (by omega), if_pos (by omega), if_pos (by rw [ej]; exact hpj.1), if_pos (by rw [ej]; omega)]
      ·have := j2 (decide ((rd_T147 cs (rd O ((i : Int) - 1))).f3 > (rd_T147 cs (rd O (i : Int))).f3)) _ hr
       have e0 : decide (i = 0) = false := decide_eq_false c2
       have ee : (ordAll cs O (d + 1) i && (decide (cs.length ≤ 40) && n == (O.length : Int))) = (!decide ((rd_T147 cs (rd O ((i : Int) - 1))).f3 > (rd_T147 cs (rd O (i : Int))).f3) && (!decide (rd O (i : Int) ∈ O.take i) && (ordAll cs O d (i + 1) && (decide (cs.length ≤ 40) && n == (O.length : Int))))) := by
        simp only [ordAll, ordAt, hin, decide_eq_false c1, e0, Bool.not_false, Bool.true_and, Bool.false_or]
        cases decide (rd O (i : Int) ∈ O.take i) <;> cases decide ((rd_T147 cs (rd O ((i : Int) - 1))).f3 > (rd_T147 cs (rd O (i : Int))).f3) <;> simp
       rw [ee]
       exact this
 exact key O.length 0 (by omega) (fun j hj => by omega)
theorem spec_l9Calls_ev (ws : List S39) (ds : List S52) (ts : List S62) (tm : Int) (cs : List S147) (O H : List Int) (s : Int) (ht : ts.length ≤ 1048576) (hc : cs.length ≤ 1048576) (hO : O.length ≤ 1048576) : Ev (fun k => spec_l9Calls.f k ws ds ts tm cs O H s) (cs.all (callOk (ts.length : Int) tm) && (ordAll cs O O.length 0 && (decide (cs.length ≤ 40) && lins cs == (O.length : Int)))) := by
 have key : ∀ d i n, i + d = cs.length → 0 ≤ n → n ≤ (i : Int) → Ev (fun k => spec_l9Calls.l0 k n (i : Int) ws ds ts tm cs O H s) ((cs.drop i).all (callOk (ts.length : Int) tm) && (ordAll cs O O.length 0 && (decide (cs.length ≤ 40) && (n + lins (cs.drop i)) == (O.length : Int)))) := by
  intro d
  induction d with
  | zero =>
   intro i n hi h0 h1
   have : cs.drop i = [] := List.drop_eq_nil_of_le (by omega)
   rw [this]
   refine Ev.step (f := fun k => spec_l9Calls.l1 k n 0 ws ds ts tm cs O H s) (fun k => ?_) ?_
   ·simp only [spec_l9Calls.l0]
    rw [if_neg (by omega)]
   ·have := spec_order_ev ws ds ts tm cs O H s n hc hO
    simpa [lins] using this
  | succ d ih =>
   intro i n hi h0 h1
   have hil : i < cs.length := by omega
   rw [List.drop_eq_getElem_cons hil, List.all_cons]
   have hw : wrap64 (n + (if (cs[i]).f3 ≥ 0 then 1 else 0)) = n + (if (cs[i]).f3 ≥ 0 then 1 else 0) := by split <;> (unfold wrap64; omega)
   refine Ev.step (f := fun k => (spec_l9Call.f k ws ds ts tm cs O H s (cs[i]).f0 (cs[i]).f1.f0 (cs[i]).f1.f1 (cs[i]).f1.f2 (cs[i]).f2 (cs[i]).f3 (cs[i]).f4 (cs[i]).f5.f0 (cs[i]).f5.f1).bind fun t202 => (if t202 = true then ((spec_l1Bit.f (decide ((cs[i]).f3 ≥ 0))).bind fun t204 => (spec_l9Calls.l0 k (wrap64 (n + t204)) ((i + 1 : Nat) : Int) ws ds ts tm cs O H s)) else (some false))) (fun k => ?_) (Ev.bind (spec_l9Call_ev ws ds ts tm cs O H s cs[i] ht) ?_)
   ·simp only [spec_l9Calls.l0, rdT_Call cs i hil]
    rw [if_pos (by omega), if_pos (by omega), wrap_up i (by omega)]
   ·cases callOk (ts.length : Int) tm cs[i]
    ·simp only [Bool.false_eq_true, if_false, Bool.false_and]; exact Ev.now _
    ·simp only [if_true, Bool.true_and]
     have e2 : spec_l1Bit.f (decide ((cs[i]).f3 ≥ 0)) = some (if (cs[i]).f3 ≥ 0 then 1 else 0) := by
      unfold spec_l1Bit.f
      by_cases a : (cs[i]).f3 ≥ 0
      ·simp [a]
      ·simp [a]
     simp only [e2, Option.bind_some, hw]
     have := ih (i + 1) (n + (if (cs[i]).f3 ≥ 0 then 1 else 0)) (by omega) (by split <;> omega) (by split <;> omega)
     simp only [lins]
     rw [← Int.add_assoc]
     exact this
 have := key cs.length 0 0 (by omega) (by omega) (by omega)
 unfold spec_l9Calls.f
 simpa using this
theorem impl_orderOk_ev (ws : List S39) (ds : List S52) (ts : List S62) (tm : Int) (cs : List S147) (O H : List Int) (s : Int) (hc : cs.length ≤ 1048576) (hO : O.length ≤ 1048576) : Ev (fun k => impl_orderOk.f k ws ds ts tm cs O H s) (ordAll cs O O.length 0 && lins cs == (O.length : Int)) := by
 have ew : wrap64 ((cs.length : Int) - 1) = (cs.length : Int) - 1 := by unfold wrap64; omega
 have key : ∀ n d i, i + d = O.length → (∀ j : Nat, j + 1 = i → inR (rd O (j : Int)) 0 ((cs.length : Int) - 1) = true) → Ev (fun k => impl_orderOk.l1 k n O (O.length : Int) (i : Int) ws ds ts tm cs O H s) (ordAll cs O d i && n == (O.length : Int)) := by
  intro n d
  induction d with
  | zero =>
   intro i hi _
   refine Ev_at 1 (fun k => ?_)
   simp only [impl_orderOk.l1]
   rw [if_neg (by omega)]
   simp [ordAll]
  | succ d ih =>
   intro i hi hp
   have hil : i < O.length := by omega
   cases hin : inR (rd O (i : Int)) 0 ((cs.length : Int) - 1)
   ·refine Ev_at 1 (fun k => ?_)
    simp only [impl_orderOk.l1, impl_from_eq, Option.bind_some, ew, hin]
    rw [if_pos (by omega), if_pos (by omega), if_pos (by omega)]
    simp [ordAll, ordAt, hin]
   ·have hin' := (inR_iff _ _ _).1 hin
    have hr := ih (i + 1) (by omega) (fun j hj => by obtain rfl : j = i := (by omega); exact hin)
    have g1 : 0 ≤ rd O (i : Int) := hin'.1
    have g2 : rd O (i : Int) < (cs.length : Int) := by omega
    by_cases c1 : (rd_T147 cs (rd O (i : Int))).f3 < 0
    ·refine Ev_at 1 (fun k => ?_)
     simp only [impl_orderOk.l1, impl_from_eq, Option.bind_some, ew, hin, if_true]
     rw [if_pos (by omega), if_pos (by omega), if_pos (by omega), if_pos g1, if_pos g2, if_pos c1]
     simp [ordAll, ordAt, hin, c1]
    ·refine Ev.step (f := fun k => (slices_Contains_int_int.f k (O.take (i : Int).toNat) (rd O (i : Int))).bind fun t505 => (if t505 = true then (some false) else (if (i : Int) > 0 then (if 0 ≤ (wrap64 ((i : Int) - 1)) then (if (wrap64 ((i : Int) - 1)) < (O.length : Int) then (if 0 ≤ (rd O (wrap64 ((i : Int) - 1))) then (if (rd O (wrap64 ((i : Int) - 1))) < (cs.length : Int) then (if ((rd_T147 cs (rd O (wrap64 ((i : Int) - 1)))).f3) > ((rd_T147 cs (rd O (i : Int))).f3) then (some false) else (impl_orderOk.l1 k n O (O.length : Int) ((i + 1 : Nat) : Int) ws ds ts tm cs O H s)) else (none)) else (none)) else (none)) else (none)) else (impl_orderOk.l1 k n O (O.length : Int) ((i + 1 : Nat) : Int) ws ds ts tm cs O H s)))) (fun k => ?_) (Ev.bind (slices_Contains_ev _ _ (by rw [List.length_take]; omega)) ?_)
     ·simp only [impl_orderOk.l1, impl_from_eq, Option.bind_some, ew, hin, if_true]
      rw [if_pos (by omega), if_pos (by omega), if_pos (by omega), if_pos g1, if_pos g2, if_neg c1, if_pos (by omega), wrap_up i (by omega)]
     ·rw [Int.toNat_natCast]
      cases hm : decide (rd O (i : Int) ∈ O.take i)
      ·simp only [Bool.false_eq_true, if_false]
       by_cases c2 : i = 0
       ·subst c2
        simp only [if_neg (show ¬ ((0 : Nat) : Int) > 0 by omega)]
        simp only [ordAll, ordAt, hin, decide_eq_false c1, hm, Bool.not_false, Bool.true_and, decide_true, Bool.true_or]
        exact hr
       ·have ew2 : wrap64 ((i : Int) - 1) = (i : Int) - 1 := by unfold wrap64; omega
        obtain ⟨j, hj⟩ : ∃ j : Nat, j + 1 = i := ⟨i - 1, by omega⟩
        have hpj := (inR_iff _ _ _).1 (hp j hj)
        have ej : (i : Int) - 1 = (j : Int) := by omega
        have e0 : decide (i = 0) = false := decide_eq_false c2
        simp only [ew2]
        have q1 : (i : Int) > 0 := by omega
        have q2 : 0 ≤ (i : Int) - 1 := by omega
        have q3 : (i : Int) - 1 < (O.length : Int) := by omega
        have q4 : 0 ≤ rd O ((i : Int) - 1) := by rw [ej]; exact hpj.1
        have q5 : rd O ((i : Int) - 1) < (cs.length : Int) := by rw [ej]; omega
        simp only [if_pos q1, if_pos q2, if_pos q3, if_pos q4, if_pos q5]
        by_cases c3 : (rd_T147 cs (rd O ((i : Int) - 1))).f3 > (rd_T147 cs (rd O (i : Int))).f3
        ·simp only [if_pos c3, ordAll, ordAt, hin, e0, hm, decide_eq_true c3, decide_eq_false c1, Bool.not_false, Bool.not_true, Bool.true_and, Bool.or_false, Bool.false_and]
         exact Ev.now _
        ·simp only [if_neg c3, ordAll, ordAt, hin, e0, hm, decide_eq_false c3, decide_eq_false c1, Bool.not_false, Bool.true_and, Bool.or_true]
         exact hr
      ·simp only [if_true, ordAll, ordAt, hin, decide_eq_false c1, hm, Bool.not_false, Bool.not_true, Bool.true_and, Bool.false_and]
       exact Ev.now _
 have key0 : ∀ d i n, i + d = cs.length → 0 ≤ n → n ≤ (i : Int) → Ev (fun k => impl_orderOk.l0 k n cs (cs.length : Int) (i : Int) ws ds ts tm cs O H s) (ordAll cs O O.length 0 && (n + lins (cs.drop i)) == (O.length : Int)) := by
  intro d
  induction d with
  | zero =>
   intro i n hi h0 h1
   have : cs.drop i = [] := List.drop_eq_nil_of_le (by omega)
   rw [this]
   refine Ev.step (f := fun k => impl_orderOk.l1 k n O (O.length : Int) 0 ws ds ts tm cs O H s) (fun k => ?_) ?_
   ·simp only [impl_orderOk.l0]
    rw [if_neg (by omega)]
   ·have := key n O.length 0 (by omega) (fun j hj => by omega)
    simpa [lins] using this
  | succ d ih =>
   intro i n hi h0 h1
   have hil : i < cs.length := by omega
   rw [List.drop_eq_getElem_cons hil]
   simp only [lins]
   rw [← Int.add_assoc]
   by_cases a : (cs[i]).f3 ≥ 0
   ·have hw : wrap64 (n + 1) = n + 1 := by unfold wrap64; omega
    refine Ev.step (f := fun k => impl_orderOk.l0 k (n + 1) cs (cs.length : Int) ((i + 1 : Nat) : Int) ws ds ts tm cs O H s) (fun k => ?_) ?_
    ·simp only [impl_orderOk.l0, rdT_Call cs i hil]
     rw [if_pos (by omega), if_pos (by omega), if_pos (by omega), if_pos a, hw, wrap_up i (by omega)]
    ·rw [if_pos a]
     exact ih (i + 1) (n + 1) (by omega) (by omega) (by omega)
   ·refine Ev.step (f := fun k => impl_orderOk.l0 k n cs (cs.length : Int) ((i + 1 : Nat) : Int) ws ds ts tm cs O H s) (fun k => ?_) ?_
    ·simp only [impl_orderOk.l0, rdT_Call cs i hil]
     rw [if_pos (by omega), if_pos (by omega), if_pos (by omega), if_neg a, wrap_up i (by omega)]
    ·rw [if_neg a, Int.add_zero]
     exact ih (i + 1) n (by omega) (by omega) (by omega)
 have := key0 cs.length 0 0 (by omega) (by omega) (by omega)
 unfold impl_orderOk.f
 simpa using this
def lastL (t : Int) : List S147 → Int → Int → Int
 | [], _, l => l
 | c :: r, i, l => if c.f0 = t then lastL t r (i + 1) i else lastL t r (i + 1) l
def endL (t : Int) : List S147 → Int
 | [] => 0
 | c :: r => (if c.f0 = t then (if c.f4 ≥ 0 then 1 else 0) else 0) + endL t r
def opnL (t : Int) : List S147 → Int
 | [] => 0
 | c :: r => (if c.f0 = t then (if c.f4 ≥ 0 then 0 else 1) else 0) + opnL t r
def nbL (t L : Int) : List S147 → Int → Int
 | [], _ => 0
 | c :: r, i => (if c.f0 = t then (if c.f4 ≥ 0 then 0 else (if i = L then 0 else 1)) else 0) + nbL t L r (i + 1)
def badL (t : Int) (on : Bool) (L : Int) : List S147 → Int → Bool
 | [], _ => false
 | c :: r, i => (decide (c.f0 = t) && (!decide (c.f4 ≥ 0) && !(on && decide (i = L)))) || badL t on L r (i + 1)
def hitL (t L : Int) : List S147 → Int → Int
 | [], _ => 0
 | c :: r, i => (if c.f0 = t then (if c.f4 ≥ 0 then 0 else (if i = L then 1 else 0)) else 0) + hitL t L r (i + 1)
theorem lastL_snoc (t : Int) (c : S147) : ∀ (A : List S147) (i l : Int), lastL t (A ++ [c]) i l = if c.f0 = t then i + (A.length : Int) else lastL t A i l
 | [], i, l => by simp only [List.nil_append, lastL, List.length_nil]; split <;> simp
 | a :: A, i, l => by
  simp only [List.cons_append, lastL, List.length_cons]
  split
  ·rw [lastL_snoc t c A]; split
   ·omega
   ·rfl
  ·rw [lastL_snoc t c A]; split
   ·omega
   ·rfl
theorem cnt_nonneg (t L : Int) : ∀ (A : List S147) (i : Int), 0 ≤ endL t A ∧ endL t A ≤ (A.length : Int) ∧ 0 ≤ opnL t A ∧ opnL t A ≤ (A.length : Int) ∧ 0 ≤ nbL t L A i ∧ 0 ≤ hitL t L A i ∧ opnL t A = nbL t L A i + hitL t L A i
 | [], i => by simp [endL, opnL, nbL, hitL]
 | c :: r, i => by
  have := cnt_nonneg t L r (i + 1)
  simp only [endL, opnL, nbL, hitL, List.length_cons]
  split
  ·split
   ·omega
   ·split <;> omega
  ·omega
theorem badL_on (t L : Int) : ∀ (A : List S147) (i : Int), badL t true L A i = decide (nbL t L A i > 0)
 | [], i => by simp [badL, nbL]
 | c :: r, i => by
  have h := cnt_nonneg t L r (i + 1)
  simp only [badL, nbL, badL_on t L r (i + 1)]
  by_cases a : c.f0 = t <;> by_cases b : c.f4 ≥ 0 <;> by_cases d : i = L <;> simp [a, b, d] <;> omega
theorem badL_off (t L : Int) : ∀ (A : List S147) (i : Int), badL t false L A i = decide (opnL t A > 0)
 | [], i => by simp [badL, opnL]
 | c :: r, i => by
  have h := cnt_nonneg t L r (i + 1)
  simp only [badL, opnL, badL_off t L r (i + 1)]
  by_cases a : c.f0 = t <;> by_cases b : c.f4 ≥ 0 <;> simp [a, b] <;> omega
theorem hitL_out (t L : Int) : ∀ (A : List S147) (i : Int), (L < i ∨ i + (A.length : Int) ≤ L) → hitL t L A i = 0
 | [], i, _ => rfl
 | c :: r, i, h => by
  simp only [List.length_cons] at h
  simp only [hitL, hitL_out t L r (i + 1) (by omega), if_neg (show ¬ i = L by omega)]
  simp
theorem hitL_at (t : Int) : ∀ (A : List S147) (i : Int) (j : Nat) (hj : j < A.length), hitL t (i + (j : Int)) A i = if (A[j]).f0 = t then (if (A[j]).f4 ≥ 0 then 0 else 1) else 0
 | c :: r, i, 0, hj => by
  have h2 : hitL t i r (i + 1) = 0 := hitL_out t i r (i + 1) (by omega)
  simp [hitL, h2]
 | c :: r, i, j + 1, hj => by
  have hj' : j < r.length := by simpa using hj
  have h2 := hitL_at t r (i + 1) j hj'
  have e : i + 1 + (j : Int) = i + ((j + 1 : Nat) : Int) := by omega
  rw [e] at h2
  simp only [hitL, h2, if_neg (show ¬ i = i + ((j + 1 : Nat) : Int) by omega)]
  simp
theorem lastL_is (t : Int) : ∀ (n : Nat) (A : List S147), A.length = n → (lastL t A 0 (-1) = -1 ∧ opnL t A = 0) ∨ ∃ j : Nat, lastL t A 0 (-1) = (j : Int) ∧ ∃ hj : j < A.length, (A[j]).f0 = t := by
 intro n
 induction n with
 | zero => intro A h; obtain rfl : A = [] := List.eq_nil_of_length_eq_zero h; exact .inl ⟨rfl, rfl⟩
 | succ n ih =>
  intro A h
  have hne : A ≠ [] := fun e => by rw [e] at h; simp at h
  have hs := List.dropLast_concat_getLast hne
  have hl : A.dropLast.length = n := by rw [List.length_dropLast, h]; rfl
  have happ : ∀ (B : List S147) (c : S147), opnL t (B ++ [c]) = opnL t B + (if c.f0 = t then (if c.f4 ≥ 0 then 0 else 1) else 0) := by
   intro B c
   induction B with
   | nil => simp [opnL]
   | cons b B ihB => simp only [List.cons_append, opnL, ihB]; omega
  rw [← hs, lastL_snoc, happ]
  by_cases c : (A.getLast hne).f0 = t
  ·refine .inr ⟨n, by rw [if_pos c, hl]; omega, by rw [hs]; omega, ?_⟩
   simp only [hs]
   rw [List.getLast_eq_getElem] at c
   have : A.length - 1 = n := by omega
   simpa only [this] using c
  ·rw [if_neg c, if_neg c]
   rcases ih A.dropLast hl with ⟨h1, h2⟩ | ⟨j, h1, hj, h2⟩
   ·exact .inl ⟨h1, by omega⟩
   ·refine .inr ⟨j, h1, by rw [hs]; omega, ?_⟩
    simp only [hs]
    rw [List.getElem_dropLast] at h2
    exact h2
def opSame (cs : List S147) (l : Int) (ops : List S122) (pc : Int) : Bool := (rd_T147 cs l).f1.f0 == (rd_T122 ops pc).f0 && ((rd_T147 cs l).f1.f1 == (rd_T122 ops pc).f1 && (rd_T147 cs l).f1.f2 == (rd_T122 ops pc).f2)
def thrI (cs : List S147) (t : Int) (ops : List S122) (pc : Int) (on : Bool) (l e o : Int) : Bool :=
 decide (e = pc) && (if on then decide (l ≥ 0) && (decide (o = 1) && (decide ((rd_T147 cs l).f4 = -1) && opSame cs l ops pc)) else o == 0)
def thrS (cs : List S147) (ops : List S122) (pc : Int) (on : Bool) (l e : Int) : Bool :=
 decide (e = pc) && (if on then decide (l ≥ 0) && (decide ((rd_T147 cs l).f4 = -1) && opSame cs l ops pc) else true)
theorem thr_same (cs : List S147) (t : Int) (ops : List S122) (pc : Int) (on : Bool) : thrI cs t ops pc on (lastL t cs 0 (-1)) (endL t cs) (opnL t cs) = (!badL t on (lastL t cs 0 (-1)) cs 0 && thrS cs ops pc on (lastL t cs 0 (-1)) (endL t cs)) := by
 have hc := cnt_nonneg t (lastL t cs 0 (-1)) cs 0
 cases on
 ·rw [badL_off]
  simp only [thrI, thrS, Bool.false_eq_true, if_false, Bool.and_true]
  by_cases a : opnL t cs = 0
  ·simp [a]
  ·have : opnL t cs > 0 := by omega
   simp [a, this]
 ·rw [badL_on]
  simp only [thrI, thrS, if_true]
  rcases lastL_is t cs.length cs rfl with ⟨h1, h2⟩ | ⟨j, h1, hj, h2⟩
  ·rw [h1]
   simp
  ·rw [h1] at hc ⊢
   have hh := hitL_at t cs 0 j hj
   rw [Int.zero_add, if_pos h2] at hh
   have er : rd_T147 cs (j : Int) = cs[j] := rdT_Call cs j hj
   rw [er]
   by_cases b : (cs[j]).f4 ≥ 0
   ·have b' : ¬ (cs[j]).f4 = -1 := by omega
    simp [b']
   ·rw [if_neg b] at hh
    by_cases a : nbL t (j : Int) cs 0 > 0
    ·have : ¬ opnL t cs = 1 := by omega
     simp [a, this]
    ·have : opnL t cs = 1 := by omega
     simp [a, this]
theorem impl_callsOk_ev (ws : List S39) (ds : List S52) (ts : List S62) (tm : Int) (cs : List S147) (O H : List Int) (s : Int) (i : Nat) (hi : i < ts.length) (ht : ts.length ≤ 1048576) (hc : cs.length ≤ 1048576)
  (hop : (ts[i]).f2 = true → 0 ≤ (ts[i]).f1 ∧ (ts[i]).f1 < ((ts[i]).f0.length : Int)) : Ev (fun k => impl_callsOk.f k ws ds ts tm cs O H s (i : Int)) (thrI cs (i : Int) (ts[i]).f0 (ts[i]).f1 (ts[i]).f2 (lastL (i : Int) cs 0 (-1)) (endL (i : Int) cs) (opnL (i : Int) cs)) := by
 have key : ∀ d j l e o, j + d = cs.length → -1 ≤ l → l < (j : Int) ∨ l = -1 → 0 ≤ e → e ≤ (j : Int) → 0 ≤ o → o ≤ (j : Int) → Ev (fun k => impl_callsOk.l0 k (i : Int) l e o cs (cs.length : Int) (j : Int) ws ds ts tm cs O H s (ts[i]).f0 (ts[i]).f1 (ts[i]).f2 (ts[i]).f3 (ts[i]).f4) (thrI cs (i : Int) (ts[i]).f0 (ts[i]).f1 (ts[i]).f2 (lastL (i : Int) (cs.drop j) (j : Int) l) (e + endL (i : Int) (cs.drop j)) (o + opnL (i : Int) (cs.drop j))) := by
  intro d
  induction d with
  | zero =>
   intro j l e o hj hl0 hl1 he0 he1 ho0 ho1
   have : cs.drop j = [] := List.drop_eq_nil_of_le (by omega)
   rw [this]
   simp only [lastL, endL, opnL, Int.add_zero]
   refine Ev_at 1 (fun k => ?_)
   simp only [impl_callsOk.l0]
   rw [if_neg (by omega)]
   simp only [thrI]
   by_cases a : e = (ts[i]).f1
   ·rw [if_pos a, decide_eq_true a, Bool.true_and]
    cases hon : (ts[i]).f2
    ·simp
    ·obtain ⟨p0, p1⟩ := hop hon
     simp only [if_true]
     by_cases b : l ≥ 0
     ·rw [if_pos b, decide_eq_true b, Bool.true_and]
      by_cases c : o = 1
      ·rw [if_pos c, decide_eq_true c, Bool.true_and, if_pos (show 0 ≤ l by omega), if_pos (by omega)]
       by_cases f : (rd_T147 cs l).f4 = -1
       ·rw [if_pos f, decide_eq_true f, Bool.true_and, if_pos p0, if_pos p1]
        rfl
       ·rw [if_neg f, decide_eq_false f, Bool.false_and]
      ·rw [if_neg c, decide_eq_false c, Bool.false_and]
     ·rw [if_neg b, decide_eq_false b, Bool.false_and]
   ·rw [if_neg a, decide_eq_false a, Bool.false_and]
  | succ d ih =>
   intro j l e o hj hl0 hl1 he0 he1 ho0 ho1
   have hjl : j < cs.length := by omega
   rw [List.drop_eq_getElem_cons hjl]
   have we : wrap64 (e + 1) = e + 1 := by unfold wrap64; omega
   have wo : wrap64 (o + 1) = o + 1 := by unfold wrap64; omega
   have ej : (j : Int) + 1 = ((j + 1 : Nat) : Int) := by omega
   simp only [lastL, endL, opnL]
   by_cases a : (cs[j]).f0 = (i : Int)
   ·simp only [if_pos a, ej]
    by_cases b : (cs[j]).f4 ≥ 0
    ·simp only [if_pos b]
     rw [← Int.add_assoc, Int.zero_add]
     refine Ev.step (f := fun k => impl_callsOk.l0 k (i : Int) (j : Int) (e + 1) o cs (cs.length : Int) ((j + 1 : Nat) : Int) ws ds ts tm cs O H s (ts[i]).f0 (ts[i]).f1 (ts[i]).f2 (ts[i]).f3 (ts[i]).f4) (fun k => ?_) (ih (j + 1) (j : Int) (e + 1) o (by omega) (by omega) (.inl (by omega)) (by omega) (by omega) (by omega) (by omega))
     simp only [impl_callsOk.l0, rdT_Call cs j hjl]
     rw [if_pos (by omega), if_pos (by omega), if_pos (by omega), if_pos a, if_pos b, we, wrap_up j (by omega)]
    ·simp only [if_neg b]
     rw [Int.zero_add, ← Int.add_assoc]
     refine Ev.step (f := fun k => impl_callsOk.l0 k (i : Int) (j : Int) e (o + 1) cs (cs.length : Int) ((j + 1 : Nat) : Int) ws ds ts tm cs O H s (ts[i]).f0 (ts[i]).f1 (ts[i]).f2 (ts[i]).f3 (ts[i]).f4) (fun k => ?_) (ih (j + 1) (j : Int) e (o + 1) (by omega) (by omega) (.inl (by omega)) (by omega) (by omega) (by omega) (by omega))
     simp only [impl_callsOk.l0, rdT_Call cs j hjl]
     rw [if_pos (by omega), if_pos (by omega), if_pos (by omega), if_pos a, if_neg b, wo, wrap_up j (by omega)]
   ·simp only [if_neg a, ej, Int.zero_add]
    refine Ev.step (f := fun k => impl_callsOk.l0 k (i : Int) l e o cs (cs.length : Int) ((j + 1 : Nat) : Int) ws ds ts tm cs O H s (ts[i]).f0 (ts[i]).f1 (ts[i]).f2 (ts[i]).f3 (ts[i]).f4) (fun k => ?_) (ih (j + 1) l e o (by omega) hl0 (by omega) (by omega) (by omega) (by omega) (by omega))
    simp only [impl_callsOk.l0, rdT_Call cs j hjl]
    rw [if_pos (by omega), if_pos (by omega), if_pos (by omega), if_neg a, wrap_up j (by omega)]
 have := key cs.length 0 (-1) 0 0 (by omega) (by omega) (.inr rfl) (by omega) (by omega) (by omega) (by omega)
 unfold impl_callsOk.f
 have g1 : 0 ≤ (i : Int) := by omega
 have g2 : (i : Int) < (ts.length : Int) := by omega
 simp only [if_pos g1, if_pos g2, rdT_Thread ts i hi]
 simpa using this
theorem spec_l9Last_ev (ws : List S39) (ds : List S52) (ts : List S62) (tm : Int) (cs : List S147) (O H : List Int) (s t : Int) (hc : cs.length ≤ 1048576) : Ev (fun k => spec_l9Last.f k ws ds ts tm cs O H s t) (lastL t cs 0 (-1)) := by
 have key : ∀ n, n ≤ cs.length → Ev (fun k => spec_l9Last.l0 k t ((n : Int) - 1) ws ds ts tm cs O H s) (lastL t (cs.take n) 0 (-1)) := by
  intro n
  induction n with
  | zero =>
   intro _
   refine Ev_at 1 (fun k => ?_)
   simp only [spec_l9Last.l0]
   rw [if_neg (by omega)]
   rfl
  | succ n ih =>
   intro hn
   have hnl : n < cs.length := by omega
   have en : ((n + 1 : Nat) : Int) - 1 = (n : Int) := by omega
   have ew : wrap64 ((n : Int) - 1) = (n : Int) - 1 := by unfold wrap64; omega
   rw [en, List.take_succ_eq_append_getElem hnl, lastL_snoc]
   by_cases a : (cs[n]).f0 = t
   ·refine Ev_at 1 (fun k => ?_)
    simp only [spec_l9Last.l0, rdT_Call cs n hnl]
    rw [if_pos (by omega), if_pos (by omega), if_pos (by omega), if_pos a, if_pos a]
    simp
    omega
   ·refine Ev.step (f := fun k => spec_l9Last.l0 k t ((n : Int) - 1) ws ds ts tm cs O H s) (fun k => ?_) (by rw [if_neg a]; exact ih (by omega))
    simp only [spec_l9Last.l0, rdT_Call cs n hnl]
    rw [if_pos (by omega), if_pos (by omega), if_pos (by omega), if_neg a, ew]
 have := key cs.length (Nat.le_refl _)
 rw [List.take_length] at this
 have ew : wrap64 ((cs.length : Int) - 1) = (cs.length : Int) - 1 := by unfold wrap64; omega
 unfold spec_l9Last.f
 rw [ew]
 exact this
theorem spec_l9Thread_ev (ws : List S39) (ds : List S52) (ts : List S62) (tm : Int) (cs : List S147) (O H : List Int) (s : Int) (i : Nat) (hi : i < ts.length) (ht : ts.length ≤ 1048576) (hc : cs.length ≤ 1048576)
  (hop : (ts[i]).f2 = true → 0 ≤ (ts[i]).f1 ∧ (ts[i]).f1 < ((ts[i]).f0.length : Int)) : Ev (fun k => spec_l9Thread.f k ws ds ts tm cs O H s (i : Int)) (!badL (i : Int) (ts[i]).f2 (lastL (i : Int) cs 0 (-1)) cs 0 && thrS cs (ts[i]).f0 (ts[i]).f1 (ts[i]).f2 (lastL (i : Int) cs 0 (-1)) (endL (i : Int) cs)) := by
 have hL : lastL (i : Int) cs 0 (-1) = -1 ∨ (0 ≤ lastL (i : Int) cs 0 (-1) ∧ lastL (i : Int) cs 0 (-1) < (cs.length : Int)) := by
  rcases lastL_is (i : Int) cs.length cs rfl with ⟨h1, _⟩ | ⟨j, h1, hj, _⟩
  ·exact .inl h1
  ·exact .inr (by omega)
 have hlast := spec_l9Last_ev ws ds ts tm cs O H s (i : Int) hc
 generalize lastL (i : Int) cs 0 (-1) = L at hL hlast
 have key : ∀ d j e, j + d = cs.length → 0 ≤ e → e ≤ (j : Int) → Ev (fun k => spec_l9Thread.l0 k (i : Int) L e (j : Int) ws ds ts tm cs O H s (ts[i]).f0 (ts[i]).f1 (ts[i]).f2 (ts[i]).f3 (ts[i]).f4) (!badL (i : Int) (ts[i]).f2 L (cs.drop j) (j : Int) && thrS cs (ts[i]).f0 (ts[i]).f1 (ts[i]).f2 L (e + endL (i : Int) (cs.drop j))) := by
  intro d
  induction d with
  | zero =>
   intro j e hj he0 he1
   have : cs.drop j = [] := List.drop_eq_nil_of_le (by omega)
   rw [this]
   simp only [badL, endL, Int.add_zero, Bool.not_false, Bool.true_and]
   refine Ev_at 1 (fun k => ?_)
   simp only [spec_l9Thread.l0]
   rw [if_neg (by omega)]
   simp only [thrS]
   by_cases a : e = (ts[i]).f1
   ·rw [if_pos a, decide_eq_true a, Bool.true_and]
    cases hon : (ts[i]).f2
    ·simp
    ·obtain ⟨p0, p1⟩ := hop hon
     simp only [if_true]
     by_cases b : L ≥ 0
     ·rw [if_pos b, decide_eq_true b, Bool.true_and, if_pos (show 0 ≤ L by omega), if_pos (by omega)]
      by_cases f : (rd_T147 cs L).f4 = -1
      ·rw [if_pos f, decide_eq_true f, Bool.true_and, if_pos p0, if_pos p1]
       rfl
      ·rw [if_neg f, decide_eq_false f, Bool.false_and]
     ·rw [if_neg b, decide_eq_false b, Bool.false_and]
   ·rw [if_neg a, decide_eq_false a, Bool.false_and]
  | succ d ih =>
   intro j e hj he0 he1
   have hjl : j < cs.length := by omega
   rw [List.drop_eq_getElem_cons hjl]
   have we : wrap64 (e + 1) = e + 1 := by unfold wrap64; omega
   have ej : (j : Int) + 1 = ((j + 1 : Nat) : Int) := by omega
   simp only [badL, endL, ej]
   by_cases a : (cs[j]).f0 = (i : Int)
   ·by_cases b : (cs[j]).f4 ≥ 0
    ·simp only [if_pos a, if_pos b, decide_eq_true a, decide_eq_true b, Bool.not_true, Bool.false_and, Bool.and_false, Bool.false_or]
     rw [← Int.add_assoc]
     refine Ev.step (f := fun k => spec_l9Thread.l0 k (i : Int) L (e + 1) ((j + 1 : Nat) : Int) ws ds ts tm cs O H s (ts[i]).f0 (ts[i]).f1 (ts[i]).f2 (ts[i]).f3 (ts[i]).f4) (fun k => ?_) (ih (j + 1) (e + 1) (by omega) (by omega) (by omega))
     simp only [spec_l9Thread.l0, rdT_Call cs j hjl]
     rw [if_pos (by omega), if_pos (by omega), if_pos a, if_pos b, we, wrap_up j (by omega)]
    ·simp only [if_pos a, if_neg b, decide_eq_true a, decide_eq_false b, Bool.not_false, Bool.true_and, Int.zero_add]
     cases hon : (ts[i]).f2
     ·refine Ev_at 1 (fun k => ?_)
      simp only [spec_l9Thread.l0, rdT_Call cs j hjl]
      rw [if_pos (by omega), if_pos (by omega), if_pos a, if_neg b]
      simp
     ·by_cases f : (j : Int) = L
      ·have := ih (j + 1) e (by omega) (by omega) (by omega)
       rw [hon] at this
       simp only [decide_eq_true f, Bool.and_true, Bool.not_true, Bool.false_or]
       refine Ev.step (f := fun k => spec_l9Thread.l0 k (i : Int) L e ((j + 1 : Nat) : Int) ws ds ts tm cs O H s (ts[i]).f0 (ts[i]).f1 true (ts[i]).f3 (ts[i]).f4) (fun k => ?_) this
       simp only [spec_l9Thread.l0, rdT_Call cs j hjl]
       rw [if_pos (by omega), if_pos (by omega), if_pos a, if_neg b]
       simp only [if_true]
       rw [if_pos f, wrap_up j (by omega)]
      ·refine Ev_at 1 (fun k => ?_)
       simp only [spec_l9Thread.l0, rdT_Call cs j hjl]
       rw [if_pos (by omega), if_pos (by omega), if_pos a, if_neg b]
       simp [f]
   ·simp only [if_neg a, decide_eq_false a, Bool.false_and, Bool.false_or, Int.zero_add]
    refine Ev.step (f := fun k => spec_l9Thread.l0 k (i : Int) L e ((j + 1 : Nat) : Int) ws ds ts tm cs O H s (ts[i]).f0 (ts[i]).f1 (ts[i]).f2 (ts[i]).f3 (ts[i]).f4) (fun k => ?_) (ih (j + 1) e (by omega) (by omega) (by omega))
    simp only [spec_l9Thread.l0, rdT_Call cs j hjl]
    rw [if_pos (by omega), if_pos (by omega), if_neg a, wrap_up j (by omega)]
 have := key cs.length 0 0 (by omega) (by omega) (by omega)
 unfold spec_l9Thread.f
 have g1 : 0 ≤ (i : Int) := by omega
 have g2 : (i : Int) < (ts.length : Int) := by omega
 simp only [if_pos g1, if_pos g2, rdT_Thread ts i hi]
 refine Ev.bind hlast ?_
 simpa using this
def mThr (cs : List S147) (n : Int) : Nat → List S62 → Bool
 | _, [] => true
 | i, t :: r => threadOk t.f0 t.f1 t.f2 t.f3 t.f4 n && (thrI cs (i : Int) t.f0 t.f1 t.f2 (lastL (i : Int) cs 0 (-1)) (endL (i : Int) cs) (opnL (i : Int) cs) && mThr cs n (i + 1) r)
def machineOk (ws : List S39) (ds : List S52) (ts : List S62) (tm : Int) (cs : List S147) (O H : List Int) (s : Int) : Bool :=
 memOk ws ds && (decide (ds.length = ts.length) && (inR tm 0 100000 && (rowsOk H s && ((cs.all (callOk (ts.length : Int) tm) && (ordAll cs O O.length 0 && (decide (cs.length ≤ 40) && lins cs == (O.length : Int)))) && mThr cs (ts.length : Int) 0 ts))))
theorem threadOk_hop (ops : List S122) (pc : Int) (on : Bool) (got : List S125) (st : List S42) (n : Int) (h : threadOk ops pc on got st n = true) (ho : on = true) : 0 ≤ pc ∧ pc < (ops.length : Int) := by
 subst ho
 simp only [threadOk, shapeT, Bool.and_eq_true, inR_iff, Bool.true_and, Bool.not_eq_true', decide_eq_false_iff_not] at h
 omega
def smallT (ts : List S62) : Prop := (ts.length ≤ 1048576) ∧ ∀ y ∈ ts, (y.f0.length ≤ 1048576) ∧ (y.f3.length ≤ 1048576) ∧ (y.f4.length ≤ 1048576)
theorem spec_MachineOk_ev (ws : List S39) (ds : List S52) (ts : List S62) (tm : Int) (cs : List S147) (O H : List Int) (s : Int) (hw : ws.length ≤ 1048576) (hd : smallD ds) (ht : smallT ts) (hc : cs.length ≤ 1048576) (hO : O.length ≤ 1048576) (hH : H.length ≤ 1048576) : Ev (fun k => spec_MachineOk.f k ws ds ts tm cs O H s) (machineOk ws ds ts tm cs O H s) := by
 have key : ∀ d i, i + d = ts.length → Ev (fun k => spec_MachineOk.l0 k (i : Int) ws ds ts tm cs O H s) (mThr cs (ts.length : Int) i (ts.drop i)) := by
  intro d
  induction d with
  | zero =>
   intro i hi
   have : ts.drop i = [] := List.drop_eq_nil_of_le (by omega)
   rw [this]
   refine Ev_at 1 (fun k => ?_)
   simp only [spec_MachineOk.l0]
   rw [if_neg (by omega)]
   rfl
  | succ d ih =>
   intro i hi
   have hil : i < ts.length := by omega
   have hs := ht.2 _ (List.getElem_mem hil)
   have htl := ht.1
   rw [List.drop_eq_getElem_cons hil]
   simp only [mThr]
   refine Ev.step (f := fun k => (spec_ThreadOk.f k (ts[i]).f0 (ts[i]).f1 (ts[i]).f2 (ts[i]).f3 (ts[i]).f4 (ts.length : Int)).bind fun t229 => (if t229 = true then ((spec_l9Thread.f k ws ds ts tm cs O H s (i : Int)).bind fun t230 => (if t230 = true then (spec_MachineOk.l0 k ((i + 1 : Nat) : Int) ws ds ts tm cs O H s) else (some false))) else (some false))) (fun k => ?_) (Ev.bind (spec_ThreadOk_ev _ _ _ _ _ (ts.length : Int) hs.1 hs.2.1 hs.2.2 (by omega)) ?_)
   ·simp only [spec_MachineOk.l0, rdT_Thread ts i hil]
    rw [if_pos (by omega), if_pos (by omega), wrap_up i (by omega)]
   ·cases hok : threadOk (ts[i]).f0 (ts[i]).f1 (ts[i]).f2 (ts[i]).f3 (ts[i]).f4 (ts.length : Int)
    ·simp only [Bool.false_eq_true, if_false, Bool.false_and]; exact Ev.now _
    ·simp only [if_true, Bool.true_and]
     refine Ev.bind (spec_l9Thread_ev ws ds ts tm cs O H s i hil htl hc (threadOk_hop _ _ _ _ _ _ hok)) ?_
     rw [← thr_same]
     cases thrI cs (i : Int) (ts[i]).f0 (ts[i]).f1 (ts[i]).f2 (lastL (i : Int) cs 0 (-1)) (endL (i : Int) cs) (opnL (i : Int) cs)
     ·simp only [Bool.false_eq_true, if_false, Bool.false_and]; exact Ev.now _
     ·simp only [if_true, Bool.true_and]
      exact ih (i + 1) (by omega)
 have hj : ∀ b : Bool, Ev (fun k => spec_MachineOk.j0 k b ws ds ts tm cs O H s) (!b && mThr cs (ts.length : Int) 0 ts) := by
  intro b
  refine Ev.step (f := fun k => if b = true then some false else spec_MachineOk.l0 k 0 ws ds ts tm cs O H s) (fun k => by simp only [spec_MachineOk.j0]) ?_
  cases b
  ·simp only [Bool.false_eq_true, if_false, Bool.not_false, Bool.true_and]
   have := key ts.length 0 (by omega)
   simpa using this
  ·simp only [if_true, Bool.not_true, Bool.false_and]; exact Ev.now _
 have hjt := hj true
 simp only [Bool.not_true, Bool.false_and] at hjt
 unfold spec_MachineOk.f machineOk
 refine Ev.bind (spec_MemOk_ev ws ds hw hd) ?_
 cases memOk ws ds
 ·simp only [Bool.false_eq_true, if_false, Bool.false_and]; exact hjt
 simp only [if_true, Bool.true_and]
 by_cases e : ds.length = ts.length
 ·have e' : (ds.length : Int) = (ts.length : Int) := by omega
  simp only [if_pos e', decide_eq_true e, Bool.true_and, spec_l1In_eq, Option.bind_some]
  cases inR tm 0 100000
  ·simp only [Bool.false_eq_true, if_false, Bool.false_and]; exact hjt
  simp only [if_true, Bool.true_and]
  refine Ev.bind (spec_RowsOk_ev H s hH) ?_
  cases rowsOk H s
  ·simp only [Bool.false_eq_true, if_false, Bool.false_and]; exact hjt
  simp only [if_true, Bool.true_and]
  refine Ev.bind (spec_l9Calls_ev ws ds ts tm cs O H s ht.1 hc hO) ?_
  have := hj (!(cs.all (callOk (ts.length : Int) tm) && (ordAll cs O O.length 0 && (decide (cs.length ≤ 40) && lins cs == (O.length : Int)))))
  rw [Bool.not_not] at this
  exact this
 ·have e' : ¬ (ds.length : Int) = (ts.length : Int) := by omega
  simp only [if_neg e', decide_eq_false e, Bool.false_and]; exact hjt
theorem impl_MachineOk_ev (ws : List S39) (ds : List S52) (ts : List S62) (tm : Int) (cs : List S147) (O H : List Int) (s : Int) (hw : ws.length ≤ 1048576) (hd : smallD ds) (ht : smallT ts) (hc : cs.length ≤ 1048576) (hO : O.length ≤ 1048576) (hH : H.length ≤ 1048576) : Ev (fun k => impl_MachineOk.f k ws ds ts tm cs O H s) (machineOk ws ds ts tm cs O H s) := by
 have htl := ht.1
 have key : ∀ d i, i + d = ts.length → Ev (fun k => impl_MachineOk.l1 k (ts.length : Int) ts (ts.length : Int) (i : Int) ws ds ts tm cs O H s) (mThr cs (ts.length : Int) i (ts.drop i) && (ordAll cs O O.length 0 && lins cs == (O.length : Int))) := by
  intro d
  induction d with
  | zero =>
   intro i hi
   have : ts.drop i = [] := List.drop_eq_nil_of_le (by omega)
   rw [this]
   refine Ev.step (f := fun k => (impl_orderOk.f k ws ds ts tm cs O H s).bind fun t522 => (some t522)) (fun k => ?_) (Ev.bind (impl_orderOk_ev ws ds ts tm cs O H s hc hO) ?_)
   ·simp only [impl_MachineOk.l1]
    rw [if_neg (by omega)]
   ·simp only [mThr, Bool.true_and]
    exact Ev.now _
  | succ d ih =>
   intro i hi
   have hil : i < ts.length := by omega
   have hs := ht.2 _ (List.getElem_mem hil)
   rw [List.drop_eq_getElem_cons hil]
   simp only [mThr]
   refine Ev.step (f := fun k => (impl_ThreadOk.f k (ts[i]).f0 (ts[i]).f1 (ts[i]).f2 (ts[i]).f3 (ts[i]).f4 (ts.length : Int)).bind fun t525 => (if t525 = true then ((impl_callsOk.f k ws ds ts tm cs O H s (i : Int)).bind fun t526 => (if t526 = true then (impl_MachineOk.l1 k (ts.length : Int) ts (ts.length : Int) ((i + 1 : Nat) : Int) ws ds ts tm cs O H s) else (some false))) else (some false))) (fun k => ?_) (Ev.bind (impl_ThreadOk_ev _ _ _ _ _ (ts.length : Int) hs.1 hs.2.1 hs.2.2 (by omega) (by omega)) ?_)
   ·simp only [impl_MachineOk.l1, rdT_Thread ts i hil]
    rw [if_pos (by omega), if_pos (by omega), if_pos (by omega), wrap_up i (by omega)]
   ·cases hok : threadOk (ts[i]).f0 (ts[i]).f1 (ts[i]).f2 (ts[i]).f3 (ts[i]).f4 (ts.length : Int)
    ·simp only [Bool.false_eq_true, if_false, Bool.false_and]; exact Ev.now _
    ·simp only [if_true, Bool.true_and]
     refine Ev.bind (impl_callsOk_ev ws ds ts tm cs O H s i hil htl hc (threadOk_hop _ _ _ _ _ _ hok)) ?_
     cases thrI cs (i : Int) (ts[i]).f0 (ts[i]).f1 (ts[i]).f2 (lastL (i : Int) cs 0 (-1)) (endL (i : Int) cs) (opnL (i : Int) cs)
     ·simp only [Bool.false_eq_true, if_false, Bool.false_and]; exact Ev.now _
     ·simp only [if_true, Bool.true_and]
      exact ih (i + 1) (by omega)
 have ew : wrap64 ((ts.length : Int) - 1) = (ts.length : Int) - 1 := by unfold wrap64; omega
 have k0 : Ev (fun k => impl_MachineOk.l0 k (ts.length : Int) cs (cs.length : Int) 0 ws ds ts tm cs O H s) (cs.all (callOk (ts.length : Int) tm) && (mThr cs (ts.length : Int) 0 ts && (ordAll cs O O.length 0 && lins cs == (O.length : Int)))) := by
  refine allfunc cs (callOk (ts.length : Int) tm) (fun k i => impl_MachineOk.l0 k (ts.length : Int) cs (cs.length : Int) i ws ds ts tm cs O H s) _ ?_ ?_
  ·refine Ev.step (f := fun k => impl_MachineOk.l1 k (ts.length : Int) ts (ts.length : Int) 0 ws ds ts tm cs O H s) (fun k => ?_) ?_
   ·simp only [impl_MachineOk.l0]
    rw [if_neg (by omega)]
   ·have := key ts.length 0 (by omega)
    simpa using this
  ·intro i hi r hr
   refine Ev.step (f := fun k => if inR (cs[i]).f0 0 ((ts.length : Int) - 1) = true then ((impl_OpOk.f k (cs[i]).f1.f0 (cs[i]).f1.f1 (cs[i]).f1.f2).bind fun t518 => (if t518 = true then (if inR (cs[i]).f2 0 tm = true then (if (decide ((cs[i]).f3 = -1) || inR (cs[i]).f3 (cs[i]).f2 tm) = true then (if (decide ((cs[i]).f4 = -1) || inR (cs[i]).f4 (cs[i]).f2 tm) = true then impl_MachineOk.l0 k (ts.length : Int) cs (cs.length : Int) ((i + 1 : Nat) : Int) ws ds ts tm cs O H s else some false) else some false) else some false) else some false)) else some false) (fun k => ?_) ?_
   ·simp only [impl_MachineOk.l0, rdT_Call cs i hi, impl_from_eq, Option.bind_some, ew, when_eq]
    rw [if_pos (by omega), if_pos (by omega), if_pos (by omega), wrap_up i (by omega)]
   ·simp only [callOk]
    cases inR (cs[i]).f0 0 ((ts.length : Int) - 1)
    ·simp only [Bool.false_eq_true, if_false, Bool.false_and]; exact Ev.now _
    simp only [if_true, Bool.true_and]
    refine Ev.bind (Ev_at 3 (fun k => impl_OpOk_eq _ _ _ k)) ?_
    cases opOk (cs[i]).f1.f0 (cs[i]).f1.f1 (cs[i]).f1.f2
    ·simp only [Bool.false_eq_true, if_false, Bool.false_and]; exact Ev.now _
    simp only [if_true, Bool.true_and]
    cases inR (cs[i]).f2 0 tm
    ·simp only [Bool.false_eq_true, if_false, Bool.false_and]; exact Ev.now _
    simp only [if_true, Bool.true_and]
    cases (decide ((cs[i]).f3 = -1) || inR (cs[i]).f3 (cs[i]).f2 tm)
    ·simp only [Bool.false_eq_true, if_false, Bool.false_and]; exact Ev.now _
    simp only [if_true, Bool.true_and]
    cases (decide ((cs[i]).f4 = -1) || inR (cs[i]).f4 (cs[i]).f2 tm)
    ·simp only [Bool.false_eq_true, if_false, Bool.false_and]; exact Ev.now _
    simp only [if_true, Bool.true_and]
    exact hr
 have hj : ∀ b : Bool, Ev (fun k => impl_MachineOk.j0 k (ts.length : Int) b ws ds ts tm cs O H s) (!b && (cs.all (callOk (ts.length : Int) tm) && (mThr cs (ts.length : Int) 0 ts && (ordAll cs O O.length 0 && lins cs == (O.length : Int))))) := by
  intro b
  refine Ev.step (f := fun k => if b = true then some false else impl_MachineOk.l0 k (ts.length : Int) cs (cs.length : Int) 0 ws ds ts tm cs O H s) (fun k => by simp only [impl_MachineOk.j0]) ?_
  cases b
  ·simp only [Bool.false_eq_true, if_false, Bool.not_false, Bool.true_and]; exact k0
  ·simp only [if_true, Bool.not_true, Bool.false_and]; exact Ev.now _
 have hjt := hj true
 simp only [Bool.not_true, Bool.false_and] at hjt
 unfold impl_MachineOk.f machineOk
 refine Ev.bind (impl_MemOk_ev ws ds hw hd) ?_
 cases memOk ws ds
 ·simp only [Bool.false_eq_true, if_false, Bool.false_and]; exact hjt
 simp only [if_true, Bool.true_and]
 by_cases e : ds.length = ts.length
 ·have e' : (ds.length : Int) = (ts.length : Int) := by omega
  simp only [if_pos e', decide_eq_true e, Bool.true_and, impl_from_eq, Option.bind_some]
  cases inR tm 0 100000
  ·simp only [Bool.false_eq_true, if_false, Bool.false_and]; exact hjt
  simp only [if_true, Bool.true_and]
  by_cases g : (cs.length : Int) > 40
  ·have g' : ¬ cs.length ≤ 40 := by omega
   simp only [if_pos g, decide_eq_false g', Bool.false_and, Bool.and_false]; exact hjt
  ·have g' : cs.length ≤ 40 := by omega
   simp only [if_neg g, decide_eq_true g', Bool.true_and]
   refine Ev.bind (impl_RowsOk_ev H s hH) ?_
   have := hj (!rowsOk H s)
   rw [Bool.not_not] at this
   have ee : ((cs.all (callOk (ts.length : Int) tm) && (ordAll cs O O.length 0 && lins cs == (O.length : Int))) && mThr cs (ts.length : Int) 0 ts) = (cs.all (callOk (ts.length : Int) tm) && (mThr cs (ts.length : Int) 0 ts && (ordAll cs O O.length 0 && lins cs == (O.length : Int)))) := by
    cases cs.all (callOk (ts.length : Int) tm) <;> cases mThr cs (ts.length : Int) 0 ts <;> simp
   rw [ee]
   exact this
 ·have e' : ¬ (ds.length : Int) = (ts.length : Int) := by omega
  simp only [if_neg e', decide_eq_false e, Bool.false_and]; exact hjt
theorem laws_szMem2_ev (l0 : List S207) (l1 : List S201) (b0 : l0.length ≤ maxLen) (b1 : l1.length ≤ maxLen) (b2 : ∀ y ∈ l1, y.f2.length ≤ maxLen ∧ y.f3.f1.length ≤ maxLen) (left : Int) (h0 : 0 ≤ left) (h1 : left ≤ 1048576) :
  ∃ r, Ev (fun k => laws_szMem.f k l0 l1 left) r ∧ (0 ≤ r → r ≤ left ∧ l0.length ≤ 1048576 ∧ (l1.length ≤ 1048576 ∧ ∀ y ∈ l1, (y.f2.length ≤ 1048576) ∧ (y.f3.f1.length ≤ 1048576))) := by
 unfold laws_szMem.f
 obtain ⟨r1, e1, p1⟩ := laws_szWordS_some l0 b0 left h0 h1
 simp only [e1, Option.bind_some]
 by_cases c1 : r1 < 0
 ·exact ⟨-1, by simp only [if_pos c1]; exact Ev.now _, fun h => by omega⟩
 obtain ⟨q1, q2⟩ := p1 (by omega)
 obtain ⟨r2, e2, p2⟩ := laws_szDescS_ev l1 b1 b2 r1 (by omega) (by omega)
 simp only [if_neg c1]
 by_cases c2 : r2 < 0
 ·exact ⟨-1, Ev.bind e2 (by simp only [if_pos c2]; exact Ev.now _), fun h => by omega⟩
 ·exact ⟨r2, Ev.bind e2 (by simp only [if_neg c2]; exact Ev.now _), fun h => ⟨by have := (p2 h).1; omega, q2, (p2 h).2⟩⟩
theorem laws_szMachine_ev (l0 : List S207) (l1 : List S201) (l2 : List S176) (a3 : Int) (l4 : List S181) (l5 l6 : List Int) (a7 : Int) (b0 : l0.length ≤ maxLen) (b1 : l1.length ≤ maxLen) (b1' : ∀ y ∈ l1, y.f2.length ≤ maxLen ∧ y.f3.f1.length ≤ maxLen) (b2 : l2.length ≤ maxLen) (b2' : ∀ y ∈ l2, y.f0.length ≤ maxLen ∧ y.f3.length ≤ maxLen ∧ y.f4.length ≤ maxLen) (b4 : l4.length ≤ maxLen) (b4' : ∀ y ∈ l4, y.f5.f1.length ≤ maxLen) (b5 : l5.length ≤ maxLen) (b6 : l6.length ≤ maxLen) :
  ∃ r, Ev (fun k => laws_szMachine.f k l0 l1 l2 a3 l4 l5 l6 a7 1048576) r ∧ (0 ≤ r → l0.length ≤ 1048576 ∧ (l1.length ≤ 1048576 ∧ ∀ y ∈ l1, (y.f2.length ≤ 1048576) ∧ (y.f3.f1.length ≤ 1048576)) ∧ ((l2.length ≤ 1048576) ∧ ∀ y ∈ l2, (y.f0.length ≤ 1048576) ∧ (y.f3.length ≤ 1048576) ∧ (y.f4.length ≤ 1048576)) ∧ ((l4.length ≤ 1048576) ∧ ∀ y ∈ l4, (y.f5.f1.length ≤ 1048576)) ∧ l5.length ≤ 1048576 ∧ l6.length ≤ 1048576) := by
 unfold laws_szMachine.f
 obtain ⟨r1, e1, p1⟩ := laws_szMem2_ev l0 l1 b0 b1 b1' 1048576 (by omega) (by omega)
 by_cases c1 : r1 < 0
 ·exact ⟨-1, Ev.bind e1 (by simp only [if_pos c1]; exact Ev.now _), fun h => by omega⟩
 obtain ⟨q1, q2, q3⟩ := p1 (by omega)
 obtain ⟨r2, e2, p2⟩ := laws_szThreadS_ev l2 b2 b2' r1 (by omega) (by omega)
 by_cases c2 : r2 < 0
 ·exact ⟨-1, Ev.bind e1 (by simp only [if_neg c1]; exact Ev.bind e2 (by simp only [if_pos c2]; exact Ev.now _)), fun h => by omega⟩
 obtain ⟨q4, q5⟩ := p2 (by omega)
 obtain ⟨r3, e3, p3⟩ := laws_szCallS_ev l4 b4 b4' r2 (by omega) (by omega)
 by_cases c3 : r3 < 0
 ·exact ⟨-1, Ev.bind e1 (by simp only [if_neg c1]; exact Ev.bind e2 (by simp only [if_neg c2]; exact Ev.bind e3 (by simp only [if_pos c3]; exact Ev.now _))), fun h => by omega⟩
 obtain ⟨q6, q7⟩ := p3 (by omega)
 obtain ⟨r4, e4, p4⟩ := laws_szIntS_some l5 b5 r3 (by omega) (by omega)
 by_cases c4 : r4 < 0
 ·exact ⟨-1, Ev.bind e1 (by simp only [if_neg c1]; exact Ev.bind e2 (by simp only [if_neg c2]; exact Ev.bind e3 (by simp only [if_neg c3, e4, Option.bind_some, if_pos c4]; exact Ev.now _))), fun h => by omega⟩
 obtain ⟨q8, q9⟩ := p4 (by omega)
 obtain ⟨r5, e5, p5⟩ := laws_szRows_some l6 a7 b6 r4 (by omega) (by omega)
 by_cases c5 : r5 < 0
 ·exact ⟨-1, Ev.bind e1 (by simp only [if_neg c1]; exact Ev.bind e2 (by simp only [if_neg c2]; exact Ev.bind e3 (by simp only [if_neg c3, e4, Option.bind_some, if_neg c4, e5, if_pos c5]; exact Ev.now _))), fun h => by omega⟩
 ·exact ⟨r5, Ev.bind e1 (by simp only [if_neg c1]; exact Ev.bind e2 (by simp only [if_neg c2]; exact Ev.bind e3 (by simp only [if_neg c3, e4, Option.bind_some, if_neg c4, e5, if_neg c5]; exact Ev.now _))), fun h => ⟨q2, q3, q5, q7, q9, (p5 h).2⟩⟩
def doneT (t : S62) : Bool := t.f1 == (t.f0.length : Int)
theorem spec_Finished_ev (ws : List S39) (ds : List S52) (ts : List S62) (tm : Int) (cs : List S147) (O H : List Int) (s : Int) (hw : ws.length ≤ 1048576) (hd : smallD ds) (ht : smallT ts) (hc : cs.length ≤ 1048576) (hO : O.length ≤ 1048576) (hH : H.length ≤ 1048576) : Ev (fun k => spec_Finished.f k ws ds ts tm cs O H s) (machineOk ws ds ts tm cs O H s && ts.all doneT) := by
 have htl := ht.1
 have k0 : Ev (fun k => spec_Finished.l0 k 0 ws ds ts tm cs O H s) (ts.all doneT && true) := by
  refine allfunc ts doneT (fun k i => spec_Finished.l0 k i ws ds ts tm cs O H s) _ ?_ ?_
  ·refine Ev_at 1 (fun k => ?_)
   simp only [spec_Finished.l0]
   rw [if_neg (by omega)]
  ·intro i hi r hr
   refine Ev.step (f := fun k => if doneT ts[i] = true then spec_Finished.l0 k ((i + 1 : Nat) : Int) ws ds ts tm cs O H s else some false) (fun k => ?_) ?_
   ·simp only [spec_Finished.l0, rdT_Thread ts i hi, spec_ThreadDone.f, Option.bind_some, doneT]
    rw [if_pos (by omega), if_pos (by omega), wrap_up i (by omega)]
    rfl
   ·cases doneT ts[i]
    ·simp only [Bool.false_eq_true, if_false, Bool.false_and]; exact Ev.now _
    ·simp only [if_true, Bool.true_and]; exact hr
 unfold spec_Finished.f
 refine Ev.bind (spec_MachineOk_ev ws ds ts tm cs O H s hw hd ht hc hO hH) ?_
 cases machineOk ws ds ts tm cs O H s
 ·simp only [Bool.false_eq_true, if_false, Bool.false_and]; exact Ev.now _
 ·simp only [if_true, Bool.true_and]
  rw [Bool.and_true] at k0
  exact k0
theorem impl_Finished_ev (ws : List S39) (ds : List S52) (ts : List S62) (tm : Int) (cs : List S147) (O H : List Int) (s : Int) (hw : ws.length ≤ 1048576) (hd : smallD ds) (ht : smallT ts) (hc : cs.length ≤ 1048576) (hO : O.length ≤ 1048576) (hH : H.length ≤ 1048576) : Ev (fun k => impl_Finished.f k ws ds ts tm cs O H s) (machineOk ws ds ts tm cs O H s && ts.all doneT) := by
 have htl := ht.1
 have b : Ev (fun k => slices_ContainsFuncFinished_c1.f k ts) (!ts.all doneT) := by
  obtain ⟨r, hr, he⟩ := idxfunc ts doneT (fun k i => slices_IndexFuncFinished_c1.l0 k ts (ts.length : Int) i) (Ev_at 1 (fun k => by
   simp only [slices_IndexFuncFinished_c1.l0]
   rw [if_neg (by omega)])) (fun i hi r hr => by
   refine Ev.step (f := fun k => if (!doneT ts[i]) = true then some (i : Int) else slices_IndexFuncFinished_c1.l0 k ts (ts.length : Int) ((i + 1 : Nat) : Int)) (fun k => ?_) hr
   simp only [slices_IndexFuncFinished_c1.l0, rdT_Thread ts i hi, impl_Finished_c1.f, impl_ThreadDone.f, Option.bind_some, doneT]
   rw [if_pos (by omega), if_pos (by omega), if_pos (by omega), wrap_up i (by omega)]
   rfl)
  unfold slices_ContainsFuncFinished_c1.f slices_IndexFuncFinished_c1.f
  refine Ev.bind hr ?_
  rw [he]
  exact Ev.now _
 unfold impl_Finished.f
 refine Ev.bind (impl_MachineOk_ev ws ds ts tm cs O H s hw hd ht hc hO hH) ?_
 cases machineOk ws ds ts tm cs O H s
 ·simp only [Bool.false_eq_true, if_false, Bool.false_and]; exact Ev.now _
 ·simp only [if_true, Bool.true_and]
  refine Ev.bind b ?_
  rw [Bool.not_not]
  exact Ev.now _
theorem FnExactFinished (l0_0 : List S207) (l0_1 : List S201) (l0_2 : List S176) (a0_3 : Int) (l0_4 : List S181) (l0_5 : List Int) (l0_6 : List Int) (a0_7 : Int) (gl0_0 : (fun l : List S207 => l.length ≤ maxLen ∧ ∀ x ∈ l, good207 x) l0_0) (gl0_1 : (fun l : List S201 => l.length ≤ maxLen ∧ ∀ x ∈ l, good201 x) l0_1) (gl0_2 : (fun l : List S176 => l.length ≤ maxLen ∧ ∀ x ∈ l, good176 x) l0_2) (ga0_3 : (fun n : Int => (Lit.int .i64 n).wf = true) a0_3) (gl0_4 : (fun l : List S181 => l.length ≤ maxLen ∧ ∀ x ∈ l, good181 x) l0_4) (gl0_5 : (fun l : List Int => l.length ≤ maxLen ∧ ∀ x ∈ l, (fun n : Int => (Lit.int .i64 n).wf = true) x) l0_5) (gl0_6 : (fun l : List Int => l.length ≤ maxLen ∧ ∀ x ∈ l, (fun n : Int => (Lit.int .i64 n).wf = true) x) l0_6) (ga0_7 : (fun n : Int => (Lit.int .i64 n).wf = true) a0_7) : ∃ k, laws_FnExactFinished.f k l0_0 l0_1 l0_2 a0_3 l0_4 l0_5 l0_6 a0_7 = some true := by
 refine Ev.rounds (r := true) ?_
 unfold laws_FnExactFinished.f
 have hg1 : ∀ y ∈ l0_1, y.f2.length ≤ maxLen ∧ y.f3.f1.length ≤ maxLen := fun y hy => by
  have := gl0_1.2 y hy
  exact ⟨this.2.2.1.1, this.2.2.2.2.1⟩
 have hg2 : ∀ y ∈ l0_2, y.f0.length ≤ maxLen ∧ y.f3.length ≤ maxLen ∧ y.f4.length ≤ maxLen := fun y hy => by
  have := gl0_2.2 y hy
  exact ⟨this.1.1, this.2.2.2.1.1, this.2.2.2.2.1⟩
 have hg4 : ∀ y ∈ l0_4, y.f5.f1.length ≤ maxLen := fun y hy => by
  have := gl0_4.2 y hy
  exact this.2.2.2.2.2.2.1
 obtain ⟨r, er, pr⟩ := laws_szMachine_ev l0_0 l0_1 l0_2 a0_3 l0_4 l0_5 l0_6 a0_7 gl0_0.1 gl0_1.1 hg1 gl0_2.1 hg2 gl0_4.1 hg4 gl0_5.1 gl0_6.1
 refine Ev.bind er ?_
 by_cases c : r < 0
 ·simp only [if_pos c]; exact Ev.now _
 simp only [if_neg c]
 obtain ⟨hl0, hl1, hl2, hl4, hl5, hl6⟩ := pr (by omega)
 have hw : (l0_0.map conv207).length ≤ 1048576 := by simpa using hl0
 have hd := small201_map l0_1 hl1
 have ht := small176_map l0_2 hl2
 have hc := small181_map l0_4 hl4
 refine Ev.bind (laws_toMachine_ev l0_0 l0_1 l0_2 a0_3 l0_4 l0_5 l0_6 a0_7 hl0 hl1 hl2 hl4 hl5 hl6) ?_
 refine Ev.bind (spec_Finished_ev _ _ _ _ _ _ _ _ hw hd ht hc.1 hl5 hl6) ?_
 refine Ev.bind (laws_toMachine_ev l0_0 l0_1 l0_2 a0_3 l0_4 l0_5 l0_6 a0_7 hl0 hl1 hl2 hl4 hl5 hl6) ?_
 refine Ev.bind (impl_Finished_ev _ _ _ _ _ _ _ _ hw hd ht hc.1 hl5 hl6) ?_
 simp only [bne_self_eq_false, Bool.false_eq_true, if_false]
 refine Ev.bind (laws_toMachine_ev l0_0 l0_1 l0_2 a0_3 l0_4 l0_5 l0_6 a0_7 hl0 hl1 hl2 hl4 hl5 hl6) ?_
 refine Ev.bind (laws_eqMachine_refl _ _ _ _ _ _ _ _ hw hd ht hc hl5 hl6) ?_
 exact Ev.now _
end Go.Proofs.YtdcinhpdpoodfaaGreat.Pure

