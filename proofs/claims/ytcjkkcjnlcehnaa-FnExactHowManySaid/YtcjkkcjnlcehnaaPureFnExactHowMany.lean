/- The pure statement behind the law FnExactHowMany: over plain values. No condition beyond that numbers are of their kind and lengths below 2^63. -/
import Derived.Test.YtcjkkcjnlcehnaaOpnFnExactHowMany
namespace Go.Proofs.Ytcjkkcjnlcehnaa.Pure
open Go.RowKit Go.Proofs.Ytcjkkcjnlcehnaa.Op Go.Proofs.YtcjkkcjnlcehnaaW.PrintWords Go.Proofs.YtcjkkcjnlcehnaaW.PrintLast Go.Proofs.Ytcjkkcjnlcehnaa.PFnExactHowMany Go.Proofs.Ytcjkkcjnlcehnaa.fnExactHowMany

-- PACKS
set_option linter.unusedVariables false
set_option linter.unusedSimpArgs false
theorem Ev_at {α : Type} {g : Nat → Option α} {r : α} (n : Nat) (h : ∀ k, g (k + n) = some r) : Ev g r := ⟨n, fun k hk => by
  obtain ⟨m, rfl⟩ : ∃ m, k = m + n := ⟨k - n, by omega⟩
  exact h m⟩
theorem Ev_down {α : Type} {L : Nat → Nat → Option α} {r : α} (n : Nat) (hn : Ev (L n) r) (hs : ∀ i, i < n → Ev (L (i + 1)) r → Ev (L i) r) : ∀ i, i ≤ n → Ev (L i) r := by
  have key : ∀ d i, i + d = n → Ev (L i) r := by
    intro d
    induction d with
    | zero => intro i h; obtain rfl : i = n := by omega
              exact hn
    | succ d ih => intro i h; exact hs i (by omega) (ih (i + 1) (by omega))
  exact fun i h => key (n - i) i (by omega)
theorem wrap_up (i : Nat) (h : i < 9223372036854775807) : wrap64 ((i : Int) + 1) = ((i + 1 : Nat) : Int) := by unfold wrap64; omega
theorem set_fill {α β : Type} (l : List α) (i : Nat) (hi : i < l.length) (z : β) (f : α → β) (v : β) (hv : v = f (l[i]'hi)) :
    ((l.take i).map f ++ List.replicate (l.length - i) z).set (i : Int).toNat v = (l.take (i + 1)).map f ++ List.replicate (l.length - (i + 1)) z := by
  subst hv
  have h1 : ((l.take i).map f).length = i := by simp; omega
  rw [Int.toNat_natCast, List.set_append, if_neg (by omega), h1, Nat.sub_self]
  obtain ⟨m, hm⟩ : ∃ m, l.length - i = m + 1 := ⟨l.length - i - 1, by omega⟩
  rw [hm, List.replicate_succ, List.set_cons_zero, show l.length - (i + 1) = m by omega, List.take_succ_eq_append_getElem hi, List.map_append, List.append_assoc]
  rfl
theorem set_fill_id {α : Type} (l : List α) (i : Nat) (hi : i < l.length) (z : α) (v : α) (hv : v = l[i]'hi) :
    (l.take i ++ List.replicate (l.length - i) z).set (i : Int).toNat v = l.take (i + 1) ++ List.replicate (l.length - (i + 1)) z := by
  have := set_fill l i hi z id v hv
  simpa using this
theorem Ev_downR {α : Type} {L : Nat → Nat → Option α} {R : Nat → α} (n : Nat) (hn : Ev (L n) (R n)) (hs : ∀ i, i < n → Ev (L (i + 1)) (R (i + 1)) → Ev (L i) (R i)) : ∀ i, i ≤ n → Ev (L i) (R i) := by
  have key : ∀ d i, i + d = n → Ev (L i) (R i) := by
    intro d
    induction d with
    | zero => intro i h; obtain rfl : i = n := by omega
              exact hn
    | succ d ih => intro i h; exact hs i (by omega) (ih (i + 1) (by omega))
  exact fun i h => key (n - i) i (by omega)
theorem rd_at (l : List Int) (i : Nat) (hi : i < l.length) : rd l (i : Int) = l[i] := by simp [rd, List.getD_eq_getElem?_getD, hi]
theorem laws_toIntS_ev (l : List Int) (h : (l.length ≤ 1048576)) : Ev (fun k => laws_toIntS.f k l) (l) := by
  have hl : l.length ≤ 1048576 := h
  have key : ∀ i, i ≤ l.length → Ev (fun k => laws_toIntS.l0 k l ((l.take i) ++ List.replicate (l.length - i) 0) (i : Int)) (l) := by
    refine Ev_down (L := fun i k => laws_toIntS.l0 k l ((l.take i) ++ List.replicate (l.length - i) 0) (i : Int)) l.length ?_ ?_
    · refine Ev_at 1 (fun k => ?_)
      simp only [laws_toIntS.l0]
      rw [if_neg (by omega)]
      simp
    · intro i hi ih
      refine Ev.step (f := fun k => laws_toIntS.l0 k l ((l.take (i+1)) ++ List.replicate (l.length - (i+1)) 0) ((i+1 : Nat) : Int)) (fun k => ?_) ?_
      · simp only [laws_toIntS.l0]
        rw [if_pos (by omega), if_pos (by omega)]
        rw [if_pos (by simp; omega), wrap_up i (by omega)]
        congr 1
        exact set_fill_id l i hi 0 _ (by simp [rd, List.getD_eq_getElem?_getD, hi])
      · exact ih
  have := key 0 (Nat.zero_le _)
  have hc : ((l.length : Int) : Int).toNat ≤ 35184372088832 := by omega
  unfold laws_toIntS.f
  simp only [if_pos (Int.natCast_nonneg l.length), if_pos hc]
  simpa using this
theorem laws_eqIntS_refl (l : List Int) (h : (l.length ≤ 1048576)) : Ev (fun k => laws_eqIntS.f k l l) true := by
  have hl : l.length ≤ 1048576 := h
  have key : ∀ i, i ≤ l.length → Ev (fun k => laws_eqIntS.l0 k l l (i : Int)) true := by
    refine Ev_down (L := fun i k => laws_eqIntS.l0 k l l (i : Int)) l.length ?_ ?_
    · refine Ev_at 1 (fun k => ?_)
      simp only [laws_eqIntS.l0]
      rw [if_neg (by omega)]
    · intro i hi ih
      refine Ev.step (f := fun k => laws_eqIntS.l0 k l l ((i+1 : Nat) : Int)) (fun k => ?_) ih
      simp only [laws_eqIntS.l0]
      rw [if_pos (by omega), if_pos (by omega), if_pos (by omega), if_pos trivial, wrap_up i (by omega)]
  have := key 0 (Nat.zero_le _)
  unfold laws_eqIntS.f
  simp only [if_pos]
  exact this
theorem laws_szIntS_some (l : List Int) (hb : l.length ≤ maxLen) (left : Int) (h0 : 0 ≤ left) (h1 : left ≤ 1048576) : ∃ r, laws_szIntS.f l left = some r ∧ (0 ≤ r → r ≤ left ∧ l.length ≤ 1048576) := by
  have hm : maxLen = 9223372036854775807 := rfl
  have hw : wrap64 (left - (l.length : Int)) = left - (l.length : Int) := by unfold wrap64; omega
  unfold laws_szIntS.f
  rw [hw]
  by_cases c : left - (l.length : Int) < 0
  · exact ⟨-1, by rw [if_pos c], fun h => by omega⟩
  · exact ⟨_, by rw [if_neg c], fun _ => by omega⟩
theorem laws_toRows_ev (l0 : List Int) (a1 : Int) (h0 : (l0.length ≤ 1048576)) : Ev (fun k => laws_toRows.f k l0 a1) (l0, a1) := by
  unfold laws_toRows.f
  try simp only [Option.bind_some]
  refine Ev.bind (laws_toIntS_ev l0 h0) ?_
  exact Ev.now _
theorem laws_eqRows_refl (l0 : List Int) (a1 : Int) (h0 : (l0.length ≤ 1048576)) : Ev (fun k => laws_eqRows.f k l0 a1 l0 a1) true := by
  unfold laws_eqRows.f
  try simp only [if_pos, Option.bind_some]
  refine Ev.bind (laws_eqIntS_refl l0 h0) ?_
  try simp only [if_true, if_pos]
  exact Ev.now _
theorem laws_szRows_some (l0 : List Int) (a1 : Int) (b0 : l0.length ≤ maxLen) (left : Int) (h0 : 0 ≤ left) (h1 : left ≤ 1048576) : ∃ r, laws_szRows.f l0 a1 left = some r ∧ (0 ≤ r → r ≤ left ∧ (l0.length ≤ 1048576)) := by
  unfold laws_szRows.f
  obtain ⟨r0, e0, p0⟩ := laws_szIntS_some l0 b0 left (by omega) (by omega)
  simp only [e0, Option.bind_some]
  by_cases c0 : r0 < 0
  · exact ⟨-1, by simp [c0], fun h => by omega⟩
  simp only [if_neg c0]
  have q0 := p0 (by omega)
  refine ⟨_, rfl, fun _ => ⟨by omega, ?_⟩⟩
  simp_all
def inR (x lo hi : Int) : Bool := decide (lo ≤ x) && decide (x ≤ hi)
def keyOk (k : Int) : Bool := inR k 0 3
def valOk (v : Int) : Bool := inR v 1 6
def isClass (c : Int) : Bool := inR c 0 2
def classOf (v : Int) : Int := if valOk v then Int.tmod v 3 else -1
theorem spec_l1In_eq (x lo hi : Int) : spec_l1In.f x lo hi = some (inR x lo hi) := by
  unfold spec_l1In.f inR
  by_cases h : lo ≤ x <;> simp [h]
theorem impl_from_eq (x lo hi : Int) : impl_from.f x lo hi = some (inR x lo hi) := by
  unfold impl_from.f inR
  by_cases h : lo ≤ x <;> simp [h]
theorem spec_ValOk_eq (x : Int) : spec_ValOk.f x = some (valOk x) := by simp [spec_ValOk.f, spec_l1In_eq, valOk]
theorem impl_ValOk_eq (x : Int) : impl_ValOk.f x = some (valOk x) := by simp [impl_ValOk.f, impl_from_eq, valOk]
theorem spec_ClassOf_eq (v : Int) : spec_ClassOf.f v = some (classOf v) := by
  simp only [spec_ClassOf.f, spec_ValOk_eq, Option.bind_some, classOf]
  split <;> rfl
theorem impl_ClassOf_eq (v : Int) : impl_ClassOf.f v = some (classOf v) := by
  simp only [impl_ClassOf.f, impl_ValOk_eq, Option.bind_some, classOf]
  split <;> rfl
def cnt (c : Int) (l : List Int) : Nat := (l.filter (fun v => valOk v && classOf v == c)).length
theorem cnt_take (c : Int) (l : List Int) (i : Nat) (hi : i < l.length) : cnt c (l.take (i + 1)) = cnt c (l.take i) + if valOk l[i] && classOf l[i] == c then 1 else 0 := by
  unfold cnt
  rw [List.take_succ_eq_append_getElem hi, List.filter_append, List.length_append]
  cases h : valOk l[i] && classOf l[i] == c <;> simp [h]
theorem cnt_le (c : Int) (l : List Int) : cnt c l ≤ l.length := List.length_filter_le _ _
theorem spec_HowMany_ev (l : List Int) (st c : Int) (hl : l.length ≤ 1048576) : Ev (fun k => spec_HowMany.f k l st c) (cnt c l : Int) := by
  have key : ∀ i, i ≤ l.length → Ev (fun k => spec_HowMany.l0 k c (cnt c (l.take i) : Int) (i : Int) l st) (cnt c l : Int) := by
    refine Ev_down (L := fun i k => spec_HowMany.l0 k c (cnt c (l.take i) : Int) (i : Int) l st) l.length ?_ ?_
    · refine Ev_at 1 (fun k => ?_)
      simp only [spec_HowMany.l0]
      rw [if_neg (by omega)]
      simp
    · intro i hi ih
      have hc := cnt_le c (l.take i)
      have hc2 : (l.take i).length ≤ i := List.length_take_le _ _
      have w0 : wrap64 (cnt c (l.take i) : Int) = (cnt c (l.take i) : Int) := by unfold wrap64; omega
      have w1 : wrap64 ((cnt c (l.take i) : Int) + 1) = (cnt c (l.take i) : Int) + 1 := by unfold wrap64; omega
      refine Ev.step (f := fun k => spec_HowMany.l0 k c (cnt c (l.take (i + 1)) : Int) ((i + 1 : Nat) : Int) l st) (fun k => ?_) ih
      simp only [spec_HowMany.l0]
      rw [if_pos (by omega), if_pos (by omega), wrap_up i (by omega), rd_at l i hi, cnt_take c l i hi]
      simp only [spec_ValOk_eq, spec_ClassOf_eq, spec_l1Bit.f, Option.bind_some]
      cases h1 : valOk l[i]
      · simp [w0]
      · by_cases h2 : classOf l[i] = c <;> simp [h2, w0, w1]
  exact key 0 (Nat.zero_le _)
theorem impl_HowMany_ev (l : List Int) (st c : Int) (hl : l.length ≤ 1048576) : Ev (fun k => impl_HowMany.f k l st c) (cnt c l : Int) := by
  have key : ∀ i, i ≤ l.length → Ev (fun k => impl_HowMany.l0 k c (cnt c (l.take i) : Int) l (l.length : Int) (i : Int)) (cnt c l : Int) := by
    refine Ev_down (L := fun i k => impl_HowMany.l0 k c (cnt c (l.take i) : Int) l (l.length : Int) (i : Int)) l.length ?_ ?_
    · refine Ev_at 1 (fun k => ?_)
      simp only [impl_HowMany.l0]
      rw [if_neg (by omega)]
      simp
    · intro i hi ih
      have hc := cnt_le c (l.take i)
      have hc2 : (l.take i).length ≤ i := List.length_take_le _ _
      have w1 : wrap64 ((cnt c (l.take i) : Int) + 1) = (cnt c (l.take i) : Int) + 1 := by unfold wrap64; omega
      refine Ev.step (f := fun k => impl_HowMany.l0 k c (cnt c (l.take (i + 1)) : Int) l (l.length : Int) ((i + 1 : Nat) : Int)) (fun k => ?_) ih
      simp only [impl_HowMany.l0]
      rw [if_pos (by omega), if_pos (by omega), if_pos (by omega), wrap_up i (by omega), rd_at l i hi, cnt_take c l i hi]
      simp only [impl_ValOk_eq, impl_ClassOf_eq, Option.bind_some]
      cases h1 : valOk l[i]
      · simp
      · by_cases h2 : classOf l[i] = c <;> simp [h2, w1]
  exact key 0 (Nat.zero_le _)

theorem FnExactHowMany (l0_0 : List Int) (a0_1 : Int) (a1 : Int) (gl0_0 : (fun l : List Int => l.length ≤ maxLen ∧ ∀ x ∈ l, (fun n : Int => (Lit.int .i64 n).wf = true) x) l0_0) (ga0_1 : (fun n : Int => (Lit.int .i64 n).wf = true) a0_1) (ga1 : (fun n : Int => (Lit.int .i64 n).wf = true) a1) : ∃ k, laws_FnExactHowMany.f k l0_0 a0_1 a1 = some true := by
  refine Ev.rounds (r := true) ?_
  unfold laws_FnExactHowMany.f
  obtain ⟨r, er, pr⟩ := laws_szRows_some l0_0 a0_1 gl0_0.1 1048576 (by omega) (by omega)
  simp only [er, Option.bind_some]
  by_cases c : r < 0
  · simp only [if_pos c]; exact Ev.now _
  simp only [if_neg c]
  have hl : l0_0.length ≤ 1048576 := (pr (by omega)).2
  refine Ev.bind (laws_toRows_ev l0_0 a0_1 hl) ?_
  refine Ev.bind (spec_HowMany_ev _ _ a1 hl) ?_
  refine Ev.bind (laws_toRows_ev l0_0 a0_1 hl) ?_
  refine Ev.bind (impl_HowMany_ev _ _ a1 hl) ?_
  simp only [if_pos]
  refine Ev.bind (laws_toRows_ev l0_0 a0_1 hl) ?_
  refine Ev.bind (laws_eqRows_refl _ _ hl) ?_
  exact Ev.now _

end Go.Proofs.Ytcjkkcjnlcehnaa.Pure
