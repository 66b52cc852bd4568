/- The pure statement behind the law FnExactRead: over plain values. No condition beyond that numbers are of their kind and lengths below 2^63. -/
import Derived.Test.YtcjkkcjnlcehnaaOpnFnExactRead
namespace Go.Proofs.Ytcjkkcjnlcehnaa.Pure
open Go.RowKit Go.Proofs.Ytcjkkcjnlcehnaa.Op Go.Proofs.YtcjkkcjnlcehnaaW.PrintWords Go.Proofs.YtcjkkcjnlcehnaaW.PrintLast Go.Proofs.Ytcjkkcjnlcehnaa.PFnExactRead Go.Proofs.Ytcjkkcjnlcehnaa.fnExactRead

-- PACKS
set_option linter.unusedVariables false
set_option linter.unusedSimpArgs false
theorem Ev_at {α : Type} {g : Nat → Option α} {r : α} (n : Nat) (h : ∀ k, g (k + n) = some r) : Ev g r := ⟨n, fun k hk => by
  obtain ⟨m, rfl⟩ : ∃ m, k = m + n := ⟨k - n, by omega⟩
  exact h m⟩
theorem Ev_down {α : Type} {L : Nat → Nat → Option α} {r : α} (n : Nat) (hn : Ev (L n) r) (hs : ∀ i, i < n → Ev (L (i + 1)) r → Ev (L i) r) : ∀ i, i ≤ n → Ev (L i) r := by
  have key : ∀ d i, i + d = n → Ev (L i) r := by
    intro d
    induction d with
    | zero => intro i h; obtain rfl : i = n := by omega
              exact hn
    | succ d ih => intro i h; exact hs i (by omega) (ih (i + 1) (by omega))
  exact fun i h => key (n - i) i (by omega)
theorem wrap_up (i : Nat) (h : i < 9223372036854775807) : wrap64 ((i : Int) + 1) = ((i + 1 : Nat) : Int) := by unfold wrap64; omega
theorem set_fill {α β : Type} (l : List α) (i : Nat) (hi : i < l.length) (z : β) (f : α → β) (v : β) (hv : v = f (l[i]'hi)) :
    ((l.take i).map f ++ List.replicate (l.length - i) z).set (i : Int).toNat v = (l.take (i + 1)).map f ++ List.replicate (l.length - (i + 1)) z := by
  subst hv
  have h1 : ((l.take i).map f).length = i := by simp; omega
  rw [Int.toNat_natCast, List.set_append, if_neg (by omega), h1, Nat.sub_self]
  obtain ⟨m, hm⟩ : ∃ m, l.length - i = m + 1 := ⟨l.length - i - 1, by omega⟩
  rw [hm, List.replicate_succ, List.set_cons_zero, show l.length - (i + 1) = m by omega, List.take_succ_eq_append_getElem hi, List.map_append, List.append_assoc]
  rfl
theorem set_fill_id {α : Type} (l : List α) (i : Nat) (hi : i < l.length) (z : α) (v : α) (hv : v = l[i]'hi) :
    (l.take i ++ List.replicate (l.length - i) z).set (i : Int).toNat v = l.take (i + 1) ++ List.replicate (l.length - (i + 1)) z := by
  have := set_fill l i hi z id v hv
  simpa using this
def conv97 (x : S97) : S95 := ⟨x.f0, x.f1⟩
theorem laws_toPair_eq (a0 : Int) (a1 : Int) : laws_toPair.f a0 a1 = some (a0, a1) := rfl
theorem laws_eqPair_refl (a0 : Int) (a1 : Int) : laws_eqPair.f a0 a1 a0 a1 = some true := by simp [laws_eqPair.f]
theorem laws_toPairS_ev (l : List S97) (h : (l.length ≤ 1048576)) : Ev (fun k => laws_toPairS.f k l) (l.map conv97) := by
  have hl : l.length ≤ 1048576 := h
  have key : ∀ i, i ≤ l.length → Ev (fun k => laws_toPairS.l0 k l ((l.take i).map conv97 ++ List.replicate (l.length - i) z95) (i : Int)) (l.map conv97) := by
    refine Ev_down (L := fun i k => laws_toPairS.l0 k l ((l.take i).map conv97 ++ List.replicate (l.length - i) z95) (i : Int)) l.length ?_ ?_
    · refine Ev_at 1 (fun k => ?_)
      simp only [laws_toPairS.l0]
      rw [if_neg (by omega)]
      simp
    · intro i hi ih
      refine Ev.step (f := fun k => laws_toPairS.l0 k l ((l.take (i+1)).map conv97 ++ List.replicate (l.length - (i+1)) z95) ((i+1 : Nat) : Int)) (fun k => ?_) ?_
      · simp only [laws_toPairS.l0]
        rw [if_pos (by omega), if_pos (by omega)]
        simp only [laws_toPair_eq, Option.bind_some]
        rw [if_pos (by simp; omega), wrap_up i (by omega)]
        congr 1
        exact set_fill l i hi z95 conv97 _ (by simp [rd_T97, conv97, List.getD_eq_getElem?_getD, hi])
      · exact ih
  have := key 0 (Nat.zero_le _)
  have hc : ((l.length : Int) : Int).toNat ≤ 17592186044416 := by omega
  unfold laws_toPairS.f
  simp only [if_pos (Int.natCast_nonneg l.length), if_pos hc]
  simpa using this
theorem laws_eqPairS_refl (l : List S95) (h : (l.length ≤ 1048576)) : Ev (fun k => laws_eqPairS.f k l l) true := by
  have hl : l.length ≤ 1048576 := h
  have key : ∀ i, i ≤ l.length → Ev (fun k => laws_eqPairS.l0 k l l (i : Int)) true := by
    refine Ev_down (L := fun i k => laws_eqPairS.l0 k l l (i : Int)) l.length ?_ ?_
    · refine Ev_at 1 (fun k => ?_)
      simp only [laws_eqPairS.l0]
      rw [if_neg (by omega)]
    · intro i hi ih
      refine Ev.step (f := fun k => laws_eqPairS.l0 k l l ((i+1 : Nat) : Int)) (fun k => ?_) ih
      simp only [laws_eqPairS.l0]
      rw [if_pos (by omega), if_pos (by omega), if_pos (by omega), laws_eqPair_refl, Option.bind_some, if_pos rfl, wrap_up i (by omega)]
  have := key 0 (Nat.zero_le _)
  unfold laws_eqPairS.f
  simp only [if_pos]
  exact this
theorem laws_szPairS_some (l : List S97) (hb : l.length ≤ maxLen) (left : Int) (h0 : 0 ≤ left) (h1 : left ≤ 1048576) : ∃ r, laws_szPairS.f l left = some r ∧ (0 ≤ r → r ≤ left ∧ l.length ≤ 1048576) := by
  have hm : maxLen = 9223372036854775807 := rfl
  have hw : wrap64 (left - (l.length : Int)) = left - (l.length : Int) := by unfold wrap64; omega
  unfold laws_szPairS.f
  rw [hw]
  by_cases c : left - (l.length : Int) < 0
  · exact ⟨-1, by rw [if_pos c], fun h => by omega⟩
  · exact ⟨_, by rw [if_neg c], fun _ => by omega⟩
def readP (l : List S95) (at_ : Int) : Int × Bool := l.foldl (fun acc p => if p.f0 = at_ then (p.f1, true) else acc) (0, false)
theorem readP_take (l : List S95) (at_ : Int) (i : Nat) (hi : i < l.length) : readP (l.take (i + 1)) at_ = if (l[i]).f0 = at_ then ((l[i]).f1, true) else readP (l.take i) at_ := by
  unfold readP
  rw [List.take_succ_eq_append_getElem hi, List.foldl_append]
  rfl
theorem rdT_Pair (l : List S95) (i : Nat) (hi : i < l.length) : rd_T95 l (i : Int) = l[i] := by simp [rd_T95, List.getD_eq_getElem?_getD, hi]
theorem spec_Read_ev (l : List S95) (at_ : Int) (hl : l.length ≤ 1048576) : Ev (fun k => spec_Read.f k l at_) (readP l at_) := by
  have key : ∀ i, i ≤ l.length → Ev (fun k => spec_Read.l0 k l at_ (readP (l.take i) at_).1 (readP (l.take i) at_).2 (i : Int)) (readP l at_) := by
    refine Ev_down (L := fun i k => spec_Read.l0 k l at_ (readP (l.take i) at_).1 (readP (l.take i) at_).2 (i : Int)) l.length ?_ ?_
    · refine Ev_at 1 (fun k => ?_)
      simp only [spec_Read.l0]
      rw [if_neg (by omega)]
      simp
    · intro i hi ih
      refine Ev.step (f := fun k => spec_Read.l0 k l at_ (readP (l.take (i + 1)) at_).1 (readP (l.take (i + 1)) at_).2 ((i + 1 : Nat) : Int)) (fun k => ?_) ih
      simp only [spec_Read.l0]
      rw [if_pos (by omega), if_pos (by omega), wrap_up i (by omega), readP_take l at_ i hi, rdT_Pair l i hi]
      split <;> rfl
  have := key 0 (Nat.zero_le _)
  unfold spec_Read.f
  exact this
theorem impl_Read_ev (l : List S95) (at_ : Int) (hl : l.length ≤ 1048576) : Ev (fun k => impl_Read.f k l at_) (readP l at_) := by
  have key : ∀ i, i ≤ l.length → Ev (fun k => impl_Read.l0 k l at_ ((i : Int) - 1)) (readP (l.take i) at_) := by
    intro i
    induction i with
    | zero =>
      intro _
      refine Ev_at 1 (fun k => ?_)
      simp only [impl_Read.l0]
      rw [if_neg (by omega)]
      simp [readP]
    | succ i ih =>
      intro hi
      have e1 : ((i + 1 : Nat) : Int) - 1 = (i : Int) := by omega
      have e2 : wrap64 ((i : Int) - 1) = (i : Int) - 1 := by unfold wrap64; omega
      rw [e1]
      refine Ev.step (f := fun k => if (l[i]).f0 = at_ then some ((l[i]).f1, true) else impl_Read.l0 k l at_ ((i : Int) - 1)) (fun k => ?_) ?_
      · simp only [impl_Read.l0]
        rw [if_pos (by omega), if_pos (by omega), if_pos (by omega), e2, rdT_Pair l i (by omega)]
      · rw [readP_take l at_ i (by omega)]
        by_cases h : (l[i]).f0 = at_
        · simp only [if_pos h]; exact Ev.now _
        · simp only [if_neg h]; exact ih (by omega)
  have := key l.length (Nat.le_refl _)
  rw [List.take_length] at this
  unfold impl_Read.f
  have e2 : wrap64 ((l.length : Int) - 1) = (l.length : Int) - 1 := by unfold wrap64; omega
  rw [e2]
  exact this

theorem FnExactRead (l0 : List S97) (a1 : Int) (gl0 : (fun l : List S97 => l.length ≤ maxLen ∧ ∀ x ∈ l, good97 x) l0) (ga1 : (fun n : Int => (Lit.int .i64 n).wf = true) a1) : ∃ k, laws_FnExactRead.f k l0 a1 = some true := by
  refine Ev.rounds (r := true) ?_
  unfold laws_FnExactRead.f
  obtain ⟨r, er, pr⟩ := laws_szPairS_some l0 gl0.1 1048576 (by omega) (by omega)
  simp only [er, Option.bind_some]
  by_cases c : r < 0
  · simp only [if_pos c]; exact Ev.now _
  simp only [if_neg c]
  have hl : l0.length ≤ 1048576 := (pr (by omega)).2
  refine Ev.bind (laws_toPairS_ev l0 hl) ?_
  refine Ev.bind (spec_Read_ev _ a1 (by simpa using hl)) ?_
  refine Ev.bind (laws_toPairS_ev l0 hl) ?_
  refine Ev.bind (impl_Read_ev _ a1 (by simpa using hl)) ?_
  simp only [if_pos]
  refine Ev.step (f := fun k => (laws_toPairS.f k l0).bind fun t131 => ((laws_eqPairS.f k (l0.map conv97) t131).bind fun t134 => (if t134 = true then (some true) else (some false)))) (fun k => ?_) ?_
  · simp only [laws_FnExactRead.j0]
    rw [if_neg (by simp)]
  refine Ev.bind (laws_toPairS_ev l0 hl) ?_
  refine Ev.bind (laws_eqPairS_refl _ (by simpa using hl)) ?_
  exact Ev.now _

end Go.Proofs.Ytcjkkcjnlcehnaa.Pure
