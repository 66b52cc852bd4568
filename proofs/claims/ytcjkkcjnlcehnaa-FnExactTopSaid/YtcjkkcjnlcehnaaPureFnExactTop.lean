/- The pure statement behind the law FnExactTop: over plain values. No condition beyond that numbers are of their kind and lengths below 2^63. -/
import Derived.Test.YtcjkkcjnlcehnaaOpnFnExactTop
namespace Go.Proofs.Ytcjkkcjnlcehnaa.Pure
open Go.RowKit Go.Proofs.Ytcjkkcjnlcehnaa.Op Go.Proofs.YtcjkkcjnlcehnaaW.PrintWords Go.Proofs.YtcjkkcjnlcehnaaW.PrintLast Go.Proofs.Ytcjkkcjnlcehnaa.PFnExactTop Go.Proofs.Ytcjkkcjnlcehnaa.fnExactTop

-- PACKS
set_option linter.unusedVariables false
set_option linter.unusedSimpArgs false
theorem Ev_at {α : Type} {g : Nat → Option α} {r : α} (n : Nat) (h : ∀ k, g (k + n) = some r) : Ev g r := ⟨n, fun k hk => by
  obtain ⟨m, rfl⟩ : ∃ m, k = m + n := ⟨k - n, by omega⟩
  exact h m⟩
theorem Ev_down {α : Type} {L : Nat → Nat → Option α} {r : α} (n : Nat) (hn : Ev (L n) r) (hs : ∀ i, i < n → Ev (L (i + 1)) r → Ev (L i) r) : ∀ i, i ≤ n → Ev (L i) r := by
  have key : ∀ d i, i + d = n → Ev (L i) r := by
    intro d
    induction d with
    | zero => intro i h; obtain rfl : i = n := by omega
              exact hn
    | succ d ih => intro i h; exact hs i (by omega) (ih (i + 1) (by omega))
  exact fun i h => key (n - i) i (by omega)
theorem wrap_up (i : Nat) (h : i < 9223372036854775807) : wrap64 ((i : Int) + 1) = ((i + 1 : Nat) : Int) := by unfold wrap64; omega
theorem set_fill {α β : Type} (l : List α) (i : Nat) (hi : i < l.length) (z : β) (f : α → β) (v : β) (hv : v = f (l[i]'hi)) :
    ((l.take i).map f ++ List.replicate (l.length - i) z).set (i : Int).toNat v = (l.take (i + 1)).map f ++ List.replicate (l.length - (i + 1)) z := by
  subst hv
  have h1 : ((l.take i).map f).length = i := by simp; omega
  rw [Int.toNat_natCast, List.set_append, if_neg (by omega), h1, Nat.sub_self]
  obtain ⟨m, hm⟩ : ∃ m, l.length - i = m + 1 := ⟨l.length - i - 1, by omega⟩
  rw [hm, List.replicate_succ, List.set_cons_zero, show l.length - (i + 1) = m by omega, List.take_succ_eq_append_getElem hi, List.map_append, List.append_assoc]
  rfl
theorem set_fill_id {α : Type} (l : List α) (i : Nat) (hi : i < l.length) (z : α) (v : α) (hv : v = l[i]'hi) :
    (l.take i ++ List.replicate (l.length - i) z).set (i : Int).toNat v = l.take (i + 1) ++ List.replicate (l.length - (i + 1)) z := by
  have := set_fill l i hi z id v hv
  simpa using this
theorem Ev_downR {α : Type} {L : Nat → Nat → Option α} {R : Nat → α} (n : Nat) (hn : Ev (L n) (R n)) (hs : ∀ i, i < n → Ev (L (i + 1)) (R (i + 1)) → Ev (L i) (R i)) : ∀ i, i ≤ n → Ev (L i) (R i) := by
  have key : ∀ d i, i + d = n → Ev (L i) (R i) := by
    intro d
    induction d with
    | zero => intro i h; obtain rfl : i = n := by omega
              exact hn
    | succ d ih => intro i h; exact hs i (by omega) (ih (i + 1) (by omega))
  exact fun i h => key (n - i) i (by omega)
theorem rd_at (l : List Int) (i : Nat) (hi : i < l.length) : rd l (i : Int) = l[i] := by simp [rd, List.getD_eq_getElem?_getD, hi]
def conv124 (x : S124) : S122 := ⟨x.f0, x.f1, x.f2⟩
theorem laws_toOp_eq (a0 : Int) (a1 : Int) (a2 : Int) : laws_toOp.f a0 a1 a2 = some (a0, a1, a2) := rfl
theorem laws_eqOp_refl (a0 : Int) (a1 : Int) (a2 : Int) : laws_eqOp.f a0 a1 a2 a0 a1 a2 = some true := by simp [laws_eqOp.f]
theorem laws_toOpS_ev (l : List S124) (h : (l.length ≤ 1048576)) : Ev (fun k => laws_toOpS.f k l) (l.map conv124) := by
  have hl : l.length ≤ 1048576 := h
  have key : ∀ i, i ≤ l.length → Ev (fun k => laws_toOpS.l0 k l ((l.take i).map conv124 ++ List.replicate (l.length - i) z122) (i : Int)) (l.map conv124) := by
    refine Ev_down (L := fun i k => laws_toOpS.l0 k l ((l.take i).map conv124 ++ List.replicate (l.length - i) z122) (i : Int)) l.length ?_ ?_
    · refine Ev_at 1 (fun k => ?_)
      simp only [laws_toOpS.l0]
      rw [if_neg (by omega)]
      simp
    · intro i hi ih
      refine Ev.step (f := fun k => laws_toOpS.l0 k l ((l.take (i+1)).map conv124 ++ List.replicate (l.length - (i+1)) z122) ((i+1 : Nat) : Int)) (fun k => ?_) ?_
      · simp only [laws_toOpS.l0]
        rw [if_pos (by omega), if_pos (by omega)]
        simp only [laws_toOp_eq, Option.bind_some]
        rw [if_pos (by simp; omega), wrap_up i (by omega)]
        congr 1
        exact set_fill l i hi z122 conv124 _ (by simp [rd_T124, conv124, List.getD_eq_getElem?_getD, hi])
      · exact ih
  have := key 0 (Nat.zero_le _)
  have hc : ((l.length : Int) : Int).toNat ≤ 11728124029610 := by omega
  unfold laws_toOpS.f
  simp only [if_pos (Int.natCast_nonneg l.length), if_pos hc]
  simpa using this
theorem laws_eqOpS_refl (l : List S122) (h : (l.length ≤ 1048576)) : Ev (fun k => laws_eqOpS.f k l l) true := by
  have hl : l.length ≤ 1048576 := h
  have key : ∀ i, i ≤ l.length → Ev (fun k => laws_eqOpS.l0 k l l (i : Int)) true := by
    refine Ev_down (L := fun i k => laws_eqOpS.l0 k l l (i : Int)) l.length ?_ ?_
    · refine Ev_at 1 (fun k => ?_)
      simp only [laws_eqOpS.l0]
      rw [if_neg (by omega)]
    · intro i hi ih
      refine Ev.step (f := fun k => laws_eqOpS.l0 k l l ((i+1 : Nat) : Int)) (fun k => ?_) ih
      simp only [laws_eqOpS.l0]
      rw [if_pos (by omega), if_pos (by omega), if_pos (by omega), laws_eqOp_refl, Option.bind_some, if_pos rfl, wrap_up i (by omega)]
  have := key 0 (Nat.zero_le _)
  unfold laws_eqOpS.f
  simp only [if_pos]
  exact this
theorem laws_szOpS_some (l : List S124) (hb : l.length ≤ maxLen) (left : Int) (h0 : 0 ≤ left) (h1 : left ≤ 1048576) : ∃ r, laws_szOpS.f l left = some r ∧ (0 ≤ r → r ≤ left ∧ l.length ≤ 1048576) := by
  have hm : maxLen = 9223372036854775807 := rfl
  have hw : wrap64 (left - (l.length : Int)) = left - (l.length : Int) := by unfold wrap64; omega
  unfold laws_szOpS.f
  rw [hw]
  by_cases c : left - (l.length : Int) < 0
  · exact ⟨-1, by rw [if_pos c], fun h => by omega⟩
  · exact ⟨_, by rw [if_neg c], fun _ => by omega⟩
def conv97 (x : S97) : S95 := ⟨x.f0, x.f1⟩
theorem laws_toPair_eq (a0 : Int) (a1 : Int) : laws_toPair.f a0 a1 = some (a0, a1) := rfl
theorem laws_eqPair_refl (a0 : Int) (a1 : Int) : laws_eqPair.f a0 a1 a0 a1 = some true := by simp [laws_eqPair.f]
theorem laws_toPairS_ev (l : List S97) (h : (l.length ≤ 1048576)) : Ev (fun k => laws_toPairS.f k l) (l.map conv97) := by
  have hl : l.length ≤ 1048576 := h
  have key : ∀ i, i ≤ l.length → Ev (fun k => laws_toPairS.l0 k l ((l.take i).map conv97 ++ List.replicate (l.length - i) z95) (i : Int)) (l.map conv97) := by
    refine Ev_down (L := fun i k => laws_toPairS.l0 k l ((l.take i).map conv97 ++ List.replicate (l.length - i) z95) (i : Int)) l.length ?_ ?_
    · refine Ev_at 1 (fun k => ?_)
      simp only [laws_toPairS.l0]
      rw [if_neg (by omega)]
      simp
    · intro i hi ih
      refine Ev.step (f := fun k => laws_toPairS.l0 k l ((l.take (i+1)).map conv97 ++ List.replicate (l.length - (i+1)) z95) ((i+1 : Nat) : Int)) (fun k => ?_) ?_
      · simp only [laws_toPairS.l0]
        rw [if_pos (by omega), if_pos (by omega)]
        simp only [laws_toPair_eq, Option.bind_some]
        rw [if_pos (by simp; omega), wrap_up i (by omega)]
        congr 1
        exact set_fill l i hi z95 conv97 _ (by simp [rd_T97, conv97, List.getD_eq_getElem?_getD, hi])
      · exact ih
  have := key 0 (Nat.zero_le _)
  have hc : ((l.length : Int) : Int).toNat ≤ 17592186044416 := by omega
  unfold laws_toPairS.f
  simp only [if_pos (Int.natCast_nonneg l.length), if_pos hc]
  simpa using this
theorem laws_eqPairS_refl (l : List S95) (h : (l.length ≤ 1048576)) : Ev (fun k => laws_eqPairS.f k l l) true := by
  have hl : l.length ≤ 1048576 := h
  have key : ∀ i, i ≤ l.length → Ev (fun k => laws_eqPairS.l0 k l l (i : Int)) true := by
    refine Ev_down (L := fun i k => laws_eqPairS.l0 k l l (i : Int)) l.length ?_ ?_
    · refine Ev_at 1 (fun k => ?_)
      simp only [laws_eqPairS.l0]
      rw [if_neg (by omega)]
    · intro i hi ih
      refine Ev.step (f := fun k => laws_eqPairS.l0 k l l ((i+1 : Nat) : Int)) (fun k => ?_) ih
      simp only [laws_eqPairS.l0]
      rw [if_pos (by omega), if_pos (by omega), if_pos (by omega), laws_eqPair_refl, Option.bind_some, if_pos rfl, wrap_up i (by omega)]
  have := key 0 (Nat.zero_le _)
  unfold laws_eqPairS.f
  simp only [if_pos]
  exact this
theorem laws_szPairS_some (l : List S97) (hb : l.length ≤ maxLen) (left : Int) (h0 : 0 ≤ left) (h1 : left ≤ 1048576) : ∃ r, laws_szPairS.f l left = some r ∧ (0 ≤ r → r ≤ left ∧ l.length ≤ 1048576) := by
  have hm : maxLen = 9223372036854775807 := rfl
  have hw : wrap64 (left - (l.length : Int)) = left - (l.length : Int) := by unfold wrap64; omega
  unfold laws_szPairS.f
  rw [hw]
  by_cases c : left - (l.length : Int) < 0
  · exact ⟨-1, by rw [if_pos c], fun h => by omega⟩
  · exact ⟨_, by rw [if_neg c], fun _ => by omega⟩
def conv126 (x : S126) : S87 := ⟨x.f0, x.f1, x.f2, x.f3⟩
theorem laws_toHelp_eq (a0 : Int) (a1 : Int) (a2 : Int) (a3 : Int) : laws_toHelp.f a0 a1 a2 a3 = some (a0, a1, a2, a3) := rfl
theorem laws_eqHelp_refl (a0 : Int) (a1 : Int) (a2 : Int) (a3 : Int) : laws_eqHelp.f a0 a1 a2 a3 a0 a1 a2 a3 = some true := by simp [laws_eqHelp.f]
theorem laws_toHelpS_ev (l : List S126) (h : (l.length ≤ 1048576)) : Ev (fun k => laws_toHelpS.f k l) (l.map conv126) := by
  have hl : l.length ≤ 1048576 := h
  have key : ∀ i, i ≤ l.length → Ev (fun k => laws_toHelpS.l0 k l ((l.take i).map conv126 ++ List.replicate (l.length - i) z87) (i : Int)) (l.map conv126) := by
    refine Ev_down (L := fun i k => laws_toHelpS.l0 k l ((l.take i).map conv126 ++ List.replicate (l.length - i) z87) (i : Int)) l.length ?_ ?_
    · refine Ev_at 1 (fun k => ?_)
      simp only [laws_toHelpS.l0]
      rw [if_neg (by omega)]
      simp
    · intro i hi ih
      refine Ev.step (f := fun k => laws_toHelpS.l0 k l ((l.take (i+1)).map conv126 ++ List.replicate (l.length - (i+1)) z87) ((i+1 : Nat) : Int)) (fun k => ?_) ?_
      · simp only [laws_toHelpS.l0]
        rw [if_pos (by omega), if_pos (by omega)]
        simp only [laws_toHelp_eq, Option.bind_some]
        rw [if_pos (by simp; omega), wrap_up i (by omega)]
        congr 1
        exact set_fill l i hi z87 conv126 _ (by simp [rd_T126, conv126, List.getD_eq_getElem?_getD, hi])
      · exact ih
  have := key 0 (Nat.zero_le _)
  have hc : ((l.length : Int) : Int).toNat ≤ 8796093022208 := by omega
  unfold laws_toHelpS.f
  simp only [if_pos (Int.natCast_nonneg l.length), if_pos hc]
  simpa using this
theorem laws_eqHelpS_refl (l : List S87) (h : (l.length ≤ 1048576)) : Ev (fun k => laws_eqHelpS.f k l l) true := by
  have hl : l.length ≤ 1048576 := h
  have key : ∀ i, i ≤ l.length → Ev (fun k => laws_eqHelpS.l0 k l l (i : Int)) true := by
    refine Ev_down (L := fun i k => laws_eqHelpS.l0 k l l (i : Int)) l.length ?_ ?_
    · refine Ev_at 1 (fun k => ?_)
      simp only [laws_eqHelpS.l0]
      rw [if_neg (by omega)]
    · intro i hi ih
      refine Ev.step (f := fun k => laws_eqHelpS.l0 k l l ((i+1 : Nat) : Int)) (fun k => ?_) ih
      simp only [laws_eqHelpS.l0]
      rw [if_pos (by omega), if_pos (by omega), if_pos (by omega), laws_eqHelp_refl, Option.bind_some, if_pos rfl, wrap_up i (by omega)]
  have := key 0 (Nat.zero_le _)
  unfold laws_eqHelpS.f
  simp only [if_pos]
  exact this
theorem laws_szHelpS_some (l : List S126) (hb : l.length ≤ maxLen) (left : Int) (h0 : 0 ≤ left) (h1 : left ≤ 1048576) : ∃ r, laws_szHelpS.f l left = some r ∧ (0 ≤ r → r ≤ left ∧ l.length ≤ 1048576) := by
  have hm : maxLen = 9223372036854775807 := rfl
  have hw : wrap64 (left - (l.length : Int)) = left - (l.length : Int) := by unfold wrap64; omega
  unfold laws_szHelpS.f
  rw [hw]
  by_cases c : left - (l.length : Int) < 0
  · exact ⟨-1, by rw [if_pos c], fun h => by omega⟩
  · exact ⟨_, by rw [if_neg c], fun _ => by omega⟩
theorem laws_toThread_ev (l0 : List S124) (a1 : Int) (a2 : Bool) (l3 : List S97) (l4 : List S126) (h0 : (l0.length ≤ 1048576)) (h3 : (l3.length ≤ 1048576)) (h4 : (l4.length ≤ 1048576)) : Ev (fun k => laws_toThread.f k l0 a1 a2 l3 l4) (l0.map conv124, a1, a2, l3.map conv97, l4.map conv126) := by
  unfold laws_toThread.f
  try simp only [Option.bind_some]
  refine Ev.bind (laws_toOpS_ev l0 h0) ?_
  refine Ev.bind (laws_toPairS_ev l3 h3) ?_
  refine Ev.bind (laws_toHelpS_ev l4 h4) ?_
  exact Ev.now _
theorem laws_eqThread_refl (l0 : List S122) (a1 : Int) (a2 : Bool) (l3 : List S95) (l4 : List S87) (h0 : (l0.length ≤ 1048576)) (h3 : (l3.length ≤ 1048576)) (h4 : (l4.length ≤ 1048576)) : Ev (fun k => laws_eqThread.f k l0 a1 a2 l3 l4 l0 a1 a2 l3 l4) true := by
  unfold laws_eqThread.f
  try simp only [if_pos, Option.bind_some]
  refine Ev.bind (laws_eqOpS_refl l0 h0) ?_
  try simp only [if_true, if_pos, bne_self_eq_false, Bool.false_eq_true, if_false]
  refine Ev.bind (laws_eqPairS_refl l3 h3) ?_
  try simp only [if_true, if_pos, bne_self_eq_false, Bool.false_eq_true, if_false]
  refine Ev.bind (laws_eqHelpS_refl l4 h4) ?_
  try simp only [if_true, if_pos, bne_self_eq_false, Bool.false_eq_true, if_false]
  exact Ev.now _
theorem laws_szThread_some (l0 : List S124) (a1 : Int) (a2 : Bool) (l3 : List S97) (l4 : List S126) (b0 : l0.length ≤ maxLen) (b3 : l3.length ≤ maxLen) (b4 : l4.length ≤ maxLen) (left : Int) (h0 : 0 ≤ left) (h1 : left ≤ 1048576) : ∃ r, laws_szThread.f l0 a1 a2 l3 l4 left = some r ∧ (0 ≤ r → r ≤ left ∧ (l0.length ≤ 1048576) ∧ (l3.length ≤ 1048576) ∧ (l4.length ≤ 1048576)) := by
  unfold laws_szThread.f
  obtain ⟨r0, e0, p0⟩ := laws_szOpS_some l0 b0 left (by omega) (by omega)
  simp only [e0, Option.bind_some]
  by_cases c0 : r0 < 0
  · exact ⟨-1, by simp [c0], fun h => by omega⟩
  simp only [if_neg c0]
  have q0 := p0 (by omega)
  obtain ⟨r1, e1, p1⟩ := laws_szPairS_some l3 b3 r0 (by omega) (by omega)
  simp only [e1, Option.bind_some]
  by_cases c1 : r1 < 0
  · exact ⟨-1, by simp [c1], fun h => by omega⟩
  simp only [if_neg c1]
  have q1 := p1 (by omega)
  obtain ⟨r2, e2, p2⟩ := laws_szHelpS_some l4 b4 r1 (by omega) (by omega)
  simp only [e2, Option.bind_some]
  by_cases c2 : r2 < 0
  · exact ⟨-1, by simp [c2], fun h => by omega⟩
  simp only [if_neg c2]
  have q2 := p2 (by omega)
  refine ⟨_, rfl, fun _ => ⟨by omega, ?_⟩⟩
  simp_all

theorem FnExactTop (l0_0 : List S124) (a0_1 : Int) (a0_2 : Bool) (l0_3 : List S97) (l0_4 : List S126) (gl0_0 : (fun l : List S124 => l.length ≤ maxLen ∧ ∀ x ∈ l, good124 x) l0_0) (ga0_1 : (fun n : Int => (Lit.int .i64 n).wf = true) a0_1) (gl0_3 : (fun l : List S97 => l.length ≤ maxLen ∧ ∀ x ∈ l, good97 x) l0_3) (gl0_4 : (fun l : List S126 => l.length ≤ maxLen ∧ ∀ x ∈ l, good126 x) l0_4) : ∃ k, laws_FnExactTop.f k l0_0 a0_1 a0_2 l0_3 l0_4 = some true := by
  refine Ev.rounds (r := true) ?_
  unfold laws_FnExactTop.f
  obtain ⟨r, er, pr⟩ := laws_szThread_some l0_0 a0_1 a0_2 l0_3 l0_4 gl0_0.1 gl0_3.1 gl0_4.1 1048576 (by omega) (by omega)
  simp only [er, Option.bind_some]
  by_cases c : r < 0
  · simp only [if_pos c]; exact Ev.now _
  simp only [if_neg c]
  obtain ⟨hr, h0, h3, h4⟩ := pr (by omega)
  have ht : ∀ (x : List S122) (y : Int) (z : Bool) (u : List S95) (v : List S87), v.length ≤ 1048576 → ∃ t, spec_Top.f x y z u v = some t ∧ impl_Top.f x y z u v = some t := by
    intro x y z u v hv
    unfold spec_Top.f impl_Top.f
    by_cases hz : (v.length : Int) = 0
    · simp only [if_pos hz]; exact ⟨_, rfl, rfl⟩
    · have e : wrap64 ((v.length : Int) - 1) = (v.length : Int) - 1 := by unfold wrap64; omega
      have p1 : 0 ≤ (v.length : Int) - 1 := by omega
      have p2 : (v.length : Int) - 1 < (v.length : Int) := by omega
      simp only [if_neg hz, e, if_pos p1, if_pos p2]
      exact ⟨_, rfl, rfl⟩
  refine Ev.bind (laws_toThread_ev l0_0 a0_1 a0_2 l0_3 l0_4 h0 h3 h4) ?_
  obtain ⟨t, t1, t2⟩ := ht (l0_0.map conv124) a0_1 a0_2 (l0_3.map conv97) (l0_4.map conv126) (by simpa using h4)
  simp only [t1, Option.bind_some]
  refine Ev.bind (laws_toThread_ev l0_0 a0_1 a0_2 l0_3 l0_4 h0 h3 h4) ?_
  simp only [t2, Option.bind_some, laws_eqHelp_refl, if_true, bne_self_eq_false]
  refine Ev.step (f := fun k => (laws_toThread.f k l0_0 a0_1 a0_2 l0_3 l0_4).bind fun bt214 => ((laws_eqThread.f k (l0_0.map conv124) a0_1 a0_2 (l0_3.map conv97) (l0_4.map conv126) bt214.1 bt214.2.1 bt214.2.2.1 bt214.2.2.2.1 bt214.2.2.2.2).bind fun t225 => (if t225 = true then (some true) else (some false)))) (fun k => ?_) ?_
  · simp only [laws_FnExactTop.j0]
    rw [if_neg (by simp)]
  refine Ev.bind (laws_toThread_ev l0_0 a0_1 a0_2 l0_3 l0_4 h0 h3 h4) ?_
  refine Ev.bind (laws_eqThread_refl _ _ _ _ _ (by simpa using h0) (by simpa using h3) (by simpa using h4)) ?_
  exact Ev.now _

end Go.Proofs.Ytcjkkcjnlcehnaa.Pure
