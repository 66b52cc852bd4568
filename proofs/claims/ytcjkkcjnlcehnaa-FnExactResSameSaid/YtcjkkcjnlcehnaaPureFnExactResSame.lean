/- The pure statement behind the law FnExactResSame: over plain values. No condition beyond that numbers are of their kind and lengths below 2^63. -/
import Derived.Test.YtcjkkcjnlcehnaaOpnFnExactResSame
namespace Go.Proofs.Ytcjkkcjnlcehnaa.Pure
open Go.RowKit Go.Proofs.Ytcjkkcjnlcehnaa.Op Go.Proofs.YtcjkkcjnlcehnaaW.PrintWords Go.Proofs.YtcjkkcjnlcehnaaW.PrintLast Go.Proofs.Ytcjkkcjnlcehnaa.PFnExactResSame Go.Proofs.Ytcjkkcjnlcehnaa.fnExactResSame

-- PACKS
set_option linter.unusedVariables false
set_option linter.unusedSimpArgs false
theorem Ev_at {α : Type} {g : Nat → Option α} {r : α} (n : Nat) (h : ∀ k, g (k + n) = some r) : Ev g r := ⟨n, fun k hk => by
  obtain ⟨m, rfl⟩ : ∃ m, k = m + n := ⟨k - n, by omega⟩
  exact h m⟩
theorem Ev_down {α : Type} {L : Nat → Nat → Option α} {r : α} (n : Nat) (hn : Ev (L n) r) (hs : ∀ i, i < n → Ev (L (i + 1)) r → Ev (L i) r) : ∀ i, i ≤ n → Ev (L i) r := by
  have key : ∀ d i, i + d = n → Ev (L i) r := by
    intro d
    induction d with
    | zero => intro i h; obtain rfl : i = n := by omega
              exact hn
    | succ d ih => intro i h; exact hs i (by omega) (ih (i + 1) (by omega))
  exact fun i h => key (n - i) i (by omega)
theorem wrap_up (i : Nat) (h : i < 9223372036854775807) : wrap64 ((i : Int) + 1) = ((i + 1 : Nat) : Int) := by unfold wrap64; omega
theorem set_fill {α β : Type} (l : List α) (i : Nat) (hi : i < l.length) (z : β) (f : α → β) (v : β) (hv : v = f (l[i]'hi)) :
    ((l.take i).map f ++ List.replicate (l.length - i) z).set (i : Int).toNat v = (l.take (i + 1)).map f ++ List.replicate (l.length - (i + 1)) z := by
  subst hv
  have h1 : ((l.take i).map f).length = i := by simp; omega
  rw [Int.toNat_natCast, List.set_append, if_neg (by omega), h1, Nat.sub_self]
  obtain ⟨m, hm⟩ : ∃ m, l.length - i = m + 1 := ⟨l.length - i - 1, by omega⟩
  rw [hm, List.replicate_succ, List.set_cons_zero, show l.length - (i + 1) = m by omega, List.take_succ_eq_append_getElem hi, List.map_append, List.append_assoc]
  rfl
theorem set_fill_id {α : Type} (l : List α) (i : Nat) (hi : i < l.length) (z : α) (v : α) (hv : v = l[i]'hi) :
    (l.take i ++ List.replicate (l.length - i) z).set (i : Int).toNat v = l.take (i + 1) ++ List.replicate (l.length - (i + 1)) z := by
  have := set_fill l i hi z id v hv
  simpa using this
theorem Ev_downR {α : Type} {L : Nat → Nat → Option α} {R : Nat → α} (n : Nat) (hn : Ev (L n) (R n)) (hs : ∀ i, i < n → Ev (L (i + 1)) (R (i + 1)) → Ev (L i) (R i)) : ∀ i, i ≤ n → Ev (L i) (R i) := by
  have key : ∀ d i, i + d = n → Ev (L i) (R i) := by
    intro d
    induction d with
    | zero => intro i h; obtain rfl : i = n := by omega
              exact hn
    | succ d ih => intro i h; exact hs i (by omega) (ih (i + 1) (by omega))
  exact fun i h => key (n - i) i (by omega)
theorem rd_at (l : List Int) (i : Nat) (hi : i < l.length) : rd l (i : Int) = l[i] := by simp [rd, List.getD_eq_getElem?_getD, hi]
theorem laws_toIntS_ev (l : List Int) (h : (l.length ≤ 1048576)) : Ev (fun k => laws_toIntS.f k l) (l) := by
  have hl : l.length ≤ 1048576 := h
  have key : ∀ i, i ≤ l.length → Ev (fun k => laws_toIntS.l0 k l ((l.take i) ++ List.replicate (l.length - i) 0) (i : Int)) (l) := by
    refine Ev_down (L := fun i k => laws_toIntS.l0 k l ((l.take i) ++ List.replicate (l.length - i) 0) (i : Int)) l.length ?_ ?_
    · refine Ev_at 1 (fun k => ?_)
      simp only [laws_toIntS.l0]
      rw [if_neg (by omega)]
      simp
    · intro i hi ih
      refine Ev.step (f := fun k => laws_toIntS.l0 k l ((l.take (i+1)) ++ List.replicate (l.length - (i+1)) 0) ((i+1 : Nat) : Int)) (fun k => ?_) ?_
      · simp only [laws_toIntS.l0]
        rw [if_pos (by omega), if_pos (by omega)]
        rw [if_pos (by simp; omega), wrap_up i (by omega)]
        congr 1
        exact set_fill_id l i hi 0 _ (by simp [rd, List.getD_eq_getElem?_getD, hi])
      · exact ih
  have := key 0 (Nat.zero_le _)
  have hc : ((l.length : Int) : Int).toNat ≤ 35184372088832 := by omega
  unfold laws_toIntS.f
  simp only [if_pos (Int.natCast_nonneg l.length), if_pos hc]
  simpa using this
theorem laws_eqIntS_refl (l : List Int) (h : (l.length ≤ 1048576)) : Ev (fun k => laws_eqIntS.f k l l) true := by
  have hl : l.length ≤ 1048576 := h
  have key : ∀ i, i ≤ l.length → Ev (fun k => laws_eqIntS.l0 k l l (i : Int)) true := by
    refine Ev_down (L := fun i k => laws_eqIntS.l0 k l l (i : Int)) l.length ?_ ?_
    · refine Ev_at 1 (fun k => ?_)
      simp only [laws_eqIntS.l0]
      rw [if_neg (by omega)]
    · intro i hi ih
      refine Ev.step (f := fun k => laws_eqIntS.l0 k l l ((i+1 : Nat) : Int)) (fun k => ?_) ih
      simp only [laws_eqIntS.l0]
      rw [if_pos (by omega), if_pos (by omega), if_pos (by omega), if_pos trivial, wrap_up i (by omega)]
  have := key 0 (Nat.zero_le _)
  unfold laws_eqIntS.f
  simp only [if_pos]
  exact this
theorem laws_szIntS_some (l : List Int) (hb : l.length ≤ maxLen) (left : Int) (h0 : 0 ≤ left) (h1 : left ≤ 1048576) : ∃ r, laws_szIntS.f l left = some r ∧ (0 ≤ r → r ≤ left ∧ l.length ≤ 1048576) := by
  have hm : maxLen = 9223372036854775807 := rfl
  have hw : wrap64 (left - (l.length : Int)) = left - (l.length : Int) := by unfold wrap64; omega
  unfold laws_szIntS.f
  rw [hw]
  by_cases c : left - (l.length : Int) < 0
  · exact ⟨-1, by rw [if_pos c], fun h => by omega⟩
  · exact ⟨_, by rw [if_neg c], fun _ => by omega⟩
theorem laws_toRes_ev (a0 : Int) (l1 : List Int) (h1 : (l1.length ≤ 1048576)) : Ev (fun k => laws_toRes.f k a0 l1) (a0, l1) := by
  unfold laws_toRes.f
  try simp only [Option.bind_some]
  refine Ev.bind (laws_toIntS_ev l1 h1) ?_
  exact Ev.now _
theorem laws_eqRes_refl (a0 : Int) (l1 : List Int) (h1 : (l1.length ≤ 1048576)) : Ev (fun k => laws_eqRes.f k a0 l1 a0 l1) true := by
  unfold laws_eqRes.f
  try simp only [if_pos, Option.bind_some]
  refine Ev.bind (laws_eqIntS_refl l1 h1) ?_
  try simp only [if_true, if_pos, bne_self_eq_false, Bool.false_eq_true, if_false]
  exact Ev.now _
theorem laws_szRes_some (a0 : Int) (l1 : List Int) (b1 : l1.length ≤ maxLen) (left : Int) (h0 : 0 ≤ left) (h1 : left ≤ 1048576) : ∃ r, laws_szRes.f a0 l1 left = some r ∧ (0 ≤ r → r ≤ left ∧ (l1.length ≤ 1048576)) := by
  unfold laws_szRes.f
  obtain ⟨r0, e0, p0⟩ := laws_szIntS_some l1 b1 left (by omega) (by omega)
  simp only [e0, Option.bind_some]
  by_cases c0 : r0 < 0
  · exact ⟨-1, by simp [c0], fun h => by omega⟩
  simp only [if_neg c0]
  have q0 := p0 (by omega)
  refine ⟨_, rfl, fun _ => ⟨by omega, ?_⟩⟩
  simp_all
def zipEq : List Int → List Int → Bool
  | [], [] => true
  | x :: xs, y :: ys => x == y && zipEq xs ys
  | _, _ => false
theorem zipEq_len : ∀ (a b : List Int), a.length ≠ b.length → zipEq a b = false
  | [], [], h => absurd rfl h
  | x :: xs, [], _ => rfl
  | [], y :: ys, _ => rfl
  | x :: xs, y :: ys, h => by simp [zipEq, zipEq_len xs ys (by simpa using h)]
theorem zipEq_self : ∀ (a : List Int), zipEq a a = true
  | [] => rfl
  | x :: xs => by simp [zipEq, zipEq_self xs]
theorem zipEq_eq : ∀ (a b : List Int), zipEq a b = decide (a = b)
  | [], [] => rfl
  | x :: xs, [] => rfl
  | [], y :: ys => rfl
  | x :: xs, y :: ys => by
    by_cases h : x = y <;> simp [zipEq, zipEq_eq xs ys, h]
theorem spec_l4Ints_ev (a b : List Int) (ha : a.length ≤ 1048576) (hb : b.length ≤ 1048576) : Ev (fun k => spec_l4Ints.f k a b) (zipEq a b) := by
  have key : ∀ i, i ≤ a.length → (i ≤ b.length → Ev (fun k => spec_l4Ints.l0 k a b (i : Int)) (zipEq (a.drop i) (b.drop i))) := by
    have step : ∀ d i, i + d = a.length → i ≤ b.length → Ev (fun k => spec_l4Ints.l0 k a b (i : Int)) (zipEq (a.drop i) (b.drop i)) := by
      intro d
      induction d with
      | zero =>
        intro i hi hib
        obtain rfl : i = a.length := by omega
        refine Ev_at 2 (fun k => ?_)
        simp only [spec_l4Ints.l0]
        rw [if_neg (by omega)]
        simp only [spec_l4Ints.j1]
        rw [if_neg (by simp), List.drop_length]
        congr 1
        by_cases h : a.length = b.length
        · rw [h, List.drop_length]; simp [zipEq]
        · rw [zipEq_len _ _ (by simp; omega)]; simp; omega
      | succ d ih =>
        intro i hi hib
        have hia : i < a.length := by omega
        by_cases h : i < b.length
        · refine Ev.step (f := fun k => spec_l4Ints.j1 k a b (i : Int) true) (fun k => ?_) ?_
          · simp only [spec_l4Ints.l0]
            rw [if_pos (by omega), decide_eq_true (by omega)]
          · refine Ev.step (f := fun k => if a[i] = b[i] then spec_l4Ints.l0 k a b ((i + 1 : Nat) : Int) else some false) (fun k => ?_) ?_
            · simp only [spec_l4Ints.j1]
              rw [if_pos trivial, if_pos (by omega), if_pos (by omega), if_pos (by omega), rd_at a i hia, rd_at b i h, wrap_up i (by omega)]
            · rw [List.drop_eq_getElem_cons hia, List.drop_eq_getElem_cons h]
              by_cases e : a[i] = b[i]
              · simp only [if_pos e, zipEq]
                rw [e, beq_self_eq_true, Bool.true_and]
                exact ih (i + 1) (by omega) (by omega)
              · simp only [if_neg e, zipEq, beq_eq_false_iff_ne.mpr e, Bool.false_and]
                exact Ev.now _
        · obtain rfl : i = b.length := by omega
          refine Ev_at 2 (fun k => ?_)
          simp only [spec_l4Ints.l0]
          rw [if_pos (by omega), decide_eq_false (by omega)]
          simp only [spec_l4Ints.j1]
          rw [if_neg (by simp), zipEq_len _ _ (by simp; omega)]
          congr 1
          simp; omega
    intro i hi hib
    exact step (a.length - i) i (by omega) hib
  exact key 0 (Nat.zero_le _) (Nat.zero_le _)
theorem slices_Equal_ev (a b : List Int) (ha : a.length ≤ 1048576) (hb : b.length ≤ 1048576) : Ev (fun k => slices_Equal_int_int.f k a b) (zipEq a b) := by
  unfold slices_Equal_int_int.f
  by_cases h : a.length = b.length
  · have key : ∀ i, i ≤ a.length → Ev (fun k => slices_Equal_int_int.l0 k a b (a.length : Int) (i : Int)) (zipEq (a.drop i) (b.drop i)) := by
      refine Ev_downR (L := fun i k => slices_Equal_int_int.l0 k a b (a.length : Int) (i : Int)) (R := fun i => zipEq (a.drop i) (b.drop i)) a.length ?_ ?_
      · refine Ev_at 1 (fun k => ?_)
        simp only [slices_Equal_int_int.l0]
        rw [if_neg (by omega), List.drop_length, h, List.drop_length]
        rfl
      · intro i hi ih
        have hib : i < b.length := by omega
        refine Ev.step (f := fun k => if a[i] = b[i] then slices_Equal_int_int.l0 k a b (a.length : Int) ((i + 1 : Nat) : Int) else some false) (fun k => ?_) ?_
        · simp only [slices_Equal_int_int.l0]
          rw [if_pos (by omega), if_pos (by omega), if_pos (by omega), if_pos (by omega), rd_at a i hi, rd_at b i hib, wrap_up i (by omega)]
        · rw [List.drop_eq_getElem_cons hi, List.drop_eq_getElem_cons hib]
          by_cases e : a[i] = b[i]
          · simp only [if_pos e, zipEq]
            rw [e, beq_self_eq_true, Bool.true_and]
            exact ih
          · simp only [if_neg e, zipEq, beq_eq_false_iff_ne.mpr e, Bool.false_and]
            exact Ev.now _
    have hc : (a.length : Int) = (b.length : Int) := by omega
    simp only [if_pos hc]
    exact key 0 (Nat.zero_le _)
  · have hc : ¬ (a.length : Int) = (b.length : Int) := by omega
    simp only [if_neg hc, zipEq_len a b h]
    exact Ev.now _
def resSame (c : Int) (l : List Int) (c' : Int) (l' : List Int) : Bool := decide (c = c') && zipEq l l'
theorem spec_ResSame_ev (c : Int) (l : List Int) (c' : Int) (l' : List Int) (ha : l.length ≤ 1048576) (hb : l'.length ≤ 1048576) : Ev (fun k => spec_ResSame.f k c l c' l') (resSame c l c' l') := by
  unfold spec_ResSame.f resSame
  by_cases h : c = c'
  · simp only [if_pos h, decide_eq_true h, Bool.true_and]
    exact Ev.bind (spec_l4Ints_ev l l' ha hb) (Ev.now _)
  · simp only [if_neg h, decide_eq_false h, Bool.false_and]
    exact Ev.now _
theorem impl_ResSame_ev (c : Int) (l : List Int) (c' : Int) (l' : List Int) (ha : l.length ≤ 1048576) (hb : l'.length ≤ 1048576) : Ev (fun k => impl_ResSame.f k c l c' l') (resSame c l c' l') := by
  unfold impl_ResSame.f resSame
  by_cases h : c = c'
  · simp only [if_pos h, decide_eq_true h, Bool.true_and]
    exact Ev.bind (slices_Equal_ev l l' ha hb) (Ev.now _)
  · simp only [if_neg h, decide_eq_false h, Bool.false_and]
    exact Ev.now _

theorem FnExactResSame (a0_0 : Int) (l0_1 : List Int) (a1_0 : Int) (l1_1 : List Int) (ga0_0 : (fun n : Int => (Lit.int .i64 n).wf = true) a0_0) (gl0_1 : (fun l : List Int => l.length ≤ maxLen ∧ ∀ x ∈ l, (fun n : Int => (Lit.int .i64 n).wf = true) x) l0_1) (ga1_0 : (fun n : Int => (Lit.int .i64 n).wf = true) a1_0) (gl1_1 : (fun l : List Int => l.length ≤ maxLen ∧ ∀ x ∈ l, (fun n : Int => (Lit.int .i64 n).wf = true) x) l1_1) : ∃ k, laws_FnExactResSame.f k a0_0 l0_1 a1_0 l1_1 = some true := by
  refine Ev.rounds (r := true) ?_
  unfold laws_FnExactResSame.f
  obtain ⟨r, er, pr⟩ := laws_szRes_some a0_0 l0_1 gl0_1.1 1048576 (by omega) (by omega)
  simp only [er, Option.bind_some]
  by_cases c : r < 0
  · simp only [if_pos c]; exact Ev.now _
  simp only [if_neg c]
  obtain ⟨hr, hl⟩ := pr (by omega)
  obtain ⟨r2, er2, pr2⟩ := laws_szRes_some a1_0 l1_1 gl1_1.1 r (by omega) (by omega)
  simp only [er2, Option.bind_some]
  by_cases c2 : r2 < 0
  · simp only [if_pos c2]; exact Ev.now _
  simp only [if_neg c2]
  obtain ⟨hr2, hl2⟩ := pr2 (by omega)
  refine Ev.bind (laws_toRes_ev a0_0 l0_1 hl) ?_
  refine Ev.bind (laws_toRes_ev a1_0 l1_1 hl2) ?_
  refine Ev.bind (spec_ResSame_ev _ _ _ _ hl hl2) ?_
  refine Ev.bind (laws_toRes_ev a0_0 l0_1 hl) ?_
  refine Ev.bind (laws_toRes_ev a1_0 l1_1 hl2) ?_
  refine Ev.bind (impl_ResSame_ev _ _ _ _ hl hl2) ?_
  simp only [bne_self_eq_false, Bool.false_eq_true, if_false]
  refine Ev.bind (laws_toRes_ev a0_0 l0_1 hl) ?_
  refine Ev.bind (laws_eqRes_refl _ _ hl) ?_
  simp only [if_true]
  refine Ev.bind (laws_toRes_ev a1_0 l1_1 hl2) ?_
  refine Ev.bind (laws_eqRes_refl _ _ hl2) ?_
  exact Ev.now _

end Go.Proofs.Ytcjkkcjnlcehnaa.Pure
