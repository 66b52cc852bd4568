/- The pure statement behind the law FnExactDescOk: over plain values. No condition beyond that numbers are of their kind and lengths below 2^63. -/
import Derived.Test.YtcjkkcjnlcehnaaOpnFnExactDescOk
namespace Go.Proofs.Ytcjkkcjnlcehnaa.Pure
open Go.RowKit Go.Proofs.Ytcjkkcjnlcehnaa.Op Go.Proofs.YtcjkkcjnlcehnaaW.PrintWords Go.Proofs.YtcjkkcjnlcehnaaW.PrintLast Go.Proofs.Ytcjkkcjnlcehnaa.PFnExactDescOk Go.Proofs.Ytcjkkcjnlcehnaa.fnExactDescOk

-- PACKS
set_option linter.unusedVariables false
set_option linter.unusedSimpArgs false
theorem Ev_at {α : Type} {g : Nat → Option α} {r : α} (n : Nat) (h : ∀ k, g (k + n) = some r) : Ev g r := ⟨n, fun k hk => by
  obtain ⟨m, rfl⟩ : ∃ m, k = m + n := ⟨k - n, by omega⟩
  exact h m⟩
theorem Ev_down {α : Type} {L : Nat → Nat → Option α} {r : α} (n : Nat) (hn : Ev (L n) r) (hs : ∀ i, i < n → Ev (L (i + 1)) r → Ev (L i) r) : ∀ i, i ≤ n → Ev (L i) r := by
  have key : ∀ d i, i + d = n → Ev (L i) r := by
    intro d
    induction d with
    | zero => intro i h; obtain rfl : i = n := by omega
              exact hn
    | succ d ih => intro i h; exact hs i (by omega) (ih (i + 1) (by omega))
  exact fun i h => key (n - i) i (by omega)
theorem wrap_up (i : Nat) (h : i < 9223372036854775807) : wrap64 ((i : Int) + 1) = ((i + 1 : Nat) : Int) := by unfold wrap64; omega
theorem set_fill {α β : Type} (l : List α) (i : Nat) (hi : i < l.length) (z : β) (f : α → β) (v : β) (hv : v = f (l[i]'hi)) :
    ((l.take i).map f ++ List.replicate (l.length - i) z).set (i : Int).toNat v = (l.take (i + 1)).map f ++ List.replicate (l.length - (i + 1)) z := by
  subst hv
  have h1 : ((l.take i).map f).length = i := by simp; omega
  rw [Int.toNat_natCast, List.set_append, if_neg (by omega), h1, Nat.sub_self]
  obtain ⟨m, hm⟩ : ∃ m, l.length - i = m + 1 := ⟨l.length - i - 1, by omega⟩
  rw [hm, List.replicate_succ, List.set_cons_zero, show l.length - (i + 1) = m by omega, List.take_succ_eq_append_getElem hi, List.map_append, List.append_assoc]
  rfl
theorem set_fill_id {α : Type} (l : List α) (i : Nat) (hi : i < l.length) (z : α) (v : α) (hv : v = l[i]'hi) :
    (l.take i ++ List.replicate (l.length - i) z).set (i : Int).toNat v = l.take (i + 1) ++ List.replicate (l.length - (i + 1)) z := by
  have := set_fill l i hi z id v hv
  simpa using this
theorem Ev_downR {α : Type} {L : Nat → Nat → Option α} {R : Nat → α} (n : Nat) (hn : Ev (L n) (R n)) (hs : ∀ i, i < n → Ev (L (i + 1)) (R (i + 1)) → Ev (L i) (R i)) : ∀ i, i ≤ n → Ev (L i) (R i) := by
  have key : ∀ d i, i + d = n → Ev (L i) (R i) := by
    intro d
    induction d with
    | zero => intro i h; obtain rfl : i = n := by omega
              exact hn
    | succ d ih => intro i h; exact hs i (by omega) (ih (i + 1) (by omega))
  exact fun i h => key (n - i) i (by omega)
theorem rd_at (l : List Int) (i : Nat) (hi : i < l.length) : rd l (i : Int) = l[i] := by simp [rd, List.getD_eq_getElem?_getD, hi]
def conv120 (x : S120) : S61 := ⟨x.f0, x.f1, x.f2⟩
theorem laws_toEntry_eq (a0 : Int) (a1 : Int) (a2 : Int) : laws_toEntry.f a0 a1 a2 = some (a0, a1, a2) := rfl
theorem laws_eqEntry_refl (a0 : Int) (a1 : Int) (a2 : Int) : laws_eqEntry.f a0 a1 a2 a0 a1 a2 = some true := by simp [laws_eqEntry.f]
theorem laws_toEntryS_ev (l : List S120) (h : (l.length ≤ 1048576)) : Ev (fun k => laws_toEntryS.f k l) (l.map conv120) := by
  have hl : l.length ≤ 1048576 := h
  have key : ∀ i, i ≤ l.length → Ev (fun k => laws_toEntryS.l0 k l ((l.take i).map conv120 ++ List.replicate (l.length - i) z61) (i : Int)) (l.map conv120) := by
    refine Ev_down (L := fun i k => laws_toEntryS.l0 k l ((l.take i).map conv120 ++ List.replicate (l.length - i) z61) (i : Int)) l.length ?_ ?_
    · refine Ev_at 1 (fun k => ?_)
      simp only [laws_toEntryS.l0]
      rw [if_neg (by omega)]
      simp
    · intro i hi ih
      refine Ev.step (f := fun k => laws_toEntryS.l0 k l ((l.take (i+1)).map conv120 ++ List.replicate (l.length - (i+1)) z61) ((i+1 : Nat) : Int)) (fun k => ?_) ?_
      · simp only [laws_toEntryS.l0]
        rw [if_pos (by omega), if_pos (by omega)]
        simp only [laws_toEntry_eq, Option.bind_some]
        rw [if_pos (by simp; omega), wrap_up i (by omega)]
        congr 1
        exact set_fill l i hi z61 conv120 _ (by simp [rd_T120, conv120, List.getD_eq_getElem?_getD, hi])
      · exact ih
  have := key 0 (Nat.zero_le _)
  have hc : ((l.length : Int) : Int).toNat ≤ 11728124029610 := by omega
  unfold laws_toEntryS.f
  simp only [if_pos (Int.natCast_nonneg l.length), if_pos hc]
  simpa using this
theorem laws_eqEntryS_refl (l : List S61) (h : (l.length ≤ 1048576)) : Ev (fun k => laws_eqEntryS.f k l l) true := by
  have hl : l.length ≤ 1048576 := h
  have key : ∀ i, i ≤ l.length → Ev (fun k => laws_eqEntryS.l0 k l l (i : Int)) true := by
    refine Ev_down (L := fun i k => laws_eqEntryS.l0 k l l (i : Int)) l.length ?_ ?_
    · refine Ev_at 1 (fun k => ?_)
      simp only [laws_eqEntryS.l0]
      rw [if_neg (by omega)]
    · intro i hi ih
      refine Ev.step (f := fun k => laws_eqEntryS.l0 k l l ((i+1 : Nat) : Int)) (fun k => ?_) ih
      simp only [laws_eqEntryS.l0]
      rw [if_pos (by omega), if_pos (by omega), if_pos (by omega), laws_eqEntry_refl, Option.bind_some, if_pos rfl, wrap_up i (by omega)]
  have := key 0 (Nat.zero_le _)
  unfold laws_eqEntryS.f
  simp only [if_pos]
  exact this
theorem laws_szEntryS_some (l : List S120) (hb : l.length ≤ maxLen) (left : Int) (h0 : 0 ≤ left) (h1 : left ≤ 1048576) : ∃ r, laws_szEntryS.f l left = some r ∧ (0 ≤ r → r ≤ left ∧ l.length ≤ 1048576) := by
  have hm : maxLen = 9223372036854775807 := rfl
  have hw : wrap64 (left - (l.length : Int)) = left - (l.length : Int) := by unfold wrap64; omega
  unfold laws_szEntryS.f
  rw [hw]
  by_cases c : left - (l.length : Int) < 0
  · exact ⟨-1, by rw [if_pos c], fun h => by omega⟩
  · exact ⟨_, by rw [if_neg c], fun _ => by omega⟩
theorem laws_toIntS_ev (l : List Int) (h : (l.length ≤ 1048576)) : Ev (fun k => laws_toIntS.f k l) (l) := by
  have hl : l.length ≤ 1048576 := h
  have key : ∀ i, i ≤ l.length → Ev (fun k => laws_toIntS.l0 k l ((l.take i) ++ List.replicate (l.length - i) 0) (i : Int)) (l) := by
    refine Ev_down (L := fun i k => laws_toIntS.l0 k l ((l.take i) ++ List.replicate (l.length - i) 0) (i : Int)) l.length ?_ ?_
    · refine Ev_at 1 (fun k => ?_)
      simp only [laws_toIntS.l0]
      rw [if_neg (by omega)]
      simp
    · intro i hi ih
      refine Ev.step (f := fun k => laws_toIntS.l0 k l ((l.take (i+1)) ++ List.replicate (l.length - (i+1)) 0) ((i+1 : Nat) : Int)) (fun k => ?_) ?_
      · simp only [laws_toIntS.l0]
        rw [if_pos (by omega), if_pos (by omega)]
        rw [if_pos (by simp; omega), wrap_up i (by omega)]
        congr 1
        exact set_fill_id l i hi 0 _ (by simp [rd, List.getD_eq_getElem?_getD, hi])
      · exact ih
  have := key 0 (Nat.zero_le _)
  have hc : ((l.length : Int) : Int).toNat ≤ 35184372088832 := by omega
  unfold laws_toIntS.f
  simp only [if_pos (Int.natCast_nonneg l.length), if_pos hc]
  simpa using this
theorem laws_eqIntS_refl (l : List Int) (h : (l.length ≤ 1048576)) : Ev (fun k => laws_eqIntS.f k l l) true := by
  have hl : l.length ≤ 1048576 := h
  have key : ∀ i, i ≤ l.length → Ev (fun k => laws_eqIntS.l0 k l l (i : Int)) true := by
    refine Ev_down (L := fun i k => laws_eqIntS.l0 k l l (i : Int)) l.length ?_ ?_
    · refine Ev_at 1 (fun k => ?_)
      simp only [laws_eqIntS.l0]
      rw [if_neg (by omega)]
    · intro i hi ih
      refine Ev.step (f := fun k => laws_eqIntS.l0 k l l ((i+1 : Nat) : Int)) (fun k => ?_) ih
      simp only [laws_eqIntS.l0]
      rw [if_pos (by omega), if_pos (by omega), if_pos (by omega), if_pos trivial, wrap_up i (by omega)]
  have := key 0 (Nat.zero_le _)
  unfold laws_eqIntS.f
  simp only [if_pos]
  exact this
theorem laws_szIntS_some (l : List Int) (hb : l.length ≤ maxLen) (left : Int) (h0 : 0 ≤ left) (h1 : left ≤ 1048576) : ∃ r, laws_szIntS.f l left = some r ∧ (0 ≤ r → r ≤ left ∧ l.length ≤ 1048576) := by
  have hm : maxLen = 9223372036854775807 := rfl
  have hw : wrap64 (left - (l.length : Int)) = left - (l.length : Int) := by unfold wrap64; omega
  unfold laws_szIntS.f
  rw [hw]
  by_cases c : left - (l.length : Int) < 0
  · exact ⟨-1, by rw [if_pos c], fun h => by omega⟩
  · exact ⟨_, by rw [if_neg c], fun _ => by omega⟩
theorem laws_toRes_ev (a0 : Int) (l1 : List Int) (h1 : (l1.length ≤ 1048576)) : Ev (fun k => laws_toRes.f k a0 l1) (a0, l1) := by
  unfold laws_toRes.f
  try simp only [Option.bind_some]
  refine Ev.bind (laws_toIntS_ev l1 h1) ?_
  exact Ev.now _
theorem laws_eqRes_refl (a0 : Int) (l1 : List Int) (h1 : (l1.length ≤ 1048576)) : Ev (fun k => laws_eqRes.f k a0 l1 a0 l1) true := by
  unfold laws_eqRes.f
  try simp only [if_pos, Option.bind_some]
  refine Ev.bind (laws_eqIntS_refl l1 h1) ?_
  try simp only [if_true, if_pos, bne_self_eq_false, Bool.false_eq_true, if_false]
  exact Ev.now _
theorem laws_szRes_some (a0 : Int) (l1 : List Int) (b1 : l1.length ≤ maxLen) (left : Int) (h0 : 0 ≤ left) (h1 : left ≤ 1048576) : ∃ r, laws_szRes.f a0 l1 left = some r ∧ (0 ≤ r → r ≤ left ∧ (l1.length ≤ 1048576)) := by
  unfold laws_szRes.f
  obtain ⟨r0, e0, p0⟩ := laws_szIntS_some l1 b1 left (by omega) (by omega)
  simp only [e0, Option.bind_some]
  by_cases c0 : r0 < 0
  · exact ⟨-1, by simp [c0], fun h => by omega⟩
  simp only [if_neg c0]
  have q0 := p0 (by omega)
  refine ⟨_, rfl, fun _ => ⟨by omega, ?_⟩⟩
  simp_all
theorem laws_toDesc_ev (a0 : Int) (a1 : Int) (l2 : List S120) (a3 : Int) (l4 : List Int) (h2 : (l2.length ≤ 1048576)) (h4 : (l4.length ≤ 1048576)) : Ev (fun k => laws_toDesc.f k a0 a1 l2 a3 l4) (a0, a1, l2.map conv120, a3, l4) := by
  unfold laws_toDesc.f
  try simp only [Option.bind_some]
  refine Ev.bind (laws_toEntryS_ev l2 h2) ?_
  refine Ev.bind (laws_toRes_ev a3 l4 h4) ?_
  exact Ev.now _
theorem laws_eqDesc_refl (a0 : Int) (a1 : Int) (l2 : List S61) (a3 : Int) (l4 : List Int) (h2 : (l2.length ≤ 1048576)) (h4 : (l4.length ≤ 1048576)) : Ev (fun k => laws_eqDesc.f k a0 a1 l2 a3 l4 a0 a1 l2 a3 l4) true := by
  unfold laws_eqDesc.f
  try simp only [if_pos, Option.bind_some]
  refine Ev.bind (laws_eqEntryS_refl l2 h2) ?_
  try simp only [if_true, if_pos, bne_self_eq_false, Bool.false_eq_true, if_false]
  refine Ev.bind (laws_eqRes_refl a3 l4 h4) ?_
  try simp only [if_true, if_pos, bne_self_eq_false, Bool.false_eq_true, if_false]
  exact Ev.now _
theorem laws_szDesc_some (a0 : Int) (a1 : Int) (l2 : List S120) (a3 : Int) (l4 : List Int) (b2 : l2.length ≤ maxLen) (b4 : l4.length ≤ maxLen) (left : Int) (h0 : 0 ≤ left) (h1 : left ≤ 1048576) : ∃ r, laws_szDesc.f a0 a1 l2 a3 l4 left = some r ∧ (0 ≤ r → r ≤ left ∧ (l2.length ≤ 1048576) ∧ (l4.length ≤ 1048576)) := by
  unfold laws_szDesc.f
  obtain ⟨r0, e0, p0⟩ := laws_szEntryS_some l2 b2 left (by omega) (by omega)
  simp only [e0, Option.bind_some]
  by_cases c0 : r0 < 0
  · exact ⟨-1, by simp [c0], fun h => by omega⟩
  simp only [if_neg c0]
  have q0 := p0 (by omega)
  obtain ⟨r1, e1, p1⟩ := laws_szRes_some a3 l4 b4 r0 (by omega) (by omega)
  simp only [e1, Option.bind_some]
  by_cases c1 : r1 < 0
  · exact ⟨-1, by simp [c1], fun h => by omega⟩
  simp only [if_neg c1]
  have q1 := p1 (by omega)
  refine ⟨_, rfl, fun _ => ⟨by omega, ?_⟩⟩
  simp_all
def inR (x lo hi : Int) : Bool := decide (lo ≤ x) && decide (x ≤ hi)
def keyOk (k : Int) : Bool := inR k 0 3
def valOk (v : Int) : Bool := inR v 1 6
def isClass (c : Int) : Bool := inR c 0 2
def classOf (v : Int) : Int := if valOk v then Int.tmod v 3 else -1
theorem spec_l1In_eq (x lo hi : Int) : spec_l1In.f x lo hi = some (inR x lo hi) := by
  unfold spec_l1In.f inR
  by_cases h : lo ≤ x <;> simp [h]
theorem impl_from_eq (x lo hi : Int) : impl_from.f x lo hi = some (inR x lo hi) := by
  unfold impl_from.f inR
  by_cases h : lo ≤ x <;> simp [h]
theorem rdT_Entry (l : List S61) (i : Nat) (hi : i < l.length) : rd_T61 l (i : Int) = l[i] := by simp [rd_T61, List.getD_eq_getElem?_getD, hi]
def entF (v : Int) : List S61 → Int × Int × Int × Bool
  | [] => (0, 0, 0, false)
  | e :: es => if e.f0 = v then (e.f0, e.f1, e.f2, true) else entF v es
def entsOk (prev : Int) : List S61 → Bool
  | [] => true
  | e :: es => inR e.f0 0 19 && (inR e.f1 0 1000 && (inR e.f2 0 1000 && (decide (prev < e.f0) && entsOk e.f0 es)))
def descOk (sq st : Int) (l : List S61) (c : Int) (rl : List Int) : Bool :=
  if sq = 0 then decide (st = 0) && (decide (l.length = 0) && (decide (c = 0) && decide (rl.length = 0)))
  else inR sq 1 1000000 && (inR st 1 3 && (decide (l.length ≤ 20) && entsOk (-1) l))
def prevAt (l : List S61) (i : Nat) : Int := if h : 0 < i ∧ i ≤ l.length then (l[i - 1]'(by omega)).f0 else -1
theorem prevAt_succ (l : List S61) (i : Nat) (hi : i < l.length) : prevAt l (i + 1) = (l[i]).f0 := by
  unfold prevAt
  rw [dif_pos (by omega)]
  simp
theorem ent_prev {β : Type} (l : List S61) (i : Nat) (hi : i < l.length) (hl : l.length ≤ 1048576) (go no bad : β) (h0 : inR (l[i]).f0 0 19 = true) :
    (if (i : Int) > 0 then (if 0 ≤ wrap64 ((i : Int) - 1) then (if wrap64 ((i : Int) - 1) < (l.length : Int) then (if (rd_T61 l (wrap64 ((i : Int) - 1))).f0 ≥ (l[i]).f0 then no else go) else bad) else bad) else go) = if prevAt l i < (l[i]).f0 then go else no := by
  rcases Nat.eq_zero_or_pos i with h | h
  · subst h
    have hp : prevAt l 0 = -1 := by simp [prevAt]
    have h1 : 0 ≤ (l[0]).f0 := by simp [inR] at h0; omega
    rw [if_neg (by omega), hp, if_pos (by omega)]
  · obtain ⟨j, rfl⟩ : ∃ j, i = j + 1 := ⟨i - 1, by omega⟩
    have e : wrap64 (((j + 1 : Nat) : Int) - 1) = (j : Int) := by unfold wrap64; omega
    rw [if_pos (by omega), e, if_pos (by omega), if_pos (by omega), rdT_Entry l j (by omega), prevAt_succ l j (by omega)]
    by_cases hc : (l[j]).f0 < (l[j + 1]).f0
    · rw [if_neg (by omega), if_pos hc]
    · rw [if_pos (by omega), if_neg hc]
theorem entsOk_at (l : List S61) (i : Nat) (hi : i < l.length) : entsOk (prevAt l i) (l.drop i) = (inR (l[i]).f0 0 19 && (inR (l[i]).f1 0 1000 && (inR (l[i]).f2 0 1000 && (decide (prevAt l i < (l[i]).f0) && entsOk (prevAt l (i + 1)) (l.drop (i + 1)))))) := by
  rw [List.drop_eq_getElem_cons hi, prevAt_succ l i hi]; rfl
theorem Ev_ifB {g : Nat → Option Bool} (b : Bool) {r : Bool} (h : b = true → Ev g r) : Ev (fun k => if b = true then g k else some false) (b && r) := by
  cases b
  · exact Ev.now _
  · exact h rfl
theorem Ev_ifD {g : Nat → Option Bool} (p : Prop) [Decidable p] {r : Bool} (h : p → Ev g r) : Ev (fun k => if p then g k else some false) (decide p && r) := by
  by_cases hp : p
  · simp only [if_pos hp, decide_eq_true hp, Bool.true_and]; exact h hp
  · simp only [if_neg hp, decide_eq_false hp, Bool.false_and]; exact Ev.now _
theorem spec_DescOk_ev (sq st : Int) (l : List S61) (c : Int) (rl : List Int) (hl : l.length ≤ 1048576) : Ev (fun k => spec_DescOk.f k sq st l c rl) (descOk sq st l c rl) := by
  have key : ∀ i, i ≤ l.length → Ev (fun k => spec_DescOk.l0 k (i : Int) sq st l c rl) (entsOk (prevAt l i) (l.drop i)) := by
    refine Ev_downR (L := fun i k => spec_DescOk.l0 k (i : Int) sq st l c rl) (R := fun i => entsOk (prevAt l i) (l.drop i)) l.length ?_ ?_
    · refine Ev_at 1 (fun k => ?_)
      simp only [spec_DescOk.l0]
      rw [if_neg (by omega), List.drop_length]
      rfl
    · intro i hi ih
      refine Ev.step (f := fun k => if inR (l[i]).f0 0 19 = true then (if inR (l[i]).f1 0 1000 = true then (if inR (l[i]).f2 0 1000 = true then (if prevAt l i < (l[i]).f0 then spec_DescOk.l0 k ((i + 1 : Nat) : Int) sq st l c rl else some false) else some false) else some false) else some false) (fun k => ?_) ?_
      · simp only [spec_DescOk.l0, spec_l1In_eq, Option.bind_some]
        rw [if_pos (by omega), if_pos (by omega), rdT_Entry l i hi, wrap_up i (by omega)]
        cases h0 : inR (l[i]).f0 0 19
        · rfl
        · simp only [if_true]
          rw [ent_prev l i hi hl _ _ _ h0]
      · rw [entsOk_at l i hi]
        exact Ev_ifB _ fun _ => Ev_ifB _ fun _ => Ev_ifB _ fun _ => Ev_ifD _ fun _ => ih
  have k0 := key 0 (Nat.zero_le _)
  have hp : prevAt l 0 = -1 := by simp [prevAt]
  rw [hp, List.drop_zero] at k0
  unfold spec_DescOk.f descOk
  by_cases h : sq = 0
  · simp only [if_pos h]
    refine Ev_ifD _ fun _ => ?_
    by_cases h2 : l.length = 0
    · have h2' : (l.length : Int) = 0 := by omega
      simp only [if_pos h2', decide_eq_true h2, Bool.true_and]
      refine Ev_ifD _ fun _ => ?_
      have e : ((rl.length : Int) == 0) = decide (rl.length = 0) := by
        by_cases h3 : rl.length = 0 <;> simp [h3]
      rw [e]; exact Ev.now _
    · have h2' : ¬ (l.length : Int) = 0 := by omega
      simp only [if_neg h2', decide_eq_false h2, Bool.false_and]; exact Ev.now _
  · simp only [if_neg h, spec_l1In_eq, Option.bind_some]
    have hj : ∀ b : Bool, Ev (fun k => spec_DescOk.j0 k b sq st l c rl) (!b && entsOk (-1) l) := by
      intro b
      refine Ev.step (f := fun k => if b = true then some false else spec_DescOk.l0 k 0 sq st l c rl) (fun k => by simp only [spec_DescOk.j0]) ?_
      cases b
      · exact k0
      · exact Ev.now _
    cases h1 : inR sq 1 1000000
    · exact hj true
    · simp only [if_true]
      cases h2 : inR st 1 3
      · exact hj true
      · simp only [if_true, Bool.true_and]
        have e : decide (l.length ≤ 20) = !decide ((l.length : Int) > 20) := by
          by_cases h3 : l.length ≤ 20
          · have : ¬ (l.length : Int) > 20 := by omega
            simp [h3, this]
          · have : (l.length : Int) > 20 := by omega
            simp [h3, this]
        rw [e]
        exact hj _
theorem impl_DescOk_ev (sq st : Int) (l : List S61) (c : Int) (rl : List Int) (hl : l.length ≤ 1048576) : Ev (fun k => impl_DescOk.f k sq st l c rl) (descOk sq st l c rl) := by
  have key : ∀ i, i ≤ l.length → Ev (fun k => impl_DescOk.l0 k l (l.length : Int) (i : Int) sq st l c rl) (entsOk (prevAt l i) (l.drop i) && (inR sq 1 1000000 && (inR st 1 3 && decide (l.length ≤ 20)))) := by
    refine Ev_downR (L := fun i k => impl_DescOk.l0 k l (l.length : Int) (i : Int) sq st l c rl) (R := fun i => entsOk (prevAt l i) (l.drop i) && (inR sq 1 1000000 && (inR st 1 3 && decide (l.length ≤ 20)))) l.length ?_ ?_
    · refine Ev_at 1 (fun k => ?_)
      simp only [impl_DescOk.l0, impl_from_eq, Option.bind_some]
      rw [if_neg (by omega), List.drop_length]
      have e : decide ((l.length : Int) ≤ 20) = decide (l.length ≤ 20) := by
        by_cases h3 : l.length ≤ 20
        · have : (l.length : Int) ≤ 20 := by omega
          simp [h3, this]
        · have : ¬ (l.length : Int) ≤ 20 := by omega
          simp [h3, this]
      rw [e]
      cases inR sq 1 1000000 <;> cases inR st 1 3 <;> simp [entsOk]
    · intro i hi ih
      refine Ev.step (f := fun k => if inR (l[i]).f0 0 19 = true then (if inR (l[i]).f1 0 1000 = true then (if inR (l[i]).f2 0 1000 = true then (if prevAt l i < (l[i]).f0 then impl_DescOk.l0 k l (l.length : Int) ((i + 1 : Nat) : Int) sq st l c rl else some false) else some false) else some false) else some false) (fun k => ?_) ?_
      · simp only [impl_DescOk.l0, impl_isPlace.f, impl_isWordNum.f, impl_from_eq, Option.bind_some]
        rw [if_pos (by omega), if_pos (by omega), if_pos (by omega), rdT_Entry l i hi, wrap_up i (by omega)]
        cases h0 : inR (l[i]).f0 0 19
        · rfl
        · simp only [if_true]
          rw [ent_prev l i hi hl _ _ _ h0]
      · rw [entsOk_at l i hi, Bool.and_assoc, Bool.and_assoc, Bool.and_assoc, Bool.and_assoc]
        exact Ev_ifB _ fun _ => Ev_ifB _ fun _ => Ev_ifB _ fun _ => Ev_ifD _ fun _ => ih
  have k0 := key 0 (Nat.zero_le _)
  have hp : prevAt l 0 = -1 := by simp [prevAt]
  rw [hp, List.drop_zero] at k0
  unfold impl_DescOk.f descOk
  by_cases h : sq = 0
  · simp only [if_pos h]
    refine Ev_ifD _ fun _ => ?_
    by_cases h2 : l.length = 0
    · have h2' : (l.length : Int) = 0 := by omega
      simp only [if_pos h2', decide_eq_true h2, Bool.true_and]
      refine Ev_ifD _ fun _ => ?_
      have e : ((rl.length : Int) == 0) = decide (rl.length = 0) := by
        by_cases h3 : rl.length = 0 <;> simp [h3]
      rw [e]; exact Ev.now _
    · have h2' : ¬ (l.length : Int) = 0 := by omega
      simp only [if_neg h2', decide_eq_false h2, Bool.false_and]; exact Ev.now _
  · simp only [if_neg h]
    have e : (entsOk (-1) l && (inR sq 1 1000000 && (inR st 1 3 && decide (l.length ≤ 20)))) = (inR sq 1 1000000 && (inR st 1 3 && (decide (l.length ≤ 20) && entsOk (-1) l))) := by
      cases entsOk (-1) l <;> cases inR sq 1 1000000 <;> cases inR st 1 3 <;> cases decide (l.length ≤ 20) <;> rfl
    rw [← e]
    exact k0

theorem FnExactDescOk (a0_0 : Int) (a0_1 : Int) (l0_2 : List S120) (a0_3 : Int) (l0_4 : List Int) (ga0_0 : (fun n : Int => (Lit.int .i64 n).wf = true) a0_0) (ga0_1 : (fun n : Int => (Lit.int .i64 n).wf = true) a0_1) (gl0_2 : (fun l : List S120 => l.length ≤ maxLen ∧ ∀ x ∈ l, good120 x) l0_2) (ga0_3 : (fun n : Int => (Lit.int .i64 n).wf = true) a0_3) (gl0_4 : (fun l : List Int => l.length ≤ maxLen ∧ ∀ x ∈ l, (fun n : Int => (Lit.int .i64 n).wf = true) x) l0_4) : ∃ k, laws_FnExactDescOk.f k a0_0 a0_1 l0_2 a0_3 l0_4 = some true := by
  refine Ev.rounds (r := true) ?_
  unfold laws_FnExactDescOk.f
  obtain ⟨r, er, pr⟩ := laws_szDesc_some a0_0 a0_1 l0_2 a0_3 l0_4 gl0_2.1 gl0_4.1 1048576 (by omega) (by omega)
  simp only [er, Option.bind_some]
  by_cases c : r < 0
  · simp only [if_pos c]; exact Ev.now _
  simp only [if_neg c]
  obtain ⟨hr, hl2, hl4⟩ := pr (by omega)
  have hl2' : (l0_2.map conv120).length ≤ 1048576 := by simpa using hl2
  refine Ev.bind (laws_toDesc_ev a0_0 a0_1 l0_2 a0_3 l0_4 hl2 hl4) ?_
  refine Ev.bind (spec_DescOk_ev _ _ _ _ _ hl2') ?_
  refine Ev.bind (laws_toDesc_ev a0_0 a0_1 l0_2 a0_3 l0_4 hl2 hl4) ?_
  refine Ev.bind (impl_DescOk_ev _ _ _ _ _ hl2') ?_
  simp only [bne_self_eq_false, Bool.false_eq_true, if_false]
  refine Ev.bind (laws_toDesc_ev a0_0 a0_1 l0_2 a0_3 l0_4 hl2 hl4) ?_
  refine Ev.bind (laws_eqDesc_refl _ _ _ _ _ hl2' hl4) ?_
  exact Ev.now _

end Go.Proofs.Ytcjkkcjnlcehnaa.Pure
