/- The pure statement behind the law FnExactEntries: over plain values. No condition beyond that numbers are of their kind and lengths below 2^63. -/
import Derived.Test.YtcjkkcjnlcehnaaOpnFnExactEntries
namespace Go.Proofs.Ytcjkkcjnlcehnaa.Pure
open Go.RowKit Go.Proofs.Ytcjkkcjnlcehnaa.Op Go.Proofs.YtcjkkcjnlcehnaaW.PrintWords Go.Proofs.YtcjkkcjnlcehnaaW.PrintLast Go.Proofs.Ytcjkkcjnlcehnaa.PFnExactEntries Go.Proofs.Ytcjkkcjnlcehnaa.fnExactEntries

-- PACKS
set_option linter.unusedVariables false
set_option linter.unusedSimpArgs false
theorem Ev_at {α : Type} {g : Nat → Option α} {r : α} (n : Nat) (h : ∀ k, g (k + n) = some r) : Ev g r := ⟨n, fun k hk => by
  obtain ⟨m, rfl⟩ : ∃ m, k = m + n := ⟨k - n, by omega⟩
  exact h m⟩
theorem Ev_down {α : Type} {L : Nat → Nat → Option α} {r : α} (n : Nat) (hn : Ev (L n) r) (hs : ∀ i, i < n → Ev (L (i + 1)) r → Ev (L i) r) : ∀ i, i ≤ n → Ev (L i) r := by
  have key : ∀ d i, i + d = n → Ev (L i) r := by
    intro d
    induction d with
    | zero => intro i h; obtain rfl : i = n := by omega
              exact hn
    | succ d ih => intro i h; exact hs i (by omega) (ih (i + 1) (by omega))
  exact fun i h => key (n - i) i (by omega)
theorem wrap_up (i : Nat) (h : i < 9223372036854775807) : wrap64 ((i : Int) + 1) = ((i + 1 : Nat) : Int) := by unfold wrap64; omega
theorem set_fill {α β : Type} (l : List α) (i : Nat) (hi : i < l.length) (z : β) (f : α → β) (v : β) (hv : v = f (l[i]'hi)) :
    ((l.take i).map f ++ List.replicate (l.length - i) z).set (i : Int).toNat v = (l.take (i + 1)).map f ++ List.replicate (l.length - (i + 1)) z := by
  subst hv
  have h1 : ((l.take i).map f).length = i := by simp; omega
  rw [Int.toNat_natCast, List.set_append, if_neg (by omega), h1, Nat.sub_self]
  obtain ⟨m, hm⟩ : ∃ m, l.length - i = m + 1 := ⟨l.length - i - 1, by omega⟩
  rw [hm, List.replicate_succ, List.set_cons_zero, show l.length - (i + 1) = m by omega, List.take_succ_eq_append_getElem hi, List.map_append, List.append_assoc]
  rfl
theorem set_fill_id {α : Type} (l : List α) (i : Nat) (hi : i < l.length) (z : α) (v : α) (hv : v = l[i]'hi) :
    (l.take i ++ List.replicate (l.length - i) z).set (i : Int).toNat v = l.take (i + 1) ++ List.replicate (l.length - (i + 1)) z := by
  have := set_fill l i hi z id v hv
  simpa using this
theorem Ev_downR {α : Type} {L : Nat → Nat → Option α} {R : Nat → α} (n : Nat) (hn : Ev (L n) (R n)) (hs : ∀ i, i < n → Ev (L (i + 1)) (R (i + 1)) → Ev (L i) (R i)) : ∀ i, i ≤ n → Ev (L i) (R i) := by
  have key : ∀ d i, i + d = n → Ev (L i) (R i) := by
    intro d
    induction d with
    | zero => intro i h; obtain rfl : i = n := by omega
              exact hn
    | succ d ih => intro i h; exact hs i (by omega) (ih (i + 1) (by omega))
  exact fun i h => key (n - i) i (by omega)
theorem rd_at (l : List Int) (i : Nat) (hi : i < l.length) : rd l (i : Int) = l[i] := by simp [rd, List.getD_eq_getElem?_getD, hi]
def conv120 (x : S120) : S61 := ⟨x.f0, x.f1, x.f2⟩
theorem laws_toEntry_eq (a0 : Int) (a1 : Int) (a2 : Int) : laws_toEntry.f a0 a1 a2 = some (a0, a1, a2) := rfl
theorem laws_eqEntry_refl (a0 : Int) (a1 : Int) (a2 : Int) : laws_eqEntry.f a0 a1 a2 a0 a1 a2 = some true := by simp [laws_eqEntry.f]
theorem laws_toEntryS_ev (l : List S120) (h : (l.length ≤ 1048576)) : Ev (fun k => laws_toEntryS.f k l) (l.map conv120) := by
  have hl : l.length ≤ 1048576 := h
  have key : ∀ i, i ≤ l.length → Ev (fun k => laws_toEntryS.l0 k l ((l.take i).map conv120 ++ List.replicate (l.length - i) z61) (i : Int)) (l.map conv120) := by
    refine Ev_down (L := fun i k => laws_toEntryS.l0 k l ((l.take i).map conv120 ++ List.replicate (l.length - i) z61) (i : Int)) l.length ?_ ?_
    · refine Ev_at 1 (fun k => ?_)
      simp only [laws_toEntryS.l0]
      rw [if_neg (by omega)]
      simp
    · intro i hi ih
      refine Ev.step (f := fun k => laws_toEntryS.l0 k l ((l.take (i+1)).map conv120 ++ List.replicate (l.length - (i+1)) z61) ((i+1 : Nat) : Int)) (fun k => ?_) ?_
      · simp only [laws_toEntryS.l0]
        rw [if_pos (by omega), if_pos (by omega)]
        simp only [laws_toEntry_eq, Option.bind_some]
        rw [if_pos (by simp; omega), wrap_up i (by omega)]
        congr 1
        exact set_fill l i hi z61 conv120 _ (by simp [rd_T120, conv120, List.getD_eq_getElem?_getD, hi])
      · exact ih
  have := key 0 (Nat.zero_le _)
  have hc : ((l.length : Int) : Int).toNat ≤ 11728124029610 := by omega
  unfold laws_toEntryS.f
  simp only [if_pos (Int.natCast_nonneg l.length), if_pos hc]
  simpa using this
theorem laws_eqEntryS_refl (l : List S61) (h : (l.length ≤ 1048576)) : Ev (fun k => laws_eqEntryS.f k l l) true := by
  have hl : l.length ≤ 1048576 := h
  have key : ∀ i, i ≤ l.length → Ev (fun k => laws_eqEntryS.l0 k l l (i : Int)) true := by
    refine Ev_down (L := fun i k => laws_eqEntryS.l0 k l l (i : Int)) l.length ?_ ?_
    · refine Ev_at 1 (fun k => ?_)
      simp only [laws_eqEntryS.l0]
      rw [if_neg (by omega)]
    · intro i hi ih
      refine Ev.step (f := fun k => laws_eqEntryS.l0 k l l ((i+1 : Nat) : Int)) (fun k => ?_) ih
      simp only [laws_eqEntryS.l0]
      rw [if_pos (by omega), if_pos (by omega), if_pos (by omega), laws_eqEntry_refl, Option.bind_some, if_pos rfl, wrap_up i (by omega)]
  have := key 0 (Nat.zero_le _)
  unfold laws_eqEntryS.f
  simp only [if_pos]
  exact this
theorem laws_szEntryS_some (l : List S120) (hb : l.length ≤ maxLen) (left : Int) (h0 : 0 ≤ left) (h1 : left ≤ 1048576) : ∃ r, laws_szEntryS.f l left = some r ∧ (0 ≤ r → r ≤ left ∧ l.length ≤ 1048576) := by
  have hm : maxLen = 9223372036854775807 := rfl
  have hw : wrap64 (left - (l.length : Int)) = left - (l.length : Int) := by unfold wrap64; omega
  unfold laws_szEntryS.f
  rw [hw]
  by_cases c : left - (l.length : Int) < 0
  · exact ⟨-1, by rw [if_pos c], fun h => by omega⟩
  · exact ⟨_, by rw [if_neg c], fun _ => by omega⟩
theorem laws_toIntS_ev (l : List Int) (h : (l.length ≤ 1048576)) : Ev (fun k => laws_toIntS.f k l) (l) := by
  have hl : l.length ≤ 1048576 := h
  have key : ∀ i, i ≤ l.length → Ev (fun k => laws_toIntS.l0 k l ((l.take i) ++ List.replicate (l.length - i) 0) (i : Int)) (l) := by
    refine Ev_down (L := fun i k => laws_toIntS.l0 k l ((l.take i) ++ List.replicate (l.length - i) 0) (i : Int)) l.length ?_ ?_
    · refine Ev_at 1 (fun k => ?_)
      simp only [laws_toIntS.l0]
      rw [if_neg (by omega)]
      simp
    · intro i hi ih
      refine Ev.step (f := fun k => laws_toIntS.l0 k l ((l.take (i+1)) ++ List.replicate (l.length - (i+1)) 0) ((i+1 : Nat) : Int)) (fun k => ?_) ?_
      · simp only [laws_toIntS.l0]
        rw [if_pos (by omega), if_pos (by omega)]
        rw [if_pos (by simp; omega), wrap_up i (by omega)]
        congr 1
        exact set_fill_id l i hi 0 _ (by simp [rd, List.getD_eq_getElem?_getD, hi])
      · exact ih
  have := key 0 (Nat.zero_le _)
  have hc : ((l.length : Int) : Int).toNat ≤ 35184372088832 := by omega
  unfold laws_toIntS.f
  simp only [if_pos (Int.natCast_nonneg l.length), if_pos hc]
  simpa using this
theorem laws_eqIntS_refl (l : List Int) (h : (l.length ≤ 1048576)) : Ev (fun k => laws_eqIntS.f k l l) true := by
  have hl : l.length ≤ 1048576 := h
  have key : ∀ i, i ≤ l.length → Ev (fun k => laws_eqIntS.l0 k l l (i : Int)) true := by
    refine Ev_down (L := fun i k => laws_eqIntS.l0 k l l (i : Int)) l.length ?_ ?_
    · refine Ev_at 1 (fun k => ?_)
      simp only [laws_eqIntS.l0]
      rw [if_neg (by omega)]
    · intro i hi ih
      refine Ev.step (f := fun k => laws_eqIntS.l0 k l l ((i+1 : Nat) : Int)) (fun k => ?_) ih
      simp only [laws_eqIntS.l0]
      rw [if_pos (by omega), if_pos (by omega), if_pos (by omega), if_pos trivial, wrap_up i (by omega)]
  have := key 0 (Nat.zero_le _)
  unfold laws_eqIntS.f
  simp only [if_pos]
  exact this
theorem laws_szIntS_some (l : List Int) (hb : l.length ≤ maxLen) (left : Int) (h0 : 0 ≤ left) (h1 : left ≤ 1048576) : ∃ r, laws_szIntS.f l left = some r ∧ (0 ≤ r → r ≤ left ∧ l.length ≤ 1048576) := by
  have hm : maxLen = 9223372036854775807 := rfl
  have hw : wrap64 (left - (l.length : Int)) = left - (l.length : Int) := by unfold wrap64; omega
  unfold laws_szIntS.f
  rw [hw]
  by_cases c : left - (l.length : Int) < 0
  · exact ⟨-1, by rw [if_pos c], fun h => by omega⟩
  · exact ⟨_, by rw [if_neg c], fun _ => by omega⟩
theorem laws_toRes_ev (a0 : Int) (l1 : List Int) (h1 : (l1.length ≤ 1048576)) : Ev (fun k => laws_toRes.f k a0 l1) (a0, l1) := by
  unfold laws_toRes.f
  try simp only [Option.bind_some]
  refine Ev.bind (laws_toIntS_ev l1 h1) ?_
  exact Ev.now _
theorem laws_eqRes_refl (a0 : Int) (l1 : List Int) (h1 : (l1.length ≤ 1048576)) : Ev (fun k => laws_eqRes.f k a0 l1 a0 l1) true := by
  unfold laws_eqRes.f
  try simp only [if_pos, Option.bind_some]
  refine Ev.bind (laws_eqIntS_refl l1 h1) ?_
  try simp only [if_true, if_pos, bne_self_eq_false, Bool.false_eq_true, if_false]
  exact Ev.now _
theorem laws_szRes_some (a0 : Int) (l1 : List Int) (b1 : l1.length ≤ maxLen) (left : Int) (h0 : 0 ≤ left) (h1 : left ≤ 1048576) : ∃ r, laws_szRes.f a0 l1 left = some r ∧ (0 ≤ r → r ≤ left ∧ (l1.length ≤ 1048576)) := by
  unfold laws_szRes.f
  obtain ⟨r0, e0, p0⟩ := laws_szIntS_some l1 b1 left (by omega) (by omega)
  simp only [e0, Option.bind_some]
  by_cases c0 : r0 < 0
  · exact ⟨-1, by simp [c0], fun h => by omega⟩
  simp only [if_neg c0]
  have q0 := p0 (by omega)
  refine ⟨_, rfl, fun _ => ⟨by omega, ?_⟩⟩
  simp_all
theorem laws_toDesc_ev (a0 : Int) (a1 : Int) (l2 : List S120) (a3 : Int) (l4 : List Int) (h2 : (l2.length ≤ 1048576)) (h4 : (l4.length ≤ 1048576)) : Ev (fun k => laws_toDesc.f k a0 a1 l2 a3 l4) (a0, a1, l2.map conv120, a3, l4) := by
  unfold laws_toDesc.f
  try simp only [Option.bind_some]
  refine Ev.bind (laws_toEntryS_ev l2 h2) ?_
  refine Ev.bind (laws_toRes_ev a3 l4 h4) ?_
  exact Ev.now _
theorem laws_eqDesc_refl (a0 : Int) (a1 : Int) (l2 : List S61) (a3 : Int) (l4 : List Int) (h2 : (l2.length ≤ 1048576)) (h4 : (l4.length ≤ 1048576)) : Ev (fun k => laws_eqDesc.f k a0 a1 l2 a3 l4 a0 a1 l2 a3 l4) true := by
  unfold laws_eqDesc.f
  try simp only [if_pos, Option.bind_some]
  refine Ev.bind (laws_eqEntryS_refl l2 h2) ?_
  try simp only [if_true, if_pos, bne_self_eq_false, Bool.false_eq_true, if_false]
  refine Ev.bind (laws_eqRes_refl a3 l4 h4) ?_
  try simp only [if_true, if_pos, bne_self_eq_false, Bool.false_eq_true, if_false]
  exact Ev.now _
theorem laws_szDesc_some (a0 : Int) (a1 : Int) (l2 : List S120) (a3 : Int) (l4 : List Int) (b2 : l2.length ≤ maxLen) (b4 : l4.length ≤ maxLen) (left : Int) (h0 : 0 ≤ left) (h1 : left ≤ 1048576) : ∃ r, laws_szDesc.f a0 a1 l2 a3 l4 left = some r ∧ (0 ≤ r → r ≤ left ∧ (l2.length ≤ 1048576) ∧ (l4.length ≤ 1048576)) := by
  unfold laws_szDesc.f
  obtain ⟨r0, e0, p0⟩ := laws_szEntryS_some l2 b2 left (by omega) (by omega)
  simp only [e0, Option.bind_some]
  by_cases c0 : r0 < 0
  · exact ⟨-1, by simp [c0], fun h => by omega⟩
  simp only [if_neg c0]
  have q0 := p0 (by omega)
  obtain ⟨r1, e1, p1⟩ := laws_szRes_some a3 l4 b4 r0 (by omega) (by omega)
  simp only [e1, Option.bind_some]
  by_cases c1 : r1 < 0
  · exact ⟨-1, by simp [c1], fun h => by omega⟩
  simp only [if_neg c1]
  have q1 := p1 (by omega)
  refine ⟨_, rfl, fun _ => ⟨by omega, ?_⟩⟩
  simp_all
theorem rdT_Entry (l : List S61) (i : Nat) (hi : i < l.length) : rd_T61 l (i : Int) = l[i] := by simp [rd_T61, List.getD_eq_getElem?_getD, hi]
def entF (v : Int) : List S61 → Int × Int × Int × Bool
  | [] => (0, 0, 0, false)
  | e :: es => if e.f0 = v then (e.f0, e.f1, e.f2, true) else entF v es
theorem spec_Entries_ev (sq st : Int) (l : List S61) (c : Int) (rl : List Int) (v : Int) (hl : l.length ≤ 1048576) : Ev (fun k => spec_Entries.f k sq st l c rl v) (entF v l) := by
  have key : ∀ i, i ≤ l.length → Ev (fun k => spec_Entries.l0 k v (i : Int) sq st l c rl) (entF v (l.drop i)) := by
    refine Ev_downR (L := fun i k => spec_Entries.l0 k v (i : Int) sq st l c rl) (R := fun i => entF v (l.drop i)) l.length ?_ ?_
    · refine Ev_at 1 (fun k => ?_)
      simp only [spec_Entries.l0]
      rw [if_neg (by omega), List.drop_length]
      rfl
    · intro i hi ih
      refine Ev.step (f := fun k => if (l[i]).f0 = v then some ((l[i]).f0, (l[i]).f1, (l[i]).f2, true) else spec_Entries.l0 k v ((i + 1 : Nat) : Int) sq st l c rl) (fun k => ?_) ?_
      · simp only [spec_Entries.l0]
        rw [if_pos (by omega), if_pos (by omega), rdT_Entry l i hi, wrap_up i (by omega)]
      · rw [List.drop_eq_getElem_cons hi]
        by_cases h : (l[i]).f0 = v
        · simp only [if_pos h, entF]; exact Ev.now _
        · simp only [if_neg h, entF]; exact ih
  exact key 0 (Nat.zero_le _)
theorem impl_Entries_ev (sq st : Int) (l : List S61) (c : Int) (rl : List Int) (v : Int) (hl : l.length ≤ 1048576) : Ev (fun k => impl_Entries.f k sq st l c rl v) (entF v l) := by
  have key : ∀ i, i ≤ l.length → Ev (fun k => impl_Entries.l0 k v l (l.length : Int) (i : Int)) (entF v (l.drop i)) := by
    refine Ev_downR (L := fun i k => impl_Entries.l0 k v l (l.length : Int) (i : Int)) (R := fun i => entF v (l.drop i)) l.length ?_ ?_
    · refine Ev_at 1 (fun k => ?_)
      simp only [impl_Entries.l0]
      rw [if_neg (by omega), List.drop_length]
      rfl
    · intro i hi ih
      refine Ev.step (f := fun k => if (l[i]).f0 = v then some ((l[i]).f0, (l[i]).f1, (l[i]).f2, true) else impl_Entries.l0 k v l (l.length : Int) ((i + 1 : Nat) : Int)) (fun k => ?_) ?_
      · simp only [impl_Entries.l0]
        rw [if_pos (by omega), if_pos (by omega), if_pos (by omega), rdT_Entry l i hi, wrap_up i (by omega)]
      · rw [List.drop_eq_getElem_cons hi]
        by_cases h : (l[i]).f0 = v
        · simp only [if_pos h, entF]; exact Ev.now _
        · simp only [if_neg h, entF]; exact ih
  exact key 0 (Nat.zero_le _)

theorem FnExactEntries (a0_0 : Int) (a0_1 : Int) (l0_2 : List S120) (a0_3 : Int) (l0_4 : List Int) (a1 : Int) (ga0_0 : (fun n : Int => (Lit.int .i64 n).wf = true) a0_0) (ga0_1 : (fun n : Int => (Lit.int .i64 n).wf = true) a0_1) (gl0_2 : (fun l : List S120 => l.length ≤ maxLen ∧ ∀ x ∈ l, good120 x) l0_2) (ga0_3 : (fun n : Int => (Lit.int .i64 n).wf = true) a0_3) (gl0_4 : (fun l : List Int => l.length ≤ maxLen ∧ ∀ x ∈ l, (fun n : Int => (Lit.int .i64 n).wf = true) x) l0_4) (ga1 : (fun n : Int => (Lit.int .i64 n).wf = true) a1) : ∃ k, laws_FnExactEntries.f k a0_0 a0_1 l0_2 a0_3 l0_4 a1 = some true := by
  refine Ev.rounds (r := true) ?_
  unfold laws_FnExactEntries.f
  obtain ⟨r, er, pr⟩ := laws_szDesc_some a0_0 a0_1 l0_2 a0_3 l0_4 gl0_2.1 gl0_4.1 1048576 (by omega) (by omega)
  simp only [er, Option.bind_some]
  by_cases c : r < 0
  · simp only [if_pos c]; exact Ev.now _
  simp only [if_neg c]
  obtain ⟨hr, hl2, hl4⟩ := pr (by omega)
  have hl2' : (l0_2.map conv120).length ≤ 1048576 := by simpa using hl2
  refine Ev.bind (laws_toDesc_ev a0_0 a0_1 l0_2 a0_3 l0_4 hl2 hl4) ?_
  refine Ev.bind (spec_Entries_ev _ _ _ _ _ a1 hl2') ?_
  refine Ev.bind (laws_toDesc_ev a0_0 a0_1 l0_2 a0_3 l0_4 hl2 hl4) ?_
  refine Ev.bind (impl_Entries_ev _ _ _ _ _ a1 hl2') ?_
  simp only [laws_eqEntry_refl, Option.bind_some, if_true, bne_self_eq_false]
  refine Ev.step (f := fun k => (laws_toDesc.f k a0_0 a0_1 l0_2 a0_3 l0_4).bind fun bt192 => ((laws_eqDesc.f k a0_0 a0_1 (l0_2.map conv120) a0_3 l0_4 bt192.1 bt192.2.1 bt192.2.2.1 bt192.2.2.2.1 bt192.2.2.2.2).bind fun t201 => (if t201 = true then (some true) else (some false)))) (fun k => ?_) ?_
  · simp only [laws_FnExactEntries.j0]
    rw [if_neg (by simp)]
  refine Ev.bind (laws_toDesc_ev a0_0 a0_1 l0_2 a0_3 l0_4 hl2 hl4) ?_
  refine Ev.bind (laws_eqDesc_refl _ _ _ _ _ hl2' hl4) ?_
  exact Ev.now _

end Go.Proofs.Ytcjkkcjnlcehnaa.Pure
