/- The pure statement behind the law FnExactSwap: over plain values. No condition beyond that numbers are of their kind and lengths below 2^63. -/
import Derived.Test.YtblpbhhomocfbaaOpnFnExactSwap
namespace Go.Proofs.Ytblpbhhomocfbaa.Pure
open Go.RowKit Go.Proofs.Ytblpbhhomocfbaa.Op Go.Proofs.YtblpbhhomocfbaaW.PrintWords Go.Proofs.YtblpbhhomocfbaaW.PrintLast Go.Proofs.Ytblpbhhomocfbaa.PFnExactSwap Go.Proofs.Ytblpbhhomocfbaa.fnExactSwap

-- PACKS
set_option linter.unusedVariables false
set_option linter.unusedSimpArgs false
theorem Ev_at {α : Type} {g : Nat → Option α} {r : α} (n : Nat) (h : ∀ k, g (k + n) = some r) : Ev g r := ⟨n, fun k hk => by
  obtain ⟨m, rfl⟩ : ∃ m, k = m + n := ⟨k - n, by omega⟩
  exact h m⟩
theorem Ev_down {α : Type} {L : Nat → Nat → Option α} {r : α} (n : Nat) (hn : Ev (L n) r) (hs : ∀ i, i < n → Ev (L (i + 1)) r → Ev (L i) r) : ∀ i, i ≤ n → Ev (L i) r := by
  have key : ∀ d i, i + d = n → Ev (L i) r := by
    intro d
    induction d with
    | zero => intro i h; obtain rfl : i = n := by omega
              exact hn
    | succ d ih => intro i h; exact hs i (by omega) (ih (i + 1) (by omega))
  exact fun i h => key (n - i) i (by omega)
theorem wrap_up (i : Nat) (h : i < 9223372036854775807) : wrap64 ((i : Int) + 1) = ((i + 1 : Nat) : Int) := by unfold wrap64; omega
theorem set_fill {α β : Type} (l : List α) (i : Nat) (hi : i < l.length) (z : β) (f : α → β) (v : β) (hv : v = f (l[i]'hi)) :
    ((l.take i).map f ++ List.replicate (l.length - i) z).set (i : Int).toNat v = (l.take (i + 1)).map f ++ List.replicate (l.length - (i + 1)) z := by
  subst hv
  have h1 : ((l.take i).map f).length = i := by simp; omega
  rw [Int.toNat_natCast, List.set_append, if_neg (by omega), h1, Nat.sub_self]
  obtain ⟨m, hm⟩ : ∃ m, l.length - i = m + 1 := ⟨l.length - i - 1, by omega⟩
  rw [hm, List.replicate_succ, List.set_cons_zero, show l.length - (i + 1) = m by omega, List.take_succ_eq_append_getElem hi, List.map_append, List.append_assoc]
  rfl
theorem set_fill_id {α : Type} (l : List α) (i : Nat) (hi : i < l.length) (z : α) (v : α) (hv : v = l[i]'hi) :
    (l.take i ++ List.replicate (l.length - i) z).set (i : Int).toNat v = l.take (i + 1) ++ List.replicate (l.length - (i + 1)) z := by
  have := set_fill l i hi z id v hv
  simpa using this
theorem Ev_downR {α : Type} {L : Nat → Nat → Option α} {R : Nat → α} (n : Nat) (hn : Ev (L n) (R n)) (hs : ∀ i, i < n → Ev (L (i + 1)) (R (i + 1)) → Ev (L i) (R i)) : ∀ i, i ≤ n → Ev (L i) (R i) := by
  have key : ∀ d i, i + d = n → Ev (L i) (R i) := by
    intro d
    induction d with
    | zero => intro i h; obtain rfl : i = n := by omega
              exact hn
    | succ d ih => intro i h; exact hs i (by omega) (ih (i + 1) (by omega))
  exact fun i h => key (n - i) i (by omega)
theorem rd_at (l : List Int) (i : Nat) (hi : i < l.length) : rd l (i : Int) = l[i] := by simp [rd, List.getD_eq_getElem?_getD, hi]
theorem mark_fill {α : Type} (g : Nat → α) (l : List α) (i : Nat) (hi : i < l.length) : ((List.range i).map g ++ l.drop i).set i (g i) = (List.range (i + 1)).map g ++ l.drop (i + 1) := by
  rw [List.set_append, if_neg (by simp), List.length_map, List.length_range, Nat.sub_self, List.drop_eq_getElem_cons hi, List.set_cons_zero, List.range_succ, List.map_append, List.append_assoc]
  rfl
theorem Ev_pos {α : Type} {x : Int} {g : Nat → Option α} {r : α} (h : 0 ≤ x) : Ev (fun k => if x < 0 then none else g k) r = Ev g r := by
  have h' : ¬ x < 0 := by omega
  simp only [if_neg h']
def inR (x lo hi : Int) : Bool := decide (lo ≤ x) && decide (x ≤ hi)
def keyOk (k : Int) : Bool := inR k 0 3
def valOk (v : Int) : Bool := inR v 1 6
def isClass (c : Int) : Bool := inR c 0 2
def classOf (v : Int) : Int := if valOk v then Int.tmod v 3 else -1
def conv80 (x : S80) : S88 := ⟨x.f0, x.f1, x.f2⟩
theorem laws_toOp_eq (a0 : Int) (a1 : Int) (a2 : Int) : laws_toOp.f a0 a1 a2 = some (a0, a1, a2) := rfl
theorem laws_eqOp_refl (a0 : Int) (a1 : Int) (a2 : Int) : laws_eqOp.f a0 a1 a2 a0 a1 a2 = some true := by simp [laws_eqOp.f]
theorem laws_toOpS_ev (l : List S80) (h : (l.length ≤ 1048576)) : Ev (fun k => laws_toOpS.f k l) (l.map conv80) := by
  have hl : l.length ≤ 1048576 := h
  have key : ∀ i, i ≤ l.length → Ev (fun k => laws_toOpS.l0 k l ((l.take i).map conv80 ++ List.replicate (l.length - i) z88) (i : Int)) (l.map conv80) := by
    refine Ev_down (L := fun i k => laws_toOpS.l0 k l ((l.take i).map conv80 ++ List.replicate (l.length - i) z88) (i : Int)) l.length ?_ ?_
    · refine Ev_at 1 (fun k => ?_)
      simp only [laws_toOpS.l0]
      rw [if_neg (by omega)]
      simp
    · intro i hi ih
      refine Ev.step (f := fun k => laws_toOpS.l0 k l ((l.take (i+1)).map conv80 ++ List.replicate (l.length - (i+1)) z88) ((i+1 : Nat) : Int)) (fun k => ?_) ?_
      · simp only [laws_toOpS.l0]
        rw [if_pos (by omega), if_pos (by omega)]
        simp only [laws_toOp_eq, Option.bind_some]
        rw [if_pos (by simp; omega), wrap_up i (by omega)]
        congr 1
        exact set_fill l i hi z88 conv80 _ (by simp [rd_T80, conv80, List.getD_eq_getElem?_getD, hi])
      · exact ih
  have := key 0 (Nat.zero_le _)
  have hc : ((l.length : Int) : Int).toNat ≤ 11728124029610 := by omega
  unfold laws_toOpS.f
  simp only [if_pos (Int.natCast_nonneg l.length), if_pos hc]
  simpa using this
theorem laws_eqOpS_refl (l : List S88) (h : (l.length ≤ 2097152)) : Ev (fun k => laws_eqOpS.f k l l) true := by
  have hl : l.length ≤ 2097152 := h
  have key : ∀ i, i ≤ l.length → Ev (fun k => laws_eqOpS.l0 k l l (i : Int)) true := by
    refine Ev_down (L := fun i k => laws_eqOpS.l0 k l l (i : Int)) l.length ?_ ?_
    · refine Ev_at 1 (fun k => ?_)
      simp only [laws_eqOpS.l0]
      rw [if_neg (by omega)]
    · intro i hi ih
      refine Ev.step (f := fun k => laws_eqOpS.l0 k l l ((i+1 : Nat) : Int)) (fun k => ?_) ih
      simp only [laws_eqOpS.l0]
      rw [if_pos (by omega), if_pos (by omega), if_pos (by omega), laws_eqOp_refl, Option.bind_some, if_pos rfl, wrap_up i (by omega)]
  have := key 0 (Nat.zero_le _)
  unfold laws_eqOpS.f
  simp only [if_pos]
  exact this
theorem laws_szOpS_some (l : List S80) (hb : l.length ≤ maxLen) (left : Int) (h0 : 0 ≤ left) (h1 : left ≤ 1048576) : ∃ r, laws_szOpS.f l left = some r ∧ (0 ≤ r → r ≤ left ∧ l.length ≤ 1048576) := by
  have hm : maxLen = 9223372036854775807 := rfl
  have hw : wrap64 (left - (l.length : Int)) = left - (l.length : Int) := by unfold wrap64; omega
  unfold laws_szOpS.f
  rw [hw]
  by_cases c : left - (l.length : Int) < 0
  · exact ⟨-1, by rw [if_pos c], fun h => by omega⟩
  · exact ⟨_, by rw [if_neg c], fun _ => by omega⟩
def conv169 (x : S169) : S136 := ⟨x.f0, x.f1⟩
theorem laws_toPair_eq (a0 : Int) (a1 : Int) : laws_toPair.f a0 a1 = some (a0, a1) := rfl
theorem laws_eqPair_refl (a0 : Int) (a1 : Int) : laws_eqPair.f a0 a1 a0 a1 = some true := by simp [laws_eqPair.f]
theorem laws_toPairS_ev (l : List S169) (h : (l.length ≤ 1048576)) : Ev (fun k => laws_toPairS.f k l) (l.map conv169) := by
  have hl : l.length ≤ 1048576 := h
  have key : ∀ i, i ≤ l.length → Ev (fun k => laws_toPairS.l0 k l ((l.take i).map conv169 ++ List.replicate (l.length - i) z136) (i : Int)) (l.map conv169) := by
    refine Ev_down (L := fun i k => laws_toPairS.l0 k l ((l.take i).map conv169 ++ List.replicate (l.length - i) z136) (i : Int)) l.length ?_ ?_
    · refine Ev_at 1 (fun k => ?_)
      simp only [laws_toPairS.l0]
      rw [if_neg (by omega)]
      simp
    · intro i hi ih
      refine Ev.step (f := fun k => laws_toPairS.l0 k l ((l.take (i+1)).map conv169 ++ List.replicate (l.length - (i+1)) z136) ((i+1 : Nat) : Int)) (fun k => ?_) ?_
      · simp only [laws_toPairS.l0]
        rw [if_pos (by omega), if_pos (by omega)]
        simp only [laws_toPair_eq, Option.bind_some]
        rw [if_pos (by simp; omega), wrap_up i (by omega)]
        congr 1
        exact set_fill l i hi z136 conv169 _ (by simp [rd_T169, conv169, List.getD_eq_getElem?_getD, hi])
      · exact ih
  have := key 0 (Nat.zero_le _)
  have hc : ((l.length : Int) : Int).toNat ≤ 17592186044416 := by omega
  unfold laws_toPairS.f
  simp only [if_pos (Int.natCast_nonneg l.length), if_pos hc]
  simpa using this
theorem laws_eqPairS_refl (l : List S136) (h : (l.length ≤ 2097152)) : Ev (fun k => laws_eqPairS.f k l l) true := by
  have hl : l.length ≤ 2097152 := h
  have key : ∀ i, i ≤ l.length → Ev (fun k => laws_eqPairS.l0 k l l (i : Int)) true := by
    refine Ev_down (L := fun i k => laws_eqPairS.l0 k l l (i : Int)) l.length ?_ ?_
    · refine Ev_at 1 (fun k => ?_)
      simp only [laws_eqPairS.l0]
      rw [if_neg (by omega)]
    · intro i hi ih
      refine Ev.step (f := fun k => laws_eqPairS.l0 k l l ((i+1 : Nat) : Int)) (fun k => ?_) ih
      simp only [laws_eqPairS.l0]
      rw [if_pos (by omega), if_pos (by omega), if_pos (by omega), laws_eqPair_refl, Option.bind_some, if_pos rfl, wrap_up i (by omega)]
  have := key 0 (Nat.zero_le _)
  unfold laws_eqPairS.f
  simp only [if_pos]
  exact this
theorem laws_szPairS_some (l : List S169) (hb : l.length ≤ maxLen) (left : Int) (h0 : 0 ≤ left) (h1 : left ≤ 1048576) : ∃ r, laws_szPairS.f l left = some r ∧ (0 ≤ r → r ≤ left ∧ l.length ≤ 1048576) := by
  have hm : maxLen = 9223372036854775807 := rfl
  have hw : wrap64 (left - (l.length : Int)) = left - (l.length : Int) := by unfold wrap64; omega
  unfold laws_szPairS.f
  rw [hw]
  by_cases c : left - (l.length : Int) < 0
  · exact ⟨-1, by rw [if_pos c], fun h => by omega⟩
  · exact ⟨_, by rw [if_neg c], fun _ => by omega⟩
def conv65 (x : S65) : S67 := ⟨x.f0, x.f1, x.f2, x.f3⟩
theorem laws_toHelp_eq (a0 : Int) (a1 : Int) (a2 : Int) (a3 : Int) : laws_toHelp.f a0 a1 a2 a3 = some (a0, a1, a2, a3) := rfl
theorem laws_eqHelp_refl (a0 : Int) (a1 : Int) (a2 : Int) (a3 : Int) : laws_eqHelp.f a0 a1 a2 a3 a0 a1 a2 a3 = some true := by simp [laws_eqHelp.f]
theorem laws_toHelpS_ev (l : List S65) (h : (l.length ≤ 1048576)) : Ev (fun k => laws_toHelpS.f k l) (l.map conv65) := by
  have hl : l.length ≤ 1048576 := h
  have key : ∀ i, i ≤ l.length → Ev (fun k => laws_toHelpS.l0 k l ((l.take i).map conv65 ++ List.replicate (l.length - i) z67) (i : Int)) (l.map conv65) := by
    refine Ev_down (L := fun i k => laws_toHelpS.l0 k l ((l.take i).map conv65 ++ List.replicate (l.length - i) z67) (i : Int)) l.length ?_ ?_
    · refine Ev_at 1 (fun k => ?_)
      simp only [laws_toHelpS.l0]
      rw [if_neg (by omega)]
      simp
    · intro i hi ih
      refine Ev.step (f := fun k => laws_toHelpS.l0 k l ((l.take (i+1)).map conv65 ++ List.replicate (l.length - (i+1)) z67) ((i+1 : Nat) : Int)) (fun k => ?_) ?_
      · simp only [laws_toHelpS.l0]
        rw [if_pos (by omega), if_pos (by omega)]
        simp only [laws_toHelp_eq, Option.bind_some]
        rw [if_pos (by simp; omega), wrap_up i (by omega)]
        congr 1
        exact set_fill l i hi z67 conv65 _ (by simp [rd_T65, conv65, List.getD_eq_getElem?_getD, hi])
      · exact ih
  have := key 0 (Nat.zero_le _)
  have hc : ((l.length : Int) : Int).toNat ≤ 8796093022208 := by omega
  unfold laws_toHelpS.f
  simp only [if_pos (Int.natCast_nonneg l.length), if_pos hc]
  simpa using this
theorem laws_eqHelpS_refl (l : List S67) (h : (l.length ≤ 2097152)) : Ev (fun k => laws_eqHelpS.f k l l) true := by
  have hl : l.length ≤ 2097152 := h
  have key : ∀ i, i ≤ l.length → Ev (fun k => laws_eqHelpS.l0 k l l (i : Int)) true := by
    refine Ev_down (L := fun i k => laws_eqHelpS.l0 k l l (i : Int)) l.length ?_ ?_
    · refine Ev_at 1 (fun k => ?_)
      simp only [laws_eqHelpS.l0]
      rw [if_neg (by omega)]
    · intro i hi ih
      refine Ev.step (f := fun k => laws_eqHelpS.l0 k l l ((i+1 : Nat) : Int)) (fun k => ?_) ih
      simp only [laws_eqHelpS.l0]
      rw [if_pos (by omega), if_pos (by omega), if_pos (by omega), laws_eqHelp_refl, Option.bind_some, if_pos rfl, wrap_up i (by omega)]
  have := key 0 (Nat.zero_le _)
  unfold laws_eqHelpS.f
  simp only [if_pos]
  exact this
theorem laws_szHelpS_some (l : List S65) (hb : l.length ≤ maxLen) (left : Int) (h0 : 0 ≤ left) (h1 : left ≤ 1048576) : ∃ r, laws_szHelpS.f l left = some r ∧ (0 ≤ r → r ≤ left ∧ l.length ≤ 1048576) := by
  have hm : maxLen = 9223372036854775807 := rfl
  have hw : wrap64 (left - (l.length : Int)) = left - (l.length : Int) := by unfold wrap64; omega
  unfold laws_szHelpS.f
  rw [hw]
  by_cases c : left - (l.length : Int) < 0
  · exact ⟨-1, by rw [if_pos c], fun h => by omega⟩
  · exact ⟨_, by rw [if_neg c], fun _ => by omega⟩
theorem laws_toThread_ev (l0 : List S80) (a1 : Int) (a2 : Bool) (l3 : List S169) (l4 : List S65) (h0 : (l0.length ≤ 1048576)) (h3 : (l3.length ≤ 1048576)) (h4 : (l4.length ≤ 1048576)) : Ev (fun k => laws_toThread.f k l0 a1 a2 l3 l4) (l0.map conv80, a1, a2, l3.map conv169, l4.map conv65) := by
  unfold laws_toThread.f
  try simp only [Option.bind_some]
  refine Ev.bind (laws_toOpS_ev l0 h0) ?_
  refine Ev.bind (laws_toPairS_ev l3 h3) ?_
  refine Ev.bind (laws_toHelpS_ev l4 h4) ?_
  exact Ev.now _
theorem laws_eqThread_refl (l0 : List S88) (a1 : Int) (a2 : Bool) (l3 : List S136) (l4 : List S67) (h0 : (l0.length ≤ 2097152)) (h3 : (l3.length ≤ 2097152)) (h4 : (l4.length ≤ 2097152)) : Ev (fun k => laws_eqThread.f k l0 a1 a2 l3 l4 l0 a1 a2 l3 l4) true := by
  unfold laws_eqThread.f
  try simp only [if_pos, Option.bind_some]
  refine Ev.bind (laws_eqOpS_refl l0 h0) ?_
  try simp only [if_true, if_pos, bne_self_eq_false, Bool.false_eq_true, if_false]
  refine Ev.bind (laws_eqPairS_refl l3 h3) ?_
  try simp only [if_true, if_pos, bne_self_eq_false, Bool.false_eq_true, if_false]
  refine Ev.bind (laws_eqHelpS_refl l4 h4) ?_
  try simp only [if_true, if_pos, bne_self_eq_false, Bool.false_eq_true, if_false]
  exact Ev.now _
theorem laws_szThread_some (l0 : List S80) (a1 : Int) (a2 : Bool) (l3 : List S169) (l4 : List S65) (b0 : l0.length ≤ maxLen) (b3 : l3.length ≤ maxLen) (b4 : l4.length ≤ maxLen) (left : Int) (h0 : 0 ≤ left) (h1 : left ≤ 1048576) : ∃ r, laws_szThread.f l0 a1 a2 l3 l4 left = some r ∧ (0 ≤ r → r ≤ left ∧ (l0.length ≤ 1048576) ∧ (l3.length ≤ 1048576) ∧ (l4.length ≤ 1048576)) := by
  unfold laws_szThread.f
  obtain ⟨r0, e0, p0⟩ := laws_szOpS_some l0 b0 left (by omega) (by omega)
  simp only [e0, Option.bind_some]
  by_cases c0 : r0 < 0
  · exact ⟨-1, by simp [c0], fun h => by omega⟩
  simp only [if_neg c0]
  have q0 := p0 (by omega)
  obtain ⟨r1, e1, p1⟩ := laws_szPairS_some l3 b3 r0 (by omega) (by omega)
  simp only [e1, Option.bind_some]
  by_cases c1 : r1 < 0
  · exact ⟨-1, by simp [c1], fun h => by omega⟩
  simp only [if_neg c1]
  have q1 := p1 (by omega)
  obtain ⟨r2, e2, p2⟩ := laws_szHelpS_some l4 b4 r1 (by omega) (by omega)
  simp only [e2, Option.bind_some]
  by_cases c2 : r2 < 0
  · exact ⟨-1, by simp [c2], fun h => by omega⟩
  simp only [if_neg c2]
  have q2 := p2 (by omega)
  refine ⟨_, rfl, fun _ => ⟨by omega, ?_⟩⟩
  simp_all
theorem rdset88 (l : List S88) (i : Nat) (hi : i < l.length) (v : S88) : rd_T88 (l.set i v) (i : Int) = v := by simp [rd_T88, List.getD_eq_getElem?_getD, hi]
def mk88 (a : Int) (j : Nat) : S88 := ⟨a + 3 * (j : Int), a + 3 * (j : Int) + 1, a + 3 * (j : Int) + 2⟩
theorem laws_markOpS_ev (l : List S88) (h : l.length ≤ 2097152) (a : Int) (h0 : 0 ≤ a) (h1 : a ≤ 1000000000) : Ev (fun k => laws_markOpS.f k l a) (a + 3 * (l.length : Int), (List.range l.length).map (mk88 a)) := by
  have key : ∀ i, i ≤ l.length → Ev (fun k => laws_markOpS.l0 k ((List.range i).map (mk88 a) ++ l.drop i) (a + 3 * (i : Int)) (i : Int)) (a + 3 * (l.length : Int), (List.range l.length).map (mk88 a)) := by
    refine Ev_down (L := fun i k => laws_markOpS.l0 k ((List.range i).map (mk88 a) ++ l.drop i) (a + 3 * (i : Int)) (i : Int)) l.length ?_ ?_
    · refine Ev_at 1 (fun k => ?_)
      simp only [laws_markOpS.l0]
      rw [if_neg (by simp)]
      simp
    · intro i hi ih
      have hlen : ((List.range i).map (mk88 a) ++ l.drop i).length = l.length := by simp; omega
      have w0 : wrap64 (a + 3 * (i : Int) + 1) = a + 3 * (i : Int) + 1 := by unfold wrap64; omega
      have w1 : wrap64 (a + 3 * (i : Int) + 1 + 1) = a + 3 * (i : Int) + 2 := by unfold wrap64; omega
      have w2 : wrap64 (a + 3 * (i : Int) + 2 + 1) = a + 3 * (i : Int) + 3 := by unfold wrap64; omega
      have hfin : a + 3 * ((i + 1 : Nat) : Int) = a + 3 * (i : Int) + 3 := by omega
      refine Ev.step (f := fun k => laws_markOpS.l0 k ((List.range (i + 1)).map (mk88 a) ++ l.drop (i + 1)) (a + 3 * ((i + 1 : Nat) : Int)) ((i + 1 : Nat) : Int)) (fun k => ?_) ih
      rw [← mark_fill (mk88 a) l i hi, hfin]
      simp only [laws_markOpS.l0, Option.bind_some, hlen]
      rw [if_pos (by omega), if_pos (by omega), wrap_up i (by omega)]
      simp only [Int.toNat_natCast, rdset88 _ i (by rw [hlen]; exact hi), w0, w1, w2, List.set_set]
      rfl
  have := key 0 (Nat.zero_le _)
  unfold laws_markOpS.f
  simpa using this
theorem laws_heldOpS_ev (n : Nat) (h : n ≤ 2097152) (a : Int) (h0 : 0 ≤ a) (h1 : a ≤ 1000000000) : Ev (fun k => laws_heldOpS.f k ((List.range n).map (mk88 a)) a) (a + 3 * (n : Int)) := by
  have key : ∀ i, i ≤ n → Ev (fun k => laws_heldOpS.l0 k ((List.range n).map (mk88 a)) (a + 3 * (i : Int)) (i : Int)) (a + 3 * (n : Int)) := by
    refine Ev_down (L := fun i k => laws_heldOpS.l0 k ((List.range n).map (mk88 a)) (a + 3 * (i : Int)) (i : Int)) n ?_ ?_
    · refine Ev_at 1 (fun k => ?_)
      simp only [laws_heldOpS.l0]
      rw [if_neg (by simp)]
    · intro i hi ih
      have hr : rd_T88 ((List.range n).map (mk88 a)) (i : Int) = mk88 a i := by simp [rd_T88, List.getD_eq_getElem?_getD, hi]
      have w0 : wrap64 (a + 3 * (i : Int) + 1) = a + 3 * (i : Int) + 1 := by unfold wrap64; omega
      have w1 : wrap64 (a + 3 * (i : Int) + 1 + 1) = a + 3 * (i : Int) + 2 := by unfold wrap64; omega
      have w2 : wrap64 (a + 3 * (i : Int) + 2 + 1) = a + 3 * (i : Int) + 3 := by unfold wrap64; omega
      have hfin : a + 3 * ((i + 1 : Nat) : Int) = a + 3 * (i : Int) + 3 := by omega
      refine Ev.step (f := fun k => laws_heldOpS.l0 k ((List.range n).map (mk88 a)) (a + 3 * ((i + 1 : Nat) : Int)) ((i + 1 : Nat) : Int)) (fun k => ?_) ih
      rw [hfin]
      simp only [laws_heldOpS.l0, hr, mk88, w0, w1, w2]
      rw [if_pos (by simp; omega), if_pos (by omega), wrap_up i (by omega)]
      simp only [if_true]
  have := key 0 (Nat.zero_le _)
  unfold laws_heldOpS.f
  simpa using this
theorem rdset136 (l : List S136) (i : Nat) (hi : i < l.length) (v : S136) : rd_T136 (l.set i v) (i : Int) = v := by simp [rd_T136, List.getD_eq_getElem?_getD, hi]
def mk136 (a : Int) (j : Nat) : S136 := ⟨a + 2 * (j : Int), a + 2 * (j : Int) + 1⟩
theorem laws_markPairS_ev (l : List S136) (h : l.length ≤ 2097152) (a : Int) (h0 : 0 ≤ a) (h1 : a ≤ 1000000000) : Ev (fun k => laws_markPairS.f k l a) (a + 2 * (l.length : Int), (List.range l.length).map (mk136 a)) := by
  have key : ∀ i, i ≤ l.length → Ev (fun k => laws_markPairS.l0 k ((List.range i).map (mk136 a) ++ l.drop i) (a + 2 * (i : Int)) (i : Int)) (a + 2 * (l.length : Int), (List.range l.length).map (mk136 a)) := by
    refine Ev_down (L := fun i k => laws_markPairS.l0 k ((List.range i).map (mk136 a) ++ l.drop i) (a + 2 * (i : Int)) (i : Int)) l.length ?_ ?_
    · refine Ev_at 1 (fun k => ?_)
      simp only [laws_markPairS.l0]
      rw [if_neg (by simp)]
      simp
    · intro i hi ih
      have hlen : ((List.range i).map (mk136 a) ++ l.drop i).length = l.length := by simp; omega
      have w0 : wrap64 (a + 2 * (i : Int) + 1) = a + 2 * (i : Int) + 1 := by unfold wrap64; omega
      have w1 : wrap64 (a + 2 * (i : Int) + 1 + 1) = a + 2 * (i : Int) + 2 := by unfold wrap64; omega
      have hfin : a + 2 * ((i + 1 : Nat) : Int) = a + 2 * (i : Int) + 2 := by omega
      refine Ev.step (f := fun k => laws_markPairS.l0 k ((List.range (i + 1)).map (mk136 a) ++ l.drop (i + 1)) (a + 2 * ((i + 1 : Nat) : Int)) ((i + 1 : Nat) : Int)) (fun k => ?_) ih
      rw [← mark_fill (mk136 a) l i hi, hfin]
      simp only [laws_markPairS.l0, Option.bind_some, hlen]
      rw [if_pos (by omega), if_pos (by omega), wrap_up i (by omega)]
      simp only [Int.toNat_natCast, rdset136 _ i (by rw [hlen]; exact hi), w0, w1, List.set_set]
      rfl
  have := key 0 (Nat.zero_le _)
  unfold laws_markPairS.f
  simpa using this
theorem laws_heldPairS_ev (n : Nat) (h : n ≤ 2097152) (a : Int) (h0 : 0 ≤ a) (h1 : a ≤ 1000000000) : Ev (fun k => laws_heldPairS.f k ((List.range n).map (mk136 a)) a) (a + 2 * (n : Int)) := by
  have key : ∀ i, i ≤ n → Ev (fun k => laws_heldPairS.l0 k ((List.range n).map (mk136 a)) (a + 2 * (i : Int)) (i : Int)) (a + 2 * (n : Int)) := by
    refine Ev_down (L := fun i k => laws_heldPairS.l0 k ((List.range n).map (mk136 a)) (a + 2 * (i : Int)) (i : Int)) n ?_ ?_
    · refine Ev_at 1 (fun k => ?_)
      simp only [laws_heldPairS.l0]
      rw [if_neg (by simp)]
    · intro i hi ih
      have hr : rd_T136 ((List.range n).map (mk136 a)) (i : Int) = mk136 a i := by simp [rd_T136, List.getD_eq_getElem?_getD, hi]
      have w0 : wrap64 (a + 2 * (i : Int) + 1) = a + 2 * (i : Int) + 1 := by unfold wrap64; omega
      have w1 : wrap64 (a + 2 * (i : Int) + 1 + 1) = a + 2 * (i : Int) + 2 := by unfold wrap64; omega
      have hfin : a + 2 * ((i + 1 : Nat) : Int) = a + 2 * (i : Int) + 2 := by omega
      refine Ev.step (f := fun k => laws_heldPairS.l0 k ((List.range n).map (mk136 a)) (a + 2 * ((i + 1 : Nat) : Int)) ((i + 1 : Nat) : Int)) (fun k => ?_) ih
      rw [hfin]
      simp only [laws_heldPairS.l0, hr, mk136, w0, w1]
      rw [if_pos (by simp; omega), if_pos (by omega), wrap_up i (by omega)]
      simp only [if_true]
  have := key 0 (Nat.zero_le _)
  unfold laws_heldPairS.f
  simpa using this
theorem rdset67 (l : List S67) (i : Nat) (hi : i < l.length) (v : S67) : rd_T67 (l.set i v) (i : Int) = v := by simp [rd_T67, List.getD_eq_getElem?_getD, hi]
def mk67 (a : Int) (j : Nat) : S67 := ⟨a + 4 * (j : Int), a + 4 * (j : Int) + 1, a + 4 * (j : Int) + 2, a + 4 * (j : Int) + 3⟩
theorem laws_markHelpS_ev (l : List S67) (h : l.length ≤ 2097152) (a : Int) (h0 : 0 ≤ a) (h1 : a ≤ 1000000000) : Ev (fun k => laws_markHelpS.f k l a) (a + 4 * (l.length : Int), (List.range l.length).map (mk67 a)) := by
  have key : ∀ i, i ≤ l.length → Ev (fun k => laws_markHelpS.l0 k ((List.range i).map (mk67 a) ++ l.drop i) (a + 4 * (i : Int)) (i : Int)) (a + 4 * (l.length : Int), (List.range l.length).map (mk67 a)) := by
    refine Ev_down (L := fun i k => laws_markHelpS.l0 k ((List.range i).map (mk67 a) ++ l.drop i) (a + 4 * (i : Int)) (i : Int)) l.length ?_ ?_
    · refine Ev_at 1 (fun k => ?_)
      simp only [laws_markHelpS.l0]
      rw [if_neg (by simp)]
      simp
    · intro i hi ih
      have hlen : ((List.range i).map (mk67 a) ++ l.drop i).length = l.length := by simp; omega
      have w0 : wrap64 (a + 4 * (i : Int) + 1) = a + 4 * (i : Int) + 1 := by unfold wrap64; omega
      have w1 : wrap64 (a + 4 * (i : Int) + 1 + 1) = a + 4 * (i : Int) + 2 := by unfold wrap64; omega
      have w2 : wrap64 (a + 4 * (i : Int) + 2 + 1) = a + 4 * (i : Int) + 3 := by unfold wrap64; omega
      have w3 : wrap64 (a + 4 * (i : Int) + 3 + 1) = a + 4 * (i : Int) + 4 := by unfold wrap64; omega
      have hfin : a + 4 * ((i + 1 : Nat) : Int) = a + 4 * (i : Int) + 4 := by omega
      refine Ev.step (f := fun k => laws_markHelpS.l0 k ((List.range (i + 1)).map (mk67 a) ++ l.drop (i + 1)) (a + 4 * ((i + 1 : Nat) : Int)) ((i + 1 : Nat) : Int)) (fun k => ?_) ih
      rw [← mark_fill (mk67 a) l i hi, hfin]
      simp only [laws_markHelpS.l0, Option.bind_some, hlen]
      rw [if_pos (by omega), if_pos (by omega), wrap_up i (by omega)]
      simp only [Int.toNat_natCast, rdset67 _ i (by rw [hlen]; exact hi), w0, w1, w2, w3, List.set_set]
      rfl
  have := key 0 (Nat.zero_le _)
  unfold laws_markHelpS.f
  simpa using this
theorem laws_heldHelpS_ev (n : Nat) (h : n ≤ 2097152) (a : Int) (h0 : 0 ≤ a) (h1 : a ≤ 1000000000) : Ev (fun k => laws_heldHelpS.f k ((List.range n).map (mk67 a)) a) (a + 4 * (n : Int)) := by
  have key : ∀ i, i ≤ n → Ev (fun k => laws_heldHelpS.l0 k ((List.range n).map (mk67 a)) (a + 4 * (i : Int)) (i : Int)) (a + 4 * (n : Int)) := by
    refine Ev_down (L := fun i k => laws_heldHelpS.l0 k ((List.range n).map (mk67 a)) (a + 4 * (i : Int)) (i : Int)) n ?_ ?_
    · refine Ev_at 1 (fun k => ?_)
      simp only [laws_heldHelpS.l0]
      rw [if_neg (by simp)]
    · intro i hi ih
      have hr : rd_T67 ((List.range n).map (mk67 a)) (i : Int) = mk67 a i := by simp [rd_T67, List.getD_eq_getElem?_getD, hi]
      have w0 : wrap64 (a + 4 * (i : Int) + 1) = a + 4 * (i : Int) + 1 := by unfold wrap64; omega
      have w1 : wrap64 (a + 4 * (i : Int) + 1 + 1) = a + 4 * (i : Int) + 2 := by unfold wrap64; omega
      have w2 : wrap64 (a + 4 * (i : Int) + 2 + 1) = a + 4 * (i : Int) + 3 := by unfold wrap64; omega
      have w3 : wrap64 (a + 4 * (i : Int) + 3 + 1) = a + 4 * (i : Int) + 4 := by unfold wrap64; omega
      have hfin : a + 4 * ((i + 1 : Nat) : Int) = a + 4 * (i : Int) + 4 := by omega
      refine Ev.step (f := fun k => laws_heldHelpS.l0 k ((List.range n).map (mk67 a)) (a + 4 * ((i + 1 : Nat) : Int)) ((i + 1 : Nat) : Int)) (fun k => ?_) ih
      rw [hfin]
      simp only [laws_heldHelpS.l0, hr, mk67, w0, w1, w2, w3]
      rw [if_pos (by simp; omega), if_pos (by omega), wrap_up i (by omega)]
      simp only [if_true]
  have := key 0 (Nat.zero_le _)
  unfold laws_heldHelpS.f
  simpa using this
theorem laws_markThread_ev (l0 : List S88) (a1 : Int) (a2 : Bool) (l3 : List S136) (l4 : List S67) (h0 : l0.length ≤ 2097152) (h3 : l3.length ≤ 2097152) (h4 : l4.length ≤ 2097152) (a : Int) (h_0 : 0 ≤ a) (h_1 : a ≤ 1000) : Ev (fun k => laws_markThread.f k l0 a1 a2 l3 l4 a) (a + 3 * (l0.length : Int) + 2 * (l3.length : Int) + 4 * (l4.length : Int), (List.range l0.length).map (mk88 (a)), (List.range l3.length).map (mk136 (a + 3 * (l0.length : Int))), (List.range l4.length).map (mk67 (a + 3 * (l0.length : Int) + 2 * (l3.length : Int)))) := by
  unfold laws_markThread.f
  refine Ev.bind (laws_markOpS_ev l0 h0 (a) (by omega) (by omega)) ?_
  refine Ev.bind (laws_markPairS_ev l3 h3 (a + 3 * (l0.length : Int)) (by omega) (by omega)) ?_
  refine Ev.bind (laws_markHelpS_ev l4 h4 (a + 3 * (l0.length : Int) + 2 * (l3.length : Int)) (by omega) (by omega)) ?_
  exact Ev.now _
theorem laws_heldThread_ev (l0 : List S88) (a1 : Int) (a2 : Bool) (l3 : List S136) (l4 : List S67) (h0 : l0.length ≤ 2097152) (h3 : l3.length ≤ 2097152) (h4 : l4.length ≤ 2097152) (a : Int) (h_0 : 0 ≤ a) (h_1 : a ≤ 1000) : Ev (fun k => laws_heldThread.f k ((List.range l0.length).map (mk88 (a))) a1 a2 ((List.range l3.length).map (mk136 (a + 3 * (l0.length : Int)))) ((List.range l4.length).map (mk67 (a + 3 * (l0.length : Int) + 2 * (l3.length : Int)))) a) (a + 3 * (l0.length : Int) + 2 * (l3.length : Int) + 4 * (l4.length : Int)) := by
  unfold laws_heldThread.f
  refine Ev.bind (laws_heldOpS_ev l0.length h0 (a) (by omega) (by omega)) ?_
  simp only [if_neg (show ¬ (a + 3 * (l0.length : Int)) < 0 by omega)]
  refine Ev.bind (laws_heldPairS_ev l3.length h3 (a + 3 * (l0.length : Int)) (by omega) (by omega)) ?_
  simp only [if_neg (show ¬ (a + 3 * (l0.length : Int) + 2 * (l3.length : Int)) < 0 by omega)]
  refine Ev.bind (laws_heldHelpS_ev l4.length h4 (a + 3 * (l0.length : Int) + 2 * (l3.length : Int)) (by omega) (by omega)) ?_
  simp only [if_neg (show ¬ (a + 3 * (l0.length : Int) + 2 * (l3.length : Int) + 4 * (l4.length : Int)) < 0 by omega)]
  exact Ev.now _

theorem FnExactSwap (l0_0 : List S80) (a0_1 : Int) (a0_2 : Bool) (l0_3 : List S169) (l0_4 : List S65) (a1_0 : Int) (a1_1 : Int) (a1_2 : Int) (a1_3 : Int) (gl0_0 : (fun l : List S80 => l.length ≤ maxLen ∧ ∀ x ∈ l, good80 x) l0_0) (ga0_1 : (fun n : Int => (Lit.int .i64 n).wf = true) a0_1) (gl0_3 : (fun l : List S169 => l.length ≤ maxLen ∧ ∀ x ∈ l, good169 x) l0_3) (gl0_4 : (fun l : List S65 => l.length ≤ maxLen ∧ ∀ x ∈ l, good65 x) l0_4) (ga1_0 : (fun n : Int => (Lit.int .i64 n).wf = true) a1_0) (ga1_1 : (fun n : Int => (Lit.int .i64 n).wf = true) a1_1) (ga1_2 : (fun n : Int => (Lit.int .i64 n).wf = true) a1_2) (ga1_3 : (fun n : Int => (Lit.int .i64 n).wf = true) a1_3) : ∃ k, laws_FnExactSwap.f k l0_0 a0_1 a0_2 l0_3 l0_4 a1_0 a1_1 a1_2 a1_3 = some true := by
  refine Ev.rounds (r := true) ?_
  unfold laws_FnExactSwap.f
  obtain ⟨r, er, pr⟩ := laws_szThread_some l0_0 a0_1 a0_2 l0_3 l0_4 gl0_0.1 gl0_3.1 gl0_4.1 1048576 (by omega) (by omega)
  simp only [er, Option.bind_some]
  by_cases c : r < 0
  · simp only [if_pos c]; exact Ev.now _
  simp only [if_neg c]
  obtain ⟨hr, h0, h3, h4⟩ := pr (by omega)
  have hto := laws_toThread_ev l0_0 a0_1 a0_2 l0_3 l0_4 h0 h3 h4
  have h0' : (l0_0.map conv80).length ≤ 2097152 := by rw [List.length_map]; omega
  have h3' : (l0_3.map conv169).length ≤ 2097152 := by rw [List.length_map]; omega
  have h4' : (l0_4.map conv65).length ≤ 1048576 := by simpa using h4
  generalize l0_0.map conv80 = O at hto h0'
  generalize l0_3.map conv169 = G at hto h3'
  generalize l0_4.map conv65 = H at hto h4'
  have b0 : ([] : List S88).length + O.length < 5864062014805 := by simp; omega
  have b3 : ([] : List S136).length + G.length < 8796093022208 := by simp; omega
  have b4 : ([] : List S67).length + H.length < 4398046511104 := by simp; omega
  obtain ⟨K, hk, hs, hi⟩ : ∃ K : List S67, K.length ≤ 2097152 ∧ spec_Swap.f O a0_1 a0_2 G H a1_0 a1_1 a1_2 a1_3 = some (O, a0_1, a0_2, G, K) ∧ impl_Swap.f O a0_1 a0_2 G H a1_0 a1_1 a1_2 a1_3 = some (O, a0_1, a0_2, G, K) := by
    have hc : impl_copyThread.f O a0_1 a0_2 G H = some (O, a0_1, a0_2, G, H) := by
      simp only [impl_copyThread.f, impl_Op.f, impl_Pair.f, impl_Help.f, Option.bind_some, if_pos b0, if_pos b3, if_pos b4, List.nil_append]
    have hl : spec_l8Copy.f O a0_1 a0_2 G H = some (O, a0_1, a0_2, G, H) := by
      simp only [spec_l8Copy.f, Option.bind_some, if_pos b0, if_pos b3, if_pos b4, List.nil_append]
    by_cases hp : (H.length : Int) > 0
    · have ew : wrap64 ((H.length : Int) - 1) = (H.length : Int) - 1 := by unfold wrap64; omega
      have p1 : 0 ≤ (H.length : Int) - 1 := by omega
      have p2 : (H.length : Int) - 1 < (H.length : Int) := by omega
      refine ⟨H.set ((H.length : Int) - 1).toNat ⟨a1_0, a1_1, a1_2, a1_3⟩, by rw [List.length_set]; omega, ?_, ?_⟩
      · simp only [spec_Swap.f, hl, Option.bind_some, if_pos hp, ew, if_pos p1, if_pos p2]
      · simp only [impl_Swap.f, hc, Option.bind_some, if_pos hp, ew, if_pos p1, if_pos p2]
    · refine ⟨H, by omega, ?_, ?_⟩
      · simp only [spec_Swap.f, hl, Option.bind_some, if_neg hp]
      · simp only [impl_Swap.f, hc, Option.bind_some, if_neg hp]
  have hm := laws_markThread_ev O a0_1 a0_2 G K h0' h3' hk 1 (by omega) (by omega)
  have hm0 := laws_markThread_ev O a0_1 a0_2 G H h0' h3' (by omega) 1 (by omega) (by omega)
  have hh := laws_heldThread_ev O a0_1 a0_2 G K h0' h3' hk 1 (by omega) (by omega)
  have he := laws_eqThread_refl O a0_1 a0_2 G K h0' h3' hk
  refine Ev.bind hto ?_
  simp only [laws_toHelp.f, hs, Option.bind_some]
  refine Ev.bind hto ?_
  simp only [laws_toHelp.f, hi, Option.bind_some]
  refine Ev.bind he ?_
  simp only [if_true]
  refine Ev.bind hto ?_
  refine Ev.bind (laws_eqThread_refl O a0_1 a0_2 G H h0' h3' (by omega)) ?_
  simp only [if_true]
  refine Ev.bind hm0 ?_
  simp only [if_neg (show ¬ (1 + 3 * (O.length : Int) + 2 * (G.length : Int) + 4 * (H.length : Int)) < 0 by omega)]
  refine Ev.bind he ?_
  refine Ev.step (f := fun k => (laws_markThread.f k O a0_1 a0_2 G K 1).bind fun bt368 => ((laws_heldThread.f k bt368.2.1 a0_1 a0_2 bt368.2.2.1 bt368.2.2.2 1).bind fun t372 => (if t372 < 0 then (none) else (if t372 = bt368.1 then ((laws_toThread.f k l0_0 a0_1 a0_2 l0_3 l0_4).bind fun bt373 => ((laws_toHelp.f a1_0 a1_1 a1_2 a1_3).bind fun bt384 => ((impl_Swap.f bt373.1 bt373.2.1 bt373.2.2.1 bt373.2.2.2.1 bt373.2.2.2.2 bt384.1 bt384.2.1 bt384.2.2.1 bt384.2.2.2).bind fun bt388 => ((laws_eqThread.f k bt388.1 bt388.2.1 bt388.2.2.1 bt388.2.2.2.1 bt388.2.2.2.2 O a0_1 a0_2 G K).bind fun t400 => (if t400 = true then ((laws_heldThread.f k bt368.2.1 a0_1 a0_2 bt368.2.2.1 bt368.2.2.2 1).bind fun t401 => (if t401 < 0 then (none) else (if t401 = bt368.1 then (some true) else (none)))) else (none)))))) else (none))))) (fun k => ?_) ?_
  · simp only [laws_FnExactSwap.j0, Bool.not_true, Bool.false_eq_true, if_false]
  refine Ev.bind hm ?_
  refine Ev.bind hh ?_
  rw [Ev_pos (by first | omega | (simp; omega))]
  simp only [if_true]
  refine Ev.bind hto ?_
  simp only [laws_toHelp.f, hi, Option.bind_some]
  refine Ev.bind he ?_
  simp only [if_true]
  refine Ev.bind hh ?_
  rw [Ev_pos (by first | omega | (simp; omega))]
  simp only [if_true]
  exact Ev.now _

end Go.Proofs.Ytblpbhhomocfbaa.Pure
