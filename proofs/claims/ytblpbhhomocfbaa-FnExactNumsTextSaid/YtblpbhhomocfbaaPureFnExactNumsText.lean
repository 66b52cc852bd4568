/- The pure statement behind the law FnExactNumsText: over plain values, for every argument, the law's Lean function answers true. No condition beyond the law's own. -/
import Derived.Test.YtblpbhhomocfbaaPFnExactNumsTextx2
import Derived.Laws.Strings
namespace Go.Proofs.Ytblpbhhomocfbaa.Pure
open Go.RowKit Go.Proofs.Ytblpbhhomocfbaa.PFnExactNumsText Go.Proofs.YtblpbhhomocfbaaW.PrintWords Go.Proofs.YtblpbhhomocfbaaW.PrintLast

theorem Ev_at {α : Type} {g : Nat → Option α} {r : α} (n : Nat) (h : ∀ k, g (k + n) = some r) : Ev g r := ⟨n, fun k hk => by
  obtain ⟨m, rfl⟩ : ∃ m, k = m + n := ⟨k - n, by omega⟩
  exact h m⟩
theorem Ev_down {α : Type} {L : Nat → Nat → Option α} {r : α} (n : Nat) (hn : Ev (L n) r) (hs : ∀ i, i < n → Ev (L (i + 1)) r → Ev (L i) r) : ∀ i, i ≤ n → Ev (L i) r := by
  have key : ∀ d i, i + d = n → Ev (L i) r := by
    intro d
    induction d with
    | zero => intro i h; obtain rfl : i = n := by omega
              exact hn
    | succ d ih => intro i h; exact hs i (by omega) (ih (i + 1) (by omega))
  exact fun i h => key (n - i) i (by omega)
theorem wrap_up (i : Nat) (h : i < 9223372036854775807) : wrap64 ((i : Int) + 1) = ((i + 1 : Nat) : Int) := by unfold wrap64; omega
theorem set_fill {α β : Type} (l : List α) (i : Nat) (hi : i < l.length) (z : β) (f : α → β) (v : β) (hv : v = f (l[i]'hi)) :
    ((l.take i).map f ++ List.replicate (l.length - i) z).set (i : Int).toNat v = (l.take (i + 1)).map f ++ List.replicate (l.length - (i + 1)) z := by
  subst hv
  have h1 : ((l.take i).map f).length = i := by simp; omega
  rw [Int.toNat_natCast, List.set_append, if_neg (by omega), h1, Nat.sub_self]
  obtain ⟨m, hm⟩ : ∃ m, l.length - i = m + 1 := ⟨l.length - i - 1, by omega⟩
  rw [hm, List.replicate_succ, List.set_cons_zero, show l.length - (i + 1) = m by omega, List.take_succ_eq_append_getElem hi, List.map_append, List.append_assoc]
  rfl
theorem set_fill_id {α : Type} (l : List α) (i : Nat) (hi : i < l.length) (z : α) (v : α) (hv : v = l[i]'hi) :
    (l.take i ++ List.replicate (l.length - i) z).set (i : Int).toNat v = l.take (i + 1) ++ List.replicate (l.length - (i + 1)) z := by
  have := set_fill l i hi z id v hv
  simpa using this
theorem Ev_downR {α : Type} {L : Nat → Nat → Option α} {R : Nat → α} (n : Nat) (hn : Ev (L n) (R n)) (hs : ∀ i, i < n → Ev (L (i + 1)) (R (i + 1)) → Ev (L i) (R i)) : ∀ i, i ≤ n → Ev (L i) (R i) := by
  have key : ∀ d i, i + d = n → Ev (L i) (R i) := by
    intro d
    induction d with
    | zero => intro i h; obtain rfl : i = n := by omega
              exact hn
    | succ d ih => intro i h; exact hs i (by omega) (ih (i + 1) (by omega))
  exact fun i h => key (n - i) i (by omega)
theorem rd_at (l : List Int) (i : Nat) (hi : i < l.length) : rd l (i : Int) = l[i] := by simp [rd, List.getD_eq_getElem?_getD, hi]
theorem mark_fill {α : Type} (g : Nat → α) (l : List α) (i : Nat) (hi : i < l.length) : ((List.range i).map g ++ l.drop i).set i (g i) = (List.range (i + 1)).map g ++ l.drop (i + 1) := by
  rw [List.set_append, if_neg (by simp), List.length_map, List.length_range, Nat.sub_self, List.drop_eq_getElem_cons hi, List.set_cons_zero, List.range_succ, List.map_append, List.append_assoc]
  rfl
theorem Ev_pos {α : Type} {x : Int} {g : Nat → Option α} {r : α} (h : 0 ≤ x) : Ev (fun k => if x < 0 then none else g k) r = Ev g r := by
  have h' : ¬ x < 0 := by omega
  simp only [if_neg h']
theorem Ev_mono {α : Type} {g : Nat → Option α} {r : α} (n : Nat) (h : g n = some r) (hm : ∀ k, LeO (g k) (g (k + 1))) : Ev g r := ⟨n, fun k hk => by
  obtain ⟨m, rfl⟩ : ∃ m, k = n + m := ⟨k - n, by omega⟩
  clear hk
  induction m with
  | zero => exact h
  | succ m ih => exact hm _ _ ih⟩
theorem ba_empty_append (a : ByteArray) : (⟨#[]⟩ : ByteArray) ++ a = a := by
  show ByteArray.empty ++ a = a
  simp
theorem ba_append_empty (a : ByteArray) : a ++ (⟨#[]⟩ : ByteArray) = a := by
  show a ++ ByteArray.empty = a
  simp
/-- What stands ahead when the loop has this number left. -/
def preN (n : Nat) : ByteArray := if n = 0 then ⟨#[]⟩ else digN n
theorem preN_step (n : Nat) (h : n ≠ 0) : preN n = preN (n / 10) ++ ⟨#[UInt8.ofNat (48 + n % 10)]⟩ := by
  unfold preN
  rw [if_neg h, digN]
  by_cases c : n < 10
  · rw [if_pos c, if_pos (by omega), ba_empty_append]
    congr 4; omega
  · rw [if_neg c, if_neg (by omega)]
def sgn (b : Bool) : ByteArray := if b then ⟨#[45]⟩ else ⟨#[]⟩
theorem strOne (x : Int) (d : Nat) (hd : d ≤ 9) (h : x = 48 + (d : Int)) : strOfNums [x % 256] = ⟨#[UInt8.ofNat (48 + d)]⟩ := by
  subst h
  have e : ((48 + (d : Int)) % 256).toNat = 48 + d := by omega
  simp [strOfNums, e]
theorem spec_Digits_l0 (k : Nat) : ∀ (x0 : Int) (b : Bool) (out : ByteArray), x0.natAbs < 10 ^ k → out.size + k ≤ 1000 → -9223372036854775808 ≤ x0 → x0 ≤ 9223372036854775807 → spec_Digits.l0 (k + 1) x0 b out = some (sgn b ++ (preN x0.natAbs ++ out)) := by
  have zero : ∀ (k : Nat) (x0 : Int) (b : Bool) (out : ByteArray), x0 = 0 → out.size + k ≤ 1000 → spec_Digits.l0 (k + 1) x0 b out = some (sgn b ++ (preN x0.natAbs ++ out)) := by
    intro k x0 b out h hs
    subst h
    have hp : preN (Int.natAbs 0) = ⟨#[]⟩ := rfl
    simp only [spec_Digits.l0, if_true, hp, ba_empty_append]
    cases b
    · simp [sgn, ba_empty_append]
    · have hk : 1 + out.size ≤ 9223372036854775807 := by omega
      simp only [sgn, if_true, if_pos hk]
  induction k with
  | zero => intro x0 b out h hs h0 h1; exact zero 0 x0 b out (by omega) hs
  | succ k ih =>
    intro x0 b out h hs h0 h1
    by_cases c : x0 = 0
    · exact zero (k + 1) x0 b out c hs
    · have hd : (Int.tdiv x0 10).natAbs = x0.natAbs / 10 ∧ -9223372036854775808 ≤ Int.tdiv x0 10 ∧ Int.tdiv x0 10 ≤ 9223372036854775807 := by
        by_cases cs : x0 < 0
        · have := Int.neg_tdiv (a := x0) (b := 10)
          rw [Int.tdiv_eq_ediv_of_nonneg (show 0 ≤ -x0 by omega)] at this
          omega
        · have := Int.tdiv_eq_ediv_of_nonneg (a := x0) (b := 10) (by omega)
          omega
      have hw : wrap64 (Int.tdiv x0 10) = Int.tdiv x0 10 := by unfold wrap64; omega
      have step : ∀ s : ByteArray, s = ⟨#[UInt8.ofNat (48 + x0.natAbs % 10)]⟩ → spec_Digits.l0 (k + 1) (wrap64 (Int.tdiv x0 10)) b (s ++ out) = some (sgn b ++ (preN x0.natAbs ++ out)) := by
        intro s hs'
        have e1 : s.size = 1 := by rw [hs']; rfl
        rw [hw, ih (Int.tdiv x0 10) b (s ++ out) (by rw [hd.1]; rw [Nat.pow_succ] at h; omega) (by rw [ba_size_append]; omega) hd.2.1 hd.2.2, hd.1, preN_step x0.natAbs (by omega), hs', ByteArray.append_assoc]
      have sz : ∀ s : ByteArray, s = ⟨#[UInt8.ofNat (48 + x0.natAbs % 10)]⟩ → s.size + out.size ≤ 9223372036854775807 := by
        intro s hs'
        have e1 : s.size = 1 := by rw [hs']; rfl
        omega
      rw [spec_Digits.l0, if_neg c]
      by_cases cm : Int.tmod x0 10 < 0
      · rw [if_pos cm]
        simp only [Option.bind_some]
        have e : strOfNums [wrap64 (48 + wrap64 (-(Int.tmod x0 10))) % 256] = ⟨#[UInt8.ofNat (48 + x0.natAbs % 10)]⟩ := by
          refine strOne _ _ (by omega) ?_
          have cs : x0 < 0 := by
            by_cases cs : x0 < 0
            · exact cs
            · have := Int.tmod_eq_emod_of_nonneg (a := x0) (b := 10) (by omega); omega
          have := Int.neg_tmod (a := x0) (b := 10)
          rw [Int.tmod_eq_emod_of_nonneg (show 0 ≤ -x0 by omega)] at this
          unfold wrap64
          omega
        rw [if_pos (sz _ e)]
        exact step _ e
      · rw [if_neg cm]
        simp only [Option.bind_some]
        have e : strOfNums [wrap64 (48 + Int.tmod x0 10) % 256] = ⟨#[UInt8.ofNat (48 + x0.natAbs % 10)]⟩ := by
          refine strOne _ _ (by omega) ?_
          have : Int.tmod x0 10 = ((x0.natAbs % 10 : Nat) : Int) := by
            by_cases cs : x0 < 0
            · have := Int.neg_tmod (a := x0) (b := 10)
              rw [Int.tmod_eq_emod_of_nonneg (show 0 ≤ -x0 by omega)] at this
              omega
            · have := Int.tmod_eq_emod_of_nonneg (a := x0) (b := 10) (by omega); omega
          rw [this]
          unfold wrap64
          omega
        rw [if_pos (sz _ e)]
        exact step _ e
theorem spec_Digits_some (k : Nat) (hk : 20 ≤ k) (hk2 : k ≤ 900) (z : Int) (h0 : -9223372036854775808 ≤ z) (h1 : z ≤ 9223372036854775807) : spec_Digits.f (k + 1) z = some (digI z) := by
  unfold spec_Digits.f digI
  by_cases c : z = 0
  · subst c
    rw [if_pos rfl, if_neg (by omega)]
    show _ = some (digN 0)
    rw [digN, if_pos (by omega)]
    rfl
  · have hp : z.natAbs < 10 ^ k := Nat.lt_of_lt_of_le (show z.natAbs < 10 ^ 20 by omega) (Nat.pow_le_pow_right (by omega) hk)
    rw [if_neg c, spec_Digits_l0 k z _ _ hp (by show 0 + k ≤ 1000; omega) h0 h1, ba_append_empty, preN, if_neg (by omega)]
    by_cases cs : z < 0
    · rw [if_pos cs, decide_eq_true cs]; rfl
    · rw [if_neg cs, decide_eq_false cs]
      show some ((⟨#[]⟩ : ByteArray) ++ _) = _
      rw [ba_empty_append]
theorem impl_Digits_some (k : Nat) (z : Int) (h0 : -9223372036854775808 ≤ z) (h1 : z ≤ 9223372036854775807) : impl_Digits.f k z = some (digI z) := by
  unfold impl_Digits.f
  rw [if_pos h0, if_pos h1]
theorem laws_toIntS_ev (l : List Int) (h : (l.length ≤ 1048576)) : Ev (fun k => laws_toIntS.f k l) (l) := by
  have hl : l.length ≤ 1048576 := h
  have key : ∀ i, i ≤ l.length → Ev (fun k => laws_toIntS.l0 k l ((l.take i) ++ List.replicate (l.length - i) 0) (i : Int)) (l) := by
    refine Ev_down (L := fun i k => laws_toIntS.l0 k l ((l.take i) ++ List.replicate (l.length - i) 0) (i : Int)) l.length ?_ ?_
    · refine Ev_at 1 (fun k => ?_)
      simp only [laws_toIntS.l0]
      rw [if_neg (by omega)]
      simp
    · intro i hi ih
      refine Ev.step (f := fun k => laws_toIntS.l0 k l ((l.take (i+1)) ++ List.replicate (l.length - (i+1)) 0) ((i+1 : Nat) : Int)) (fun k => ?_) ?_
      · simp only [laws_toIntS.l0]
        rw [if_pos (by omega), if_pos (by omega)]
        rw [if_pos (by simp; omega), wrap_up i (by omega)]
        congr 1
        exact set_fill_id l i hi 0 _ (by simp [rd, List.getD_eq_getElem?_getD, hi])
      · exact ih
  have := key 0 (Nat.zero_le _)
  have hc : ((l.length : Int) : Int).toNat ≤ 35184372088832 := by omega
  unfold laws_toIntS.f
  simp only [if_pos (Int.natCast_nonneg l.length), if_pos hc]
  simpa using this
theorem laws_eqIntS_refl (l : List Int) (h : (l.length ≤ 1048576)) : Ev (fun k => laws_eqIntS.f k l l) true := by
  have hl : l.length ≤ 1048576 := h
  have key : ∀ i, i ≤ l.length → Ev (fun k => laws_eqIntS.l0 k l l (i : Int)) true := by
    refine Ev_down (L := fun i k => laws_eqIntS.l0 k l l (i : Int)) l.length ?_ ?_
    · refine Ev_at 1 (fun k => ?_)
      simp only [laws_eqIntS.l0]
      rw [if_neg (by omega)]
    · intro i hi ih
      refine Ev.step (f := fun k => laws_eqIntS.l0 k l l ((i+1 : Nat) : Int)) (fun k => ?_) ih
      simp only [laws_eqIntS.l0]
      rw [if_pos (by omega), if_pos (by omega), if_pos (by omega), if_pos trivial, wrap_up i (by omega)]
  have := key 0 (Nat.zero_le _)
  unfold laws_eqIntS.f
  simp only [if_pos]
  exact this

theorem spec_Digits_ev (z : Int) (h0 : -9223372036854775808 ≤ z) (h1 : z ≤ 9223372036854775807) : Ev (fun k => spec_Digits.f k z) (digI z) := Ev_mono 21 (spec_Digits_some 20 (by omega) (by omega) z h0 h1) (fun k => spec_Digits.mono z k)
def outL (l : List Int) : List UInt8 := Lib.join (l.map fun z => (digI z).data.toList) [44]
def outB (l : List Int) : ByteArray := ⟨(outL l).toArray⟩
theorem join_snoc (xs : List (List UInt8)) (y sep : List UInt8) (h : xs ≠ []) : Lib.join (xs ++ [y]) sep = Lib.join xs sep ++ (sep ++ y) := by
  match xs, h with
  | x :: r, _ => rw [List.cons_append, Lib.join_cons, Lib.join_cons]; simp [Lib.joinTail]
theorem ba_ext (a b : ByteArray) (h : a.data.toList = b.data.toList) : a = b := by
  cases a; cases b; congr 1; exact Array.toList_inj.1 h
theorem outB_one (z : Int) : outB [z] = digI z := ba_ext _ _ (by simp [outB, outL, Lib.join_one])
theorem outB_snoc (l : List Int) (z : Int) (h : l ≠ []) : outB (l ++ [z]) = (outB l ++ (⟨#[44]⟩ : ByteArray)) ++ digI z := by
  refine ba_ext _ _ ?_
  have hm : (l.map fun z => (digI z).data.toList) ≠ [] := by simpa using h
  simp only [outB, outL, List.map_append, List.map_cons, List.map_nil]
  rw [join_snoc _ _ _ hm]
  simp [ByteArray.data_append]
theorem outB_size : ∀ (n : Nat) (l : List Int), l.length = n → (∀ z ∈ l, -9223372036854775808 ≤ z ∧ z ≤ 9223372036854775807) → (outB l).size ≤ 32 * n := by
  intro n
  induction n with
  | zero => intro l h _; obtain rfl : l = [] := List.eq_nil_of_length_eq_zero h; exact Nat.le_refl _
  | succ n ih =>
    intro l h hb
    have hne : l ≠ [] := fun e => by rw [e] at h; simp at h
    have hs := List.dropLast_concat_getLast hne
    have hz := hb (l.getLast hne) (List.getLast_mem hne)
    have hd := digI_small _ hz.1 hz.2
    have hl : l.dropLast.length = n := by rw [List.length_dropLast, h]; rfl
    have hb2 : ∀ z ∈ l.dropLast, -9223372036854775808 ≤ z ∧ z ≤ 9223372036854775807 := fun z hz => hb z ((List.dropLast_sublist l).subset hz)
    have hi := ih l.dropLast hl hb2
    rw [← hs]
    by_cases c : l.dropLast = []
    · rw [c, List.nil_append, outB_one]; omega
    · rw [outB_snoc _ _ c, ba_size_append, ba_size_append]
      have e : (⟨#[44]⟩ : ByteArray).size = 1 := rfl
      omega
theorem spec_NumsText_ev (l : List Int) (hl : l.length ≤ 1048576) (hb : ∀ z ∈ l, -9223372036854775808 ≤ z ∧ z ≤ 9223372036854775807) : Ev (fun k => spec_NumsText.f k l) (outB l) := by
  have key : ∀ i, i ≤ l.length → Ev (fun k => spec_NumsText.l0 k l (outB (l.take i)) (i : Int)) (outB l) := by
    refine Ev_down (L := fun i k => spec_NumsText.l0 k l (outB (l.take i)) (i : Int)) l.length ?_ ?_
    · refine Ev_at 1 (fun k => ?_)
      simp only [spec_NumsText.l0]
      rw [if_neg (by omega), List.take_length]
    · intro i hi ih
      have hz := hb l[i] (List.getElem_mem hi)
      have hd := digI_small _ hz.1 hz.2
      have hsz := outB_size i (l.take i) (by rw [List.length_take]; omega) (fun z h => hb z (List.mem_of_mem_take h))
      rw [List.take_succ_eq_append_getElem hi] at ih
      by_cases c : i = 0
      · subst c
        refine Ev.step (f := fun k => (spec_Digits.f k l[0]).bind fun t => if (outB (l.take 0)).size + t.size ≤ 9223372036854775807 then spec_NumsText.l0 k l (outB (l.take 0) ++ t) ((0 + 1 : Nat) : Int) else none) (fun k => ?_) ?_
        · simp only [spec_NumsText.l0]
          rw [if_pos (by omega), if_neg (by omega), if_pos (by omega), rd_at l 0 hi, wrap_up 0 (by omega)]
        · refine Ev.bind (spec_Digits_ev _ hz.1 hz.2) ?_
          have e : outB (l.take 0) ++ digI l[0] = outB (l.take 0 ++ [l[0]]) := by
            rw [List.take_zero, List.nil_append, outB_one]
            exact ba_empty_append _
          rw [← e] at ih
          have hk : (outB (l.take 0)).size + (digI l[0]).size ≤ 9223372036854775807 := by omega
          simp only [if_pos hk]
          exact ih
      · have hne : l.take i ≠ [] := fun e => by have := congrArg List.length e; simp only [List.length_take, List.length_nil] at this; omega
        refine Ev.step (f := fun k => (spec_Digits.f k l[i]).bind fun t => if (outB (l.take i) ++ (⟨#[44]⟩ : ByteArray)).size + t.size ≤ 9223372036854775807 then spec_NumsText.l0 k l ((outB (l.take i) ++ (⟨#[44]⟩ : ByteArray)) ++ t) ((i + 1 : Nat) : Int) else none) (fun k => ?_) ?_
        · simp only [spec_NumsText.l0]
          rw [if_pos (by omega), if_pos (by omega), if_pos (by omega), if_pos (by omega), rd_at l i hi, wrap_up i (by omega)]
        · refine Ev.bind (spec_Digits_ev _ hz.1 hz.2) ?_
          rw [outB_snoc _ _ hne] at ih
          have hk : (outB (l.take i) ++ (⟨#[44]⟩ : ByteArray)).size + (digI l[i]).size ≤ 9223372036854775807 := by
            rw [ba_size_append]
            have e : (⟨#[44]⟩ : ByteArray).size = 1 := rfl
            omega
          simp only [if_pos hk]
          exact ih
  exact key 0 (Nat.zero_le _)
theorem impl_NumsText_ev (l : List Int) (hl : l.length ≤ 1048576) (hb : ∀ z ∈ l, -9223372036854775808 ≤ z ∧ z ≤ 9223372036854775807) : Ev (fun k => impl_NumsText.f k l) (outB l) := by
  have hj : joinB (l.map digI) (⟨#[44]⟩ : ByteArray) = outB l := by
    unfold joinB outB outL
    rw [List.map_map]
    rfl
  have hs := outB_size l.length l rfl hb
  have key : ∀ i, i ≤ l.length → Ev (fun k => impl_NumsText.l0 k ((l.take i).map digI) l (l.length : Int) (i : Int)) (outB l) := by
    refine Ev_down (L := fun i k => impl_NumsText.l0 k ((l.take i).map digI) l (l.length : Int) (i : Int)) l.length ?_ ?_
    · refine Ev_at 1 (fun k => ?_)
      simp only [impl_NumsText.l0]
      rw [if_neg (by omega), List.take_length]
      unfold strings_Join.f
      rw [hj, if_pos (by rw [List.length_map]; omega), if_pos (by omega)]
      rfl
    · intro i hi ih
      have hz := hb l[i] (List.getElem_mem hi)
      rw [List.take_succ_eq_append_getElem hi, List.map_append, List.map_cons, List.map_nil] at ih
      refine Ev.step (f := fun k => impl_NumsText.l0 k ((l.take i).map digI ++ [digI l[i]]) l (l.length : Int) ((i + 1 : Nat) : Int)) (fun k => ?_) ih
      simp only [impl_NumsText.l0]
      rw [if_pos (by omega), if_pos (by omega), if_pos (by omega), rd_at l i hi, wrap_up i (by omega), impl_Digits_some _ _ hz.1 hz.2]
      simp only [Option.bind_some]
      rw [if_pos (by rw [List.length_map, List.length_take]; omega)]
  exact key 0 (Nat.zero_le _)
theorem FnExactNumsText : laws_FnExactNumsText.Pure := by
  intro l0 _ _ hw
  refine Ev.rounds (r := true) ?_
  have hb : ∀ z ∈ l0, -9223372036854775808 ≤ z ∧ z ≤ 9223372036854775807 := by
    intro z hz
    have h := hw z hz
    have h2 : IntKind.i64.min = -9223372036854775808 := by decide +kernel
    have h3 : IntKind.i64.max = 9223372036854775807 := by decide +kernel
    simp [Lit.wf, h2, h3] at h
    omega
  unfold laws_FnExactNumsText.f
  by_cases c : (l0.length : Int) > 1048576
  · simp only [if_pos c]; exact Ev.now _
  simp only [if_neg c]
  have hl : l0.length ≤ 1048576 := by omega
  refine Ev.bind (laws_toIntS_ev l0 hl) ?_
  refine Ev.bind (spec_NumsText_ev l0 hl hb) ?_
  refine Ev.bind (laws_toIntS_ev l0 hl) ?_
  refine Ev.bind (impl_NumsText_ev l0 hl hb) ?_
  simp only [if_true]
  refine Ev.bind (laws_toIntS_ev l0 hl) ?_
  refine Ev.bind (laws_eqIntS_refl l0 hl) ?_
  simp only [if_true]
  exact Ev.now _

end Go.Proofs.Ytblpbhhomocfbaa.Pure
