/- The pure statement behind the law FnExactNumber: over plain values, for every argument, the law's Lean function answers true. No condition beyond the law's own. -/
import Derived.Test.YtblpbhhomocfbaaPFnExactNumberx1
import Derived.Laws.Strings
namespace Go.Proofs.Ytblpbhhomocfbaa.Pure
open Go.RowKit Go.Proofs.Ytblpbhhomocfbaa.PFnExactNumber Go.Proofs.YtblpbhhomocfbaaW.PrintWords Go.Proofs.YtblpbhhomocfbaaW.PrintLast

theorem ba_empty_append (a : ByteArray) : (⟨#[]⟩ : ByteArray) ++ a = a := by
  show ByteArray.empty ++ a = a
  simp
theorem ba_append_empty (a : ByteArray) : a ++ (⟨#[]⟩ : ByteArray) = a := by
  show a ++ ByteArray.empty = a
  simp
/-- What stands ahead when the loop has this number left. -/
def preN (n : Nat) : ByteArray := if n = 0 then ⟨#[]⟩ else digN n
theorem preN_step (n : Nat) (h : n ≠ 0) : preN n = preN (n / 10) ++ ⟨#[UInt8.ofNat (48 + n % 10)]⟩ := by
  unfold preN
  rw [if_neg h, digN]
  by_cases c : n < 10
  · rw [if_pos c, if_pos (by omega), ba_empty_append]
    congr 4; omega
  · rw [if_neg c, if_neg (by omega)]
def sgn (b : Bool) : ByteArray := if b then ⟨#[45]⟩ else ⟨#[]⟩
theorem strOne (x : Int) (d : Nat) (hd : d ≤ 9) (h : x = 48 + (d : Int)) : strOfNums [x % 256] = ⟨#[UInt8.ofNat (48 + d)]⟩ := by
  subst h
  have e : ((48 + (d : Int)) % 256).toNat = 48 + d := by omega
  simp [strOfNums, e]
theorem spec_Digits_l0 (k : Nat) : ∀ (x0 : Int) (b : Bool) (out : ByteArray), x0.natAbs < 10 ^ k → out.size + k ≤ 1000 → -9223372036854775808 ≤ x0 → x0 ≤ 9223372036854775807 → spec_Digits.l0 (k + 1) x0 b out = some (sgn b ++ (preN x0.natAbs ++ out)) := by
  have zero : ∀ (k : Nat) (x0 : Int) (b : Bool) (out : ByteArray), x0 = 0 → out.size + k ≤ 1000 → spec_Digits.l0 (k + 1) x0 b out = some (sgn b ++ (preN x0.natAbs ++ out)) := by
    intro k x0 b out h hs
    subst h
    have hp : preN (Int.natAbs 0) = ⟨#[]⟩ := rfl
    simp only [spec_Digits.l0, if_true, hp, ba_empty_append]
    cases b
    · simp [sgn, ba_empty_append]
    · have hk : 1 + out.size ≤ 9223372036854775807 := by omega
      simp only [sgn, if_true, if_pos hk]
  induction k with
  | zero => intro x0 b out h hs h0 h1; exact zero 0 x0 b out (by omega) hs
  | succ k ih =>
    intro x0 b out h hs h0 h1
    by_cases c : x0 = 0
    · exact zero (k + 1) x0 b out c hs
    · have hd : (Int.tdiv x0 10).natAbs = x0.natAbs / 10 ∧ -9223372036854775808 ≤ Int.tdiv x0 10 ∧ Int.tdiv x0 10 ≤ 9223372036854775807 := by
        by_cases cs : x0 < 0
        · have := Int.neg_tdiv (a := x0) (b := 10)
          rw [Int.tdiv_eq_ediv_of_nonneg (show 0 ≤ -x0 by omega)] at this
          omega
        · have := Int.tdiv_eq_ediv_of_nonneg (a := x0) (b := 10) (by omega)
          omega
      have hw : wrap64 (Int.tdiv x0 10) = Int.tdiv x0 10 := by unfold wrap64; omega
      have step : ∀ s : ByteArray, s = ⟨#[UInt8.ofNat (48 + x0.natAbs % 10)]⟩ → spec_Digits.l0 (k + 1) (wrap64 (Int.tdiv x0 10)) b (s ++ out) = some (sgn b ++ (preN x0.natAbs ++ out)) := by
        intro s hs'
        have e1 : s.size = 1 := by rw [hs']; rfl
        rw [hw, ih (Int.tdiv x0 10) b (s ++ out) (by rw [hd.1]; rw [Nat.pow_succ] at h; omega) (by rw [ba_size_append]; omega) hd.2.1 hd.2.2, hd.1, preN_step x0.natAbs (by omega), hs', ByteArray.append_assoc]
      have sz : ∀ s : ByteArray, s = ⟨#[UInt8.ofNat (48 + x0.natAbs % 10)]⟩ → s.size + out.size ≤ 9223372036854775807 := by
        intro s hs'
        have e1 : s.size = 1 := by rw [hs']; rfl
        omega
      rw [spec_Digits.l0, if_neg c]
      by_cases cm : Int.tmod x0 10 < 0
      · rw [if_pos cm]
        simp only [Option.bind_some]
        have e : strOfNums [wrap64 (48 + wrap64 (-(Int.tmod x0 10))) % 256] = ⟨#[UInt8.ofNat (48 + x0.natAbs % 10)]⟩ := by
          refine strOne _ _ (by omega) ?_
          have cs : x0 < 0 := by
            by_cases cs : x0 < 0
            · exact cs
            · have := Int.tmod_eq_emod_of_nonneg (a := x0) (b := 10) (by omega); omega
          have := Int.neg_tmod (a := x0) (b := 10)
          rw [Int.tmod_eq_emod_of_nonneg (show 0 ≤ -x0 by omega)] at this
          unfold wrap64
          omega
        rw [if_pos (sz _ e)]
        exact step _ e
      · rw [if_neg cm]
        simp only [Option.bind_some]
        have e : strOfNums [wrap64 (48 + Int.tmod x0 10) % 256] = ⟨#[UInt8.ofNat (48 + x0.natAbs % 10)]⟩ := by
          refine strOne _ _ (by omega) ?_
          have : Int.tmod x0 10 = ((x0.natAbs % 10 : Nat) : Int) := by
            by_cases cs : x0 < 0
            · have := Int.neg_tmod (a := x0) (b := 10)
              rw [Int.tmod_eq_emod_of_nonneg (show 0 ≤ -x0 by omega)] at this
              omega
            · have := Int.tmod_eq_emod_of_nonneg (a := x0) (b := 10) (by omega); omega
          rw [this]
          unfold wrap64
          omega
        rw [if_pos (sz _ e)]
        exact step _ e
theorem spec_Digits_some (k : Nat) (hk : 20 ≤ k) (hk2 : k ≤ 900) (z : Int) (h0 : -9223372036854775808 ≤ z) (h1 : z ≤ 9223372036854775807) : spec_Digits.f (k + 1) z = some (digI z) := by
  unfold spec_Digits.f digI
  by_cases c : z = 0
  · subst c
    rw [if_pos rfl, if_neg (by omega)]
    show _ = some (digN 0)
    rw [digN, if_pos (by omega)]
    rfl
  · have hp : z.natAbs < 10 ^ k := Nat.lt_of_lt_of_le (show z.natAbs < 10 ^ 20 by omega) (Nat.pow_le_pow_right (by omega) hk)
    rw [if_neg c, spec_Digits_l0 k z _ _ hp (by show 0 + k ≤ 1000; omega) h0 h1, ba_append_empty, preN, if_neg (by omega)]
    by_cases cs : z < 0
    · rw [if_pos cs, decide_eq_true cs]; rfl
    · rw [if_neg cs, decide_eq_false cs]
      show some ((⟨#[]⟩ : ByteArray) ++ _) = _
      rw [ba_empty_append]
theorem impl_Digits_some (k : Nat) (z : Int) (h0 : -9223372036854775808 ≤ z) (h1 : z ≤ 9223372036854775807) : impl_Digits.f k z = some (digI z) := by
  unfold impl_Digits.f
  rw [if_pos h0, if_pos h1]

theorem Number_l0 (a0 : ByteArray) (hs : a0.size ≤ 6) : ∀ (d i : Nat) (n : Int), i + d = a0.size → 0 ≤ n → n < 10 ^ i → ∃ r, spec_Number.l0 (d + 22) a0 n i = some r ∧ impl_Number.l0 (d + 22) a0 n (a0.size : Int) i = some r := by
  intro d
  induction d with
  | zero =>
    intro i n hi h0 h1
    have hp : (10 : Int) ^ i ≤ 10 ^ 6 := by
      have := Nat.pow_le_pow_right (n := 10) (by omega) (show i ≤ 6 by omega)
      exact_mod_cast this
    have c : ¬ (i : Int) < (a0.size : Int) := by omega
    refine ⟨if (digI n).toList = a0.toList then (n, true) else (0, false), ?_, ?_⟩
    · simp only [spec_Number.l0, if_neg c]
      rw [spec_Digits_some 20 (by omega) (by omega) n (by omega) (by omega)]
      simp only [Option.bind_some]
      split <;> rfl
    · simp only [impl_Number.l0, if_neg c]
      rw [impl_Digits_some _ n (by omega) (by omega)]
      simp only [Option.bind_some]
      split <;> rfl
  | succ d ih =>
    intro i n hi h0 h1
    have hp : (10 : Int) ^ (i + 1) ≤ 10 ^ 6 := by
      have := Nat.pow_le_pow_right (n := 10) (by omega) (show i + 1 ≤ 6 by omega)
      exact_mod_cast this
    have hp2 : (10 : Int) ^ (i + 1) = 10 ^ i * 10 := Int.pow_succ 10 i
    have c : (i : Int) < (a0.size : Int) := by omega
    have p : 0 ≤ (i : Int) := by omega
    have ew : wrap64 ((i : Int) + 1) = ((i + 1 : Nat) : Int) := by unfold wrap64; omega
    rw [show d + 1 + 22 = (d + 22) + 1 by omega]
    simp only [spec_Number.l0, impl_Number.l0, if_pos c, if_pos p, ew]
    by_cases c1 : bt a0 (i : Int) < 48
    · simp only [if_pos c1]; exact ⟨_, rfl, rfl⟩
    · by_cases c2 : bt a0 (i : Int) > 57
      · simp only [if_neg c1, if_pos c2]; exact ⟨_, rfl, rfl⟩
      · simp only [if_neg c1, if_neg c2]
        generalize bt a0 (i : Int) = b at c1 c2
        have e1 : wrap64 (wrap64 (wrap64 (10 * n) + wrap64 b) - 48) = 10 * n + (b - 48) := by unfold wrap64; omega
        have e2 : wrap64 (wrap64 (10 * n) + (b - 48) % 256) = 10 * n + (b - 48) := by unfold wrap64; omega
        rw [e1, e2]
        exact ih (i + 1) _ (by omega) (by omega) (by omega)
theorem FnExactNumber : laws_FnExactNumber.Pure := by
  intro a0 _
  refine ⟨40, ?_⟩
  have hl : a0.toList.length = a0.size := by rw [ByteArray.toList_eq]; exact Array.length_toList
  have key : ∃ r, spec_Number.f 40 a0 = some r ∧ impl_Number.f 40 a0 = some r := by
    unfold spec_Number.f impl_Number.f
    by_cases c0 : a0.size = 0
    · have e : a0.toList = ([] : List UInt8) := List.eq_nil_of_length_eq_zero (by omega)
      rw [if_pos (by omega), if_pos e]
      exact ⟨(0, false), rfl, rfl⟩
    · have e : ¬ a0.toList = ([] : List UInt8) := fun h => by rw [h] at hl; simp at hl; omega
      rw [if_neg (by omega), if_neg e]
      by_cases c6 : (a0.size : Int) > 6
      · rw [decide_eq_true c6]
        exact ⟨(0, false), rfl, rfl⟩
      · rw [decide_eq_false c6]
        simp only [spec_Number.j0, impl_Number.j0, Bool.false_eq_true, if_false]
        obtain ⟨r, e1, e2⟩ := Number_l0 a0 (by omega) a0.size 0 0 (by omega) (by omega) (by decide)
        refine ⟨r, ?_, ?_⟩
        · have : ∀ j, spec_Number.l0 (a0.size + 22 + j) a0 0 0 = some r := by
            intro j
            induction j with
            | zero => exact e1
            | succ j ih => exact (spec_Number.mono_l _).2 _ _ _ r ih
          have h := this (39 - (a0.size + 22))
          rwa [show a0.size + 22 + (39 - (a0.size + 22)) = 39 by omega] at h
        · have : ∀ j, impl_Number.l0 (a0.size + 22 + j) a0 0 (a0.size : Int) 0 = some r := by
            intro j
            induction j with
            | zero => exact e2
            | succ j ih => exact (impl_Number.mono_l _).2 _ _ _ _ r ih
          have h := this (39 - (a0.size + 22))
          rwa [show a0.size + 22 + (39 - (a0.size + 22)) = 39 by omega] at h
  obtain ⟨r, e1, e2⟩ := key
  unfold laws_FnExactNumber.f
  by_cases c : (a0.size : Int) > 1048576
  · rw [if_pos c]
  · rw [if_neg c, e1, e2]
    simp

end Go.Proofs.Ytblpbhhomocfbaa.Pure
