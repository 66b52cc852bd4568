/- The pure statement behind the law FnExactDigits: over plain integers, for every argument, the law's Lean function answers true. No condition beyond the number being an int64. -/
import Derived.Test.YtfncapgfhemmnaaPFnExactDigitsx1
namespace Go.Proofs.Ytfncapgfhemmnaa.Pure
open Go.RowKit Go.Proofs.Ytfncapgfhemmnaa.PFnExactDigits Go.Proofs.YtfncapgfhemmnaaW.PrintWords Go.Proofs.YtfncapgfhemmnaaW.PrintLast

theorem ba_empty_append (a : ByteArray) : (⟨#[]⟩ : ByteArray) ++ a = a := by
  show ByteArray.empty ++ a = a
  simp
theorem ba_append_empty (a : ByteArray) : a ++ (⟨#[]⟩ : ByteArray) = a := by
  show a ++ ByteArray.empty = a
  simp
/-- What stands ahead when the loop has this number left. -/
def preN (n : Nat) : ByteArray := if n = 0 then ⟨#[]⟩ else digN n
theorem preN_step (n : Nat) (h : n ≠ 0) : preN n = preN (n / 10) ++ ⟨#[UInt8.ofNat (48 + n % 10)]⟩ := by
  unfold preN
  rw [if_neg h, digN]
  by_cases c : n < 10
  · rw [if_pos c, if_pos (by omega), ba_empty_append]
    congr 4; omega
  · rw [if_neg c, if_neg (by omega)]
def sgn (b : Bool) : ByteArray := if b then ⟨#[45]⟩ else ⟨#[]⟩
theorem strOne (x : Int) (d : Nat) (hd : d ≤ 9) (h : x = 48 + (d : Int)) : strOfNums [x % 256] = ⟨#[UInt8.ofNat (48 + d)]⟩ := by
  subst h
  have e : ((48 + (d : Int)) % 256).toNat = 48 + d := by omega
  simp [strOfNums, e]
theorem spec_Digits_l0 (k : Nat) : ∀ (x0 : Int) (b : Bool) (out : ByteArray), x0.natAbs < 10 ^ k → out.size + k ≤ 1000 → -9223372036854775808 ≤ x0 → x0 ≤ 9223372036854775807 → spec_Digits.l0 (k + 1) x0 b out = some (sgn b ++ (preN x0.natAbs ++ out)) := by
  have zero : ∀ (k : Nat) (x0 : Int) (b : Bool) (out : ByteArray), x0 = 0 → out.size + k ≤ 1000 → spec_Digits.l0 (k + 1) x0 b out = some (sgn b ++ (preN x0.natAbs ++ out)) := by
    intro k x0 b out h hs
    subst h
    have hp : preN (Int.natAbs 0) = ⟨#[]⟩ := rfl
    simp only [spec_Digits.l0, if_true, hp, ba_empty_append]
    cases b
    · simp [sgn, ba_empty_append]
    · have hk : 1 + out.size ≤ 9223372036854775807 := by omega
      simp only [sgn, if_true, if_pos hk]
  induction k with
  | zero => intro x0 b out h hs h0 h1; exact zero 0 x0 b out (by omega) hs
  | succ k ih =>
    intro x0 b out h hs h0 h1
    by_cases c : x0 = 0
    · exact zero (k + 1) x0 b out c hs
    · have hd : (Int.tdiv x0 10).natAbs = x0.natAbs / 10 ∧ -9223372036854775808 ≤ Int.tdiv x0 10 ∧ Int.tdiv x0 10 ≤ 9223372036854775807 := by
        by_cases cs : x0 < 0
        · have := Int.neg_tdiv (a := x0) (b := 10)
          rw [Int.tdiv_eq_ediv_of_nonneg (show 0 ≤ -x0 by omega)] at this
          omega
        · have := Int.tdiv_eq_ediv_of_nonneg (a := x0) (b := 10) (by omega)
          omega
      have hw : wrap64 (Int.tdiv x0 10) = Int.tdiv x0 10 := by unfold wrap64; omega
      have step : ∀ s : ByteArray, s = ⟨#[UInt8.ofNat (48 + x0.natAbs % 10)]⟩ → spec_Digits.l0 (k + 1) (wrap64 (Int.tdiv x0 10)) b (s ++ out) = some (sgn b ++ (preN x0.natAbs ++ out)) := by
        intro s hs'
        have e1 : s.size = 1 := by rw [hs']; rfl
        rw [hw, ih (Int.tdiv x0 10) b (s ++ out) (by rw [hd.1]; rw [Nat.pow_succ] at h; omega) (by rw [ba_size_append]; omega) hd.2.1 hd.2.2, hd.1, preN_step x0.natAbs (by omega), hs', ByteArray.append_assoc]
      have sz : ∀ s : ByteArray, s = ⟨#[UInt8.ofNat (48 + x0.natAbs % 10)]⟩ → s.size + out.size ≤ 9223372036854775807 := by
        intro s hs'
        have e1 : s.size = 1 := by rw [hs']; rfl
        omega
      rw [spec_Digits.l0, if_neg c]
      by_cases cm : Int.tmod x0 10 < 0
      · rw [if_pos cm]
        simp only [Option.bind_some]
        have e : strOfNums [wrap64 (48 + wrap64 (-(Int.tmod x0 10))) % 256] = ⟨#[UInt8.ofNat (48 + x0.natAbs % 10)]⟩ := by
          refine strOne _ _ (by omega) ?_
          have cs : x0 < 0 := by
            by_cases cs : x0 < 0
            · exact cs
            · have := Int.tmod_eq_emod_of_nonneg (a := x0) (b := 10) (by omega); omega
          have := Int.neg_tmod (a := x0) (b := 10)
          rw [Int.tmod_eq_emod_of_nonneg (show 0 ≤ -x0 by omega)] at this
          unfold wrap64
          omega
        rw [if_pos (sz _ e)]
        exact step _ e
      · rw [if_neg cm]
        simp only [Option.bind_some]
        have e : strOfNums [wrap64 (48 + Int.tmod x0 10) % 256] = ⟨#[UInt8.ofNat (48 + x0.natAbs % 10)]⟩ := by
          refine strOne _ _ (by omega) ?_
          have : Int.tmod x0 10 = ((x0.natAbs % 10 : Nat) : Int) := by
            by_cases cs : x0 < 0
            · have := Int.neg_tmod (a := x0) (b := 10)
              rw [Int.tmod_eq_emod_of_nonneg (show 0 ≤ -x0 by omega)] at this
              omega
            · have := Int.tmod_eq_emod_of_nonneg (a := x0) (b := 10) (by omega); omega
          rw [this]
          unfold wrap64
          omega
        rw [if_pos (sz _ e)]
        exact step _ e
theorem spec_Digits_some (k : Nat) (hk : 20 ≤ k) (hk2 : k ≤ 900) (z : Int) (h0 : -9223372036854775808 ≤ z) (h1 : z ≤ 9223372036854775807) : spec_Digits.f (k + 1) z = some (digI z) := by
  unfold spec_Digits.f digI
  by_cases c : z = 0
  · subst c
    rw [if_pos rfl, if_neg (by omega)]
    show _ = some (digN 0)
    rw [digN, if_pos (by omega)]
    rfl
  · have hp : z.natAbs < 10 ^ k := Nat.lt_of_lt_of_le (show z.natAbs < 10 ^ 20 by omega) (Nat.pow_le_pow_right (by omega) hk)
    rw [if_neg c, spec_Digits_l0 k z _ _ hp (by show 0 + k ≤ 1000; omega) h0 h1, ba_append_empty, preN, if_neg (by omega)]
    by_cases cs : z < 0
    · rw [if_pos cs, decide_eq_true cs]; rfl
    · rw [if_neg cs, decide_eq_false cs]
      show some ((⟨#[]⟩ : ByteArray) ++ _) = _
      rw [ba_empty_append]
theorem impl_Digits_some (k : Nat) (z : Int) (h0 : -9223372036854775808 ≤ z) (h1 : z ≤ 9223372036854775807) : impl_Digits.f k z = some (digI z) := by
  unfold impl_Digits.f
  rw [if_pos h0, if_pos h1]

theorem FnExactDigits : laws_FnExactDigits.Pure := by
  intro a0 h
  have hb : -9223372036854775808 ≤ a0 ∧ a0 ≤ 9223372036854775807 := by
    have h2 : IntKind.i64.min = -9223372036854775808 := by decide +kernel
    have h3 : IntKind.i64.max = 9223372036854775807 := by decide +kernel
    simp [Lit.wf, h2, h3] at h
    omega
  refine ⟨21, ?_⟩
  unfold laws_FnExactDigits.f
  rw [spec_Digits_some 20 (by omega) (by omega) a0 hb.1 hb.2, impl_Digits_some _ a0 hb.1 hb.2]
  simp

end Go.Proofs.Ytfncapgfhemmnaa.Pure
