/- The pure statement behind the law FnNumbers: over plain values, for every argument, the law's Lean function answers true. No condition beyond the law's own. -/
import Derived.Test.YtmkhghbalnadlaaDoorPFnNumbersx4
import Derived.Laws.Strings
namespace Go.Proofs.YtmkhghbalnadlaaDoor.Pure
set_option linter.unusedVariables false
set_option linter.unusedSimpArgs false
open Go.RowKit Go.Proofs.YtmkhghbalnadlaaDoor.PFnNumbers Go.Proofs.YtmkhghbalnadlaaDoorW.PrintWords Go.Proofs.YtmkhghbalnadlaaDoorW.PrintLast

theorem Ev_at {α : Type} {g : Nat → Option α} {r : α} (n : Nat) (h : ∀ k, g (k + n) = some r) : Ev g r := ⟨n, fun k hk => by
  obtain ⟨m, rfl⟩ : ∃ m, k = m + n := ⟨k - n, by omega⟩
  exact h m⟩
theorem Ev_down {α : Type} {L : Nat → Nat → Option α} {r : α} (n : Nat) (hn : Ev (L n) r) (hs : ∀ i, i < n → Ev (L (i + 1)) r → Ev (L i) r) : ∀ i, i ≤ n → Ev (L i) r := by
  have key : ∀ d i, i + d = n → Ev (L i) r := by
    intro d
    induction d with
    | zero => intro i h; obtain rfl : i = n := by omega
              exact hn
    | succ d ih => intro i h; exact hs i (by omega) (ih (i + 1) (by omega))
  exact fun i h => key (n - i) i (by omega)
theorem wrap_up (i : Nat) (h : i < 9223372036854775807) : wrap64 ((i : Int) + 1) = ((i + 1 : Nat) : Int) := by unfold wrap64; omega
theorem set_fill {α β : Type} (l : List α) (i : Nat) (hi : i < l.length) (z : β) (f : α → β) (v : β) (hv : v = f (l[i]'hi)) :
    ((l.take i).map f ++ List.replicate (l.length - i) z).set (i : Int).toNat v = (l.take (i + 1)).map f ++ List.replicate (l.length - (i + 1)) z := by
  subst hv
  have h1 : ((l.take i).map f).length = i := by simp; omega
  rw [Int.toNat_natCast, List.set_append, if_neg (by omega), h1, Nat.sub_self]
  obtain ⟨m, hm⟩ : ∃ m, l.length - i = m + 1 := ⟨l.length - i - 1, by omega⟩
  rw [hm, List.replicate_succ, List.set_cons_zero, show l.length - (i + 1) = m by omega, List.take_succ_eq_append_getElem hi, List.map_append, List.append_assoc]
  rfl
theorem set_fill_id {α : Type} (l : List α) (i : Nat) (hi : i < l.length) (z : α) (v : α) (hv : v = l[i]'hi) :
    (l.take i ++ List.replicate (l.length - i) z).set (i : Int).toNat v = l.take (i + 1) ++ List.replicate (l.length - (i + 1)) z := by
  have := set_fill l i hi z id v hv
  simpa using this
theorem Ev_downR {α : Type} {L : Nat → Nat → Option α} {R : Nat → α} (n : Nat) (hn : Ev (L n) (R n)) (hs : ∀ i, i < n → Ev (L (i + 1)) (R (i + 1)) → Ev (L i) (R i)) : ∀ i, i ≤ n → Ev (L i) (R i) := by
  have key : ∀ d i, i + d = n → Ev (L i) (R i) := by
    intro d
    induction d with
    | zero => intro i h; obtain rfl : i = n := by omega
              exact hn
    | succ d ih => intro i h; exact hs i (by omega) (ih (i + 1) (by omega))
  exact fun i h => key (n - i) i (by omega)
theorem rd_at (l : List Int) (i : Nat) (hi : i < l.length) : rd l (i : Int) = l[i] := by simp [rd, List.getD_eq_getElem?_getD, hi]
theorem mark_fill {α : Type} (g : Nat → α) (l : List α) (i : Nat) (hi : i < l.length) : ((List.range i).map g ++ l.drop i).set i (g i) = (List.range (i + 1)).map g ++ l.drop (i + 1) := by
  rw [List.set_append, if_neg (by simp), List.length_map, List.length_range, Nat.sub_self, List.drop_eq_getElem_cons hi, List.set_cons_zero, List.range_succ, List.map_append, List.append_assoc]
  rfl
theorem Ev_pos {α : Type} {x : Int} {g : Nat → Option α} {r : α} (h : 0 ≤ x) : Ev (fun k => if x < 0 then none else g k) r = Ev g r := by
  have h' : ¬ x < 0 := by omega
  simp only [if_neg h']
theorem Ev_mono {α : Type} {g : Nat → Option α} {r : α} (n : Nat) (h : g n = some r) (hm : ∀ k, LeO (g k) (g (k + 1))) : Ev g r := ⟨n, fun k hk => by
  obtain ⟨m, rfl⟩ : ∃ m, k = n + m := ⟨k - n, by omega⟩
  clear hk
  induction m with
  | zero => exact h
  | succ m ih => exact hm _ _ ih⟩
theorem and255 (x : Int) : 0 ≤ Go.bits .and .i64 x 255 ∧ Go.bits .and .i64 x 255 ≤ 255 := by
  have h : ((BitVec.ofInt 64 x).toNat &&& (BitVec.ofInt 64 255).toNat) ≤ 255 := Nat.le_trans Nat.and_le_right (by decide)
  have e : Go.bits .and .i64 x 255 = (((BitVec.ofInt 64 x).toNat &&& (BitVec.ofInt 64 255).toNat : Nat) : Int) := by
    show IntKind.i64.wrap ((BitVec.ofInt 64 x &&& BitVec.ofInt 64 255).toNat : Int) = _
    rw [IntKind.wrap_i64, BitVec.toNat_and]
    omega
  rw [e]
  omega
theorem l1Byte_some (l : List Int) (i h : Int) (hi : 0 ≤ i) (hl : l.length ≤ 1048576) : ∃ x i' h', spec_l1Byte.f l i h = some (x, i', h') ∧ 0 ≤ x ∧ x ≤ 255 ∧ 0 ≤ i' := by
  unfold spec_l1Byte.f
  by_cases c : i < (l.length : Int)
  · rw [if_pos c, if_pos hi]
    refine ⟨_, _, _, rfl, (and255 _).1, (and255 _).2, ?_⟩
    unfold wrap64; omega
  · rw [if_neg c]
    exact ⟨_, _, _, rfl, (and255 _).1, (and255 _).2, hi⟩
theorem tmod_lo (a b : Int) (ha : 0 ≤ a) (hb : 0 < b) : 0 ≤ Int.tmod a b ∧ Int.tmod a b < b := by
  rw [Int.tmod_eq_emod_of_nonneg ha]
  exact ⟨Int.emod_nonneg _ (by omega), Int.emod_lt_of_pos _ hb⟩
theorem l1Below_some (l : List Int) (i h n : Int) (hi : 0 ≤ i) (hl : l.length ≤ 1048576) : ∃ x i' h', spec_l1Below.f l i h n = some (x, i', h') ∧ 0 ≤ x ∧ (0 < n → x < n) ∧ (n ≤ 0 → x = 0) ∧ 0 ≤ i' := by
  unfold spec_l1Below.f
  by_cases c : n ≤ 0
  · rw [if_pos c]
    exact ⟨_, _, _, rfl, by omega, by omega, fun _ => rfl, hi⟩
  · rw [if_neg c]
    have c0 : ¬ n = 0 := by omega
    obtain ⟨x, i1, h1, e1, x0, x1, i10⟩ := l1Byte_some l i h hi hl
    simp only [e1, Option.bind_some, if_neg c0]
    by_cases c2 : n ≤ 256
    · rw [if_pos c2]
      have := tmod_lo x n x0 (by omega)
      exact ⟨_, _, _, rfl, this.1, fun _ => this.2, by omega, i10⟩
    · rw [if_neg c2]
      obtain ⟨y, i2, h2, e2, y0, y1, i20⟩ := l1Byte_some l i1 h1 i10 hl
      obtain ⟨z, i3, h3, e3, z0, z1, i30⟩ := l1Byte_some l i2 h2 i20 hl
      obtain ⟨u, i4, h4, e4, u0, u1, i40⟩ := l1Byte_some l i3 h3 i30 hl
      simp only [e2, e3, e4, Option.bind_some]
      have e : 0 ≤ wrap64 ((wrap64 ((wrap64 ((wrap64 (x * 16777216)) + (wrap64 (y * 65536)))) + (wrap64 (z * 256)))) + u) := by unfold wrap64; omega
      have := tmod_lo _ n e (by omega)
      exact ⟨_, _, _, rfl, this.1, fun _ => this.2, by omega, i40⟩
theorem l1New_ev (l : List Int) (hl : l.length ≤ 1048576) : ∃ h, Ev (fun k => spec_l1New.f k l) (l, 0, h) := by
  have key : ∀ d i : Nat, i + d = l.length → ∀ h : Int, ∃ h', Ev (fun k => spec_l1New.l0 k l h (i : Int)) (l, 0, h') := by
    intro d
    induction d with
    | zero =>
      intro i hi h
      refine ⟨h, Ev_at 1 (fun k => ?_)⟩
      simp only [spec_l1New.l0]
      rw [if_neg (by omega)]
    | succ d ih =>
      intro i hi h
      by_cases c : (i : Int) < 4000
      · obtain ⟨h', he⟩ := ih (i + 1) (by omega) (Go.bits .and .i64 (wrap64 ((wrap64 ((wrap64 (h * 131)) + (wrap64 (rd l i)))) + 7)) 1073741823)
        refine ⟨h', Ev.step (f := fun k => spec_l1New.l0 k l (Go.bits .and .i64 (wrap64 ((wrap64 ((wrap64 (h * 131)) + (wrap64 (rd l i)))) + 7)) 1073741823) ((i + 1 : Nat) : Int)) (fun k => ?_) he⟩
        simp only [spec_l1New.l0]
        rw [if_pos (by omega), if_pos c, if_pos (by omega), wrap_up i (by omega)]
      · refine ⟨h, Ev_at 1 (fun k => ?_)⟩
        simp only [spec_l1New.l0]
        rw [if_pos (by omega), if_neg c]
  obtain ⟨h, he⟩ := key l.length 0 (by omega) (wrap64 (27323 + (l.length : Int)))
  exact ⟨h, he⟩
theorem l1PickInt_some (l : List Int) (i h : Int) (xs : List Int) (hi : 0 ≤ i) (hl : l.length ≤ 1048576) (hx : 0 < xs.length) : ∃ v i' h', spec_l1PickInt.f l i h xs = some (v, i', h') ∧ v ∈ xs ∧ 0 ≤ i' := by
  obtain ⟨x, i', h', e, x0, x1, _, hi'⟩ := l1Below_some l i h (xs.length : Int) hi hl
  have x2 := x1 (by omega)
  refine ⟨rd xs x, i', h', ?_, ?_, hi'⟩
  · unfold spec_l1PickInt.f
    simp only [e, Option.bind_some]
    rw [if_pos x0, if_pos x2]
  · have hx2 : x.toNat < xs.length := by omega
    have : rd xs x = xs[x.toNat] := by simp [rd, List.getD_eq_getElem?_getD, hx2]
    rw [this]
    exact List.getElem_mem hx2
theorem ba_empty_append (a : ByteArray) : (⟨#[]⟩ : ByteArray) ++ a = a := by
  show ByteArray.empty ++ a = a
  simp
theorem ba_append_empty (a : ByteArray) : a ++ (⟨#[]⟩ : ByteArray) = a := by
  show a ++ ByteArray.empty = a
  simp
/-- What stands ahead when the loop has this number left. -/
def preN (n : Nat) : ByteArray := if n = 0 then ⟨#[]⟩ else digN n
theorem preN_step (n : Nat) (h : n ≠ 0) : preN n = preN (n / 10) ++ ⟨#[UInt8.ofNat (48 + n % 10)]⟩ := by
  unfold preN
  rw [if_neg h, digN]
  by_cases c : n < 10
  · rw [if_pos c, if_pos (by omega), ba_empty_append]
    congr 4; omega
  · rw [if_neg c, if_neg (by omega)]
def sgn (b : Bool) : ByteArray := if b then ⟨#[45]⟩ else ⟨#[]⟩
theorem strOne (x : Int) (d : Nat) (hd : d ≤ 9) (h : x = 48 + (d : Int)) : strOfNums [x % 256] = ⟨#[UInt8.ofNat (48 + d)]⟩ := by
  subst h
  have e : ((48 + (d : Int)) % 256).toNat = 48 + d := by omega
  simp [strOfNums, e]
theorem spec_Digits_l0 (k : Nat) : ∀ (x0 : Int) (b : Bool) (out : ByteArray), x0.natAbs < 10 ^ k → out.size + k ≤ 1000 → -9223372036854775808 ≤ x0 → x0 ≤ 9223372036854775807 → spec_Digits.l0 (k + 1) x0 b out = some (sgn b ++ (preN x0.natAbs ++ out)) := by
  have zero : ∀ (k : Nat) (x0 : Int) (b : Bool) (out : ByteArray), x0 = 0 → out.size + k ≤ 1000 → spec_Digits.l0 (k + 1) x0 b out = some (sgn b ++ (preN x0.natAbs ++ out)) := by
    intro k x0 b out h hs
    subst h
    have hp : preN (Int.natAbs 0) = ⟨#[]⟩ := rfl
    simp only [spec_Digits.l0, if_true, hp, ba_empty_append]
    cases b
    · simp [sgn, ba_empty_append]
    · have hk : 1 + out.size ≤ 9223372036854775807 := by omega
      simp only [sgn, if_true, if_pos hk]
  induction k with
  | zero => intro x0 b out h hs h0 h1; exact zero 0 x0 b out (by omega) hs
  | succ k ih =>
    intro x0 b out h hs h0 h1
    by_cases c : x0 = 0
    · exact zero (k + 1) x0 b out c hs
    · have hd : (Int.tdiv x0 10).natAbs = x0.natAbs / 10 ∧ -9223372036854775808 ≤ Int.tdiv x0 10 ∧ Int.tdiv x0 10 ≤ 9223372036854775807 := by
        by_cases cs : x0 < 0
        · have := Int.neg_tdiv (a := x0) (b := 10)
          rw [Int.tdiv_eq_ediv_of_nonneg (show 0 ≤ -x0 by omega)] at this
          omega
        · have := Int.tdiv_eq_ediv_of_nonneg (a := x0) (b := 10) (by omega)
          omega
      have hw : wrap64 (Int.tdiv x0 10) = Int.tdiv x0 10 := by unfold wrap64; omega
      have step : ∀ s : ByteArray, s = ⟨#[UInt8.ofNat (48 + x0.natAbs % 10)]⟩ → spec_Digits.l0 (k + 1) (wrap64 (Int.tdiv x0 10)) b (s ++ out) = some (sgn b ++ (preN x0.natAbs ++ out)) := by
        intro s hs'
        have e1 : s.size = 1 := by rw [hs']; rfl
        rw [hw, ih (Int.tdiv x0 10) b (s ++ out) (by rw [hd.1]; rw [Nat.pow_succ] at h; omega) (by rw [ba_size_append]; omega) hd.2.1 hd.2.2, hd.1, preN_step x0.natAbs (by omega), hs', ByteArray.append_assoc]
      have sz : ∀ s : ByteArray, s = ⟨#[UInt8.ofNat (48 + x0.natAbs % 10)]⟩ → s.size + out.size ≤ 9223372036854775807 := by
        intro s hs'
        have e1 : s.size = 1 := by rw [hs']; rfl
        omega
      rw [spec_Digits.l0, if_neg c]
      by_cases cm : Int.tmod x0 10 < 0
      · rw [if_pos cm]
        simp only [Option.bind_some]
        have e : strOfNums [wrap64 (48 + wrap64 (-(Int.tmod x0 10))) % 256] = ⟨#[UInt8.ofNat (48 + x0.natAbs % 10)]⟩ := by
          refine strOne _ _ (by omega) ?_
          have cs : x0 < 0 := by
            by_cases cs : x0 < 0
            · exact cs
            · have := Int.tmod_eq_emod_of_nonneg (a := x0) (b := 10) (by omega); omega
          have := Int.neg_tmod (a := x0) (b := 10)
          rw [Int.tmod_eq_emod_of_nonneg (show 0 ≤ -x0 by omega)] at this
          unfold wrap64
          omega
        rw [if_pos (sz _ e)]
        exact step _ e
      · rw [if_neg cm]
        simp only [Option.bind_some]
        have e : strOfNums [wrap64 (48 + Int.tmod x0 10) % 256] = ⟨#[UInt8.ofNat (48 + x0.natAbs % 10)]⟩ := by
          refine strOne _ _ (by omega) ?_
          have : Int.tmod x0 10 = ((x0.natAbs % 10 : Nat) : Int) := by
            by_cases cs : x0 < 0
            · have := Int.neg_tmod (a := x0) (b := 10)
              rw [Int.tmod_eq_emod_of_nonneg (show 0 ≤ -x0 by omega)] at this
              omega
            · have := Int.tmod_eq_emod_of_nonneg (a := x0) (b := 10) (by omega); omega
          rw [this]
          unfold wrap64
          omega
        rw [if_pos (sz _ e)]
        exact step _ e
theorem spec_Digits_some (k : Nat) (hk : 20 ≤ k) (hk2 : k ≤ 900) (z : Int) (h0 : -9223372036854775808 ≤ z) (h1 : z ≤ 9223372036854775807) : spec_Digits.f (k + 1) z = some (digI z) := by
  unfold spec_Digits.f digI
  by_cases c : z = 0
  · subst c
    rw [if_pos rfl, if_neg (by omega)]
    show _ = some (digN 0)
    rw [digN, if_pos (by omega)]
    rfl
  · have hp : z.natAbs < 10 ^ k := Nat.lt_of_lt_of_le (show z.natAbs < 10 ^ 20 by omega) (Nat.pow_le_pow_right (by omega) hk)
    rw [if_neg c, spec_Digits_l0 k z _ _ hp (by show 0 + k ≤ 1000; omega) h0 h1, ba_append_empty, preN, if_neg (by omega)]
    by_cases cs : z < 0
    · rw [if_pos cs, decide_eq_true cs]; rfl
    · rw [if_neg cs, decide_eq_false cs]
      show some ((⟨#[]⟩ : ByteArray) ++ _) = _
      rw [ba_empty_append]
theorem impl_Digits_some (k : Nat) (z : Int) (h0 : -9223372036854775808 ≤ z) (h1 : z ≤ 9223372036854775807) : impl_Digits.f k z = some (digI z) := by
  unfold impl_Digits.f
  rw [if_pos h0, if_pos h1]
theorem spec_Digits_ev (z : Int) (h0 : -9223372036854775808 ≤ z) (h1 : z ≤ 9223372036854775807) : Ev (fun k => spec_Digits.f k z) (digI z) := Ev_mono 21 (spec_Digits_some 20 (by omega) (by omega) z h0 h1) (fun k => spec_Digits.mono z k)
def outL (l : List Int) : List UInt8 := Lib.join (l.map fun z => (digI z).data.toList) [44]
def outB (l : List Int) : ByteArray := ⟨(outL l).toArray⟩
theorem join_snoc (xs : List (List UInt8)) (y sep : List UInt8) (h : xs ≠ []) : Lib.join (xs ++ [y]) sep = Lib.join xs sep ++ (sep ++ y) := by
  match xs, h with
  | x :: r, _ => rw [List.cons_append, Lib.join_cons, Lib.join_cons]; simp [Lib.joinTail]
theorem ba_ext (a b : ByteArray) (h : a.data.toList = b.data.toList) : a = b := by
  cases a; cases b; congr 1; exact Array.toList_inj.1 h
theorem outB_one (z : Int) : outB [z] = digI z := ba_ext _ _ (by simp [outB, outL, Lib.join_one])
theorem outB_snoc (l : List Int) (z : Int) (h : l ≠ []) : outB (l ++ [z]) = (outB l ++ (⟨#[44]⟩ : ByteArray)) ++ digI z := by
  refine ba_ext _ _ ?_
  have hm : (l.map fun z => (digI z).data.toList) ≠ [] := by simpa using h
  simp only [outB, outL, List.map_append, List.map_cons, List.map_nil]
  rw [join_snoc _ _ _ hm]
  simp [ByteArray.data_append]
theorem outB_size : ∀ (n : Nat) (l : List Int), l.length = n → (∀ z ∈ l, -9223372036854775808 ≤ z ∧ z ≤ 9223372036854775807) → (outB l).size ≤ 32 * n := by
  intro n
  induction n with
  | zero => intro l h _; obtain rfl : l = [] := List.eq_nil_of_length_eq_zero h; exact Nat.le_refl _
  | succ n ih =>
    intro l h hb
    have hne : l ≠ [] := fun e => by rw [e] at h; simp at h
    have hs := List.dropLast_concat_getLast hne
    have hz := hb (l.getLast hne) (List.getLast_mem hne)
    have hd := digI_small _ hz.1 hz.2
    have hl : l.dropLast.length = n := by rw [List.length_dropLast, h]; rfl
    have hb2 : ∀ z ∈ l.dropLast, -9223372036854775808 ≤ z ∧ z ≤ 9223372036854775807 := fun z hz => hb z ((List.dropLast_sublist l).subset hz)
    have hi := ih l.dropLast hl hb2
    rw [← hs]
    by_cases c : l.dropLast = []
    · rw [c, List.nil_append, outB_one]; omega
    · rw [outB_snoc _ _ c, ba_size_append, ba_size_append]
      have e : (⟨#[44]⟩ : ByteArray).size = 1 := rfl
      omega
theorem spec_NumsText_ev (l : List Int) (hl : l.length ≤ 1048576) (hb : ∀ z ∈ l, -9223372036854775808 ≤ z ∧ z ≤ 9223372036854775807) : Ev (fun k => spec_NumsText.f k l) (outB l) := by
  have key : ∀ i, i ≤ l.length → Ev (fun k => spec_NumsText.l0 k l (outB (l.take i)) (i : Int)) (outB l) := by
    refine Ev_down (L := fun i k => spec_NumsText.l0 k l (outB (l.take i)) (i : Int)) l.length ?_ ?_
    · refine Ev_at 1 (fun k => ?_)
      simp only [spec_NumsText.l0]
      rw [if_neg (by omega), List.take_length]
    · intro i hi ih
      have hz := hb l[i] (List.getElem_mem hi)
      have hd := digI_small _ hz.1 hz.2
      have hsz := outB_size i (l.take i) (by rw [List.length_take]; omega) (fun z h => hb z (List.mem_of_mem_take h))
      rw [List.take_succ_eq_append_getElem hi] at ih
      by_cases c : i = 0
      · subst c
        refine Ev.step (f := fun k => (spec_Digits.f k l[0]).bind fun t => if (outB (l.take 0)).size + t.size ≤ 9223372036854775807 then spec_NumsText.l0 k l (outB (l.take 0) ++ t) ((0 + 1 : Nat) : Int) else none) (fun k => ?_) ?_
        · simp only [spec_NumsText.l0]
          rw [if_pos (by omega), if_neg (by omega), if_pos (by omega), rd_at l 0 hi, wrap_up 0 (by omega)]
        · refine Ev.bind (spec_Digits_ev _ hz.1 hz.2) ?_
          have e : outB (l.take 0) ++ digI l[0] = outB (l.take 0 ++ [l[0]]) := by
            rw [List.take_zero, List.nil_append, outB_one]
            exact ba_empty_append _
          rw [← e] at ih
          have hk : (outB (l.take 0)).size + (digI l[0]).size ≤ 9223372036854775807 := by omega
          simp only [if_pos hk]
          exact ih
      · have hne : l.take i ≠ [] := fun e => by have := congrArg List.length e; simp only [List.length_take, List.length_nil] at this; omega
        refine Ev.step (f := fun k => (spec_Digits.f k l[i]).bind fun t => if (outB (l.take i) ++ (⟨#[44]⟩ : ByteArray)).size + t.size ≤ 9223372036854775807 then spec_NumsText.l0 k l ((outB (l.take i) ++ (⟨#[44]⟩ : ByteArray)) ++ t) ((i + 1 : Nat) : Int) else none) (fun k => ?_) ?_
        · simp only [spec_NumsText.l0]
          rw [if_pos (by omega), if_pos (by omega), if_pos (by omega), if_pos (by omega), rd_at l i hi, wrap_up i (by omega)]
        · refine Ev.bind (spec_Digits_ev _ hz.1 hz.2) ?_
          rw [outB_snoc _ _ hne] at ih
          have hk : (outB (l.take i) ++ (⟨#[44]⟩ : ByteArray)).size + (digI l[i]).size ≤ 9223372036854775807 := by
            rw [ba_size_append]
            have e : (⟨#[44]⟩ : ByteArray).size = 1 := rfl
            omega
          simp only [if_pos hk]
          exact ih
  exact key 0 (Nat.zero_le _)
theorem impl_NumsText_ev (l : List Int) (hl : l.length ≤ 1048576) (hb : ∀ z ∈ l, -9223372036854775808 ≤ z ∧ z ≤ 9223372036854775807) : Ev (fun k => impl_NumsText.f k l) (outB l) := by
  have hj : joinB (l.map digI) (⟨#[44]⟩ : ByteArray) = outB l := by
    unfold joinB outB outL
    rw [List.map_map]
    rfl
  have hs := outB_size l.length l rfl hb
  have key : ∀ i, i ≤ l.length → Ev (fun k => impl_NumsText.l0 k ((l.take i).map digI) l (l.length : Int) (i : Int)) (outB l) := by
    refine Ev_down (L := fun i k => impl_NumsText.l0 k ((l.take i).map digI) l (l.length : Int) (i : Int)) l.length ?_ ?_
    · refine Ev_at 1 (fun k => ?_)
      simp only [impl_NumsText.l0]
      rw [if_neg (by omega), List.take_length]
      unfold strings_Join.f
      rw [hj, if_pos (by rw [List.length_map]; omega), if_pos (by omega)]
      rfl
    · intro i hi ih
      have hz := hb l[i] (List.getElem_mem hi)
      rw [List.take_succ_eq_append_getElem hi, List.map_append, List.map_cons, List.map_nil] at ih
      refine Ev.step (f := fun k => impl_NumsText.l0 k ((l.take i).map digI ++ [digI l[i]]) l (l.length : Int) ((i + 1 : Nat) : Int)) (fun k => ?_) ih
      simp only [impl_NumsText.l0]
      rw [if_pos (by omega), if_pos (by omega), if_pos (by omega), rd_at l i hi, wrap_up i (by omega), impl_Digits_some _ _ hz.1 hz.2]
      simp only [Option.bind_some]
      rw [if_pos (by rw [List.length_map, List.length_take]; omega)]
  exact key 0 (Nat.zero_le _)
theorem sp_ext {a b : ByteArray} (h : a.data.toList = b.data.toList) : a = b := by
  obtain ⟨⟨l⟩⟩ := a
  obtain ⟨⟨m⟩⟩ := b
  simp at h
  rw [h]
theorem sp_index_miss (l : List UInt8) (c : UInt8) (h : c ∉ l) : Lib.index l [c] = -1 := by
  induction l with
  | nil => rfl
  | cons b l ih =>
    have h1 : ¬ c = b := fun e => h (by simp [e])
    have h2 : c ∉ l := fun e => h (by simp [e])
    unfold Lib.index
    rw [ih h2]
    simp [List.isPrefixOf, h1]
theorem sp_index_hit (p : List UInt8) (c : UInt8) (q : List UInt8) (h : c ∉ p) : Lib.index (p ++ c :: q) [c] = (p.length : Int) := by
  induction p with
  | nil => simp [Lib.index, List.isPrefixOf]
  | cons b l ih =>
    have h1 : ¬ c = b := fun e => h (by simp [e])
    have h2 : c ∉ l := fun e => h (by simp [e])
    rw [List.cons_append]
    unfold Lib.index
    rw [ih h2]
    have : ¬ ((l.length : Int) = -1) := by omega
    simp [List.isPrefixOf, h1, this]
def sp_suf (s : ByteArray) (f : Nat) : ByteArray := s.extract f s.size
theorem sp_suf_data (s : ByteArray) (f : Nat) : (sp_suf s f).data.toList = s.data.toList.drop f := Lib.extract_to_end s f
theorem sp_suf_size (s : ByteArray) (f : Nat) : (sp_suf s f).size = s.size - f := by
  have := congrArg List.length (sp_suf_data s f)
  simpa using this
theorem sp_suf_suf (s : ByteArray) (f j : Nat) : (sp_suf s f).extract j (sp_suf s f).size = sp_suf s (f + j) := by
  apply sp_ext
  rw [Lib.extract_to_end, sp_suf_data, sp_suf_data, List.drop_drop]
theorem sp_head (s : ByteArray) (f j : Nat) (h : f + j ≤ s.size) : (sp_suf s f).extract 0 j = s.extract f (f + j) := by
  apply sp_ext
  rw [Lib.extract_data, Lib.extract_data, sp_suf_data]
  simp
theorem sp_notin {l : List UInt8} {c : UInt8} {f i : Nat} (h : ∀ j, f ≤ j → j < i → l[j]? ≠ some c) : c ∉ (l.drop f).take (i - f) := by
  intro hm
  obtain ⟨j, hj, e⟩ := List.getElem_of_mem hm
  have hj' : j < i - f := by rw [List.length_take] at hj; omega
  refine h (f + j) (by omega) (by omega) ?_
  have : ((l.drop f).take (i - f))[j]? = some c := by rw [List.getElem?_eq_getElem hj, e]
  rw [List.getElem?_take] at this
  rw [if_pos hj', List.getElem?_drop] at this
  exact this
def sp_P (sep s : ByteArray) (f : Nat) : List ByteArray := Lib.splitB sep 0 (Lib.countB (sp_suf s f) sep) (sp_suf s f)
theorem sp_P_miss (c : UInt8) (s : ByteArray) (f : Nat) (hf : f ≤ s.size) (h : ∀ j, f ≤ j → j < s.size → s.data.toList[j]? ≠ some c) : sp_P ⟨#[c]⟩ s f = [s.extract f s.size] := by
  refine Lib.splitB_miss _ _ _ _ ?_
  show Lib.index (sp_suf s f).data.toList [c] = -1
  rw [sp_suf_data]
  refine sp_index_miss _ _ ?_
  have := sp_notin (l := s.data.toList) (i := s.size) h
  rwa [List.take_of_length_le (by rw [List.length_drop]; exact Nat.le_refl _)] at this
theorem sp_P_hit (c : UInt8) (s : ByteArray) (f i : Nat) (hf : f ≤ i) (hi : i < s.size) (hc : s.data.toList[i]? = some c) (h : ∀ j, f ≤ j → j < i → s.data.toList[j]? ≠ some c) :
    sp_P ⟨#[c]⟩ s f = s.extract f i :: sp_P ⟨#[c]⟩ s (i + 1) := by
  have hl : i < s.data.toList.length := hi
  have hx : Lib.indexB (sp_suf s f) ⟨#[c]⟩ = ((i - f : Nat) : Int) := by
    show Lib.index (sp_suf s f).data.toList [c] = _
    rw [sp_suf_data]
    have e : s.data.toList.drop f = (s.data.toList.drop f).take (i - f) ++ c :: s.data.toList.drop (i + 1) := by
      have h1 : (s.data.toList.drop f).drop (i - f) = c :: s.data.toList.drop (i + 1) := by
        rw [List.drop_drop, show f + (i - f) = i by omega, List.drop_eq_getElem_cons hl]
        congr 1
        rw [List.getElem?_eq_getElem hl] at hc
        exact Option.some.inj hc
      rw [← h1, List.take_append_drop]
    rw [e, sp_index_hit _ _ _ (sp_notin h)]
    rw [List.length_take, List.length_drop]
    omega
  unfold sp_P
  rw [Lib.countB_hit (sp_suf s f) ⟨#[c]⟩ (i - f) (Nat.le_refl 1) hx, Nat.add_comm 1, Lib.splitB_hit _ _ _ _ _ hx]
  have e1 : (sp_suf s f).extract (i - f + (⟨#[c]⟩ : ByteArray).size) (sp_suf s f).size = sp_suf s (i + 1) := by
    rw [sp_suf_suf]
    show sp_suf s (f + (i - f + 1)) = _
    rw [show f + (i - f + 1) = i + 1 by omega]
  rw [e1, Nat.add_zero, sp_head s f (i - f) (by omega), show f + (i - f) = i by omega]
theorem sp_key (s : ByteArray) (hs : s.size < 4294967281) (a : Int) (h0 : 0 ≤ a) (h1 : a ≤ 255) (r : List ByteArray) : ∀ (k i f : Nat) (out : List ByteArray), f ≤ i → i ≤ s.size → (∀ j, f ≤ j → j < i → s.data.toList[j]? ≠ some a.toNat.toUInt8) →
    spec_Split.l0 k s a out (f : Int) (i : Int) = some r → r = out ++ sp_P ⟨#[a.toNat.toUInt8]⟩ s f := by
  intro k
  induction k with
  | zero => intro i f out _ _ _ h; simp [spec_Split.l0] at h
  | succ k ih =>
    intro i f out hf hi hno h
    have hw : wrap64 ((i : Int) + 1) = ((i + 1 : Nat) : Int) := by unfold wrap64; omega
    simp only [spec_Split.l0, hw] at h
    rw [if_pos (show (i : Int) ≤ (s.size : Int) by omega)] at h
    by_cases c : (i : Int) = (s.size : Int)
    · have ci : i = s.size := by omega
      subst ci
      rw [if_pos c, if_pos (by omega), if_pos (by omega)] at h
      split at h
      · cases k with
        | zero => simp [spec_Split.l0] at h
        | succ k =>
          simp only [spec_Split.l0] at h
          rw [if_neg (by omega)] at h
          obtain rfl := Option.some.inj h
          rw [sp_P_miss _ s f hf hno]
          simp
      · cases h
    · have ilt : i < s.size := by omega
      have hl : i < s.data.toList.length := ilt
      rw [if_neg c, if_pos (by omega), if_pos (by omega)] at h
      have hb : bt s (i : Int) = ((s.data.toList[i]'hl).toNat : Int) := by
        have : (i : Int).toNat < s.size := by omega
        unfold bt
        rw [dif_pos this]
        rfl
      have hgc : bt s (i : Int) = a ↔ s.data.toList[i]? = some a.toNat.toUInt8 := by
        rw [hb, List.getElem?_eq_getElem hl, Option.some.injEq]
        constructor
        · intro e
          apply UInt8.toNat_inj.1
          rw [UInt8.toNat_ofNat']
          omega
        · intro e
          rw [e, UInt8.toNat_ofNat']
          omega
      by_cases cc : bt s (i : Int) = a
      · rw [if_pos cc, if_pos (by omega), if_pos (by omega)] at h
        split at h
        · have := ih (i + 1) (i + 1) _ (Nat.le_refl _) (by omega) (fun j h1 h2 => by omega) h
          rw [this, sp_P_hit _ s f i hf ilt (hgc.1 cc) hno]
          simp
        · cases h
      · rw [if_neg cc] at h
        refine ih (i + 1) f out (by omega) (by omega) (fun j h1 h2 => ?_) h
        by_cases e : j = i
        · subst e; exact fun e => cc (hgc.2 e)
        · exact hno j h1 (by omega)
theorem sp_all (s : ByteArray) (hs : s.size < 4294967281) (a : Int) (h0 : 0 ≤ a) (h1 : a ≤ 255) (r : List ByteArray) (k : Nat) (h : spec_Split.f k s a = some r) : r = Lib.splitB ⟨#[a.toNat.toUInt8]⟩ 0 (Lib.countB s ⟨#[a.toNat.toUInt8]⟩) s := by
  have := sp_key s hs a h0 h1 r k 0 0 [] (Nat.le_refl _) (Nat.zero_le _) (fun j _ h2 => by omega) h
  have e : sp_suf s 0 = s := by apply sp_ext; rw [sp_suf_data]; rfl
  rw [this]
  unfold sp_P
  rw [e]
  simp

theorem l1Pick_some (l : List Int) (i h : Int) (xs : List ByteArray) (hi : 0 ≤ i) (hl : l.length ≤ 1048576) (hx : 0 < xs.length) : ∃ v i' h', spec_l1Pick.f l i h xs = some (v, i', h') ∧ v ∈ xs ∧ 0 ≤ i' := by
  obtain ⟨x, i', h', e, x0, x1, _, hi'⟩ := l1Below_some l i h (xs.length : Int) hi hl
  have x2 := x1 (by omega)
  refine ⟨rdOf ByteArray.empty xs x, i', h', ?_, ?_, hi'⟩
  · unfold spec_l1Pick.f
    simp only [e, Option.bind_some]
    rw [if_pos x0, if_pos x2]
  · have hx2 : x.toNat < xs.length := by omega
    have : rdOf ByteArray.empty xs x = xs[x.toNat] := by simp [rdOf, List.getD_eq_getElem?_getD, hx2]
    rw [this]
    exact List.getElem_mem hx2
theorem NumberB_l0 (a0 : ByteArray) (hs : a0.size ≤ 6) : ∀ (d i : Nat) (n : Int), i + d = a0.size → 0 ≤ n → n < 10 ^ i → ∃ r : Int × Bool, spec_Number.l0 (d + 22) a0 n i = some r ∧ impl_Number.l0 (d + 22) a0 n (a0.size : Int) i = some r ∧ (r.2 = true → 0 ≤ r.1 ∧ r.1 ≤ 10 ^ 6 ∧ (digI r.1).toList = a0.toList) := by
  intro d
  induction d with
  | zero =>
    intro i n hi h0 h1
    have hp : (10 : Int) ^ i ≤ 10 ^ 6 := by
      have := Nat.pow_le_pow_right (n := 10) (by omega) (show i ≤ 6 by omega)
      exact_mod_cast this
    have c : ¬ (i : Int) < (a0.size : Int) := by omega
    refine ⟨if (digI n).toList = a0.toList then (n, true) else (0, false), ?_, ?_, ?_⟩
    · simp only [spec_Number.l0, if_neg c]
      rw [spec_Digits_some 20 (by omega) (by omega) n (by omega) (by omega)]
      simp only [Option.bind_some]
      split <;> rfl
    · simp only [impl_Number.l0, if_neg c]
      rw [impl_Digits_some _ n (by omega) (by omega)]
      simp only [Option.bind_some]
      split <;> rfl
    · intro h
      by_cases hc : (digI n).toList = a0.toList
      · rw [if_pos hc]
        exact ⟨h0, by show n ≤ 10 ^ 6; omega, hc⟩
      · rw [if_neg hc] at h
        cases h
  | succ d ih =>
    intro i n hi h0 h1
    have hp : (10 : Int) ^ (i + 1) ≤ 10 ^ 6 := by
      have := Nat.pow_le_pow_right (n := 10) (by omega) (show i + 1 ≤ 6 by omega)
      exact_mod_cast this
    have hp2 : (10 : Int) ^ (i + 1) = 10 ^ i * 10 := Int.pow_succ 10 i
    have c : (i : Int) < (a0.size : Int) := by omega
    have p : 0 ≤ (i : Int) := by omega
    have ew : wrap64 ((i : Int) + 1) = ((i + 1 : Nat) : Int) := by unfold wrap64; omega
    rw [show d + 1 + 22 = (d + 22) + 1 by omega]
    simp only [spec_Number.l0, impl_Number.l0, if_pos c, if_pos p, ew]
    by_cases c1 : bt a0 (i : Int) < 48
    · simp only [if_pos c1]; exact ⟨_, rfl, rfl, fun h => by cases h⟩
    · by_cases c2 : bt a0 (i : Int) > 57
      · simp only [if_neg c1, if_pos c2]; exact ⟨_, rfl, rfl, fun h => by cases h⟩
      · simp only [if_neg c1, if_neg c2]
        generalize bt a0 (i : Int) = b at c1 c2
        have e1 : wrap64 (wrap64 (wrap64 (10 * n) + wrap64 b) - 48) = 10 * n + (b - 48) := by unfold wrap64; omega
        have e2 : wrap64 (wrap64 (10 * n) + (b - 48) % 256) = 10 * n + (b - 48) := by unfold wrap64; omega
        rw [e1, e2]
        exact ih (i + 1) _ (by omega) (by omega) (by omega)
theorem Number_ev (a0 : ByteArray) : ∃ r : Int × Bool, Ev (fun k => impl_Number.f k a0) r ∧ Ev (fun k => spec_Number.f k a0) r ∧ (r.2 = true → 0 ≤ r.1 ∧ r.1 ≤ 10 ^ 6 ∧ (digI r.1).toList = a0.toList) := by
  have hl : a0.toList.length = a0.size := by rw [ByteArray.toList_eq]; exact Array.length_toList
  have key : ∃ N, ∃ r : Int × Bool, impl_Number.f N a0 = some r ∧ spec_Number.f N a0 = some r ∧ (r.2 = true → 0 ≤ r.1 ∧ r.1 ≤ 10 ^ 6 ∧ (digI r.1).toList = a0.toList) := by
    by_cases c0 : a0.size = 0
    · have e : a0.toList = ([] : List UInt8) := List.eq_nil_of_length_eq_zero (by omega)
      refine ⟨40, (0, false), ?_, ?_, fun h => by cases h⟩
      · unfold impl_Number.f; rw [if_pos e]; rfl
      · unfold spec_Number.f; rw [if_pos (by omega)]; rfl
    · have e : ¬ a0.toList = ([] : List UInt8) := fun h => by rw [h] at hl; simp at hl; omega
      by_cases c6 : (a0.size : Int) > 6
      · refine ⟨40, (0, false), ?_, ?_, fun h => by cases h⟩
        · unfold impl_Number.f; rw [if_neg e, decide_eq_true c6]; rfl
        · unfold spec_Number.f; rw [if_neg (by omega), decide_eq_true c6]; rfl
      · obtain ⟨r, e1, e2, e3⟩ := NumberB_l0 a0 (by omega) a0.size 0 0 (by omega) (by omega) (by decide)
        refine ⟨a0.size + 22 + 1, r, ?_, ?_, e3⟩
        · unfold impl_Number.f
          rw [if_neg e, decide_eq_false c6]
          simp only [impl_Number.j0, Bool.false_eq_true, if_false]
          exact e2
        · unfold spec_Number.f
          rw [if_neg (by omega), decide_eq_false c6]
          simp only [spec_Number.j0, Bool.false_eq_true, if_false]
          exact e1
  obtain ⟨N, r, h1, h2, h3⟩ := key
  exact ⟨r, Ev_mono N h1 (fun k => impl_Number.mono a0 k), Ev_mono N h2 (fun k => spec_Number.mono a0 k), h3⟩
theorem impl_Digits_ev (z : Int) (h0 : -9223372036854775808 ≤ z) (h1 : z ≤ 9223372036854775807) : Ev (fun k => impl_Digits.f k z) (digI z) := Ev_at 0 (fun k => impl_Digits_some _ z h0 h1)
theorem DrawNums_ev (l : List Int) (hl : l.length ≤ 1048576) : ∀ (d i : Nat) (out : List Int) (j h : Int), i + d = 5 → 0 ≤ j → out.length = i → (∀ z ∈ out, -9223372036854775808 ≤ z ∧ z ≤ 9223372036854775807) →
    ∃ r : List Int, Ev (fun k => spec_DrawNumsText.l0 k out (i : Int) l j h) r ∧ r.length ≤ 5 ∧ ∀ z ∈ r, -9223372036854775808 ≤ z ∧ z ≤ 9223372036854775807 := by
  intro d
  induction d with
  | zero =>
    intro i out j h hi hj ho hb
    obtain ⟨x, j1, h1, e1, x0, x1, _, hj1⟩ := l1Below_some l j h 5 hj hl
    have := x1 (by omega)
    refine ⟨out, Ev_at 1 (fun k => ?_), by omega, hb⟩
    simp only [spec_DrawNumsText.l0, e1, Option.bind_some]
    rw [if_neg (by omega)]
  | succ d ih =>
    intro i out j h hi hj ho hb
    obtain ⟨x, j1, h1, e1, x0, x1, _, hj1⟩ := l1Below_some l j h 5 hj hl
    by_cases c : (i : Int) < x
    · obtain ⟨y, j2, h2, e2, y0, y1, _, hj2⟩ := l1Below_some l j1 h1 20 hj1 hl
      have := y1 (by omega)
      have ew : wrap64 (y - 3) = y - 3 := by unfold wrap64; omega
      obtain ⟨r, hr, hlen, hrb⟩ := ih (i + 1) (out ++ [y - 3]) j2 h2 (by omega) hj2 (by simp; omega) (fun z hz => by
        rcases List.mem_append.1 hz with hz | hz
        · exact hb z hz
        · rw [List.mem_singleton.1 hz]; omega)
      refine ⟨r, Ev.step (fun k => ?_) hr, hlen, hrb⟩
      simp only [spec_DrawNumsText.l0, e1, Option.bind_some]
      rw [if_pos c, e2]
      simp only [Option.bind_some]
      rw [if_pos (by omega), ew, wrap_up i (by omega)]
    · refine ⟨out, Ev_at 1 (fun k => ?_), by omega, hb⟩
      simp only [spec_DrawNumsText.l0, e1, Option.bind_some]
      rw [if_neg c]
theorem sp_ex (s : ByteArray) (hs : s.size ≤ 1048576) (a : Int) : ∀ (d i f : Nat) (out : List ByteArray), i + d = s.size + 1 → f ≤ i → out.length ≤ i → ∃ r, Ev (fun k => spec_Split.l0 k s a out (f : Int) (i : Int)) r := by
  intro d
  induction d with
  | zero =>
    intro i f out hi hf ho
    refine ⟨out, Ev_at 1 (fun k => ?_)⟩
    simp only [spec_Split.l0]
    rw [if_neg (by omega)]
  | succ d ih =>
    intro i f out hi hf ho
    have hw : wrap64 ((i : Int) + 1) = ((i + 1 : Nat) : Int) := by unfold wrap64; omega
    obtain ⟨r1, h1⟩ := ih (i + 1) (i + 1) (out ++ [s.extract (f : Int).toNat (i : Int).toNat]) (by omega) (Nat.le_refl _) (by simp; omega)
    obtain ⟨r2, h2⟩ := ih (i + 1) f out (by omega) (by omega) (by omega)
    by_cases c : (i : Int) = (s.size : Int)
    · refine ⟨r1, Ev.step (fun k => ?_) h1⟩
      simp only [spec_Split.l0]
      rw [if_pos (by omega), if_pos c, if_pos (by omega), if_pos (by omega), if_pos (by omega), hw]
    · by_cases cc : bt s (i : Int) = a
      · refine ⟨r1, Ev.step (fun k => ?_) h1⟩
        simp only [spec_Split.l0]
        rw [if_pos (by omega), if_neg c, if_pos (by omega), if_pos (by omega), if_pos cc, if_pos (by omega), if_pos (by omega), if_pos (by omega), hw]
      · refine ⟨r2, Ev.step (fun k => ?_) h2⟩
        simp only [spec_Split.l0]
        rw [if_pos (by omega), if_neg c, if_pos (by omega), if_pos (by omega), if_neg cc, hw]
theorem spec_Split_ev (s : ByteArray) (hs : s.size ≤ 1048576) (a : Int) (h0 : 0 ≤ a) (h1 : a ≤ 255) : Ev (fun k => spec_Split.f k s a) (splits s a) := by
  obtain ⟨r, n, h⟩ := sp_ex s hs a (s.size + 1) 0 0 [] (by omega) (Nat.le_refl _) (by simp)
  have e := sp_all s (by omega) a h0 h1 r n (h n (Nat.le_refl _))
  exact ⟨n, fun k hk => by have := h k hk; rw [e] at this; exact this⟩
theorem sp_first (P : Nat → Prop) (f : Nat) : ∀ n, (∃ i, f ≤ i ∧ i < f + n ∧ P i) → ∃ i, f ≤ i ∧ i < f + n ∧ P i ∧ ∀ j, f ≤ j → j < i → ¬ P j := by
  intro n
  induction n with
  | zero => intro ⟨i, h1, h2, _⟩; omega
  | succ n ih =>
    intro ⟨i, h1, h2, h3⟩
    by_cases h : ∃ i, f ≤ i ∧ i < f + n ∧ P i
    · obtain ⟨i, a, b, c, d⟩ := ih h
      exact ⟨i, a, by omega, c, d⟩
    · exact ⟨i, h1, h2, h3, fun j a b c => h ⟨j, a, by omega, c⟩⟩
theorem sp_join (c : UInt8) (s : ByteArray) : ∀ (d f : Nat), f + d = s.size → sp_P ⟨#[c]⟩ s f ≠ [] ∧ Lib.join ((sp_P ⟨#[c]⟩ s f).map (·.data.toList)) [c] = s.data.toList.drop f := by
  intro d
  induction d using Nat.strongRecOn with
  | _ d ih =>
    intro f hf
    have hext : ∀ i, f ≤ i → (s.extract f i).data.toList = (s.data.toList.drop f).take (i - f) := fun i hi => Lib.extract_data s f i
    by_cases hx : ∃ i, f ≤ i ∧ i < s.size ∧ s.data.toList[i]? = some c
    · obtain ⟨i, h1, h2, h3, hmin⟩ := sp_first (fun i => s.data.toList[i]? = some c) f d (by obtain ⟨i, a, b, e⟩ := hx; exact ⟨i, a, by omega, e⟩)
      have h2 : i < s.size := by omega
      obtain ⟨q1, q2⟩ := ih (s.size - (i + 1)) (by omega) (i + 1) (by omega)
      rw [sp_P_hit c s f i h1 h2 h3 hmin]
      refine ⟨by simp, ?_⟩
      have hl : i < s.data.toList.length := h2
      obtain ⟨y, r, hy⟩ := List.exists_cons_of_ne_nil q1
      rw [hy] at q2 ⊢
      rw [List.map_cons, List.map_cons, Lib.join_cons]
      rw [List.map_cons, Lib.join_cons] at q2
      have e2 : s.data.toList.drop f = (s.data.toList.drop f).take (i - f) ++ c :: s.data.toList.drop (i + 1) := by
        have h5 : (s.data.toList.drop f).drop (i - f) = c :: s.data.toList.drop (i + 1) := by
          rw [List.drop_drop, show f + (i - f) = i by omega, List.drop_eq_getElem_cons hl]
          congr 1
          rw [List.getElem?_eq_getElem hl] at h3
          exact Option.some.inj h3
        rw [← h5, List.take_append_drop]
      rw [e2, ← q2, hext i h1]
      simp [Lib.joinTail]
    · have hno : ∀ j, f ≤ j → j < s.size → s.data.toList[j]? ≠ some c := fun j h1 h2 h3 => hx ⟨j, h1, h2, h3⟩
      rw [sp_P_miss c s f (by omega) hno]
      refine ⟨by simp, ?_⟩
      rw [List.map_cons, List.map_nil, Lib.join_one, hext s.size (by omega), List.take_of_length_le (by rw [List.length_drop]; exact Nat.le_refl _)]
theorem splits_join (s : ByteArray) (a : Int) : splits s a ≠ [] ∧ Lib.join ((splits s a).map (·.data.toList)) [a.toNat.toUInt8] = s.data.toList := by
  have h := sp_join a.toNat.toUInt8 s s.size 0 (by omega)
  have e : sp_suf s 0 = s := by apply sp_ext; rw [sp_suf_data]; rfl
  unfold sp_P at h
  rw [e, List.drop_zero] at h
  exact h
theorem splits_len (s : ByteArray) (a : Int) : (splits s a).length ≤ s.size + 1 := by
  unfold splits
  rw [splitB_len]
  have := Lib.countB_le ⟨#[a.toNat.toUInt8]⟩ (one_le a) s.size s (Nat.le_refl _)
  omega
theorem back_ev (s : ByteArray) (hs : s.size ≤ 1000) (a : Int) (h0 : 0 ≤ a) (h1 : a ≤ 255) : Ev (fun k => laws_FnNumbers.j0 k s a (splits s a) false) true := by
  obtain ⟨hne, hj⟩ := splits_join s a
  have hlen := splits_len s a
  have hsp := spec_Split_ev s (by omega) a h0 h1
  generalize splits s a = P at hne hj hlen hsp
  obtain ⟨x, r, rfl⟩ := List.exists_cons_of_ne_nil hne
  rw [List.map_cons, Lib.join_cons] at hj
  have hlr : r.length ≤ s.size := by rw [List.length_cons] at hlen; omega
  have hone : strOfNums [a] = ⟨#[a.toNat.toUInt8]⟩ := rfl
  have hsz : ∀ i, (x.data.toList ++ Lib.joinTail [a.toNat.toUInt8] ((r.map (·.data.toList)).take i)).length ≤ s.size := by
    intro i
    have h2 := Lib.joinTail_take_le [a.toNat.toUInt8] (r.map (·.data.toList)) i
    have h3 := congrArg List.length hj
    have h4 : s.data.toList.length = s.size := Array.length_toList
    rw [List.length_append] at h3 ⊢
    omega
  have key : ∀ i, i ≤ r.length → Ev (fun k => laws_FnNumbers.l0 k s a (x :: r) ⟨(x.data.toList ++ Lib.joinTail [a.toNat.toUInt8] ((r.map (·.data.toList)).take i)).toArray⟩ ((i + 1 : Nat) : Int)) true := by
    refine Ev_down (L := fun i k => laws_FnNumbers.l0 k s a (x :: r) ⟨(x.data.toList ++ Lib.joinTail [a.toNat.toUInt8] ((r.map (·.data.toList)).take i)).toArray⟩ ((i + 1 : Nat) : Int)) r.length ?_ ?_
    · have e : (⟨(x.data.toList ++ Lib.joinTail [a.toNat.toUInt8] ((r.map (·.data.toList)).take r.length)).toArray⟩ : ByteArray) = s := by
        apply sp_ext
        rw [List.take_of_length_le (by rw [List.length_map]; exact Nat.le_refl _)]
        simpa using hj
      rw [e]
      refine Ev.step (f := fun k => (spec_Split.f k s a).bind fun t255 => (some (((x :: r).length : Int) == (t255.length : Int)))) (fun k => ?_) (Ev.bind hsp ?_)
      · simp only [laws_FnNumbers.l0]
        rw [if_neg (by simp), if_pos trivial]
      · simp only [beq_self_eq_true]
        exact Ev.now _
    · intro i hi ih
      have hz := hsz i
      have hz2 := hsz (i + 1)
      have hrd : rdOf ByteArray.empty (x :: r) ((i + 1 : Nat) : Int) = r[i] := by simp [rdOf, List.getD_eq_getElem?_getD, hi]
      have hz0 : (⟨(x.data.toList ++ Lib.joinTail [a.toNat.toUInt8] ((r.map (·.data.toList)).take i)).toArray⟩ : ByteArray).size = (x.data.toList ++ Lib.joinTail [a.toNat.toUInt8] ((r.map (·.data.toList)).take i)).length := rfl
      have hm : (r.map (·.data.toList))[i]? = some r[i].data.toList := by rw [List.getElem?_map, List.getElem?_eq_getElem hi]; rfl
      rw [Lib.joinTail_take_succ _ _ _ _ hm] at ih hz2
      have e : (⟨(x.data.toList ++ (Lib.joinTail [a.toNat.toUInt8] ((r.map (·.data.toList)).take i) ++ [a.toNat.toUInt8] ++ r[i].data.toList)).toArray⟩ : ByteArray) = (⟨(x.data.toList ++ Lib.joinTail [a.toNat.toUInt8] ((r.map (·.data.toList)).take i)).toArray⟩ ++ strOfNums [a]) ++ r[i] := by
        apply sp_ext
        rw [hone]
        simp [ByteArray.data_append]
      rw [e] at ih
      have hr1 : (r[i]).size = r[i].data.toList.length := Array.length_toList.symm
      have hs1 : (strOfNums [a]).size = 1 := rfl
      refine Ev.step (f := fun k => laws_FnNumbers.l0 k s a (x :: r) ((⟨(x.data.toList ++ Lib.joinTail [a.toNat.toUInt8] ((r.map (·.data.toList)).take i)).toArray⟩ ++ strOfNums [a]) ++ r[i]) ((i + 1 + 1 : Nat) : Int)) (fun k => ?_) ih
      have hk1 : (⟨(x.data.toList ++ Lib.joinTail [a.toNat.toUInt8] ((r.map (·.data.toList)).take i)).toArray⟩ : ByteArray).size + (strOfNums [a]).size ≤ 9223372036854775807 := by rw [hz0, hs1]; omega
      have hk2 : ((⟨(x.data.toList ++ Lib.joinTail [a.toNat.toUInt8] ((r.map (·.data.toList)).take i)).toArray⟩ : ByteArray) ++ strOfNums [a]).size + (r[i]).size ≤ 9223372036854775807 := by
        rw [ByteArray.size_append, hz0, hs1, hr1]
        simp only [List.length_append, List.length_cons, List.length_nil] at hz2 ⊢
        omega
      simp only [laws_FnNumbers.l0, Option.bind_some, hrd]
      rw [if_pos (by simp; omega), if_pos (by omega), if_pos hk1, if_pos (by omega), if_pos hk2, wrap_up (i + 1) (by omega)]
  refine Ev.step (f := fun k => laws_FnNumbers.l0 k s a (x :: r) ⟨#[]⟩ 0) (fun k => ?_) ?_
  · simp only [laws_FnNumbers.j0, Bool.false_eq_true, if_false]
  · have hx0 : rdOf ByteArray.empty (x :: r) 0 = x := rfl
    have hz := hsz 0
    have hxs : x.size = x.data.toList.length := Array.length_toList.symm
    have e0 : (⟨(x.data.toList ++ Lib.joinTail [a.toNat.toUInt8] ((r.map (·.data.toList)).take 0)).toArray⟩ : ByteArray) = ⟨#[]⟩ ++ x := by
      apply sp_ext
      simp [Lib.joinTail, ByteArray.data_append]
    have h := key 0 (Nat.zero_le _)
    rw [e0] at h
    refine Ev.step (f := fun k => laws_FnNumbers.l0 k s a (x :: r) (⟨#[]⟩ ++ x) ((0 + 1 : Nat) : Int)) (fun k => ?_) h
    have hw : wrap64 ((0 : Int) + 1) = ((0 + 1 : Nat) : Int) := wrap_up 0 (by omega)
    have hk : (⟨#[]⟩ : ByteArray).size + x.size ≤ 9223372036854775807 := by
      rw [List.length_append] at hz
      have : (⟨#[]⟩ : ByteArray).size = 0 := rfl
      omega
    simp only [laws_FnNumbers.l0, hx0]
    rw [if_pos (by rw [List.length_cons]; omega), if_neg (by omega), if_pos (by omega), if_pos hk, hw]
/-- For every code the law's Lean function answers true. -/
theorem FnNumbers : laws_FnNumbers.Pure := by
  intro l0 _ _ _
  refine Ev.rounds (r := true) ?_
  unfold laws_FnNumbers.f
  simp only [laws_big.f, Option.bind_some]
  by_cases c : (l0.length : Int) > 1048576
  · simp only [decide_eq_true c, if_true]; exact Ev.now _
  simp only [decide_eq_false c, Bool.false_eq_true, if_false]
  have hl : l0.length ≤ 1048576 := by omega
  obtain ⟨h, hn⟩ := l1New_ev l0 hl
  obtain ⟨d, i1, h1, e1, hd, _⟩ := l1PickInt_some l0 0 h [0, 7, -12, 100000, 9223372036854775807, -9223372036854775808] (by omega) hl (by decide)
  obtain ⟨s, i2, h2, e2, hs, _⟩ := l1Pick_some l0 0 h [(⟨#[48]⟩ : ByteArray), (⟨#[55]⟩ : ByteArray), (⟨#[57, 57, 57, 57, 57, 57]⟩ : ByteArray), (⟨#[49, 48, 48, 48, 48, 48, 48]⟩ : ByteArray), (⟨#[48, 49]⟩ : ByteArray), (⟨#[]⟩ : ByteArray), (⟨#[45, 49]⟩ : ByteArray), (⟨#[120]⟩ : ByteArray), (⟨#[49, 50, 97]⟩ : ByteArray)] (by omega) hl (by decide)
  obtain ⟨L, e3, hL, hLb⟩ := DrawNums_ev l0 hl 5 0 [] 0 h (by omega) (by omega) rfl (fun z hz => by cases hz)
  obtain ⟨t, i4, h4, e4, ht, hi4⟩ := l1Pick_some l0 0 h [(⟨#[]⟩ : ByteArray), (⟨#[97]⟩ : ByteArray), (⟨#[97, 44, 98]⟩ : ByteArray), (⟨#[44]⟩ : ByteArray), (⟨#[97, 44, 44, 98, 44]⟩ : ByteArray), (⟨#[97, 47, 98, 44, 99, 47]⟩ : ByteArray)] (by omega) hl (by decide)
  obtain ⟨b, i5, h5, e5, hb, _⟩ := l1PickInt_some l0 i4 h4 [44, 47] hi4 hl (by decide)
  have q1 : Ev (fun n => spec_DrawDigits.f n l0) d := by
    unfold spec_DrawDigits.f
    refine Ev.bind hn ?_
    simp only [e1, Option.bind_some]
    exact Ev.now _
  have q2 : Ev (fun n => spec_DrawNumber.f n l0) s := by
    unfold spec_DrawNumber.f
    refine Ev.bind hn ?_
    simp only [e2, Option.bind_some]
    exact Ev.now _
  have q3 : Ev (fun n => spec_DrawNumsText.f n l0) L := by
    unfold spec_DrawNumsText.f
    exact Ev.bind hn e3
  have hb2 : b % 256 = b ∧ 0 ≤ b ∧ b ≤ 255 := by
    simp only [List.mem_cons, List.mem_nil_iff, or_false] at hb
    rcases hb with rfl | rfl <;> decide
  have q4 : Ev (fun n => spec_DrawSplit.f n l0) (t, b) := by
    unfold spec_DrawSplit.f
    refine Ev.bind hn ?_
    simp only [e4, Option.bind_some, e5, hb2.1]
    exact Ev.now _
  have hts : t.size ≤ 1000 := by
    simp only [List.mem_cons, List.mem_nil_iff, or_false] at ht
    rcases ht with rfl | rfl | rfl | rfl | rfl | rfl <;> decide
  have hdb : -9223372036854775808 ≤ d ∧ d ≤ 9223372036854775807 := by
    simp only [List.mem_cons, List.mem_nil_iff, or_false] at hd
    rcases hd with rfl | rfl | rfl | rfl | rfl | rfl <;> decide
  obtain ⟨⟨n, ok⟩, hi, hsp, hok⟩ := Number_ev s
  have im : Ev (fun k => impl_Split.f k t b) (splits t b) := Ev_at 0 (fun k => by
    unfold impl_Split.f
    rw [if_pos ⟨hb2.2.1, hb2.2.2, by omega⟩])
  refine Ev.bind q1 ?_
  refine Ev.bind q2 ?_
  refine Ev.bind hi ?_
  refine Ev.bind hsp ?_
  refine Ev.bind q3 ?_
  refine Ev.bind q4 ?_
  refine Ev.bind im ?_
  refine Ev.bind (impl_Digits_ev d hdb.1 hdb.2) ?_
  refine Ev.bind (spec_Digits_ev d hdb.1 hdb.2) ?_
  simp only [if_true, bne_self_eq_false, Bool.false_eq_true, if_false]
  have fin : Ev (fun k => (impl_NumsText.f k L).bind fun t248 => (spec_NumsText.f k L).bind fun t249 => laws_FnNumbers.j0 k t b (splits t b) (t248.toList != t249.toList)) true := by
    refine Ev.bind (impl_NumsText_ev L (by omega) hLb) ?_
    refine Ev.bind (spec_NumsText_ev L (by omega) hLb) ?_
    simp only [bne_self_eq_false]
    exact back_ev t hts b hb2.2.1 hb2.2.2
  cases ok
  · simp only [Bool.false_eq_true, if_false]
    exact fin
  · obtain ⟨n0, n1, n2⟩ := hok rfl
    simp only [if_true]
    refine Ev.bind (impl_Digits_ev n (by simp only at n0; omega) (by simp only at n1; omega)) ?_
    simp only [n2, if_true]
    exact fin

end Go.Proofs.YtmkhghbalnadlaaDoor.Pure
