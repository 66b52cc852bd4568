/- The pure statement behind the law FnPlaces: over plain values. No condition beyond that numbers are of their kind and lengths below 2^63. -/
import Derived.Test.YtcjkkcjnlcehnaaPFnPlacesx3
namespace Go.Proofs.Ytcjkkcjnlcehnaa.Pure
open Go.RowKit Go.Proofs.Ytcjkkcjnlcehnaa.PFnPlaces Go.Proofs.YtcjkkcjnlcehnaaW.PrintWords Go.Proofs.YtcjkkcjnlcehnaaW.PrintLast

-- PACKS
set_option linter.unusedVariables false
set_option linter.unusedSimpArgs false
theorem Ev_at {α : Type} {g : Nat → Option α} {r : α} (n : Nat) (h : ∀ k, g (k + n) = some r) : Ev g r := ⟨n, fun k hk => by
  obtain ⟨m, rfl⟩ : ∃ m, k = m + n := ⟨k - n, by omega⟩
  exact h m⟩
theorem Ev_down {α : Type} {L : Nat → Nat → Option α} {r : α} (n : Nat) (hn : Ev (L n) r) (hs : ∀ i, i < n → Ev (L (i + 1)) r → Ev (L i) r) : ∀ i, i ≤ n → Ev (L i) r := by
  have key : ∀ d i, i + d = n → Ev (L i) r := by
    intro d
    induction d with
    | zero => intro i h; obtain rfl : i = n := by omega
              exact hn
    | succ d ih => intro i h; exact hs i (by omega) (ih (i + 1) (by omega))
  exact fun i h => key (n - i) i (by omega)
theorem wrap_up (i : Nat) (h : i < 9223372036854775807) : wrap64 ((i : Int) + 1) = ((i + 1 : Nat) : Int) := by unfold wrap64; omega
theorem set_fill {α β : Type} (l : List α) (i : Nat) (hi : i < l.length) (z : β) (f : α → β) (v : β) (hv : v = f (l[i]'hi)) :
    ((l.take i).map f ++ List.replicate (l.length - i) z).set (i : Int).toNat v = (l.take (i + 1)).map f ++ List.replicate (l.length - (i + 1)) z := by
  subst hv
  have h1 : ((l.take i).map f).length = i := by simp; omega
  rw [Int.toNat_natCast, List.set_append, if_neg (by omega), h1, Nat.sub_self]
  obtain ⟨m, hm⟩ : ∃ m, l.length - i = m + 1 := ⟨l.length - i - 1, by omega⟩
  rw [hm, List.replicate_succ, List.set_cons_zero, show l.length - (i + 1) = m by omega, List.take_succ_eq_append_getElem hi, List.map_append, List.append_assoc]
  rfl
theorem set_fill_id {α : Type} (l : List α) (i : Nat) (hi : i < l.length) (z : α) (v : α) (hv : v = l[i]'hi) :
    (l.take i ++ List.replicate (l.length - i) z).set (i : Int).toNat v = l.take (i + 1) ++ List.replicate (l.length - (i + 1)) z := by
  have := set_fill l i hi z id v hv
  simpa using this
theorem Ev_downR {α : Type} {L : Nat → Nat → Option α} {R : Nat → α} (n : Nat) (hn : Ev (L n) (R n)) (hs : ∀ i, i < n → Ev (L (i + 1)) (R (i + 1)) → Ev (L i) (R i)) : ∀ i, i ≤ n → Ev (L i) (R i) := by
  have key : ∀ d i, i + d = n → Ev (L i) (R i) := by
    intro d
    induction d with
    | zero => intro i h; obtain rfl : i = n := by omega
              exact hn
    | succ d ih => intro i h; exact hs i (by omega) (ih (i + 1) (by omega))
  exact fun i h => key (n - i) i (by omega)
theorem rd_at (l : List Int) (i : Nat) (hi : i < l.length) : rd l (i : Int) = l[i] := by simp [rd, List.getD_eq_getElem?_getD, hi]
def inR (x lo hi : Int) : Bool := decide (lo ≤ x) && decide (x ≤ hi)
def keyOk (k : Int) : Bool := inR k 0 3
def valOk (v : Int) : Bool := inR v 1 6
def isClass (c : Int) : Bool := inR c 0 2
def classOf (v : Int) : Int := if valOk v then Int.tmod v 3 else -1
theorem spec_l1In_eq (x lo hi : Int) : spec_l1In.f x lo hi = some (inR x lo hi) := by
  unfold spec_l1In.f inR
  by_cases h : lo ≤ x <;> simp [h]
theorem impl_from_eq (x lo hi : Int) : impl_from.f x lo hi = some (inR x lo hi) := by
  unfold impl_from.f inR
  by_cases h : lo ≤ x <;> simp [h]
theorem spec_KeyOk_eq (x : Int) : spec_KeyOk.f x = some (keyOk x) := by simp [spec_KeyOk.f, spec_l1In_eq, keyOk]
theorem impl_KeyOk_eq (x : Int) : impl_KeyOk.f x = some (keyOk x) := by simp [impl_KeyOk.f, impl_from_eq, keyOk]
theorem spec_ValOk_eq (x : Int) : spec_ValOk.f x = some (valOk x) := by simp [spec_ValOk.f, spec_l1In_eq, valOk]
theorem impl_ValOk_eq (x : Int) : impl_ValOk.f x = some (valOk x) := by simp [impl_ValOk.f, impl_from_eq, valOk]
theorem and255 (x : Int) : 0 ≤ Go.bits .and .i64 x 255 ∧ Go.bits .and .i64 x 255 ≤ 255 := by
  have h : ((BitVec.ofInt 64 x).toNat &&& (BitVec.ofInt 64 255).toNat) ≤ 255 := Nat.le_trans Nat.and_le_right (by decide)
  have e : Go.bits .and .i64 x 255 = (((BitVec.ofInt 64 x).toNat &&& (BitVec.ofInt 64 255).toNat : Nat) : Int) := by
    show IntKind.i64.wrap ((BitVec.ofInt 64 x &&& BitVec.ofInt 64 255).toNat : Int) = _
    rw [IntKind.wrap_i64, BitVec.toNat_and]
    omega
  rw [e]
  omega
theorem l1Byte_some (l : List Int) (i h : Int) (hi : 0 ≤ i) (hl : l.length ≤ 1048576) : ∃ x i' h', spec_l1Byte.f l i h = some (x, i', h') ∧ 0 ≤ x ∧ x ≤ 255 ∧ 0 ≤ i' := by
  unfold spec_l1Byte.f
  by_cases c : i < (l.length : Int)
  · rw [if_pos c, if_pos hi]
    refine ⟨_, _, _, rfl, (and255 _).1, (and255 _).2, ?_⟩
    unfold wrap64; omega
  · rw [if_neg c]
    exact ⟨_, _, _, rfl, (and255 _).1, (and255 _).2, hi⟩
theorem tmod_lo (a b : Int) (ha : 0 ≤ a) (hb : 0 < b) : 0 ≤ Int.tmod a b ∧ Int.tmod a b < b := by
  rw [Int.tmod_eq_emod_of_nonneg ha]
  exact ⟨Int.emod_nonneg _ (by omega), Int.emod_lt_of_pos _ hb⟩
theorem l1Below_some (l : List Int) (i h n : Int) (hi : 0 ≤ i) (hl : l.length ≤ 1048576) : ∃ x i' h', spec_l1Below.f l i h n = some (x, i', h') ∧ 0 ≤ x ∧ (0 < n → x < n) ∧ (n ≤ 0 → x = 0) ∧ 0 ≤ i' := by
  unfold spec_l1Below.f
  by_cases c : n ≤ 0
  · rw [if_pos c]
    exact ⟨_, _, _, rfl, by omega, by omega, fun _ => rfl, hi⟩
  · rw [if_neg c]
    have c0 : ¬ n = 0 := by omega
    obtain ⟨x, i1, h1, e1, x0, x1, i10⟩ := l1Byte_some l i h hi hl
    simp only [e1, Option.bind_some, if_neg c0]
    by_cases c2 : n ≤ 256
    · rw [if_pos c2]
      have := tmod_lo x n x0 (by omega)
      exact ⟨_, _, _, rfl, this.1, fun _ => this.2, by omega, i10⟩
    · rw [if_neg c2]
      obtain ⟨y, i2, h2, e2, y0, y1, i20⟩ := l1Byte_some l i1 h1 i10 hl
      obtain ⟨z, i3, h3, e3, z0, z1, i30⟩ := l1Byte_some l i2 h2 i20 hl
      obtain ⟨u, i4, h4, e4, u0, u1, i40⟩ := l1Byte_some l i3 h3 i30 hl
      simp only [e2, e3, e4, Option.bind_some]
      have e : 0 ≤ wrap64 ((wrap64 ((wrap64 ((wrap64 (x * 16777216)) + (wrap64 (y * 65536)))) + (wrap64 (z * 256)))) + u) := by unfold wrap64; omega
      have := tmod_lo _ n e (by omega)
      exact ⟨_, _, _, rfl, this.1, fun _ => this.2, by omega, i40⟩
theorem l1New_ev (l : List Int) (hl : l.length ≤ 1048576) : ∃ h, Ev (fun k => spec_l1New.f k l) (l, 0, h) := by
  have key : ∀ d i : Nat, i + d = l.length → ∀ h : Int, ∃ h', Ev (fun k => spec_l1New.l0 k l h (i : Int)) (l, 0, h') := by
    intro d
    induction d with
    | zero =>
      intro i hi h
      refine ⟨h, Ev_at 1 (fun k => ?_)⟩
      simp only [spec_l1New.l0]
      rw [if_neg (by omega)]
    | succ d ih =>
      intro i hi h
      by_cases c : (i : Int) < 4000
      · obtain ⟨h', he⟩ := ih (i + 1) (by omega) (Go.bits .and .i64 (wrap64 ((wrap64 ((wrap64 (h * 131)) + (wrap64 (rd l i)))) + 7)) 1073741823)
        refine ⟨h', Ev.step (f := fun k => spec_l1New.l0 k l (Go.bits .and .i64 (wrap64 ((wrap64 ((wrap64 (h * 131)) + (wrap64 (rd l i)))) + 7)) 1073741823) ((i + 1 : Nat) : Int)) (fun k => ?_) he⟩
        simp only [spec_l1New.l0]
        rw [if_pos (by omega), if_pos c, if_pos (by omega), wrap_up i (by omega)]
      · refine ⟨h, Ev_at 1 (fun k => ?_)⟩
        simp only [spec_l1New.l0]
        rw [if_pos (by omega), if_neg c]
  obtain ⟨h, he⟩ := key l.length 0 (by omega) (wrap64 (27323 + (l.length : Int)))
  exact ⟨h, he⟩

theorem FnPlaces : laws_FnPlaces.Pure := by
  intro l0 hb _ _
  refine Ev.rounds (r := true) ?_
  unfold laws_FnPlaces.f
  simp only [laws_big.f, Option.bind_some]
  by_cases c : (l0.length : Int) > 1048576
  · simp only [decide_eq_true c, if_true]; exact Ev.now _
  simp only [decide_eq_false c, Bool.false_eq_true, if_false]
  have hl : l0.length ≤ 1048576 := by omega
  obtain ⟨h, hn⟩ := l1New_ev l0 hl
  obtain ⟨x, i', h', hx, x0, x1, _, _⟩ := l1Below_some l0 0 h 10 (by omega) hl
  have x2 := x1 (by omega)
  have q1 : Ev (fun k => spec_DrawRowAt.f k l0) (wrap64 (x - 2)) := by unfold spec_DrawRowAt.f; refine Ev.bind hn ?_; simp only [hx, Option.bind_some]; exact Ev.now _
  have q2 : Ev (fun k => spec_DrawOwnerAt.f k l0) (wrap64 (x - 2)) := by unfold spec_DrawOwnerAt.f; refine Ev.bind hn ?_; simp only [hx, Option.bind_some]; exact Ev.now _
  have q3 : Ev (fun k => spec_DrawCountAt.f k l0) (wrap64 (x - 2)) := by unfold spec_DrawCountAt.f; refine Ev.bind hn ?_; simp only [hx, Option.bind_some]; exact Ev.now _
  have q4 : Ev (fun k => spec_DrawViaAt.f k l0) (wrap64 (x - 2)) := by unfold spec_DrawViaAt.f; refine Ev.bind hn ?_; simp only [hx, Option.bind_some]; exact Ev.now _
  have q5 : Ev (fun k => spec_DrawKeyOk.f k l0) (wrap64 (x - 2)) := by unfold spec_DrawKeyOk.f; refine Ev.bind hn ?_; simp only [hx, Option.bind_some]; exact Ev.now _
  have q6 : Ev (fun k => spec_DrawValOk.f k l0) (wrap64 (x - 2)) := by unfold spec_DrawValOk.f; refine Ev.bind hn ?_; simp only [hx, Option.bind_some]; exact Ev.now _
  have q7 : Ev (fun k => spec_DrawClassOf.f k l0) (wrap64 (x - 2)) := by unfold spec_DrawClassOf.f; refine Ev.bind hn ?_; simp only [hx, Option.bind_some]; exact Ev.now _
  refine Ev.bind q1 (Ev.bind q2 (Ev.bind q3 (Ev.bind q4 (Ev.bind q5 (Ev.bind q6 (Ev.bind q7 ?_))))))
  have e1 : ∀ v, ∃ r, impl_RowAt.f v = some r ∧ spec_RowAt.f v = some r := fun v => by
    simp only [impl_RowAt.f, impl_KeyOk_eq, impl_placed.f, spec_RowAt.f, spec_KeyOk_eq, Option.bind_some]
    cases keyOk v <;> exact ⟨_, rfl, rfl⟩
  have e2 : ∀ v, ∃ r, impl_OwnerAt.f v = some r ∧ spec_OwnerAt.f v = some r := fun v => by
    simp only [impl_OwnerAt.f, impl_ValOk_eq, impl_placed.f, spec_OwnerAt.f, spec_ValOk_eq, Option.bind_some]
    cases valOk v <;> exact ⟨_, rfl, rfl⟩
  have e3 : ∀ v, ∃ r, impl_CountAt.f v = some r ∧ spec_CountAt.f v = some r := fun v => by
    simp only [impl_CountAt.f, impl_isClass.f, impl_from_eq, impl_placed.f, spec_CountAt.f, spec_l1In_eq, Option.bind_some]
    cases inR v 0 2 <;> exact ⟨_, rfl, rfl⟩
  have e4 : ∀ v, ∃ r, impl_ViaAt.f v = some r ∧ spec_ViaAt.f v = some r := fun v => by
    simp only [impl_ViaAt.f, impl_ValOk_eq, impl_placed.f, impl_StateAt.f, spec_ViaAt.f, spec_ValOk_eq, spec_StateAt.f, Option.bind_some]
    cases valOk v <;> exact ⟨_, rfl, rfl⟩
  have e5 : ∀ v, ∃ r, impl_ClassOf.f v = some r ∧ spec_ClassOf.f v = some r := fun v => by
    simp only [impl_ClassOf.f, impl_ValOk_eq, spec_ClassOf.f, spec_ValOk_eq, Option.bind_some]
    cases valOk v <;> exact ⟨_, rfl, rfl⟩
  obtain ⟨r1, a1, b1⟩ := e1 (wrap64 (x - 2))
  obtain ⟨r2, a2, b2⟩ := e2 (wrap64 (x - 2))
  obtain ⟨r3, a3, b3⟩ := e3 (wrap64 (x - 2))
  obtain ⟨r4, a4, b4⟩ := e4 (wrap64 (x - 2))
  obtain ⟨r5, a5, b5⟩ := e5 (wrap64 (x - 2))
  simp only [a1, b1, a2, b2, a3, b3, a4, b4, a5, b5, impl_KeyOk_eq, spec_KeyOk_eq, impl_ValOk_eq, spec_ValOk_eq, impl_StateAt.f, spec_StateAt.f, Option.bind_some, if_true, if_pos, bne_self_eq_false, Bool.false_eq_true, if_false]
  exact Ev.of (k := 400) (fun k => (laws_FnPlaces.mono_l k).1 false) (by decide +kernel)

end Go.Proofs.Ytcjkkcjnlcehnaa.Pure
