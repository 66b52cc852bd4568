/- The pure statement behind the law FnExactSplit: over plain values, for every argument, the law's Lean function answers true. No condition beyond the law's own. -/
import Derived.Test.YtblpbhhomocfbaaDoorPFnExactSplitx2
import Derived.Laws.Strings
namespace Go.Proofs.YtblpbhhomocfbaaDoor.Pure
open Go.RowKit Go.Proofs.YtblpbhhomocfbaaDoor.PFnExactSplit Go.Proofs.YtblpbhhomocfbaaDoorW.PrintWords Go.Proofs.YtblpbhhomocfbaaDoorW.PrintLast

theorem Ev_at {α : Type} {g : Nat → Option α} {r : α} (n : Nat) (h : ∀ k, g (k + n) = some r) : Ev g r := ⟨n, fun k hk => by
  obtain ⟨m, rfl⟩ : ∃ m, k = m + n := ⟨k - n, by omega⟩
  exact h m⟩
theorem Ev_down {α : Type} {L : Nat → Nat → Option α} {r : α} (n : Nat) (hn : Ev (L n) r) (hs : ∀ i, i < n → Ev (L (i + 1)) r → Ev (L i) r) : ∀ i, i ≤ n → Ev (L i) r := by
  have key : ∀ d i, i + d = n → Ev (L i) r := by
    intro d
    induction d with
    | zero => intro i h; obtain rfl : i = n := by omega
              exact hn
    | succ d ih => intro i h; exact hs i (by omega) (ih (i + 1) (by omega))
  exact fun i h => key (n - i) i (by omega)
theorem wrap_up (i : Nat) (h : i < 9223372036854775807) : wrap64 ((i : Int) + 1) = ((i + 1 : Nat) : Int) := by unfold wrap64; omega
theorem set_fill {α β : Type} (l : List α) (i : Nat) (hi : i < l.length) (z : β) (f : α → β) (v : β) (hv : v = f (l[i]'hi)) :
    ((l.take i).map f ++ List.replicate (l.length - i) z).set (i : Int).toNat v = (l.take (i + 1)).map f ++ List.replicate (l.length - (i + 1)) z := by
  subst hv
  have h1 : ((l.take i).map f).length = i := by simp; omega
  rw [Int.toNat_natCast, List.set_append, if_neg (by omega), h1, Nat.sub_self]
  obtain ⟨m, hm⟩ : ∃ m, l.length - i = m + 1 := ⟨l.length - i - 1, by omega⟩
  rw [hm, List.replicate_succ, List.set_cons_zero, show l.length - (i + 1) = m by omega, List.take_succ_eq_append_getElem hi, List.map_append, List.append_assoc]
  rfl
theorem set_fill_id {α : Type} (l : List α) (i : Nat) (hi : i < l.length) (z : α) (v : α) (hv : v = l[i]'hi) :
    (l.take i ++ List.replicate (l.length - i) z).set (i : Int).toNat v = l.take (i + 1) ++ List.replicate (l.length - (i + 1)) z := by
  have := set_fill l i hi z id v hv
  simpa using this
theorem Ev_downR {α : Type} {L : Nat → Nat → Option α} {R : Nat → α} (n : Nat) (hn : Ev (L n) (R n)) (hs : ∀ i, i < n → Ev (L (i + 1)) (R (i + 1)) → Ev (L i) (R i)) : ∀ i, i ≤ n → Ev (L i) (R i) := by
  have key : ∀ d i, i + d = n → Ev (L i) (R i) := by
    intro d
    induction d with
    | zero => intro i h; obtain rfl : i = n := by omega
              exact hn
    | succ d ih => intro i h; exact hs i (by omega) (ih (i + 1) (by omega))
  exact fun i h => key (n - i) i (by omega)
theorem rd_at (l : List Int) (i : Nat) (hi : i < l.length) : rd l (i : Int) = l[i] := by simp [rd, List.getD_eq_getElem?_getD, hi]
theorem mark_fill {α : Type} (g : Nat → α) (l : List α) (i : Nat) (hi : i < l.length) : ((List.range i).map g ++ l.drop i).set i (g i) = (List.range (i + 1)).map g ++ l.drop (i + 1) := by
  rw [List.set_append, if_neg (by simp), List.length_map, List.length_range, Nat.sub_self, List.drop_eq_getElem_cons hi, List.set_cons_zero, List.range_succ, List.map_append, List.append_assoc]
  rfl
theorem Ev_pos {α : Type} {x : Int} {g : Nat → Option α} {r : α} (h : 0 ≤ x) : Ev (fun k => if x < 0 then none else g k) r = Ev g r := by
  have h' : ¬ x < 0 := by omega
  simp only [if_neg h']
theorem sp_ext {a b : ByteArray} (h : a.data.toList = b.data.toList) : a = b := by
  obtain ⟨⟨l⟩⟩ := a
  obtain ⟨⟨m⟩⟩ := b
  simp at h
  rw [h]
theorem sp_index_miss (l : List UInt8) (c : UInt8) (h : c ∉ l) : Lib.index l [c] = -1 := by
  induction l with
  | nil => rfl
  | cons b l ih =>
    have h1 : ¬ c = b := fun e => h (by simp [e])
    have h2 : c ∉ l := fun e => h (by simp [e])
    unfold Lib.index
    rw [ih h2]
    simp [List.isPrefixOf, h1]
theorem sp_index_hit (p : List UInt8) (c : UInt8) (q : List UInt8) (h : c ∉ p) : Lib.index (p ++ c :: q) [c] = (p.length : Int) := by
  induction p with
  | nil => simp [Lib.index, List.isPrefixOf]
  | cons b l ih =>
    have h1 : ¬ c = b := fun e => h (by simp [e])
    have h2 : c ∉ l := fun e => h (by simp [e])
    rw [List.cons_append]
    unfold Lib.index
    rw [ih h2]
    have : ¬ ((l.length : Int) = -1) := by omega
    simp [List.isPrefixOf, h1, this]
def sp_suf (s : ByteArray) (f : Nat) : ByteArray := s.extract f s.size
theorem sp_suf_data (s : ByteArray) (f : Nat) : (sp_suf s f).data.toList = s.data.toList.drop f := Lib.extract_to_end s f
theorem sp_suf_size (s : ByteArray) (f : Nat) : (sp_suf s f).size = s.size - f := by
  have := congrArg List.length (sp_suf_data s f)
  simpa using this
theorem sp_suf_suf (s : ByteArray) (f j : Nat) : (sp_suf s f).extract j (sp_suf s f).size = sp_suf s (f + j) := by
  apply sp_ext
  rw [Lib.extract_to_end, sp_suf_data, sp_suf_data, List.drop_drop]
theorem sp_head (s : ByteArray) (f j : Nat) (h : f + j ≤ s.size) : (sp_suf s f).extract 0 j = s.extract f (f + j) := by
  apply sp_ext
  rw [Lib.extract_data, Lib.extract_data, sp_suf_data]
  simp
theorem sp_notin {l : List UInt8} {c : UInt8} {f i : Nat} (h : ∀ j, f ≤ j → j < i → l[j]? ≠ some c) : c ∉ (l.drop f).take (i - f) := by
  intro hm
  obtain ⟨j, hj, e⟩ := List.getElem_of_mem hm
  have hj' : j < i - f := by rw [List.length_take] at hj; omega
  refine h (f + j) (by omega) (by omega) ?_
  have : ((l.drop f).take (i - f))[j]? = some c := by rw [List.getElem?_eq_getElem hj, e]
  rw [List.getElem?_take] at this
  rw [if_pos hj', List.getElem?_drop] at this
  exact this
def sp_P (sep s : ByteArray) (f : Nat) : List ByteArray := Lib.splitB sep 0 (Lib.countB (sp_suf s f) sep) (sp_suf s f)
theorem sp_P_miss (c : UInt8) (s : ByteArray) (f : Nat) (hf : f ≤ s.size) (h : ∀ j, f ≤ j → j < s.size → s.data.toList[j]? ≠ some c) : sp_P ⟨#[c]⟩ s f = [s.extract f s.size] := by
  refine Lib.splitB_miss _ _ _ _ ?_
  show Lib.index (sp_suf s f).data.toList [c] = -1
  rw [sp_suf_data]
  refine sp_index_miss _ _ ?_
  have := sp_notin (l := s.data.toList) (i := s.size) h
  rwa [List.take_of_length_le (by rw [List.length_drop]; exact Nat.le_refl _)] at this
theorem sp_P_hit (c : UInt8) (s : ByteArray) (f i : Nat) (hf : f ≤ i) (hi : i < s.size) (hc : s.data.toList[i]? = some c) (h : ∀ j, f ≤ j → j < i → s.data.toList[j]? ≠ some c) :
    sp_P ⟨#[c]⟩ s f = s.extract f i :: sp_P ⟨#[c]⟩ s (i + 1) := by
  have hl : i < s.data.toList.length := hi
  have hx : Lib.indexB (sp_suf s f) ⟨#[c]⟩ = ((i - f : Nat) : Int) := by
    show Lib.index (sp_suf s f).data.toList [c] = _
    rw [sp_suf_data]
    have e : s.data.toList.drop f = (s.data.toList.drop f).take (i - f) ++ c :: s.data.toList.drop (i + 1) := by
      have h1 : (s.data.toList.drop f).drop (i - f) = c :: s.data.toList.drop (i + 1) := by
        rw [List.drop_drop, show f + (i - f) = i by omega, List.drop_eq_getElem_cons hl]
        congr 1
        rw [List.getElem?_eq_getElem hl] at hc
        exact Option.some.inj hc
      rw [← h1, List.take_append_drop]
    rw [e, sp_index_hit _ _ _ (sp_notin h)]
    rw [List.length_take, List.length_drop]
    omega
  unfold sp_P
  rw [Lib.countB_hit (sp_suf s f) ⟨#[c]⟩ (i - f) (Nat.le_refl 1) hx, Nat.add_comm 1, Lib.splitB_hit _ _ _ _ _ hx]
  have e1 : (sp_suf s f).extract (i - f + (⟨#[c]⟩ : ByteArray).size) (sp_suf s f).size = sp_suf s (i + 1) := by
    rw [sp_suf_suf]
    show sp_suf s (f + (i - f + 1)) = _
    rw [show f + (i - f + 1) = i + 1 by omega]
  rw [e1, Nat.add_zero, sp_head s f (i - f) (by omega), show f + (i - f) = i by omega]
theorem sp_key (s : ByteArray) (hs : s.size < 4294967281) (a : Int) (h0 : 0 ≤ a) (h1 : a ≤ 255) (r : List ByteArray) : ∀ (k i f : Nat) (out : List ByteArray), f ≤ i → i ≤ s.size → (∀ j, f ≤ j → j < i → s.data.toList[j]? ≠ some a.toNat.toUInt8) →
    spec_Split.l0 k s a out (f : Int) (i : Int) = some r → r = out ++ sp_P ⟨#[a.toNat.toUInt8]⟩ s f := by
  intro k
  induction k with
  | zero => intro i f out _ _ _ h; simp [spec_Split.l0] at h
  | succ k ih =>
    intro i f out hf hi hno h
    have hw : wrap64 ((i : Int) + 1) = ((i + 1 : Nat) : Int) := by unfold wrap64; omega
    simp only [spec_Split.l0, hw] at h
    rw [if_pos (show (i : Int) ≤ (s.size : Int) by omega)] at h
    by_cases c : (i : Int) = (s.size : Int)
    · have ci : i = s.size := by omega
      subst ci
      rw [if_pos c, if_pos (by omega), if_pos (by omega)] at h
      split at h
      · cases k with
        | zero => simp [spec_Split.l0] at h
        | succ k =>
          simp only [spec_Split.l0] at h
          rw [if_neg (by omega)] at h
          obtain rfl := Option.some.inj h
          rw [sp_P_miss _ s f hf hno]
          simp
      · cases h
    · have ilt : i < s.size := by omega
      have hl : i < s.data.toList.length := ilt
      rw [if_neg c, if_pos (by omega), if_pos (by omega)] at h
      have hb : bt s (i : Int) = ((s.data.toList[i]'hl).toNat : Int) := by
        have : (i : Int).toNat < s.size := by omega
        unfold bt
        rw [dif_pos this]
        rfl
      have hgc : bt s (i : Int) = a ↔ s.data.toList[i]? = some a.toNat.toUInt8 := by
        rw [hb, List.getElem?_eq_getElem hl, Option.some.injEq]
        constructor
        · intro e
          apply UInt8.toNat_inj.1
          rw [UInt8.toNat_ofNat']
          omega
        · intro e
          rw [e, UInt8.toNat_ofNat']
          omega
      by_cases cc : bt s (i : Int) = a
      · rw [if_pos cc, if_pos (by omega), if_pos (by omega)] at h
        split at h
        · have := ih (i + 1) (i + 1) _ (Nat.le_refl _) (by omega) (fun j h1 h2 => by omega) h
          rw [this, sp_P_hit _ s f i hf ilt (hgc.1 cc) hno]
          simp
        · cases h
      · rw [if_neg cc] at h
        refine ih (i + 1) f out (by omega) (by omega) (fun j h1 h2 => ?_) h
        by_cases e : j = i
        · subst e; exact fun e => cc (hgc.2 e)
        · exact hno j h1 (by omega)
theorem sp_all (s : ByteArray) (hs : s.size < 4294967281) (a : Int) (h0 : 0 ≤ a) (h1 : a ≤ 255) (r : List ByteArray) (k : Nat) (h : spec_Split.f k s a = some r) : r = Lib.splitB ⟨#[a.toNat.toUInt8]⟩ 0 (Lib.countB s ⟨#[a.toNat.toUInt8]⟩) s := by
  have := sp_key s hs a h0 h1 r k 0 0 [] (Nat.le_refl _) (Nat.zero_le _) (fun j _ h2 => by omega) h
  have e : sp_suf s 0 = s := by apply sp_ext; rw [sp_suf_data]; rfl
  rw [this]
  unfold sp_P
  rw [e]
  simp

theorem sp_ex (s : ByteArray) (hs : s.size ≤ 1048576) (a : Int) : ∀ (d i f : Nat) (out : List ByteArray), i + d = s.size + 1 → f ≤ i → out.length ≤ i → ∃ r, Ev (fun k => spec_Split.l0 k s a out (f : Int) (i : Int)) r := by
  intro d
  induction d with
  | zero =>
    intro i f out hi hf ho
    refine ⟨out, Ev_at 1 (fun k => ?_)⟩
    simp only [spec_Split.l0]
    rw [if_neg (by omega)]
  | succ d ih =>
    intro i f out hi hf ho
    have hw : wrap64 ((i : Int) + 1) = ((i + 1 : Nat) : Int) := by unfold wrap64; omega
    obtain ⟨r1, h1⟩ := ih (i + 1) (i + 1) (out ++ [s.extract (f : Int).toNat (i : Int).toNat]) (by omega) (Nat.le_refl _) (by simp; omega)
    obtain ⟨r2, h2⟩ := ih (i + 1) f out (by omega) (by omega) (by omega)
    by_cases c : (i : Int) = (s.size : Int)
    · refine ⟨r1, Ev.step (fun k => ?_) h1⟩
      simp only [spec_Split.l0]
      rw [if_pos (by omega), if_pos c, if_pos (by omega), if_pos (by omega), if_pos (by omega), hw]
    · by_cases cc : bt s (i : Int) = a
      · refine ⟨r1, Ev.step (fun k => ?_) h1⟩
        simp only [spec_Split.l0]
        rw [if_pos (by omega), if_neg c, if_pos (by omega), if_pos (by omega), if_pos cc, if_pos (by omega), if_pos (by omega), if_pos (by omega), hw]
      · refine ⟨r2, Ev.step (fun k => ?_) h2⟩
        simp only [spec_Split.l0]
        rw [if_pos (by omega), if_neg c, if_pos (by omega), if_pos (by omega), if_neg cc, hw]
theorem spec_Split_ev (s : ByteArray) (hs : s.size ≤ 1048576) (a : Int) (h0 : 0 ≤ a) (h1 : a ≤ 255) : Ev (fun k => spec_Split.f k s a) (splits s a) := by
  obtain ⟨r, n, h⟩ := sp_ex s hs a (s.size + 1) 0 0 [] (by omega) (Nat.le_refl _) (by simp)
  have e := sp_all s (by omega) a h0 h1 r n (h n (Nat.le_refl _))
  exact ⟨n, fun k hk => by have := h k hk; rw [e] at this; exact this⟩
theorem splits_len (s : ByteArray) (a : Int) : (splits s a).length ≤ s.size + 1 := by
  unfold splits
  rw [splitB_len]
  have := Lib.countB_le ⟨#[a.toNat.toUInt8]⟩ (one_le a) s.size s (Nat.le_refl _)
  omega
theorem eqS_ev (l : List ByteArray) (h : l.length ≤ 2000000) : Ev (fun k => laws_eqStringS.f k l l) true := by
  have key : ∀ i, i ≤ l.length → Ev (fun k => laws_eqStringS.l0 k l l (i : Int)) true := by
    refine Ev_down (L := fun i k => laws_eqStringS.l0 k l l (i : Int)) l.length ?_ ?_
    · refine Ev_at 1 (fun k => ?_)
      simp only [laws_eqStringS.l0]
      rw [if_neg (by omega)]
    · intro i hi ih
      refine Ev.step (f := fun k => laws_eqStringS.l0 k l l ((i + 1 : Nat) : Int)) (fun k => ?_) ih
      simp only [laws_eqStringS.l0]
      rw [if_pos (by omega), if_pos (by omega), if_pos (by omega), wrap_up i (by omega)]
      simp only [if_true]
  have := key 0 (Nat.zero_le _)
  unfold laws_eqStringS.f
  simp only [if_true]
  exact this
theorem mt_ex : ∀ (n : Nat) (x : ByteArray), x.size + n ≤ 1000000000 → ∃ r, Ev (fun k => laws_markText.l0 k (n : Int) x) r := by
  intro n
  induction n using Nat.strongRecOn with
  | _ n ih =>
    intro x hx
    by_cases c : n = 0
    · subst c
      refine ⟨(⟨#[109]⟩ : ByteArray) ++ x, Ev_at 1 (fun k => ?_)⟩
      simp only [laws_markText.l0]
      rw [if_neg (by omega), if_pos (by omega)]
    · have hd : Int.tdiv (n : Int) 10 = ((n / 10 : Nat) : Int) := by rw [Int.tdiv_eq_ediv_of_nonneg (by omega)]; omega
      have hw : wrap64 (Int.tdiv (n : Int) 10) = ((n / 10 : Nat) : Int) := by rw [hd]; unfold wrap64; omega
      have hs : ∀ v : Int, (strOfNums [v]).size = 1 := fun v => rfl
      obtain ⟨r, hr⟩ := ih (n / 10) (by omega) (strOfNums [(wrap64 (48 + (Int.tmod (n : Int) 10))) % 256] ++ x) (by rw [ByteArray.size_append, hs]; omega)
      refine ⟨r, Ev.step (fun k => ?_) hr⟩
      simp only [laws_markText.l0, Option.bind_some, hs]
      rw [if_pos (by omega), if_pos (by omega), hw]
theorem mt_exf (n : Nat) (h : n ≤ 1000000000) : ∃ r, Ev (fun k => laws_markText.f k (n : Int)) r := by
  by_cases c : n = 0
  · subst c
    refine ⟨⟨#[109, 48]⟩, Ev_at 0 (fun k => ?_)⟩
    unfold laws_markText.f
    rw [if_pos (by omega)]
  · obtain ⟨r, hr⟩ := mt_ex n ⟨#[]⟩ (by show 0 + n ≤ _; omega)
    refine ⟨r, ?_⟩
    have e : (fun k => laws_markText.f k (n : Int)) = fun k => laws_markText.l0 k (n : Int) ⟨#[]⟩ := by
      funext k
      unfold laws_markText.f
      rw [if_neg (by omega)]
    rw [e]
    exact hr
open Classical in
noncomputable def mt (n : Nat) : ByteArray := if h : ∃ r, Ev (fun k => laws_markText.f k (n : Int)) r then Classical.choose h else ⟨#[]⟩
theorem mt_ev (n : Nat) (h : n ≤ 1000000000) : Ev (fun k => laws_markText.f k (n : Int)) (mt n) := by
  have hx := mt_exf n h
  unfold mt
  rw [dif_pos hx]
  exact Classical.choose_spec hx
noncomputable def mk1 (i : Nat) : ByteArray := mt (i + 1)
theorem markS_ev (l : List ByteArray) (h : l.length ≤ 2000000) : Ev (fun k => laws_markStringS.f k l 1) (1 + (l.length : Int), (List.range l.length).map mk1) := by
  have key : ∀ i, i ≤ l.length → Ev (fun k => laws_markStringS.l0 k ((List.range i).map mk1 ++ l.drop i) (((i + 1 : Nat) : Int)) (i : Int)) (1 + (l.length : Int), (List.range l.length).map mk1) := by
    refine Ev_down (L := fun i k => laws_markStringS.l0 k ((List.range i).map mk1 ++ l.drop i) (((i + 1 : Nat) : Int)) (i : Int)) l.length ?_ ?_
    · refine Ev_at 1 (fun k => ?_)
      simp only [laws_markStringS.l0]
      rw [if_neg (by simp)]
      simp
      omega
    · intro i hi ih
      have hlen : ((List.range i).map mk1 ++ l.drop i).length = l.length := by simp; omega
      refine Ev.step (f := fun k => (laws_markText.f k ((i + 1 : Nat) : Int)).bind fun t124 => if 0 ≤ (i : Int) then laws_markStringS.l0 k (((List.range i).map mk1 ++ l.drop i).set (i : Int).toNat t124) (wrap64 (((i + 1 : Nat) : Int) + 1)) (wrap64 ((i : Int) + 1)) else none) (fun k => ?_) ?_
      · simp only [laws_markStringS.l0, hlen]
        rw [if_pos (by omega)]
      · refine Ev.bind (mt_ev (i + 1) (by omega)) ?_
        have e : ((List.range i).map mk1 ++ l.drop i).set (i : Int).toNat (mt (i + 1)) = (List.range (i + 1)).map mk1 ++ l.drop (i + 1) := mark_fill mk1 l i hi
        rw [e, wrap_up i (by omega), wrap_up (i + 1) (by omega)]
        simp only [if_pos (show 0 ≤ (i : Int) by omega)]
        exact ih
  have := key 0 (Nat.zero_le _)
  unfold laws_markStringS.f
  simpa using this
theorem heldS_ev (n : Nat) (h : n ≤ 2000000) : Ev (fun k => laws_heldStringS.f k ((List.range n).map mk1) 1) (1 + (n : Int)) := by
  have key : ∀ i, i ≤ n → Ev (fun k => laws_heldStringS.l0 k ((List.range n).map mk1) (((i + 1 : Nat) : Int)) (i : Int)) (1 + (n : Int)) := by
    refine Ev_down (L := fun i k => laws_heldStringS.l0 k ((List.range n).map mk1) (((i + 1 : Nat) : Int)) (i : Int)) n ?_ ?_
    · refine Ev_at 1 (fun k => ?_)
      simp only [laws_heldStringS.l0]
      rw [if_neg (by simp)]
      have : ((n + 1 : Nat) : Int) = 1 + (n : Int) := by omega
      rw [this]
    · intro i hi ih
      have hr : rdOf ByteArray.empty ((List.range n).map mk1) (i : Int) = mk1 i := by simp [rdOf, List.getD_eq_getElem?_getD, hi]
      refine Ev.step (f := fun k => (laws_markText.f k ((i + 1 : Nat) : Int)).bind fun t127 => if (mk1 i).toList = t127.toList then laws_heldStringS.l0 k ((List.range n).map mk1) (wrap64 (((i + 1 : Nat) : Int) + 1)) (wrap64 ((i : Int) + 1)) else some (-1)) (fun k => ?_) ?_
      · simp only [laws_heldStringS.l0, hr]
        rw [if_pos (by simp; omega), if_pos (by omega)]
      · refine Ev.bind (mt_ev (i + 1) (by omega)) ?_
        rw [wrap_up i (by omega), wrap_up (i + 1) (by omega)]
        simp only [if_pos (show (mk1 i).toList = (mt (i + 1)).toList from rfl)]
        exact ih
  have := key 0 (Nat.zero_le _)
  unfold laws_heldStringS.f
  simpa using this
/-- For every string and byte the law's Lean function answers true. -/
theorem FnExactSplit : laws_FnExactSplit.Pure := by
  intro a0 a1 _ hw
  refine Ev.rounds (r := true) ?_
  unfold laws_FnExactSplit.f
  by_cases c : (a0.size : Int) > 1048576
  · simp only [if_pos c]; exact Ev.now _
  simp only [if_neg c]
  have hl : a0.size ≤ 1048576 := by omega
  have hb : 0 ≤ a1 ∧ a1 ≤ 255 := by simpa [Lit.wf, IntKind.min, IntKind.max, IntKind.signed, IntKind.bits] using hw
  have hlen := splits_len a0 a1
  have im : Ev (fun k => impl_Split.f k a0 a1) (splits a0 a1) := Ev_at 0 (fun k => by
    unfold impl_Split.f
    rw [if_pos ⟨hb.1, hb.2, by omega⟩])
  refine Ev.bind (spec_Split_ev a0 hl a1 hb.1 hb.2) ?_
  refine Ev.bind im ?_
  refine Ev.bind (eqS_ev _ (by omega)) ?_
  simp only [if_true]
  refine Ev.bind (markS_ev _ (by omega)) ?_
  refine Ev.bind (heldS_ev _ (by omega)) ?_
  simp only [if_neg (show ¬ 1 + ((splits a0 a1).length : Int) < 0 by omega), if_true]
  refine Ev.bind im ?_
  refine Ev.bind (eqS_ev _ (by omega)) ?_
  simp only [if_true]
  refine Ev.bind (heldS_ev _ (by omega)) ?_
  simp only [if_neg (show ¬ 1 + ((splits a0 a1).length : Int) < 0 by omega), if_true]
  exact Ev.now _

end Go.Proofs.YtblpbhhomocfbaaDoor.Pure
