/- Contracts of functions of the program: each says that the call does what a plain Lean function tells. Made by programs of this session and of the kit. No condition beyond the hypotheses that each theorem names. -/
import Derived.Test.YtmkhghbalnadlaaPFnExactMemNewx0
import Derived.Test.YtmkhghbalnadlaaPFnExactMemNewx8
import Derived.Test.YtmkhghbalnadlaaPFnExactMemNewx9
namespace Go.Proofs.Ytmkhghbalnadlaa.PFnExactMemNew
open Go.RowKit Go.Proofs.YtmkhghbalnadlaaW.PrintWords Go.Proofs.YtmkhghbalnadlaaW.PrintLast Go.Proofs.YtmkhghbalnadlaaW.PrintMore
attribute [local go_sem] max2_int min2_int max_two min_two max_three min_three max_four min_four   -- for this text's walks alone
set_option linter.unusedVariables false
set_option linter.unusedSimpArgs false

/-! ### impl_MemOk: function 58 -/
mutual
def impl_MemOk.j0 : Nat → Bool → List (S95) → List (S119) → Option (Bool)
 | 0, _, _, _ => none
 | k + 1, x23, x263000, x263001 => if x23 = true then (some false) else (impl_MemOk.l0 k x263000 (x263000.length : Int) 0 x263000 x263001)
def impl_MemOk.l0 : Nat → List (S95) → Int → Int → List (S95) → List (S119) → Option (Bool)
 | 0, _, _, _, _, _ => none
 | k + 1, x25, x26, x27, x263000, x263001 => if x27 < x26 then (if 0 ≤ x27 then (if x27 < (x25.length : Int) then ((impl_WordOk.f ((rd_T95 x25 x27).f0) ((rd_T95 x25 x27).f1) ((rd_T95 x25 x27).f2) (x263001.length : Int)).bind fun t267 => (if t267 = true then (if ((rd_T95 x25 x27).f1) = 0 then (impl_MemOk.l0 k x25 x26 (wrap64 (x27 + 1)) x263000 x263001) else (if 0 ≤ (wrap64 (((rd_T95 x25 x27).f1) - 1)) then (if (wrap64 (((rd_T95 x25 x27).f1) - 1)) < (x263001.length : Int) then ((impl_Entries.f k ((rd_T119 x263001 (wrap64 (((rd_T95 x25 x27).f1) - 1))).f0) ((rd_T119 x263001 (wrap64 (((rd_T95 x25 x27).f1) - 1))).f1) ((rd_T119 x263001 (wrap64 (((rd_T95 x25 x27).f1) - 1))).f2) ((rd_T119 x263001 (wrap64 (((rd_T95 x25 x27).f1) - 1))).f3.f0) ((rd_T119 x263001 (wrap64 (((rd_T95 x25 x27).f1) - 1))).f3.f1) x27).bind fun bt270 => (if bt270.2.2.2 = true then (if ((rd_T119 x263001 (wrap64 (((rd_T95 x25 x27).f1) - 1))).f0) = ((rd_T95 x25 x27).f2) then (impl_MemOk.l0 k x25 x26 (wrap64 (x27 + 1)) x263000 x263001) else (some false)) else (some false))) else (none)) else (none))) else (some false))) else (none)) else (none)) else (some true)
end
def impl_MemOk.f (k : Nat) (l0_0 : List (S95)) (l0_1 : List (S119)) : Option (Bool) := if (l0_0.length : Int) = 20 then ((impl_from.f (l0_1.length : Int) 1 4).bind fun t263 => (if t263 = true then ((slices_ContainsFuncMemOk_c1.f k l0_1).bind fun t264 => (impl_MemOk.j0 k t264 l0_0 l0_1)) else (impl_MemOk.j0 k true l0_0 l0_1))) else (impl_MemOk.j0 k true l0_0 l0_1)
theorem impl_MemOk.mono_l : ∀ k, (∀ y0 y1 y2, LeO (impl_MemOk.j0 k y0 y1 y2) (impl_MemOk.j0 (k + 1) y0 y1 y2)) ∧ (∀ y0 y1 y2 y3 y4, LeO (impl_MemOk.l0 k y0 y1 y2 y3 y4) (impl_MemOk.l0 (k + 1) y0 y1 y2 y3 y4))
 | 0 => ⟨fun _ _ _ r h => by simp [impl_MemOk.j0] at h, fun _ _ _ _ _ r h => by simp [impl_MemOk.l0] at h⟩
 | k + 1 => by
  obtain ⟨ih0, ih1⟩ := impl_MemOk.mono_l k
  refine ⟨?_, ?_⟩
  ·
   intro y0 y1 y2
   unfold impl_MemOk.j0
   repeat' first | (with_reducible first | apply ih0 | apply ih1 | apply impl_Entries.mono | apply slices_ContainsFuncMemOk_c1.mono | apply LeO.refl | apply LeO.none | apply LeO.ite | refine LeO.bind ?_ (fun _ => ?_)) | apply ih0 | apply ih1 | apply impl_Entries.mono | apply slices_ContainsFuncMemOk_c1.mono | apply LeO.none | apply LeO.ite | refine LeO.bind ?_ (fun _ => ?_)
  intro y0 y1 y2 y3 y4
  unfold impl_MemOk.l0
  repeat' first | (with_reducible first | apply ih0 | apply ih1 | apply impl_Entries.mono | apply slices_ContainsFuncMemOk_c1.mono | apply LeO.refl | apply LeO.none | apply LeO.ite | refine LeO.bind ?_ (fun _ => ?_)) | apply ih0 | apply ih1 | apply impl_Entries.mono | apply slices_ContainsFuncMemOk_c1.mono | apply LeO.none | apply LeO.ite | refine LeO.bind ?_ (fun _ => ?_)
theorem impl_MemOk.mono : ∀ a0 a1 k, LeO (impl_MemOk.f k a0 a1) (impl_MemOk.f (k + 1) a0 a1) := by
 intro a0 a1 k
 obtain ⟨ih0, ih1⟩ := impl_MemOk.mono_l k
 unfold impl_MemOk.f
 repeat' first | (with_reducible first | apply ih0 | apply ih1 | apply impl_Entries.mono | apply slices_ContainsFuncMemOk_c1.mono | apply LeO.refl | apply LeO.none | apply LeO.ite | refine LeO.bind ?_ (fun _ => ?_)) | apply ih0 | apply ih1 | apply impl_Entries.mono | apply slices_ContainsFuncMemOk_c1.mono | apply LeO.none | apply LeO.ite | refine LeO.bind ?_ (fun _ => ?_)
set_option maxHeartbeats 8000000 in
set_option maxRecDepth 100000 in
theorem impl_MemOk.calls (k : Nat) (A0_0 : Option Addr) (c0_0 : Nat) (l0_0 : List (S95)) (A0_1 : Option Addr) (c0_1 : Nat) (l0_1 : List (S119)) (r : Bool) (w : World) (hr0_0 : Kd.C k95 w A0_0 l0_0.length l0_0) (hc0_0 : l0_0.length ≤ c0_0) (hr0_1 : Kd.C k119 w A0_1 l0_1.length l0_1) (hc0_1 : l0_1.length ≤ c0_1) (h : impl_MemOk.f k l0_0 l0_1 = some r) :
    Calls Try.prog 58 #[.agg #[.slice A0_0 l0_0.length c0_0, .slice A0_1 l0_1.length c0_1]] w fun e w' => e = .returned (.bool r) ∧ Below w.heap.size w w' := by
 have hu31 := Try.underlying31
 have hu95 := Try.underlying95
 have hu119 := Try.underlying119
 have hu122 := Try.underlying122
 have HR0_0 := A_ hr0_0
 have HC0_0 := A_ hc0_0
 clear hr0_0 hc0_0
 have HR0_1 := A_ hr0_1
 have HC0_1 := A_ hc0_1
 clear hr0_1 hc0_1
 have HB := A_ (Below.refl w.heap.size w)
 have H : (if (l0_0.length : Int) = 20 then ((impl_from.f (l0_1.length : Int) 1 4).bind fun t263 => (if t263 = true then ((slices_ContainsFuncMemOk_c1.f k l0_1).bind fun t264 => (impl_MemOk.j0 k t264 l0_0 l0_1)) else (impl_MemOk.j0 k true l0_0 l0_1))) else (impl_MemOk.j0 k true l0_0 l0_1)) = some r := h
 clear h
 have HC2 := A_ H
 clear H
 go_enter Try.func58, Try.ntmps58
 go_upto_region 1 with (first | ((with_reducible refine gate_dst (N := 1) rfl ?_); (try (refine gate_guard (by rfl) ?_; dsimp only)); refine bx_ HB rfl (N := 1) rfl (cs := #[.slice A0_0 l0_0.length c0_0, .slice A0_1 l0_1.length c0_1]) (t := 31) hr_ ?_; clear HB; intro gb262 w3 hg hb BK262 GW262 HB; clear hb hg))
 (try simp only [Act.put, List.setIfInBounds_toArray, List.set_cons_zero, List.set_cons_succ])
 go_cut [23] (fun v23 wc => ∃ (kq : Nat) (x23_1 : Bool), v23 = .bool x23_1 ∧ Aside0 (impl_MemOk.j0 kq x23_1 l0_0 l0_1 = some r) ∧ Aside0 (kq ≤ k) ∧ Aside0 (wc.heap[gb262]? = some (.cells #[(.slice A0_0 l0_0.length c0_0), (.slice A0_1 l0_1.length c0_1)] 31 (0, 0))) ∧ Aside0 (Below w.heap.size w wc))
 case first =>
  have H := HC2.out
  clear HC2
  by_cases c4 : (l0_0.length : Int) = 20
  ·
   rw [if_pos c4] at H
   have c4b0 : ((l0_0.length : Int) == 20) = true := beq_iff_eq.mpr c4
   have c4b1 : ((l0_0.length : Int) != 20) = false := bne_eq_false_iff_eq.mpr c4
   clear c4
   (first | rw [c4b0] | (simp only [i64_w, i32_w]; rw [c4b0]) | skip)
   replace H := bs_ H
   obtain ⟨t263, A5, H⟩ := H
   by_cases c6 : t263 = true
   ·
    subst c6
    replace H := it_ H
    replace H := bs_ H
    obtain ⟨t264, A7, H⟩ := H
    replace H' := A_ H; clear H
    obtain ⟨hcz8_0, hcz8_1, hfz8_0, hfz8_1⟩ := cz2_ BK262
    go_wp2_with (first | (go_at_call 93; (with_reducible refine (impl_from.calls (l0_1.length : Int) 1 4 true _ A5.out).mono ?_); rintro e w' ⟨rfl, ⟨nd, rfl⟩⟩) | (go_at_call 118; (with_reducible refine (slices_ContainsFuncMemOk_c1.calls k _ _ l0_1 t264 _ ?side1 ?side2 A7.out).mono ?_); (case side1 => exact cb_ (Kd.C_below HR0_1.out (hb_ HB))); (case side2 => exact HC0_1.out); rintro e w9 ⟨rfl, hb⟩; replace BK262 := bb_ BK262 hb; replace HB := hs_ HB hb; (try clear hb); (try clear hb2); (try clear hk); (try clear hi)))
    go_meet
    case rel => exact ⟨_, (t264), rt_, H', ⟨by first | omega | exact Nat.le_refl _⟩, ⟨bk_ BK262⟩, ⟨hb_ HB⟩⟩
   obtain rfl := Bool.eq_false_iff.mpr c6
   replace H := iF_ H
   replace H' := A_ H; clear H
   obtain ⟨hcz10_0, hcz10_1, hfz10_0, hfz10_1⟩ := cz2_ BK262
   go_wp2_with (first | (go_at_call 93; (with_reducible refine (impl_from.calls (l0_1.length : Int) 1 4 false _ A5.out).mono ?_); rintro e w' ⟨rfl, ⟨nd, rfl⟩⟩))
   go_meet
   case rel => exact ⟨_, (true), rt_, H', ⟨by first | omega | exact Nat.le_refl _⟩, ⟨bk_ BK262⟩, ⟨hb_ HB⟩⟩
  rw [if_neg c4] at H
  have c4b0 : ((l0_0.length : Int) == 20) = false := beq_eq_false_iff_ne.mpr c4
  have c4b1 : ((l0_0.length : Int) != 20) = true := bne_iff_ne.mpr c4
  (first | rw [c4b0] | (simp only [i64_w, i32_w]; rw [c4b0]) | skip)
  replace H' := A_ H; clear H
  obtain ⟨hcz11_0, hcz11_1, hfz11_0, hfz11_1⟩ := cz2_ BK262
  go_wp2
  go_meet
  case rel => exact ⟨_, (true), rt_, H', ⟨by first | omega | exact Nat.le_refl _⟩, ⟨bk_ BK262⟩, ⟨hb_ HB⟩⟩
 case rest =>
  clear HC2
  try clear c4
  try clear c4b0
  try clear c4b1
  try clear c6
  obtain ⟨kq, x23_1, rfl, HA, HJ1, BK262, HB⟩ := hcut
  cases kq with
  | zero => exact absurd HA.out (by simp [impl_MemOk.j0])
  | succ kj1 =>
   have H := HA.out
   clear HA
   simp only [impl_MemOk.j0] at H
   by_cases c12 : x23_1 = true
   ·
    subst c12
    replace H := it_ H
    obtain rfl := Option.some.inj H
    go_wp2
    go_ret
    exact ⟨rs_, hb_ HB⟩
   obtain rfl := Bool.eq_false_iff.mpr c12
   replace H := iF_ H
   replace H' := A_ H; clear H
   obtain ⟨hcz13_0, hcz13_1, hfz13_0, hfz13_1⟩ := cz2_ BK262
   go_wp2
   go_loopg [27] kj1 (fun kq v27 w' => ∃ (x27_2 : Int), v27 = .int .i64 x27_2 ∧ Aside0 (impl_MemOk.l0 kq l0_0 (l0_0.length : Int) x27_2 l0_0 l0_1 = some r) ∧ Aside0 (kq ≤ kj1) ∧ Aside0 (w'.heap[gb262]? = some (.cells #[(.slice A0_0 l0_0.length c0_0), (.slice A0_1 l0_1.length c0_1)] 31 (0, 0))) ∧ Aside0 (Below w.heap.size w w'))
   case atStart => exact ⟨(0), rt_, H', ⟨Nat.le_refl _⟩, ⟨bk_ BK262⟩, ⟨hb_ HB⟩⟩
   case round =>
    clear H'
    try clear c4
    try clear c4b0
    try clear c4b1
    try clear c6
    try clear c12
    obtain ⟨x27_2, rfl, HA, HK2, BK262, HB⟩ := hrel
    cases gk with
    | zero => exact absurd HA.out (by simp [impl_MemOk.l0])
    | succ k2 =>
     have H := HA.out
     clear HA
     simp only [impl_MemOk.l0] at H
     replace H := ic_ H
     rcases H with ⟨c14b0, H⟩ | ⟨c14b0, H⟩
     ·
      replace H := ix_ H
      obtain ⟨c15b0, H⟩ := H
      replace H := ix_ H
      obtain ⟨c16b0, H⟩ := H
      replace H := bs_ H
      obtain ⟨t267, A17, H⟩ := H
      by_cases c18 : t267 = true
      ·
       subst c18
       replace H := it_ H
       by_cases c19 : ((rd_T95 l0_0 x27_2).f1) = 0
       ·
        rw [if_pos c19] at H
        have c19b0 : (((rd_T95 l0_0 x27_2).f1) == 0) = true := beq_iff_eq.mpr c19
        have c19b1 : (((rd_T95 l0_0 x27_2).f1) != 0) = false := bne_eq_false_iff_eq.mpr c19
        clear c19
        replace H' := A_ H; clear H
        obtain ⟨ad265, p265, q265, rfl, hx265_0, hx265_1, hx265_2⟩ := ab_T95 HB HR0_0 x27_2
        go_wp2_with (first | ((with_reducible refine gate_dst (N := 4) rfl ?_); (try (refine gate_guard (by rfl) ?_; dsimp only)); refine bx_ HB rfl (N := 4) rfl (cs := #[.int .i64 0, .int .i64 0, .int .i64 0]) (t := 95) hr_ ?_; clear HB; intro gb266 w20 hg hb BK266 GW266 HB; have NB262_266 := ng_ BK262 hg; have NB266_262 := ns_ (ng_ BK262 hg); replace BK262 := bb_ BK262 hb; clear hb hg; have hnb21 := NB266_262.out; have hnc21 := NB262_266.out; obtain ⟨hcz22_0, hcz22_1, hcz22_2, hfz22_0, hfz22_1, hfz22_2⟩ := cz3_ BK266; obtain ⟨hcz23_0, hcz23_1, hfz23_0, hfz23_1⟩ := cz2_ BK262) | ((with_reducible refine gate_callee (f := 121) rfl ?_); refine goesL_ (some 36) rfl rfl Try.func121 (by kernel_rfl) rfl #[.agg #[.int .i64 ((rd_T95 l0_0 x27_2).f0), .int .i64 ((rd_T95 l0_0 x27_2).f1), .int .i64 ((rd_T95 l0_0 x27_2).f2)], .int .i64 (l0_1.length : Int)] rfl al_ ?_; (with_reducible refine (impl_WordOk.calls ((rd_T95 l0_0 x27_2).f0) ((rd_T95 l0_0 x27_2).f1) ((rd_T95 l0_0 x27_2).f2) (l0_1.length : Int) true _ A17.out).mono ?_); rintro e w24 ⟨rfl, hb⟩; refine ⟨_, rfl, ?_⟩; replace BK262 := bb_ BK262 hb; replace BK266 := bq_ (o' := .cells #[.int .i64 ((rd_T95 l0_0 x27_2).f0), .int .i64 ((rd_T95 l0_0 x27_2).f1), .int .i64 ((rd_T95 l0_0 x27_2).f2)] 95 (0, 0)) BK266 hb; replace HB := hs_ HB hb; (try clear hb); (try clear hb2); (try clear hk); (try clear hi); obtain ⟨hcz25_0, hcz25_1, hcz25_2, hfz25_0, hfz25_1, hfz25_2⟩ := cz3_ BK266))
        go_roundg k2
        case measure => have := HJ1.out; have := HK2.out; omega
        case rel => exact ⟨(wrap64 (x27_2 + 1)), rt_, H', ⟨by have := HJ1.out; have := HK2.out; omega⟩, ⟨bk_ BK262⟩, ⟨hb_ HB⟩⟩
       rw [if_neg c19] at H
       have c19b0 : (((rd_T95 l0_0 x27_2).f1) == 0) = false := beq_eq_false_iff_ne.mpr c19
       have c19b1 : (((rd_T95 l0_0 x27_2).f1) != 0) = true := bne_iff_ne.mpr c19
       obtain ⟨ji26, hji26⟩ : ∃ j_ : Int, (wrap64 (((rd_T95 l0_0 x27_2).f1) - 1)) = j_ := ⟨_, rfl⟩
       replace H : (if 0 ≤ (ji26) then (if (ji26) < (l0_1.length : Int) then ((impl_Entries.f k2 ((rd_T119 l0_1 (ji26)).f0) ((rd_T119 l0_1 (ji26)).f1) ((rd_T119 l0_1 (ji26)).f2) ((rd_T119 l0_1 (ji26)).f3.f0) ((rd_T119 l0_1 (ji26)).f3.f1) x27_2).bind fun bt270 => (if bt270.2.2.2 = true then (if ((rd_T119 l0_1 (ji26)).f0) = ((rd_T95 l0_0 x27_2).f2) then (impl_MemOk.l0 k2 l0_0 (l0_0.length : Int) (wrap64 (x27_2 + 1)) l0_0 l0_1) else (some false)) else (some false))) else (none)) else (none)) = some r := by first | (rw [hji26] at H; exact H) | (simp only [hji26] at H ⊢; exact H)
       (try rw [hji26] at A17)
       have hji26w : (IntKind.i64.wrap (((rd_T95 l0_0 x27_2).f1) - 1)) = ji26 := (i64_w _).trans hji26
       replace H := ix_ H
       obtain ⟨c27b0, H⟩ := H
       replace H := ix_ H
       obtain ⟨c28b0, H⟩ := H
       replace H := bs_ H
       obtain ⟨⟨t270, t271, t272, t273⟩, A29, H⟩ := H
       dsimp only at H
       by_cases c30 : t273 = true
       ·
        subst c30
        replace H := it_ H
        by_cases c31 : ((rd_T119 l0_1 (ji26)).f0) = ((rd_T95 l0_0 x27_2).f2)
        ·
         rw [if_pos c31] at H
         have c31b0 : (((rd_T119 l0_1 (ji26)).f0) == ((rd_T95 l0_0 x27_2).f2)) = true := beq_iff_eq.mpr c31
         have c31b1 : (((rd_T119 l0_1 (ji26)).f0) != ((rd_T95 l0_0 x27_2).f2)) = false := bne_eq_false_iff_eq.mpr c31
         clear c31
         replace H' := A_ H; clear H
         obtain ⟨ad265, p265, q265, rfl, hx265_0, hx265_1, hx265_2⟩ := ab_T95 HB HR0_0 x27_2
         go_wp2_with (first | ((with_reducible refine gate_dst (N := 4) rfl ?_); (try (refine gate_guard (by rfl) ?_; dsimp only)); refine bx_ HB rfl (N := 4) rfl (cs := #[.int .i64 0, .int .i64 0, .int .i64 0]) (t := 95) hr_ ?_; clear HB; intro gb266 w32 hg hb BK266 GW266 HB; have NB262_266 := ng_ BK262 hg; have NB266_262 := ns_ (ng_ BK262 hg); replace BK262 := bb_ BK262 hb; clear hb hg; have hnb33 := NB266_262.out; have hnc33 := NB262_266.out; obtain ⟨hcz34_0, hcz34_1, hcz34_2, hfz34_0, hfz34_1, hfz34_2⟩ := cz3_ BK266; obtain ⟨hcz35_0, hcz35_1, hfz35_0, hfz35_1⟩ := cz2_ BK262) | ((with_reducible refine gate_callee (f := 121) rfl ?_); refine goesL_ (some 36) rfl rfl Try.func121 (by kernel_rfl) rfl #[.agg #[.int .i64 ((rd_T95 l0_0 x27_2).f0), .int .i64 ((rd_T95 l0_0 x27_2).f1), .int .i64 ((rd_T95 l0_0 x27_2).f2)], .int .i64 (l0_1.length : Int)] rfl al_ ?_; (with_reducible refine (impl_WordOk.calls ((rd_T95 l0_0 x27_2).f0) ((rd_T95 l0_0 x27_2).f1) ((rd_T95 l0_0 x27_2).f2) (l0_1.length : Int) true _ A17.out).mono ?_); rintro e w36 ⟨rfl, hb⟩; refine ⟨_, rfl, ?_⟩; replace BK262 := bb_ BK262 hb; replace BK266 := bq_ (o' := .cells #[.int .i64 ((rd_T95 l0_0 x27_2).f0), .int .i64 ((rd_T95 l0_0 x27_2).f1), .int .i64 ((rd_T95 l0_0 x27_2).f2)] 95 (0, 0)) BK266 hb; replace HB := hs_ HB hb; (try clear hb); (try clear hb2); (try clear hk); (try clear hi); obtain ⟨hcz37_0, hcz37_1, hcz37_2, hfz37_0, hfz37_1, hfz37_2⟩ := cz3_ BK266; obtain ⟨hcz38_0, hcz38_1, hfz38_0, hfz38_1⟩ := cz2_ BK262; have p268 : 0 ≤ ((ji26) : Int) := od_; have q268 : (ji26) < (l0_1.length : Int) := od_; obtain ⟨ad268, A268_2, c268_2, A268_4, c268_4, e268, hx268_0, hx268_1, hx268_2, hx268_3, hx268_4, hl268_2, hi268_2, hl268_4, hi268_4⟩ := at_T119 HR0_1.out (ji26) p268 q268; cases e268; replace hx268_0 := hx_ HB hx268_0; replace hx268_1 := hx_ HB hx268_1; replace hx268_2 := hx_ HB hx268_2; replace hx268_3 := hx_ HB hx268_3; replace hx268_4 := hx_ HB hx268_4; have HR268_2 := A_ hi268_2; have HC268_2 := A_ hl268_2; clear hi268_2 hl268_2; have HR268_4 := A_ hi268_4; have HC268_4 := A_ hl268_4; clear hi268_4 hl268_4; replace p268 := eq_true p268; replace q268 := eq_true q268) | ((with_reducible refine gate_dst (N := 5) rfl ?_); (try (refine gate_guard (by rfl) ?_; dsimp only)); refine bx_ HB rfl (N := 5) rfl (cs := #[.int .i64 0, .int .i64 0, .slice none 0 0, .int .i64 0, .slice none 0 0]) (t := 119) hr_ ?_; clear HB; intro gb269 w39 hg hb BK269 GW269 HB; have NB262_269 := ng_ BK262 hg; have NB269_262 := ns_ (ng_ BK262 hg); have NB266_269 := ng_ BK266 hg; have NB269_266 := ns_ (ng_ BK266 hg); replace BK262 := bb_ BK262 hb; replace BK266 := bb_ BK266 hb; clear hb hg; have hnb40 := NB269_262.out; have hnc40 := NB262_269.out; have hnb41 := NB269_266.out; have hnc41 := NB266_269.out; obtain ⟨hcz42_0, hcz42_1, hcz42_2, hcz42_3, hcz42_4, hfz42_0, hfz42_1, hfz42_2, hfz42_3, hfz42_4⟩ := cz5_ BK269) | ((with_reducible refine gate_callee (f := 122) rfl ?_); refine goesL_ (some 51) rfl rfl Try.func122 (by kernel_rfl) rfl #[.agg #[.int .i64 ((rd_T119 l0_1 (ji26)).f0), .int .i64 ((rd_T119 l0_1 (ji26)).f1), .slice A268_2 ((rd_T119 l0_1 (ji26)).f2).length c268_2, .int .i64 ((rd_T119 l0_1 (ji26)).f3.f0), .slice A268_4 ((rd_T119 l0_1 (ji26)).f3.f1).length c268_4], .int .i64 x27_2] rfl (by (try simp only [List.map_toArray, List.map_cons, List.map_nil]); first | done | (simp only [hji26]; rfl) | rfl | (simp only [List.length_drop, List.length_take]; rfl)) ?_; (with_reducible refine (impl_Entries.calls k2 ((rd_T119 l0_1 (ji26)).f0) ((rd_T119 l0_1 (ji26)).f1) _ _ ((rd_T119 l0_1 (ji26)).f2) ((rd_T119 l0_1 (ji26)).f3.f0) _ _ ((rd_T119 l0_1 (ji26)).f3.f1) x27_2 t270 t271 t272 true _ ?side1 ?side2 ?side3 ?side4 A29.out).mono ?_); (case side1 => exact Kd.C_below HR268_2.out (hb_ HB)); (case side2 => exact HC268_2.out); (case side3 => exact Kd.C_below HR268_4.out (hb_ HB)); (case side4 => exact HC268_4.out); rintro e w43 ⟨rfl, hb⟩; refine ⟨_, rfl, ?_⟩; replace BK262 := bb_ BK262 hb; replace BK266 := bb_ BK266 hb; replace BK269 := bq_ (o' := .cells #[.int .i64 ((rd_T119 l0_1 (ji26)).f0), .int .i64 ((rd_T119 l0_1 (ji26)).f1), .slice A268_2 ((rd_T119 l0_1 (ji26)).f2).length c268_2, .int .i64 ((rd_T119 l0_1 (ji26)).f3.f0), .slice A268_4 ((rd_T119 l0_1 (ji26)).f3.f1).length c268_4] 119 (0, 0)) BK269 hb; replace HB := hs_ HB hb; (try clear hb); (try clear hb2); (try clear hk); (try clear hi)) | ((with_reducible refine gate_dst (N := 6) rfl ?_); (try (refine gate_guard (by rfl) ?_; dsimp only)); refine bx_ HB rfl (N := 6) rfl (cs := #[.int .i64 0, .int .i64 0, .int .i64 0]) (t := 122) hr_ ?_; clear HB; intro gb274 w44 hg hb BK274 GW274 HB; have NB262_274 := ng_ BK262 hg; have NB274_262 := ns_ (ng_ BK262 hg); have NB266_274 := ng_ BK266 hg; have NB274_266 := ns_ (ng_ BK266 hg); have NB269_274 := ng_ BK269 hg; have NB274_269 := ns_ (ng_ BK269 hg); replace BK262 := bb_ BK262 hb; replace BK266 := bb_ BK266 hb; replace BK269 := bb_ BK269 hb; clear hb hg; have hnb45 := NB274_262.out; have hnc45 := NB262_274.out; have hnb46 := NB274_266.out; have hnc46 := NB266_274.out; have hnb47 := NB274_269.out; have hnc47 := NB269_274.out; obtain ⟨hcz48_0, hcz48_1, hcz48_2, hfz48_0, hfz48_1, hfz48_2⟩ := cz3_ BK274; obtain ⟨hcz49_0, hcz49_1, hcz49_2, hcz49_3, hcz49_4, hfz49_0, hfz49_1, hfz49_2, hfz49_3, hfz49_4⟩ := cz5_ BK269; obtain ⟨hcz50_0, hcz50_1, hcz50_2, hfz50_0, hfz50_1, hfz50_2⟩ := cz3_ BK266))
         go_roundg k2
         case measure => have := HJ1.out; have := HK2.out; omega
         case rel => exact ⟨(wrap64 (x27_2 + 1)), rt_, H', ⟨by have := HJ1.out; have := HK2.out; omega⟩, ⟨bk_ BK262⟩, ⟨hb_ HB⟩⟩
        rw [if_neg c31] at H
        have c31b0 : (((rd_T119 l0_1 (ji26)).f0) == ((rd_T95 l0_0 x27_2).f2)) = false := beq_eq_false_iff_ne.mpr c31
        have c31b1 : (((rd_T119 l0_1 (ji26)).f0) != ((rd_T95 l0_0 x27_2).f2)) = true := bne_iff_ne.mpr c31
        obtain rfl := Option.some.inj H
        obtain ⟨ad265, p265, q265, rfl, hx265_0, hx265_1, hx265_2⟩ := ab_T95 HB HR0_0 x27_2
        go_wp2_with (first | ((with_reducible refine gate_dst (N := 4) rfl ?_); (try (refine gate_guard (by rfl) ?_; dsimp only)); refine bx_ HB rfl (N := 4) rfl (cs := #[.int .i64 0, .int .i64 0, .int .i64 0]) (t := 95) hr_ ?_; clear HB; intro gb266 w51 hg hb BK266 GW266 HB; have NB262_266 := ng_ BK262 hg; have NB266_262 := ns_ (ng_ BK262 hg); replace BK262 := bb_ BK262 hb; clear hb hg; have hnb52 := NB266_262.out; have hnc52 := NB262_266.out; obtain ⟨hcz53_0, hcz53_1, hcz53_2, hfz53_0, hfz53_1, hfz53_2⟩ := cz3_ BK266; obtain ⟨hcz54_0, hcz54_1, hfz54_0, hfz54_1⟩ := cz2_ BK262) | ((with_reducible refine gate_callee (f := 121) rfl ?_); refine goesL_ (some 36) rfl rfl Try.func121 (by kernel_rfl) rfl #[.agg #[.int .i64 ((rd_T95 l0_0 x27_2).f0), .int .i64 ((rd_T95 l0_0 x27_2).f1), .int .i64 ((rd_T95 l0_0 x27_2).f2)], .int .i64 (l0_1.length : Int)] rfl al_ ?_; (with_reducible refine (impl_WordOk.calls ((rd_T95 l0_0 x27_2).f0) ((rd_T95 l0_0 x27_2).f1) ((rd_T95 l0_0 x27_2).f2) (l0_1.length : Int) true _ A17.out).mono ?_); rintro e w55 ⟨rfl, hb⟩; refine ⟨_, rfl, ?_⟩; replace BK262 := bb_ BK262 hb; replace BK266 := bq_ (o' := .cells #[.int .i64 ((rd_T95 l0_0 x27_2).f0), .int .i64 ((rd_T95 l0_0 x27_2).f1), .int .i64 ((rd_T95 l0_0 x27_2).f2)] 95 (0, 0)) BK266 hb; replace HB := hs_ HB hb; (try clear hb); (try clear hb2); (try clear hk); (try clear hi); obtain ⟨hcz56_0, hcz56_1, hcz56_2, hfz56_0, hfz56_1, hfz56_2⟩ := cz3_ BK266; obtain ⟨hcz57_0, hcz57_1, hfz57_0, hfz57_1⟩ := cz2_ BK262; have p268 : 0 ≤ ((ji26) : Int) := od_; have q268 : (ji26) < (l0_1.length : Int) := od_; obtain ⟨ad268, A268_2, c268_2, A268_4, c268_4, e268, hx268_0, hx268_1, hx268_2, hx268_3, hx268_4, hl268_2, hi268_2, hl268_4, hi268_4⟩ := at_T119 HR0_1.out (ji26) p268 q268; cases e268; replace hx268_0 := hx_ HB hx268_0; replace hx268_1 := hx_ HB hx268_1; replace hx268_2 := hx_ HB hx268_2; replace hx268_3 := hx_ HB hx268_3; replace hx268_4 := hx_ HB hx268_4; have HR268_2 := A_ hi268_2; have HC268_2 := A_ hl268_2; clear hi268_2 hl268_2; have HR268_4 := A_ hi268_4; have HC268_4 := A_ hl268_4; clear hi268_4 hl268_4; replace p268 := eq_true p268; replace q268 := eq_true q268) | ((with_reducible refine gate_dst (N := 5) rfl ?_); (try (refine gate_guard (by rfl) ?_; dsimp only)); refine bx_ HB rfl (N := 5) rfl (cs := #[.int .i64 0, .int .i64 0, .slice none 0 0, .int .i64 0, .slice none 0 0]) (t := 119) hr_ ?_; clear HB; intro gb269 w58 hg hb BK269 GW269 HB; have NB262_269 := ng_ BK262 hg; have NB269_262 := ns_ (ng_ BK262 hg); have NB266_269 := ng_ BK266 hg; have NB269_266 := ns_ (ng_ BK266 hg); replace BK262 := bb_ BK262 hb; replace BK266 := bb_ BK266 hb; clear hb hg; have hnb59 := NB269_262.out; have hnc59 := NB262_269.out; have hnb60 := NB269_266.out; have hnc60 := NB266_269.out; obtain ⟨hcz61_0, hcz61_1, hcz61_2, hcz61_3, hcz61_4, hfz61_0, hfz61_1, hfz61_2, hfz61_3, hfz61_4⟩ := cz5_ BK269) | ((with_reducible refine gate_callee (f := 122) rfl ?_); refine goesL_ (some 51) rfl rfl Try.func122 (by kernel_rfl) rfl #[.agg #[.int .i64 ((rd_T119 l0_1 (ji26)).f0), .int .i64 ((rd_T119 l0_1 (ji26)).f1), .slice A268_2 ((rd_T119 l0_1 (ji26)).f2).length c268_2, .int .i64 ((rd_T119 l0_1 (ji26)).f3.f0), .slice A268_4 ((rd_T119 l0_1 (ji26)).f3.f1).length c268_4], .int .i64 x27_2] rfl (by (try simp only [List.map_toArray, List.map_cons, List.map_nil]); first | done | (simp only [hji26]; rfl) | rfl | (simp only [List.length_drop, List.length_take]; rfl)) ?_; (with_reducible refine (impl_Entries.calls k2 ((rd_T119 l0_1 (ji26)).f0) ((rd_T119 l0_1 (ji26)).f1) _ _ ((rd_T119 l0_1 (ji26)).f2) ((rd_T119 l0_1 (ji26)).f3.f0) _ _ ((rd_T119 l0_1 (ji26)).f3.f1) x27_2 t270 t271 t272 true _ ?side1 ?side2 ?side3 ?side4 A29.out).mono ?_); (case side1 => exact Kd.C_below HR268_2.out (hb_ HB)); (case side2 => exact HC268_2.out); (case side3 => exact Kd.C_below HR268_4.out (hb_ HB)); (case side4 => exact HC268_4.out); rintro e w62 ⟨rfl, hb⟩; refine ⟨_, rfl, ?_⟩; replace BK262 := bb_ BK262 hb; replace BK266 := bb_ BK266 hb; replace BK269 := bq_ (o' := .cells #[.int .i64 ((rd_T119 l0_1 (ji26)).f0), .int .i64 ((rd_T119 l0_1 (ji26)).f1), .slice A268_2 ((rd_T119 l0_1 (ji26)).f2).length c268_2, .int .i64 ((rd_T119 l0_1 (ji26)).f3.f0), .slice A268_4 ((rd_T119 l0_1 (ji26)).f3.f1).length c268_4] 119 (0, 0)) BK269 hb; replace HB := hs_ HB hb; (try clear hb); (try clear hb2); (try clear hk); (try clear hi)) | ((with_reducible refine gate_dst (N := 6) rfl ?_); (try (refine gate_guard (by rfl) ?_; dsimp only)); refine bx_ HB rfl (N := 6) rfl (cs := #[.int .i64 0, .int .i64 0, .int .i64 0]) (t := 122) hr_ ?_; clear HB; intro gb274 w63 hg hb BK274 GW274 HB; have NB262_274 := ng_ BK262 hg; have NB274_262 := ns_ (ng_ BK262 hg); have NB266_274 := ng_ BK266 hg; have NB274_266 := ns_ (ng_ BK266 hg); have NB269_274 := ng_ BK269 hg; have NB274_269 := ns_ (ng_ BK269 hg); replace BK262 := bb_ BK262 hb; replace BK266 := bb_ BK266 hb; replace BK269 := bb_ BK269 hb; clear hb hg; have hnb64 := NB274_262.out; have hnc64 := NB262_274.out; have hnb65 := NB274_266.out; have hnc65 := NB266_274.out; have hnb66 := NB274_269.out; have hnc66 := NB269_274.out; obtain ⟨hcz67_0, hcz67_1, hcz67_2, hfz67_0, hfz67_1, hfz67_2⟩ := cz3_ BK274; obtain ⟨hcz68_0, hcz68_1, hcz68_2, hcz68_3, hcz68_4, hfz68_0, hfz68_1, hfz68_2, hfz68_3, hfz68_4⟩ := cz5_ BK269; obtain ⟨hcz69_0, hcz69_1, hcz69_2, hfz69_0, hfz69_1, hfz69_2⟩ := cz3_ BK266))
        go_ret
        exact ⟨by first | rfl | (simp [errW_none, errW_some] <;> rfl) | (simp only [← hji26]; first | rfl | (simp [errW_none, errW_some] <;> rfl)) | (simp [*, errW_none, errW_some] <;> rfl), hb_ HB⟩
       obtain rfl := Bool.eq_false_iff.mpr c30
       replace H := iF_ H
       obtain rfl := Option.some.inj H
       obtain ⟨ad265, p265, q265, rfl, hx265_0, hx265_1, hx265_2⟩ := ab_T95 HB HR0_0 x27_2
       go_wp2_with (first | ((with_reducible refine gate_dst (N := 4) rfl ?_); (try (refine gate_guard (by rfl) ?_; dsimp only)); refine bx_ HB rfl (N := 4) rfl (cs := #[.int .i64 0, .int .i64 0, .int .i64 0]) (t := 95) hr_ ?_; clear HB; intro gb266 w70 hg hb BK266 GW266 HB; have NB262_266 := ng_ BK262 hg; have NB266_262 := ns_ (ng_ BK262 hg); replace BK262 := bb_ BK262 hb; clear hb hg; have hnb71 := NB266_262.out; have hnc71 := NB262_266.out; obtain ⟨hcz72_0, hcz72_1, hcz72_2, hfz72_0, hfz72_1, hfz72_2⟩ := cz3_ BK266; obtain ⟨hcz73_0, hcz73_1, hfz73_0, hfz73_1⟩ := cz2_ BK262) | ((with_reducible refine gate_callee (f := 121) rfl ?_); refine goesL_ (some 36) rfl rfl Try.func121 (by kernel_rfl) rfl #[.agg #[.int .i64 ((rd_T95 l0_0 x27_2).f0), .int .i64 ((rd_T95 l0_0 x27_2).f1), .int .i64 ((rd_T95 l0_0 x27_2).f2)], .int .i64 (l0_1.length : Int)] rfl al_ ?_; (with_reducible refine (impl_WordOk.calls ((rd_T95 l0_0 x27_2).f0) ((rd_T95 l0_0 x27_2).f1) ((rd_T95 l0_0 x27_2).f2) (l0_1.length : Int) true _ A17.out).mono ?_); rintro e w74 ⟨rfl, hb⟩; refine ⟨_, rfl, ?_⟩; replace BK262 := bb_ BK262 hb; replace BK266 := bq_ (o' := .cells #[.int .i64 ((rd_T95 l0_0 x27_2).f0), .int .i64 ((rd_T95 l0_0 x27_2).f1), .int .i64 ((rd_T95 l0_0 x27_2).f2)] 95 (0, 0)) BK266 hb; replace HB := hs_ HB hb; (try clear hb); (try clear hb2); (try clear hk); (try clear hi); obtain ⟨hcz75_0, hcz75_1, hcz75_2, hfz75_0, hfz75_1, hfz75_2⟩ := cz3_ BK266; obtain ⟨hcz76_0, hcz76_1, hfz76_0, hfz76_1⟩ := cz2_ BK262; have p268 : 0 ≤ ((ji26) : Int) := od_; have q268 : (ji26) < (l0_1.length : Int) := od_; obtain ⟨ad268, A268_2, c268_2, A268_4, c268_4, e268, hx268_0, hx268_1, hx268_2, hx268_3, hx268_4, hl268_2, hi268_2, hl268_4, hi268_4⟩ := at_T119 HR0_1.out (ji26) p268 q268; cases e268; replace hx268_0 := hx_ HB hx268_0; replace hx268_1 := hx_ HB hx268_1; replace hx268_2 := hx_ HB hx268_2; replace hx268_3 := hx_ HB hx268_3; replace hx268_4 := hx_ HB hx268_4; have HR268_2 := A_ hi268_2; have HC268_2 := A_ hl268_2; clear hi268_2 hl268_2; have HR268_4 := A_ hi268_4; have HC268_4 := A_ hl268_4; clear hi268_4 hl268_4; replace p268 := eq_true p268; replace q268 := eq_true q268) | ((with_reducible refine gate_dst (N := 5) rfl ?_); (try (refine gate_guard (by rfl) ?_; dsimp only)); refine bx_ HB rfl (N := 5) rfl (cs := #[.int .i64 0, .int .i64 0, .slice none 0 0, .int .i64 0, .slice none 0 0]) (t := 119) hr_ ?_; clear HB; intro gb269 w77 hg hb BK269 GW269 HB; have NB262_269 := ng_ BK262 hg; have NB269_262 := ns_ (ng_ BK262 hg); have NB266_269 := ng_ BK266 hg; have NB269_266 := ns_ (ng_ BK266 hg); replace BK262 := bb_ BK262 hb; replace BK266 := bb_ BK266 hb; clear hb hg; have hnb78 := NB269_262.out; have hnc78 := NB262_269.out; have hnb79 := NB269_266.out; have hnc79 := NB266_269.out; obtain ⟨hcz80_0, hcz80_1, hcz80_2, hcz80_3, hcz80_4, hfz80_0, hfz80_1, hfz80_2, hfz80_3, hfz80_4⟩ := cz5_ BK269) | ((with_reducible refine gate_callee (f := 122) rfl ?_); refine goesL_ (some 51) rfl rfl Try.func122 (by kernel_rfl) rfl #[.agg #[.int .i64 ((rd_T119 l0_1 (ji26)).f0), .int .i64 ((rd_T119 l0_1 (ji26)).f1), .slice A268_2 ((rd_T119 l0_1 (ji26)).f2).length c268_2, .int .i64 ((rd_T119 l0_1 (ji26)).f3.f0), .slice A268_4 ((rd_T119 l0_1 (ji26)).f3.f1).length c268_4], .int .i64 x27_2] rfl (by (try simp only [List.map_toArray, List.map_cons, List.map_nil]); first | done | (simp only [hji26]; rfl) | rfl | (simp only [List.length_drop, List.length_take]; rfl)) ?_; (with_reducible refine (impl_Entries.calls k2 ((rd_T119 l0_1 (ji26)).f0) ((rd_T119 l0_1 (ji26)).f1) _ _ ((rd_T119 l0_1 (ji26)).f2) ((rd_T119 l0_1 (ji26)).f3.f0) _ _ ((rd_T119 l0_1 (ji26)).f3.f1) x27_2 t270 t271 t272 false _ ?side1 ?side2 ?side3 ?side4 A29.out).mono ?_); (case side1 => exact Kd.C_below HR268_2.out (hb_ HB)); (case side2 => exact HC268_2.out); (case side3 => exact Kd.C_below HR268_4.out (hb_ HB)); (case side4 => exact HC268_4.out); rintro e w81 ⟨rfl, hb⟩; refine ⟨_, rfl, ?_⟩; replace BK262 := bb_ BK262 hb; replace BK266 := bb_ BK266 hb; replace BK269 := bq_ (o' := .cells #[.int .i64 ((rd_T119 l0_1 (ji26)).f0), .int .i64 ((rd_T119 l0_1 (ji26)).f1), .slice A268_2 ((rd_T119 l0_1 (ji26)).f2).length c268_2, .int .i64 ((rd_T119 l0_1 (ji26)).f3.f0), .slice A268_4 ((rd_T119 l0_1 (ji26)).f3.f1).length c268_4] 119 (0, 0)) BK269 hb; replace HB := hs_ HB hb; (try clear hb); (try clear hb2); (try clear hk); (try clear hi)) | ((with_reducible refine gate_dst (N := 6) rfl ?_); (try (refine gate_guard (by rfl) ?_; dsimp only)); refine bx_ HB rfl (N := 6) rfl (cs := #[.int .i64 0, .int .i64 0, .int .i64 0]) (t := 122) hr_ ?_; clear HB; intro gb274 w82 hg hb BK274 GW274 HB; have NB262_274 := ng_ BK262 hg; have NB274_262 := ns_ (ng_ BK262 hg); have NB266_274 := ng_ BK266 hg; have NB274_266 := ns_ (ng_ BK266 hg); have NB269_274 := ng_ BK269 hg; have NB274_269 := ns_ (ng_ BK269 hg); replace BK262 := bb_ BK262 hb; replace BK266 := bb_ BK266 hb; replace BK269 := bb_ BK269 hb; clear hb hg; have hnb83 := NB274_262.out; have hnc83 := NB262_274.out; have hnb84 := NB274_266.out; have hnc84 := NB266_274.out; have hnb85 := NB274_269.out; have hnc85 := NB269_274.out; obtain ⟨hcz86_0, hcz86_1, hcz86_2, hfz86_0, hfz86_1, hfz86_2⟩ := cz3_ BK274))
       go_ret
       exact ⟨by first | rfl | (simp [errW_none, errW_some] <;> rfl) | (simp only [← hji26]; first | rfl | (simp [errW_none, errW_some] <;> rfl)) | (simp [*, errW_none, errW_some] <;> rfl), hb_ HB⟩
      obtain rfl := Bool.eq_false_iff.mpr c18
      replace H := iF_ H
      obtain rfl := Option.some.inj H
      obtain ⟨ad265, p265, q265, rfl, hx265_0, hx265_1, hx265_2⟩ := ab_T95 HB HR0_0 x27_2
      go_wp2_with (first | ((with_reducible refine gate_dst (N := 4) rfl ?_); (try (refine gate_guard (by rfl) ?_; dsimp only)); refine bx_ HB rfl (N := 4) rfl (cs := #[.int .i64 0, .int .i64 0, .int .i64 0]) (t := 95) hr_ ?_; clear HB; intro gb266 w87 hg hb BK266 GW266 HB; have NB262_266 := ng_ BK262 hg; have NB266_262 := ns_ (ng_ BK262 hg); replace BK262 := bb_ BK262 hb; clear hb hg; have hnb88 := NB266_262.out; have hnc88 := NB262_266.out; obtain ⟨hcz89_0, hcz89_1, hcz89_2, hfz89_0, hfz89_1, hfz89_2⟩ := cz3_ BK266; obtain ⟨hcz90_0, hcz90_1, hfz90_0, hfz90_1⟩ := cz2_ BK262) | ((with_reducible refine gate_callee (f := 121) rfl ?_); refine goesL_ (some 36) rfl rfl Try.func121 (by kernel_rfl) rfl #[.agg #[.int .i64 ((rd_T95 l0_0 x27_2).f0), .int .i64 ((rd_T95 l0_0 x27_2).f1), .int .i64 ((rd_T95 l0_0 x27_2).f2)], .int .i64 (l0_1.length : Int)] rfl al_ ?_; (with_reducible refine (impl_WordOk.calls ((rd_T95 l0_0 x27_2).f0) ((rd_T95 l0_0 x27_2).f1) ((rd_T95 l0_0 x27_2).f2) (l0_1.length : Int) false _ A17.out).mono ?_); rintro e w91 ⟨rfl, hb⟩; refine ⟨_, rfl, ?_⟩; replace BK262 := bb_ BK262 hb; replace BK266 := bq_ (o' := .cells #[.int .i64 ((rd_T95 l0_0 x27_2).f0), .int .i64 ((rd_T95 l0_0 x27_2).f1), .int .i64 ((rd_T95 l0_0 x27_2).f2)] 95 (0, 0)) BK266 hb; replace HB := hs_ HB hb; (try clear hb); (try clear hb2); (try clear hk); (try clear hi)))
      go_ret
      exact ⟨rs_, hb_ HB⟩
     obtain rfl := Option.some.inj H
     go_wp2
     go_ret
     exact ⟨rs_, hb_ HB⟩

/-! ### impl_ValOk: function 85 -/
def impl_ValOk.f (a0 : Int) : Option (Bool) := (impl_from.f a0 1 6).bind fun t275 => (some t275)
set_option maxHeartbeats 8000000 in
set_option maxRecDepth 100000 in
theorem impl_ValOk.calls (a0 : Int) (r : Bool) (w : World) (h : impl_ValOk.f a0 = some r) :
    Calls Try.prog 85 #[.int .i64 a0] w fun e w' => e = .returned (.bool r) ∧ Drawn0 w w' := by
 have H : ((impl_from.f a0 1 6).bind fun t275 => (some t275)) = some r := h
 clear h
 replace H := bs_ H
 obtain ⟨t275, A2, H⟩ := H
 obtain rfl := Option.some.inj H
 go_enter Try.func85, Try.ntmps85
 go_wp2_with (first | ((with_reducible refine gate_callee (f := 93) rfl ?_); refine goesL_ (some 4) rfl rfl Try.func93 (by kernel_rfl) rfl #[.int .i64 a0, .int .i64 1, .int .i64 6] rfl al_ ?_; (with_reducible refine (impl_from.calls a0 1 6 t275 _ A2.out).mono ?_); rintro e w' ⟨rfl, ⟨nd, rfl⟩⟩; refine ⟨_, rfl, ?_⟩))
 go_ret
 exact ⟨rt_, by repeat (first | exact Drawn0.refl _ | apply Drawn0.step)⟩

/-! ### slices_Index_int_int: function 135 -/
def slices_Index_int_int.l0 : Nat → List Int → Int → Int → Int → Option (Int)
 | 0, _, _, _, _ => none
 | k + 1, x0, x1, x7, x8 => if x8 < x7 then (if 0 ≤ x8 then (if x8 < (x0.length : Int) then (if x1 = (rd x0 x8) then (some x8) else (slices_Index_int_int.l0 k x0 x1 x7 (wrap64 (x8 + 1)))) else (none)) else (none)) else (some (-1))
def slices_Index_int_int.f (k : Nat) (l0 : List Int) (a1 : Int) : Option (Int) := slices_Index_int_int.l0 k l0 a1 (l0.length : Int) 0
theorem slices_Index_int_int.mono_l : ∀ k, (∀ y0 y1 y2 y3, LeO (slices_Index_int_int.l0 k y0 y1 y2 y3) (slices_Index_int_int.l0 (k + 1) y0 y1 y2 y3))
 | 0 => fun _ _ _ _ r h => by simp [slices_Index_int_int.l0] at h
 | k + 1 => by
  have ih0 := slices_Index_int_int.mono_l k
  ·
   intro y0 y1 y2 y3
   unfold slices_Index_int_int.l0
   repeat' first | (with_reducible first | apply ih0 | apply LeO.refl | apply LeO.none | apply LeO.ite | refine LeO.bind ?_ (fun _ => ?_)) | apply ih0 | apply LeO.none | apply LeO.ite | refine LeO.bind ?_ (fun _ => ?_)
theorem slices_Index_int_int.mono : ∀ a0 a1 k, LeO (slices_Index_int_int.f k a0 a1) (slices_Index_int_int.f (k + 1) a0 a1) := by
 intro a0 a1 k
 have ih0 := slices_Index_int_int.mono_l k
 unfold slices_Index_int_int.f
 repeat' first | (with_reducible first | apply ih0 | apply LeO.refl | apply LeO.none | apply LeO.ite | refine LeO.bind ?_ (fun _ => ?_)) | apply ih0 | apply LeO.none | apply LeO.ite | refine LeO.bind ?_ (fun _ => ?_)
set_option maxHeartbeats 8000000 in
set_option maxRecDepth 100000 in
theorem slices_Index_int_int.calls (k : Nat) (A0 : Option Addr) (c0 : Nat) (l0 : List Int) (a1 : Int) (r : Int) (w : World) (hr0 : Kd.C (Kd.int .i64) w A0 l0.length l0) (hc0 : l0.length ≤ c0) (h : slices_Index_int_int.f k l0 a1 = some r) :
    Calls Try.prog 135 #[.slice A0 l0.length c0, .int .i64 a1] w fun e w' => e = .returned (.int .i64 r) ∧ Drawn0 w w' := by
 have HR0 := A_ hr0
 have HC0 := A_ hc0
 clear hr0 hc0
 have H : (slices_Index_int_int.l0 k l0 a1 (l0.length : Int) 0) = some r := h
 clear h
 replace H' := A_ H; clear H
 go_enter Try.func135, Try.ntmps135
 go_wp2
 go_loopg [8] k (fun kq v8 w' => ∃ (x8_1 : Int), v8 = .int .i64 x8_1 ∧ Aside0 (slices_Index_int_int.l0 kq l0 a1 (l0.length : Int) x8_1 = some r) ∧ Aside0 (kq ≤ k) ∧ Drawn0 w w')
 case atStart => exact ⟨(0), rt_, H', ⟨Nat.le_refl _⟩, by repeat (first | exact Drawn0.refl _ | apply Drawn0.step)⟩
 case round =>
  clear H'
  obtain ⟨x8_1, rfl, HA, HK1, ⟨m1, rfl⟩⟩ := hrel
  cases gk with
  | zero => exact absurd HA.out (by simp [slices_Index_int_int.l0])
  | succ k1 =>
   have H := HA.out
   clear HA
   simp only [slices_Index_int_int.l0] at H
   replace H := ic_ H
   rcases H with ⟨c3b0, H⟩ | ⟨c3b0, H⟩
   ·
    replace H := ix_ H
    obtain ⟨c4b0, H⟩ := H
    replace H := ix_ H
    obtain ⟨c5b0, H⟩ := H
    by_cases c6 : a1 = (rd l0 x8_1)
    ·
     rw [if_pos c6] at H
     have c6b0 : (a1 == (rd l0 x8_1)) = true := beq_iff_eq.mpr c6
     have c6b1 : (a1 != (rd l0 x8_1)) = false := bne_eq_false_iff_eq.mpr c6
     clear c6
     obtain rfl := Option.some.inj H
     obtain ⟨ad276, p276, q276, rfl, hx276_0⟩ := ab_int (A_ (Below.refl _ _)) HR0 x8_1
     go_wp2
     go_ret
     exact ⟨rt_, by repeat (first | exact Drawn0.refl _ | apply Drawn0.step)⟩
    rw [if_neg c6] at H
    have c6b0 : (a1 == (rd l0 x8_1)) = false := beq_eq_false_iff_ne.mpr c6
    have c6b1 : (a1 != (rd l0 x8_1)) = true := bne_iff_ne.mpr c6
    replace H' := A_ H; clear H
    obtain ⟨ad276, p276, q276, rfl, hx276_0⟩ := ab_int (A_ (Below.refl _ _)) HR0 x8_1
    go_wp2
    go_roundg k1
    case measure => have := HK1.out; omega
    case rel => exact ⟨(wrap64 (x8_1 + 1)), rt_, H', ⟨by have := HK1.out; omega⟩, by repeat (first | exact Drawn0.refl _ | apply Drawn0.step)⟩
   obtain rfl := Option.some.inj H
   go_wp2
   go_ret
   exact ⟨rt_, by repeat (first | exact Drawn0.refl _ | apply Drawn0.step)⟩

/-! ### slices_Contains_int_int: function 92 -/
def slices_Contains_int_int.f (k : Nat) (l0 : List Int) (a1 : Int) : Option (Bool) := (slices_Index_int_int.f k l0 a1).bind fun t277 => (some (decide (t277 ≥ 0)))
theorem slices_Contains_int_int.mono : ∀ a0 a1 k, LeO (slices_Contains_int_int.f k a0 a1) (slices_Contains_int_int.f (k + 1) a0 a1) := by
 intro a0 a1 k
 unfold slices_Contains_int_int.f
 repeat' first | (with_reducible first | apply slices_Index_int_int.mono | apply LeO.refl | apply LeO.none | apply LeO.ite | refine LeO.bind ?_ (fun _ => ?_)) | apply slices_Index_int_int.mono | apply LeO.none | apply LeO.ite | refine LeO.bind ?_ (fun _ => ?_)
set_option maxHeartbeats 8000000 in
set_option maxRecDepth 100000 in
theorem slices_Contains_int_int.calls (k : Nat) (A0 : Option Addr) (c0 : Nat) (l0 : List Int) (a1 : Int) (r : Bool) (w : World) (hr0 : Kd.C (Kd.int .i64) w A0 l0.length l0) (hc0 : l0.length ≤ c0) (h : slices_Contains_int_int.f k l0 a1 = some r) :
    Calls Try.prog 92 #[.slice A0 l0.length c0, .int .i64 a1] w fun e w' => e = .returned (.bool r) ∧ Drawn0 w w' := by
 have HR0 := A_ hr0
 have HC0 := A_ hc0
 clear hr0 hc0
 have H : ((slices_Index_int_int.f k l0 a1).bind fun t277 => (some (decide (t277 ≥ 0)))) = some r := h
 clear h
 replace H := bs_ H
 obtain ⟨t277, A3, H⟩ := H
 obtain rfl := Option.some.inj H
 go_enter Try.func92, Try.ntmps92
 go_wp2_with (first | ((with_reducible refine gate_callee (f := 135) rfl ?_); refine goesL_ (some 7) rfl rfl Try.func135 (by kernel_rfl) rfl #[.slice A0 l0.length c0, .int .i64 a1] rfl al_ ?_; (with_reducible refine (slices_Index_int_int.calls k _ _ l0 a1 t277 _ ?side1 ?side2 A3.out).mono ?_); (case side1 => exact cb_ HR0.out); (case side2 => exact HC0.out); rintro e w' ⟨rfl, ⟨nd, rfl⟩⟩; refine ⟨_, rfl, ?_⟩))
 go_ret
 exact ⟨rt_, by repeat (first | exact Drawn0.refl _ | apply Drawn0.step)⟩

theorem slices_Contains_int_int.calls_n (n : Nat) (k : Nat) (A0 : Option Addr) (c0 : Nat) (l0 : List Int) (a1 : Int) (r : Bool) (w : World) (hr0 : Kd.C (Kd.int .i64) w A0 l0.length l0) (hc0 : l0.length ≤ c0) (h : slices_Contains_int_int.f k l0 a1 = some r) (hn : l0.length = n) :
    Calls Try.prog 92 #[.slice A0 n c0, .int .i64 a1] w fun e w' => e = .returned (.bool r) ∧ Drawn0 w w' := by
 subst hn
 exact slices_Contains_int_int.calls k A0 c0 l0 a1 r w hr0 hc0 h

/-! ### impl_RowsOk: function 37 -/
def impl_RowsOk.l0 : Nat → List Int → Int → Int → List Int → Int → Option (Bool)
 | 0, _, _, _, _, _ => none
 | k + 1, x6, x7, x8, x279000, x279001 => if x8 < x7 then (if 0 ≤ x8 then (if x8 < (x6.length : Int) then (if (rd x6 x8) = 0 then (impl_RowsOk.l0 k x6 x7 (wrap64 (x8 + 1)) x279000 x279001) else ((impl_ValOk.f (rd x6 x8)).bind fun t281 => (if t281 = true then (if x8 ≤ (x279000.length : Int) then ((slices_Contains_int_int.f k (x279000.take (x8 : Int).toNat) (rd x6 x8)).bind fun t283 => (if t283 = true then (some false) else (impl_RowsOk.l0 k x6 x7 (wrap64 (x8 + 1)) x279000 x279001))) else (none)) else (some false)))) else (none)) else (none)) else (if (x279000.length : Int) = 4 then ((impl_from.f x279001 0 5).bind fun t279 => (some t279)) else (some false))
def impl_RowsOk.f (k : Nat) (l0_0 : List Int) (a0_1 : Int) : Option (Bool) := impl_RowsOk.l0 k l0_0 (l0_0.length : Int) 0 l0_0 a0_1
theorem impl_RowsOk.mono_l : ∀ k, (∀ y0 y1 y2 y3 y4, LeO (impl_RowsOk.l0 k y0 y1 y2 y3 y4) (impl_RowsOk.l0 (k + 1) y0 y1 y2 y3 y4))
 | 0 => fun _ _ _ _ _ r h => by simp [impl_RowsOk.l0] at h
 | k + 1 => by
  have ih0 := impl_RowsOk.mono_l k
  ·
   intro y0 y1 y2 y3 y4
   unfold impl_RowsOk.l0
   repeat' first | (with_reducible first | apply ih0 | apply slices_Contains_int_int.mono | apply LeO.refl | apply LeO.none | apply LeO.ite | refine LeO.bind ?_ (fun _ => ?_)) | apply ih0 | apply slices_Contains_int_int.mono | apply LeO.none | apply LeO.ite | refine LeO.bind ?_ (fun _ => ?_)
theorem impl_RowsOk.mono : ∀ a0 a1 k, LeO (impl_RowsOk.f k a0 a1) (impl_RowsOk.f (k + 1) a0 a1) := by
 intro a0 a1 k
 have ih0 := impl_RowsOk.mono_l k
 unfold impl_RowsOk.f
 repeat' first | (with_reducible first | apply ih0 | apply slices_Contains_int_int.mono | apply LeO.refl | apply LeO.none | apply LeO.ite | refine LeO.bind ?_ (fun _ => ?_)) | apply ih0 | apply slices_Contains_int_int.mono | apply LeO.none | apply LeO.ite | refine LeO.bind ?_ (fun _ => ?_)
set_option maxHeartbeats 8000000 in
set_option maxRecDepth 100000 in
theorem impl_RowsOk.calls (k : Nat) (A0_0 : Option Addr) (c0_0 : Nat) (l0_0 : List Int) (a0_1 : Int) (r : Bool) (w : World) (hr0_0 : Kd.C (Kd.int .i64) w A0_0 l0_0.length l0_0) (hc0_0 : l0_0.length ≤ c0_0) (h : impl_RowsOk.f k l0_0 a0_1 = some r) :
    Calls Try.prog 37 #[.agg #[.slice A0_0 l0_0.length c0_0, .int .i64 a0_1]] w fun e w' => e = .returned (.bool r) ∧ Below w.heap.size w w' := by
 have hu44 := Try.underlying44
 have HR0_0 := A_ hr0_0
 have HC0_0 := A_ hc0_0
 clear hr0_0 hc0_0
 have HB := A_ (Below.refl w.heap.size w)
 have H : (impl_RowsOk.l0 k l0_0 (l0_0.length : Int) 0 l0_0 a0_1) = some r := h
 clear h
 replace H' := A_ H; clear H
 go_enter Try.func37, Try.ntmps37
 go_wp2_with (first | ((with_reducible refine gate_dst (N := 1) rfl ?_); refine bx_ HB rfl (N := 1) rfl (cs := #[.slice A0_0 l0_0.length c0_0, .int .i64 a0_1]) (t := 44) hr_ ?_; clear HB; intro gb278 w2 hg hb BK278 GW278 HB; clear hb hg; obtain ⟨hcz3_0, hcz3_1, hfz3_0, hfz3_1⟩ := cz2_ BK278))
 go_loopg [8] k (fun kq v8 w' => ∃ (x8_1 : Int), v8 = .int .i64 x8_1 ∧ Aside0 (impl_RowsOk.l0 kq l0_0 (l0_0.length : Int) x8_1 l0_0 a0_1 = some r) ∧ Aside0 (kq ≤ k) ∧ Aside0 (w'.heap[gb278]? = some (.cells #[(.slice A0_0 l0_0.length c0_0), .int .i64 a0_1] 44 (0, 0))) ∧ Aside0 (Below w.heap.size w w'))
 case atStart => exact ⟨(0), rt_, H', ⟨Nat.le_refl _⟩, ⟨bk_ BK278⟩, ⟨hb_ HB⟩⟩
 case round =>
  clear H'
  try clear c3
  obtain ⟨x8_1, rfl, HA, HK1, BK278, HB⟩ := hrel
  cases gk with
  | zero => exact absurd HA.out (by simp [impl_RowsOk.l0])
  | succ k1 =>
   have H := HA.out
   clear HA
   simp only [impl_RowsOk.l0] at H
   replace H := ic_ H
   rcases H with ⟨c4b0, H⟩ | ⟨c4b0, H⟩
   ·
    replace H := ix_ H
    obtain ⟨c5b0, H⟩ := H
    replace H := ix_ H
    obtain ⟨c6b0, H⟩ := H
    by_cases c7 : (rd l0_0 x8_1) = 0
    ·
     rw [if_pos c7] at H
     have c7b0 : ((rd l0_0 x8_1) == 0) = true := beq_iff_eq.mpr c7
     have c7b1 : ((rd l0_0 x8_1) != 0) = false := bne_eq_false_iff_eq.mpr c7
     clear c7
     replace H' := A_ H; clear H
     obtain ⟨ad280, p280, q280, rfl, hx280_0⟩ := ab_int HB HR0_0 x8_1
     go_wp2
     go_roundg k1
     case measure => have := HK1.out; omega
     case rel => exact ⟨(wrap64 (x8_1 + 1)), rt_, H', ⟨by have := HK1.out; omega⟩, ⟨bk_ BK278⟩, ⟨hb_ HB⟩⟩
    rw [if_neg c7] at H
    have c7b0 : ((rd l0_0 x8_1) == 0) = false := beq_eq_false_iff_ne.mpr c7
    have c7b1 : ((rd l0_0 x8_1) != 0) = true := bne_iff_ne.mpr c7
    replace H := bs_ H
    obtain ⟨t281, A8, H⟩ := H
    by_cases c9 : t281 = true
    ·
     subst c9
     replace H := it_ H
     have c10b0 := eq_true (od_ : 0 ≤ x8_1)
     by_cases c11 : x8_1 ≤ (l0_0.length : Int)
     ·
      rw [if_pos c11] at H
      have c11b0 := eq_true c11
      have c11b1 : decide (x8_1 ≤ (l0_0.length : Int)) = true := decide_eq_true c11
      clear c11
      replace H := bs_ H
      obtain ⟨t283, A12, H⟩ := H
      by_cases c13 : t283 = true
      ·
       subst c13
       replace H := it_ H
       obtain rfl := Option.some.inj H
       obtain ⟨ad280, p280, q280, rfl, hx280_0⟩ := ab_int HB HR0_0 x8_1
       have HLN_ : Aside0 ((l0_0.take (x8_1 : Int).toNat).length = x8_1.toNat) := ⟨by have h_ : x8_1 < (l0_0.length : Int) := od_; rw [List.length_take]; omega⟩
       go_wp2_with (first | (go_at_call 85; (with_reducible refine (impl_ValOk.calls (rd l0_0 x8_1) true _ A8.out).mono ?_); rintro e w' ⟨rfl, ⟨nd, rfl⟩⟩; obtain ⟨hcz14_0, hcz14_1, hfz14_0, hfz14_1⟩ := cz2_ BK278; obtain ⟨i015, hi015, _, hsz15, _⟩ := info_parts info3; obtain ⟨hcut15, hA15, hC15⟩ := print_take_of (P := Try.prog) (Value.int .i64) 0 35 3 .i64 Try.underlying35 hi015 hsz15 (some ad280) c0_0 l0_0 x8_1 (od_) (od_) HC0_0.out; have HR282 := A_ (Kd.C_of_reads (h1 := fun _ => rfl) (hA15 _ (Kd.reads_of_C HR0_0.out))); have HC282 := A_ hC15; clear hA15 hC15 hi015 hsz15) | (go_at_call 92; (with_reducible refine (slices_Contains_int_int.calls_n x8_1.toNat k1 _ _ (l0_0.take (x8_1 : Int).toNat) (rd l0_0 x8_1) true _ ?side1 ?side2 A12.out HLN_.out).mono ?_); (case side1 => exact cb_ (Kd.C_below HR282.out (hb_ HB))); (case side2 => exact HC282.out); rintro e w' ⟨rfl, ⟨nd, rfl⟩⟩))
       go_ret
       exact ⟨rs_, hb_ HB⟩
      obtain rfl := Bool.eq_false_iff.mpr c13
      replace H := iF_ H
      replace H' := A_ H; clear H
      obtain ⟨ad280, p280, q280, rfl, hx280_0⟩ := ab_int HB HR0_0 x8_1
      have HLN_ : Aside0 ((l0_0.take (x8_1 : Int).toNat).length = x8_1.toNat) := ⟨by have h_ : x8_1 < (l0_0.length : Int) := od_; rw [List.length_take]; omega⟩
      go_wp2_with (first | (go_at_call 85; (with_reducible refine (impl_ValOk.calls (rd l0_0 x8_1) true _ A8.out).mono ?_); rintro e w' ⟨rfl, ⟨nd, rfl⟩⟩; obtain ⟨hcz16_0, hcz16_1, hfz16_0, hfz16_1⟩ := cz2_ BK278; obtain ⟨i017, hi017, _, hsz17, _⟩ := info_parts info3; obtain ⟨hcut17, hA17, hC17⟩ := print_take_of (P := Try.prog) (Value.int .i64) 0 35 3 .i64 Try.underlying35 hi017 hsz17 (some ad280) c0_0 l0_0 x8_1 (od_) (od_) HC0_0.out; have HR282 := A_ (Kd.C_of_reads (h1 := fun _ => rfl) (hA17 _ (Kd.reads_of_C HR0_0.out))); have HC282 := A_ hC17; clear hA17 hC17 hi017 hsz17) | (go_at_call 92; (with_reducible refine (slices_Contains_int_int.calls_n x8_1.toNat k1 _ _ (l0_0.take (x8_1 : Int).toNat) (rd l0_0 x8_1) false _ ?side1 ?side2 A12.out HLN_.out).mono ?_); (case side1 => exact cb_ (Kd.C_below HR282.out (hb_ HB))); (case side2 => exact HC282.out); rintro e w' ⟨rfl, ⟨nd, rfl⟩⟩))
      go_roundg k1
      case measure => have := HK1.out; omega
      case rel => exact ⟨(wrap64 (x8_1 + 1)), rt_, H', ⟨by have := HK1.out; omega⟩, ⟨bk_ BK278⟩, ⟨hb_ HB⟩⟩
     rw [if_neg c11] at H
     exact absurd H (by simp)
    obtain rfl := Bool.eq_false_iff.mpr c9
    replace H := iF_ H
    obtain rfl := Option.some.inj H
    obtain ⟨ad280, p280, q280, rfl, hx280_0⟩ := ab_int HB HR0_0 x8_1
    go_wp2_with (first | (go_at_call 85; (with_reducible refine (impl_ValOk.calls (rd l0_0 x8_1) false _ A8.out).mono ?_); rintro e w' ⟨rfl, ⟨nd, rfl⟩⟩))
    go_ret
    exact ⟨rs_, hb_ HB⟩
   by_cases c18 : (l0_0.length : Int) = 4
   ·
    rw [if_pos c18] at H
    have c18b0 : ((l0_0.length : Int) == 4) = true := beq_iff_eq.mpr c18
    have c18b1 : ((l0_0.length : Int) != 4) = false := bne_eq_false_iff_eq.mpr c18
    clear c18
    replace H := bs_ H
    obtain ⟨t279, A19, H⟩ := H
    obtain rfl := Option.some.inj H
    obtain ⟨hcz20_0, hcz20_1, hfz20_0, hfz20_1⟩ := cz2_ BK278
    go_wp2_with (first | (go_at_call 93; (with_reducible refine (impl_from.calls a0_1 0 5 t279 _ A19.out).mono ?_); rintro e w' ⟨rfl, ⟨nd, rfl⟩⟩))
    go_ret
    exact ⟨rs_, hb_ HB⟩
   rw [if_neg c18] at H
   have c18b0 : ((l0_0.length : Int) == 4) = false := beq_eq_false_iff_ne.mpr c18
   have c18b1 : ((l0_0.length : Int) != 4) = true := bne_iff_ne.mpr c18
   obtain rfl := Option.some.inj H
   obtain ⟨hcz21_0, hcz21_1, hfz21_0, hfz21_1⟩ := cz2_ BK278
   go_wp2
   go_ret
   exact ⟨rs_, hb_ HB⟩

/-! ### impl_placed: function 156 -/
def impl_placed.f (a0 : Bool) (a1 : Int) : Option (Int) := if a0 = true then (some a1) else (some (-1))
set_option maxHeartbeats 8000000 in
set_option maxRecDepth 100000 in
theorem impl_placed.calls (a0 : Bool) (a1 : Int) (r : Int) (w : World) (h : impl_placed.f a0 a1 = some r) :
    Calls Try.prog 156 #[.bool a0, .int .i64 a1] w fun e w' => e = .returned (.int .i64 r) ∧ Drawn0 w w' := by
 have H : (if a0 = true then (some a1) else (some (-1))) = some r := h
 clear h
 by_cases c3 : a0 = true
 ·
  subst c3
  replace H := it_ H
  obtain rfl := Option.some.inj H
  go_enter Try.func156, Try.ntmps156
  go_wp2
  go_ret
  exact ⟨rt_, by repeat (first | exact Drawn0.refl _ | apply Drawn0.step)⟩
 obtain rfl := Bool.eq_false_iff.mpr c3
 replace H := iF_ H
 obtain rfl := Option.some.inj H
 go_enter Try.func156, Try.ntmps156
 go_wp2
 go_ret
 exact ⟨rt_, by repeat (first | exact Drawn0.refl _ | apply Drawn0.step)⟩

/-! ### impl_OwnerAt: function 141 -/
def impl_OwnerAt.f (a0 : Int) : Option (Int) := (impl_ValOk.f a0).bind fun t284 => ((impl_placed.f t284 (wrap64 (3 + a0))).bind fun t285 => (some t285))
set_option maxHeartbeats 8000000 in
set_option maxRecDepth 100000 in
theorem impl_OwnerAt.calls (a0 : Int) (r : Int) (w : World) (h : impl_OwnerAt.f a0 = some r) :
    Calls Try.prog 141 #[.int .i64 a0] w fun e w' => e = .returned (.int .i64 r) ∧ Drawn0 w w' := by
 have H : ((impl_ValOk.f a0).bind fun t284 => ((impl_placed.f t284 (wrap64 (3 + a0))).bind fun t285 => (some t285))) = some r := h
 clear h
 replace H := bs_ H
 obtain ⟨t284, A2, H⟩ := H
 replace H := bs_ H
 obtain ⟨t285, A3, H⟩ := H
 obtain rfl := Option.some.inj H
 go_enter Try.func141, Try.ntmps141
 go_wp2_with (first | ((with_reducible refine gate_callee (f := 85) rfl ?_); refine goesL_ (some 4) rfl rfl Try.func85 (by kernel_rfl) rfl #[.int .i64 a0] rfl al_ ?_; (with_reducible refine (impl_ValOk.calls a0 t284 _ A2.out).mono ?_); rintro e w' ⟨rfl, ⟨nd, rfl⟩⟩; refine ⟨_, rfl, ?_⟩) | ((with_reducible refine gate_callee (f := 156) rfl ?_); refine goesL_ (some 7) rfl rfl Try.func156 (by kernel_rfl) rfl #[.bool t284, .int .i64 (wrap64 (3 + a0))] rfl al_ ?_; (with_reducible refine (impl_placed.calls t284 (wrap64 (3 + a0)) t285 _ A3.out).mono ?_); rintro e w' ⟨rfl, ⟨nd, rfl⟩⟩; refine ⟨_, rfl, ?_⟩))
 go_ret
 exact ⟨rt_, by repeat (first | exact Drawn0.refl _ | apply Drawn0.step)⟩

/-! ### impl_isClass: function 86 -/
def impl_isClass.f (a0 : Int) : Option (Bool) := (impl_from.f a0 0 2).bind fun t286 => (some t286)
set_option maxHeartbeats 8000000 in
set_option maxRecDepth 100000 in
theorem impl_isClass.calls (a0 : Int) (r : Bool) (w : World) (h : impl_isClass.f a0 = some r) :
    Calls Try.prog 86 #[.int .i64 a0] w fun e w' => e = .returned (.bool r) ∧ Drawn0 w w' := by
 have H : ((impl_from.f a0 0 2).bind fun t286 => (some t286)) = some r := h
 clear h
 replace H := bs_ H
 obtain ⟨t286, A2, H⟩ := H
 obtain rfl := Option.some.inj H
 go_enter Try.func86, Try.ntmps86
 go_wp2_with (first | ((with_reducible refine gate_callee (f := 93) rfl ?_); refine goesL_ (some 4) rfl rfl Try.func93 (by kernel_rfl) rfl #[.int .i64 a0, .int .i64 0, .int .i64 2] rfl al_ ?_; (with_reducible refine (impl_from.calls a0 0 2 t286 _ A2.out).mono ?_); rintro e w' ⟨rfl, ⟨nd, rfl⟩⟩; refine ⟨_, rfl, ?_⟩))
 go_ret
 exact ⟨rt_, by repeat (first | exact Drawn0.refl _ | apply Drawn0.step)⟩

/-! ### impl_CountAt: function 142 -/
def impl_CountAt.f (a0 : Int) : Option (Int) := (impl_isClass.f a0).bind fun t287 => ((impl_placed.f t287 (wrap64 (10 + a0))).bind fun t288 => (some t288))
set_option maxHeartbeats 8000000 in
set_option maxRecDepth 100000 in
theorem impl_CountAt.calls (a0 : Int) (r : Int) (w : World) (h : impl_CountAt.f a0 = some r) :
    Calls Try.prog 142 #[.int .i64 a0] w fun e w' => e = .returned (.int .i64 r) ∧ Drawn0 w w' := by
 have H : ((impl_isClass.f a0).bind fun t287 => ((impl_placed.f t287 (wrap64 (10 + a0))).bind fun t288 => (some t288))) = some r := h
 clear h
 replace H := bs_ H
 obtain ⟨t287, A2, H⟩ := H
 replace H := bs_ H
 obtain ⟨t288, A3, H⟩ := H
 obtain rfl := Option.some.inj H
 go_enter Try.func142, Try.ntmps142
 go_wp2_with (first | ((with_reducible refine gate_callee (f := 86) rfl ?_); refine goesL_ (some 4) rfl rfl Try.func86 (by kernel_rfl) rfl #[.int .i64 a0] rfl al_ ?_; (with_reducible refine (impl_isClass.calls a0 t287 _ A2.out).mono ?_); rintro e w' ⟨rfl, ⟨nd, rfl⟩⟩; refine ⟨_, rfl, ?_⟩) | ((with_reducible refine gate_callee (f := 156) rfl ?_); refine goesL_ (some 7) rfl rfl Try.func156 (by kernel_rfl) rfl #[.bool t287, .int .i64 (wrap64 (10 + a0))] rfl al_ ?_; (with_reducible refine (impl_placed.calls t287 (wrap64 (10 + a0)) t288 _ A3.out).mono ?_); rintro e w' ⟨rfl, ⟨nd, rfl⟩⟩; refine ⟨_, rfl, ?_⟩))
 go_ret
 exact ⟨rt_, by repeat (first | exact Drawn0.refl _ | apply Drawn0.step)⟩

end Go.Proofs.Ytmkhghbalnadlaa.PFnExactMemNew
