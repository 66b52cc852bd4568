/- Contracts of functions of the program: each says that the call does what a plain Lean function tells. Made by programs of this session and of the kit. No condition beyond the hypotheses that each theorem names. -/
import Derived.Test.YtmkhghbalnadlaaPFnExactMemNewx0
import Derived.Test.YtmkhghbalnadlaaPFnExactMemNewx2
import Derived.Test.YtmkhghbalnadlaaPFnExactMemNewx3
namespace Go.Proofs.Ytmkhghbalnadlaa.PFnExactMemNew
open Go.RowKit Go.Proofs.YtmkhghbalnadlaaW.PrintWords Go.Proofs.YtmkhghbalnadlaaW.PrintLast Go.Proofs.YtmkhghbalnadlaaW.PrintMore
attribute [local go_sem] max2_int min2_int max_two min_two max_three min_three max_four min_four   -- for this text's walks alone
set_option linter.unusedVariables false
set_option linter.unusedSimpArgs false

/-! ### spec_Entries: function 115 -/
def spec_Entries.l0 : Nat → Int → Int → Int → Int → List (S122) → Int → List Int → Option (Int × Int × Int × Bool)
 | 0, _, _, _, _, _, _, _ => none
 | k + 1, x1, x6, x161000, x161001, x161002, x161003, x161004 => if x6 < (x161002.length : Int) then (if 0 ≤ x6 then (if ((rd_T122 x161002 x6).f0) = x1 then (some ((rd_T122 x161002 x6).f0, (rd_T122 x161002 x6).f1, (rd_T122 x161002 x6).f2, true)) else (spec_Entries.l0 k x1 (wrap64 (x6 + 1)) x161000 x161001 x161002 x161003 x161004)) else (none)) else (some (0, 0, 0, false))
def spec_Entries.f (k : Nat) (a0_0 : Int) (a0_1 : Int) (l0_2 : List (S122)) (a0_3 : Int) (l0_4 : List Int) (a1 : Int) : Option (Int × Int × Int × Bool) := spec_Entries.l0 k a1 0 a0_0 a0_1 l0_2 a0_3 l0_4
theorem spec_Entries.mono_l : ∀ k, (∀ y0 y1 y2 y3 y4 y5 y6, LeO (spec_Entries.l0 k y0 y1 y2 y3 y4 y5 y6) (spec_Entries.l0 (k + 1) y0 y1 y2 y3 y4 y5 y6))
 | 0 => fun _ _ _ _ _ _ _ r h => by simp [spec_Entries.l0] at h
 | k + 1 => by
  have ih0 := spec_Entries.mono_l k
  ·
   intro y0 y1 y2 y3 y4 y5 y6
   unfold spec_Entries.l0
   repeat' first | (with_reducible first | apply ih0 | apply LeO.refl | apply LeO.none | apply LeO.ite | refine LeO.bind ?_ (fun _ => ?_)) | apply ih0 | apply LeO.none | apply LeO.ite | refine LeO.bind ?_ (fun _ => ?_)
theorem spec_Entries.mono : ∀ a0 a1 a2 a3 a4 a5 k, LeO (spec_Entries.f k a0 a1 a2 a3 a4 a5) (spec_Entries.f (k + 1) a0 a1 a2 a3 a4 a5) := by
 intro a0 a1 a2 a3 a4 a5 k
 have ih0 := spec_Entries.mono_l k
 unfold spec_Entries.f
 repeat' first | (with_reducible first | apply ih0 | apply LeO.refl | apply LeO.none | apply LeO.ite | refine LeO.bind ?_ (fun _ => ?_)) | apply ih0 | apply LeO.none | apply LeO.ite | refine LeO.bind ?_ (fun _ => ?_)
set_option maxHeartbeats 8000000 in
set_option maxRecDepth 100000 in
theorem spec_Entries.calls (k : Nat) (a0_0 : Int) (a0_1 : Int) (A0_2 : Option Addr) (c0_2 : Nat) (l0_2 : List (S122)) (a0_3 : Int) (A0_4 : Option Addr) (c0_4 : Nat) (l0_4 : List Int) (a1 : Int) (r1 : Int) (r2 : Int) (r3 : Int) (r4 : Bool) (w : World) (hr0_2 : Kd.C k122 w A0_2 l0_2.length l0_2) (hc0_2 : l0_2.length ≤ c0_2) (hr0_4 : Kd.C (Kd.int .i64) w A0_4 l0_4.length l0_4) (hc0_4 : l0_4.length ≤ c0_4) (h : spec_Entries.f k a0_0 a0_1 l0_2 a0_3 l0_4 a1 = some (r1, r2, r3, r4)) :
    Calls Try.prog 115 #[.agg #[.int .i64 a0_0, .int .i64 a0_1, .slice A0_2 l0_2.length c0_2, .int .i64 a0_3, .slice A0_4 l0_4.length c0_4], .int .i64 a1] w fun e w' => e = .returned (.tuple #[.agg #[.int .i64 r1, .int .i64 r2, .int .i64 r3], .bool r4]) ∧ Below w.heap.size w w' := by
 have hu119 := Try.underlying119
 have hu122 := Try.underlying122
 have HR0_2 := A_ hr0_2
 have HC0_2 := A_ hc0_2
 clear hr0_2 hc0_2
 have HR0_4 := A_ hr0_4
 have HC0_4 := A_ hc0_4
 clear hr0_4 hc0_4
 have HB := A_ (Below.refl w.heap.size w)
 have H : (spec_Entries.l0 k a1 0 a0_0 a0_1 l0_2 a0_3 l0_4) = some (r1, r2, r3, r4) := h
 clear h
 replace H' := A_ H; clear H
 go_enter Try.func115, Try.ntmps115
 go_wp2_with (first | ((with_reducible refine gate_dst (N := 2) rfl ?_); refine bx_ HB rfl (N := 2) rfl (cs := #[.int .i64 a0_0, .int .i64 a0_1, .slice A0_2 l0_2.length c0_2, .int .i64 a0_3, .slice A0_4 l0_4.length c0_4]) (t := 119) hr_ ?_; clear HB; intro gb160 w3 hg hb BK160 GW160 HB; clear hb hg) | ((with_reducible refine gate_dst (N := 4) rfl ?_); refine bx_ HB rfl (N := 4) rfl (cs := #[.int .i64 0, .int .i64 0, .int .i64 0]) (t := 122) hr_ ?_; clear HB; intro gb161 w4 hg hb BK161 GW161 HB; have NB160_161 := ng_ BK160 hg; have NB161_160 := ns_ (ng_ BK160 hg); replace BK160 := bb_ BK160 hb; clear hb hg))
 go_loopg [6] k (fun kq v6 w' => ∃ (x6_1 : Int) (x162000_1 : Int) (x162001_1 : Int) (x162002_1 : Int), v6 = .int .i64 x6_1 ∧ Aside0 (spec_Entries.l0 kq a1 x6_1 a0_0 a0_1 l0_2 a0_3 l0_4 = some (r1, r2, r3, r4)) ∧ Aside0 (kq ≤ k) ∧ Aside0 (w'.heap[gb160]? = some (.cells #[.int .i64 a0_0, .int .i64 a0_1, (.slice A0_2 l0_2.length c0_2), .int .i64 a0_3, (.slice A0_4 l0_4.length c0_4)] 119 (0, 0))) ∧ Aside0 (w'.heap[gb161]? = some (.cells #[.int .i64 x162000_1, .int .i64 x162001_1, .int .i64 x162002_1] 122 (0, 0))) ∧ Aside0 (Below w.heap.size w w'))
 case atStart => exact ⟨(0), (0), (0), (0), rt_, H', ⟨Nat.le_refl _⟩, ⟨bk_ BK160⟩, ⟨bk_ BK161⟩, ⟨hb_ HB⟩⟩
 case round =>
  clear H'
  obtain ⟨x6_1, x162000_1, x162001_1, x162002_1, rfl, HA, HK1, BK160, BK161, HB⟩ := hrel
  cases gk with
  | zero => exact absurd HA.out (by simp [spec_Entries.l0])
  | succ k1 =>
   have H := HA.out
   clear HA
   simp only [spec_Entries.l0] at H
   replace H := ic_ H
   rcases H with ⟨c5b0, H⟩ | ⟨c5b0, H⟩
   ·
    replace H := ix_ H
    obtain ⟨c6b0, H⟩ := H
    by_cases c7 : ((rd_T122 l0_2 x6_1).f0) = a1
    ·
     rw [if_pos c7] at H
     have c7b0 : (((rd_T122 l0_2 x6_1).f0) == a1) = true := beq_iff_eq.mpr c7
     have c7b1 : (((rd_T122 l0_2 x6_1).f0) != a1) = false := bne_eq_false_iff_eq.mpr c7
     clear c7
     simp only [Option.some.injEq, Prod.mk.injEq] at H
     obtain ⟨rfl, rfl, rfl, rfl⟩ := H
     have hnb8 := NB160_161.out
     have hnc8 := NB161_160.out
     obtain ⟨hcz9_0, hcz9_1, hcz9_2, hcz9_3, hcz9_4, hfz9_0, hfz9_1, hfz9_2, hfz9_3, hfz9_4⟩ := cz5_ BK160
     obtain ⟨ad162, p162, q162, rfl, hx162_0, hx162_1, hx162_2⟩ := ab_T122 HB HR0_2 x6_1
     have p163 : 0 ≤ (x6_1 : Int) := od_
     have q163 : x6_1 < (l0_2.length : Int) := od_
     obtain ⟨ad163, e163, hx163_0, hx163_1, hx163_2⟩ := at_T122 HR0_2.out x6_1 p163 q163
     obtain rfl : ad162 = ad163 := (by injection e163)
     replace hx163_0 := hx_ HB hx163_0
     replace hx163_1 := hx_ HB hx163_1
     replace hx163_2 := hx_ HB hx163_2
     replace p163 := eq_true p163
     replace q163 := eq_true q163
     obtain ⟨hcz10_0, hcz10_1, hcz10_2, hfz10_0, hfz10_1, hfz10_2⟩ := cz3_ BK161
     go_wp2
     refine bodyPost_ret (results_ct rfl _ _ gb161 122 #[.int .i64 ((rd_T122 l0_2 x6_1).f0), .int .i64 ((rd_T122 l0_2 x6_1).f1), .int .i64 ((rd_T122 l0_2 x6_1).f2)] (0, 0) _ rfl (bp_ BK161) Try.underlying122 rfl (by kernel_rfl)) rfl ?_
     exact ⟨rs_, hb_ HB⟩
    rw [if_neg c7] at H
    have c7b0 : (((rd_T122 l0_2 x6_1).f0) == a1) = false := beq_eq_false_iff_ne.mpr c7
    have c7b1 : (((rd_T122 l0_2 x6_1).f0) != a1) = true := bne_iff_ne.mpr c7
    replace H' := A_ H; clear H
    have hnb11 := NB160_161.out
    have hnc11 := NB161_160.out
    obtain ⟨hcz12_0, hcz12_1, hcz12_2, hcz12_3, hcz12_4, hfz12_0, hfz12_1, hfz12_2, hfz12_3, hfz12_4⟩ := cz5_ BK160
    obtain ⟨ad162, p162, q162, rfl, hx162_0, hx162_1, hx162_2⟩ := ab_T122 HB HR0_2 x6_1
    go_wp2
    go_roundg k1
    case measure => have := HK1.out; omega
    case rel => exact ⟨(wrap64 (x6_1 + 1)), (x162000_1), (x162001_1), (x162002_1), rt_, H', ⟨by have := HK1.out; omega⟩, ⟨bk_ BK160⟩, ⟨bk_ BK161⟩, ⟨hb_ HB⟩⟩
   simp only [Option.some.injEq, Prod.mk.injEq] at H
   obtain ⟨rfl, rfl, rfl, rfl⟩ := H
   have hnb13 := NB160_161.out
   have hnc13 := NB161_160.out
   obtain ⟨hcz14_0, hcz14_1, hcz14_2, hcz14_3, hcz14_4, hfz14_0, hfz14_1, hfz14_2, hfz14_3, hfz14_4⟩ := cz5_ BK160
   obtain ⟨hcz15_0, hcz15_1, hcz15_2, hfz15_0, hfz15_1, hfz15_2⟩ := cz3_ BK161
   go_wp2
   refine bodyPost_ret (results_ct rfl _ _ gb161 122 #[.int .i64 0, .int .i64 0, .int .i64 0] (0, 0) _ rfl (bp_ BK161) Try.underlying122 rfl (by kernel_rfl)) rfl ?_
   exact ⟨rs_, hb_ HB⟩

/-! ### spec_MemOk: function 54 -/
mutual
def spec_MemOk.j0 : Nat → Bool → List (S95) → List (S119) → Option (Bool)
 | 0, _, _, _ => none
 | k + 1, x18, x165000, x165001 => if x18 = true then (some false) else (spec_MemOk.l0 k 0 x165000 x165001)
def spec_MemOk.l0 : Nat → Int → List (S95) → List (S119) → Option (Bool)
 | 0, _, _, _ => none
 | k + 1, x3, x165000, x165001 => if x3 < (x165001.length : Int) then (if 0 ≤ x3 then ((spec_DescOk.f k ((rd_T119 x165001 x3).f0) ((rd_T119 x165001 x3).f1) ((rd_T119 x165001 x3).f2) ((rd_T119 x165001 x3).f3.f0) ((rd_T119 x165001 x3).f3.f1)).bind fun t167 => (if t167 = true then (spec_MemOk.l0 k (wrap64 (x3 + 1)) x165000 x165001) else (some false))) else (none)) else (spec_MemOk.l1 k 0 x165000 x165001)
def spec_MemOk.l1 : Nat → Int → List (S95) → List (S119) → Option (Bool)
 | 0, _, _, _ => none
 | k + 1, x4, x165000, x165001 => if x4 < (x165000.length : Int) then (if 0 ≤ x4 then ((spec_WordOk.f ((rd_T95 x165000 x4).f0) ((rd_T95 x165000 x4).f1) ((rd_T95 x165000 x4).f2) (x165001.length : Int)).bind fun t170 => (if t170 = true then (if ((rd_T95 x165000 x4).f1) > 0 then (if 0 ≤ (wrap64 (((rd_T95 x165000 x4).f1) - 1)) then (if (wrap64 (((rd_T95 x165000 x4).f1) - 1)) < (x165001.length : Int) then ((spec_Entries.f k ((rd_T119 x165001 (wrap64 (((rd_T95 x165000 x4).f1) - 1))).f0) ((rd_T119 x165001 (wrap64 (((rd_T95 x165000 x4).f1) - 1))).f1) ((rd_T119 x165001 (wrap64 (((rd_T95 x165000 x4).f1) - 1))).f2) ((rd_T119 x165001 (wrap64 (((rd_T95 x165000 x4).f1) - 1))).f3.f0) ((rd_T119 x165001 (wrap64 (((rd_T95 x165000 x4).f1) - 1))).f3.f1) x4).bind fun bt172 => (if bt172.2.2.2 = true then (if ((rd_T119 x165001 (wrap64 (((rd_T95 x165000 x4).f1) - 1))).f0) = ((rd_T95 x165000 x4).f2) then (spec_MemOk.l1 k (wrap64 (x4 + 1)) x165000 x165001) else (some false)) else (some false))) else (none)) else (none)) else (spec_MemOk.l1 k (wrap64 (x4 + 1)) x165000 x165001)) else (some false))) else (none)) else (some true)
end
def spec_MemOk.f (k : Nat) (l0_0 : List (S95)) (l0_1 : List (S119)) : Option (Bool) := if (l0_0.length : Int) = 20 then ((spec_l1In.f (l0_1.length : Int) 1 4).bind fun t165 => (spec_MemOk.j0 k (!t165) l0_0 l0_1)) else (spec_MemOk.j0 k true l0_0 l0_1)
theorem spec_MemOk.mono_l : ∀ k, (∀ y0 y1 y2, LeO (spec_MemOk.j0 k y0 y1 y2) (spec_MemOk.j0 (k + 1) y0 y1 y2)) ∧ (∀ y0 y1 y2, LeO (spec_MemOk.l0 k y0 y1 y2) (spec_MemOk.l0 (k + 1) y0 y1 y2)) ∧ (∀ y0 y1 y2, LeO (spec_MemOk.l1 k y0 y1 y2) (spec_MemOk.l1 (k + 1) y0 y1 y2))
 | 0 => ⟨fun _ _ _ r h => by simp [spec_MemOk.j0] at h, fun _ _ _ r h => by simp [spec_MemOk.l0] at h, fun _ _ _ r h => by simp [spec_MemOk.l1] at h⟩
 | k + 1 => by
  obtain ⟨ih0, ih1, ih2⟩ := spec_MemOk.mono_l k
  refine ⟨?_, ?_, ?_⟩
  ·
   intro y0 y1 y2
   unfold spec_MemOk.j0
   repeat' first | (with_reducible first | apply ih0 | apply ih1 | apply ih2 | apply spec_DescOk.mono | apply spec_Entries.mono | apply LeO.refl | apply LeO.none | apply LeO.ite | refine LeO.bind ?_ (fun _ => ?_)) | apply ih0 | apply ih1 | apply ih2 | apply spec_DescOk.mono | apply spec_Entries.mono | apply LeO.none | apply LeO.ite | refine LeO.bind ?_ (fun _ => ?_)
  ·
   intro y0 y1 y2
   unfold spec_MemOk.l0
   repeat' first | (with_reducible first | apply ih0 | apply ih1 | apply ih2 | apply spec_DescOk.mono | apply spec_Entries.mono | apply LeO.refl | apply LeO.none | apply LeO.ite | refine LeO.bind ?_ (fun _ => ?_)) | apply ih0 | apply ih1 | apply ih2 | apply spec_DescOk.mono | apply spec_Entries.mono | apply LeO.none | apply LeO.ite | refine LeO.bind ?_ (fun _ => ?_)
  intro y0 y1 y2
  unfold spec_MemOk.l1
  repeat' first | (with_reducible first | apply ih0 | apply ih1 | apply ih2 | apply spec_DescOk.mono | apply spec_Entries.mono | apply LeO.refl | apply LeO.none | apply LeO.ite | refine LeO.bind ?_ (fun _ => ?_)) | apply ih0 | apply ih1 | apply ih2 | apply spec_DescOk.mono | apply spec_Entries.mono | apply LeO.none | apply LeO.ite | refine LeO.bind ?_ (fun _ => ?_)
theorem spec_MemOk.mono : ∀ a0 a1 k, LeO (spec_MemOk.f k a0 a1) (spec_MemOk.f (k + 1) a0 a1) := by
 intro a0 a1 k
 obtain ⟨ih0, ih1, ih2⟩ := spec_MemOk.mono_l k
 unfold spec_MemOk.f
 repeat' first | (with_reducible first | apply ih0 | apply ih1 | apply ih2 | apply spec_DescOk.mono | apply spec_Entries.mono | apply LeO.refl | apply LeO.none | apply LeO.ite | refine LeO.bind ?_ (fun _ => ?_)) | apply ih0 | apply ih1 | apply ih2 | apply spec_DescOk.mono | apply spec_Entries.mono | apply LeO.none | apply LeO.ite | refine LeO.bind ?_ (fun _ => ?_)
set_option maxHeartbeats 8000000 in
set_option maxRecDepth 100000 in
theorem spec_MemOk.calls (k : Nat) (A0_0 : Option Addr) (c0_0 : Nat) (l0_0 : List (S95)) (A0_1 : Option Addr) (c0_1 : Nat) (l0_1 : List (S119)) (r : Bool) (w : World) (hr0_0 : Kd.C k95 w A0_0 l0_0.length l0_0) (hc0_0 : l0_0.length ≤ c0_0) (hr0_1 : Kd.C k119 w A0_1 l0_1.length l0_1) (hc0_1 : l0_1.length ≤ c0_1) (h : spec_MemOk.f k l0_0 l0_1 = some r) :
    Calls Try.prog 54 #[.agg #[.slice A0_0 l0_0.length c0_0, .slice A0_1 l0_1.length c0_1]] w fun e w' => e = .returned (.bool r) ∧ Below w.heap.size w w' := by
 have hu31 := Try.underlying31
 have hu119 := Try.underlying119
 have hu95 := Try.underlying95
 have hu122 := Try.underlying122
 have HR0_0 := A_ hr0_0
 have HC0_0 := A_ hc0_0
 clear hr0_0 hc0_0
 have HR0_1 := A_ hr0_1
 have HC0_1 := A_ hc0_1
 clear hr0_1 hc0_1
 have HB := A_ (Below.refl w.heap.size w)
 have H : (if (l0_0.length : Int) = 20 then ((spec_l1In.f (l0_1.length : Int) 1 4).bind fun t165 => (spec_MemOk.j0 k (!t165) l0_0 l0_1)) else (spec_MemOk.j0 k true l0_0 l0_1)) = some r := h
 clear h
 have HC2 := A_ H
 clear H
 go_enter Try.func54, Try.ntmps54
 go_upto_region 1 with (first | ((with_reducible refine gate_dst (N := 1) rfl ?_); (try (refine gate_guard (by rfl) ?_; dsimp only)); refine bx_ HB rfl (N := 1) rfl (cs := #[.slice A0_0 l0_0.length c0_0, .slice A0_1 l0_1.length c0_1]) (t := 31) hr_ ?_; clear HB; intro gb164 w3 hg hb BK164 GW164 HB; clear hb hg))
 repeat (go_quiet (first | ((with_reducible refine gate_dst (N := 1) rfl ?_); (try (refine gate_guard (by rfl) ?_; dsimp only)); refine bx_ HB rfl (N := 1) rfl (cs := #[.slice A0_0 l0_0.length c0_0, .slice A0_1 l0_1.length c0_1]) (t := 31) hr_ ?_; clear HB; intro gb164 w3 hg hb BK164 GW164 HB; clear hb hg)); go_upto_region 1 with (first | ((with_reducible refine gate_dst (N := 1) rfl ?_); (try (refine gate_guard (by rfl) ?_; dsimp only)); refine bx_ HB rfl (N := 1) rfl (cs := #[.slice A0_0 l0_0.length c0_0, .slice A0_1 l0_1.length c0_1]) (t := 31) hr_ ?_; clear HB; intro gb164 w3 hg hb BK164 GW164 HB; clear hb hg)))
 (try simp only [Act.put, List.setIfInBounds_toArray, List.set_cons_zero, List.set_cons_succ])
 go_cut [18] (fun v18 wc => ∃ (kq : Nat) (x18_1 : Bool), v18 = .bool x18_1 ∧ Aside0 (spec_MemOk.j0 kq x18_1 l0_0 l0_1 = some r) ∧ Aside0 (kq ≤ k) ∧ Aside0 (wc.heap[gb164]? = some (.cells #[(.slice A0_0 l0_0.length c0_0), (.slice A0_1 l0_1.length c0_1)] 31 (0, 0))) ∧ Aside0 (Below w.heap.size w wc))
 case first =>
  have H := HC2.out
  clear HC2
  by_cases c4 : (l0_0.length : Int) = 20
  ·
   rw [if_pos c4] at H
   have c4b0 : ((l0_0.length : Int) == 20) = true := beq_iff_eq.mpr c4
   have c4b1 : ((l0_0.length : Int) != 20) = false := bne_eq_false_iff_eq.mpr c4
   clear c4
   (first | rw [c4b0] | (simp only [i64_w, i32_w]; rw [c4b0]) | skip)
   replace H := bs_ H
   obtain ⟨t165, A5, H⟩ := H
   replace H' := A_ H; clear H
   obtain ⟨hcz6_0, hcz6_1, hfz6_0, hfz6_1⟩ := cz2_ BK164
   go_wp2_with (first | (go_at_call 87; (with_reducible refine (spec_l1In.calls (l0_1.length : Int) 1 4 t165 _ A5.out).mono ?_); rintro e w' ⟨rfl, ⟨nd, rfl⟩⟩; (try exact dd_)))
   repeat (go_quiet (first | (go_at_call 87; (with_reducible refine (spec_l1In.calls (l0_1.length : Int) 1 4 t165 _ A5.out).mono ?_); rintro e w' ⟨rfl, ⟨nd, rfl⟩⟩; (try exact dd_))); try go_wp2_with (first | (go_at_call 87; (with_reducible refine (spec_l1In.calls (l0_1.length : Int) 1 4 t165 _ A5.out).mono ?_); rintro e w' ⟨rfl, ⟨nd, rfl⟩⟩; (try exact dd_))))
   go_meet
   case rel => exact ⟨_, (!t165), rt_, H', ⟨by first | omega | exact Nat.le_refl _⟩, ⟨bk_ BK164⟩, ⟨hb_ HB⟩⟩
  rw [if_neg c4] at H
  have c4b0 : ((l0_0.length : Int) == 20) = false := beq_eq_false_iff_ne.mpr c4
  have c4b1 : ((l0_0.length : Int) != 20) = true := bne_iff_ne.mpr c4
  (first | rw [c4b0] | (simp only [i64_w, i32_w]; rw [c4b0]) | skip)
  replace H' := A_ H; clear H
  obtain ⟨hcz7_0, hcz7_1, hfz7_0, hfz7_1⟩ := cz2_ BK164
  go_wp2
  repeat (go_quiet (fail); try go_wp2)
  go_meet
  case rel => exact ⟨_, (true), rt_, H', ⟨by first | omega | exact Nat.le_refl _⟩, ⟨bk_ BK164⟩, ⟨hb_ HB⟩⟩
 case rest =>
  clear HC2
  try clear c4
  try clear c4b0
  try clear c4b1
  obtain ⟨kq, x18_1, rfl, HA, HJ1, BK164, HB⟩ := hcut
  cases kq with
  | zero => exact absurd HA.out (by simp [spec_MemOk.j0])
  | succ kj1 =>
   have H := HA.out
   clear HA
   simp only [spec_MemOk.j0] at H
   by_cases c8 : x18_1 = true
   ·
    subst c8
    replace H := it_ H
    obtain rfl := Option.some.inj H
    go_wp2
    repeat (go_quiet (fail); try go_wp2)
    go_ret
    exact ⟨rs_, hb_ HB⟩
   obtain rfl := Bool.eq_false_iff.mpr c8
   replace H := iF_ H
   replace H' := A_ H; clear H
   go_wp2
   repeat (go_quiet (fail); try go_wp2)
   go_loopg [3] kj1 (fun kq v3 w' => ∃ (x3_2 : Int), v3 = .int .i64 x3_2 ∧ Aside0 (spec_MemOk.l0 kq x3_2 l0_0 l0_1 = some r) ∧ Aside0 (kq ≤ kj1) ∧ Aside0 (w'.heap[gb164]? = some (.cells #[(.slice A0_0 l0_0.length c0_0), (.slice A0_1 l0_1.length c0_1)] 31 (0, 0))) ∧ Aside0 (Below w.heap.size w w'))
   case atStart => exact ⟨(0), rt_, H', ⟨Nat.le_refl _⟩, ⟨bk_ BK164⟩, ⟨hb_ HB⟩⟩
   case round =>
    clear H'
    try clear c4
    try clear c4b0
    try clear c4b1
    try clear c8
    obtain ⟨x3_2, rfl, HA, HK2, BK164, HB⟩ := hrel
    cases gk with
    | zero => exact absurd HA.out (by simp [spec_MemOk.l0])
    | succ k2 =>
     have H := HA.out
     clear HA
     simp only [spec_MemOk.l0] at H
     replace H := ic_ H
     rcases H with ⟨c9b0, H⟩ | ⟨c9b0, H⟩
     ·
      replace H := ix_ H
      obtain ⟨c10b0, H⟩ := H
      replace H := bs_ H
      obtain ⟨t167, A11, H⟩ := H
      by_cases c12 : t167 = true
      ·
       subst c12
       replace H := it_ H
       replace H' := A_ H; clear H
       obtain ⟨hcz13_0, hcz13_1, hfz13_0, hfz13_1⟩ := cz2_ BK164
       obtain ⟨ad166, A166_2, c166_2, A166_4, c166_4, p166, q166, rfl, hx166_0, hx166_1, hx166_2, hx166_3, hx166_4, HC166_2, HR166_2, HC166_4, HR166_4⟩ := ab_T119 HB HR0_1 x3_2
       go_wp2_with (first | (go_at_call 113; (with_reducible refine (spec_DescOk.calls k2 ((rd_T119 l0_1 x3_2).f0) ((rd_T119 l0_1 x3_2).f1) _ _ ((rd_T119 l0_1 x3_2).f2) ((rd_T119 l0_1 x3_2).f3.f0) _ _ ((rd_T119 l0_1 x3_2).f3.f1) true _ ?side1 ?side2 ?side3 ?side4 A11.out).mono ?_); (case side1 => exact cb_ (Kd.C_below HR166_2.out HB.out)); (case side2 => exact HC166_2.out); (case side3 => exact cb_ (Kd.C_below HR166_4.out HB.out)); (case side4 => exact HC166_4.out); rintro e w14 ⟨rfl, hb⟩; replace BK164 := bb_ BK164 hb; replace HB := hs_ HB hb; (try clear hb); (try clear hb2); (try clear hk); (try clear hi)))
       repeat (go_quiet (first | (go_at_call 113; (with_reducible refine (spec_DescOk.calls k2 ((rd_T119 l0_1 x3_2).f0) ((rd_T119 l0_1 x3_2).f1) _ _ ((rd_T119 l0_1 x3_2).f2) ((rd_T119 l0_1 x3_2).f3.f0) _ _ ((rd_T119 l0_1 x3_2).f3.f1) true _ ?side1 ?side2 ?side3 ?side4 A11.out).mono ?_); (case side1 => exact cb_ (Kd.C_below HR166_2.out HB.out)); (case side2 => exact HC166_2.out); (case side3 => exact cb_ (Kd.C_below HR166_4.out HB.out)); (case side4 => exact HC166_4.out); rintro e w14 ⟨rfl, hb⟩; replace BK164 := bb_ BK164 hb; replace HB := hs_ HB hb; (try clear hb); (try clear hb2); (try clear hk); (try clear hi))); try go_wp2_with (first | (go_at_call 113; (with_reducible refine (spec_DescOk.calls k2 ((rd_T119 l0_1 x3_2).f0) ((rd_T119 l0_1 x3_2).f1) _ _ ((rd_T119 l0_1 x3_2).f2) ((rd_T119 l0_1 x3_2).f3.f0) _ _ ((rd_T119 l0_1 x3_2).f3.f1) true _ ?side1 ?side2 ?side3 ?side4 A11.out).mono ?_); (case side1 => exact cb_ (Kd.C_below HR166_2.out HB.out)); (case side2 => exact HC166_2.out); (case side3 => exact cb_ (Kd.C_below HR166_4.out HB.out)); (case side4 => exact HC166_4.out); rintro e w14 ⟨rfl, hb⟩; replace BK164 := bb_ BK164 hb; replace HB := hs_ HB hb; (try clear hb); (try clear hb2); (try clear hk); (try clear hi))))
       go_roundg k2
       case measure => have := HJ1.out; have := HK2.out; omega
       case rel => exact ⟨(wrap64 (x3_2 + 1)), rt_, H', ⟨by have := HJ1.out; have := HK2.out; omega⟩, ⟨bk_ BK164⟩, ⟨hb_ HB⟩⟩
      obtain rfl := Bool.eq_false_iff.mpr c12
      replace H := iF_ H
      obtain rfl := Option.some.inj H
      obtain ⟨hcz15_0, hcz15_1, hfz15_0, hfz15_1⟩ := cz2_ BK164
      obtain ⟨ad166, A166_2, c166_2, A166_4, c166_4, p166, q166, rfl, hx166_0, hx166_1, hx166_2, hx166_3, hx166_4, HC166_2, HR166_2, HC166_4, HR166_4⟩ := ab_T119 HB HR0_1 x3_2
      go_wp2_with (first | (go_at_call 113; (with_reducible refine (spec_DescOk.calls k2 ((rd_T119 l0_1 x3_2).f0) ((rd_T119 l0_1 x3_2).f1) _ _ ((rd_T119 l0_1 x3_2).f2) ((rd_T119 l0_1 x3_2).f3.f0) _ _ ((rd_T119 l0_1 x3_2).f3.f1) false _ ?side1 ?side2 ?side3 ?side4 A11.out).mono ?_); (case side1 => exact cb_ (Kd.C_below HR166_2.out HB.out)); (case side2 => exact HC166_2.out); (case side3 => exact cb_ (Kd.C_below HR166_4.out HB.out)); (case side4 => exact HC166_4.out); rintro e w16 ⟨rfl, hb⟩; replace BK164 := bb_ BK164 hb; replace HB := hs_ HB hb; (try clear hb); (try clear hb2); (try clear hk); (try clear hi)))
      repeat (go_quiet (first | (go_at_call 113; (with_reducible refine (spec_DescOk.calls k2 ((rd_T119 l0_1 x3_2).f0) ((rd_T119 l0_1 x3_2).f1) _ _ ((rd_T119 l0_1 x3_2).f2) ((rd_T119 l0_1 x3_2).f3.f0) _ _ ((rd_T119 l0_1 x3_2).f3.f1) false _ ?side1 ?side2 ?side3 ?side4 A11.out).mono ?_); (case side1 => exact cb_ (Kd.C_below HR166_2.out HB.out)); (case side2 => exact HC166_2.out); (case side3 => exact cb_ (Kd.C_below HR166_4.out HB.out)); (case side4 => exact HC166_4.out); rintro e w16 ⟨rfl, hb⟩; replace BK164 := bb_ BK164 hb; replace HB := hs_ HB hb; (try clear hb); (try clear hb2); (try clear hk); (try clear hi))); try go_wp2_with (first | (go_at_call 113; (with_reducible refine (spec_DescOk.calls k2 ((rd_T119 l0_1 x3_2).f0) ((rd_T119 l0_1 x3_2).f1) _ _ ((rd_T119 l0_1 x3_2).f2) ((rd_T119 l0_1 x3_2).f3.f0) _ _ ((rd_T119 l0_1 x3_2).f3.f1) false _ ?side1 ?side2 ?side3 ?side4 A11.out).mono ?_); (case side1 => exact cb_ (Kd.C_below HR166_2.out HB.out)); (case side2 => exact HC166_2.out); (case side3 => exact cb_ (Kd.C_below HR166_4.out HB.out)); (case side4 => exact HC166_4.out); rintro e w16 ⟨rfl, hb⟩; replace BK164 := bb_ BK164 hb; replace HB := hs_ HB hb; (try clear hb); (try clear hb2); (try clear hk); (try clear hi))))
      go_ret
      exact ⟨rs_, hb_ HB⟩
     replace H' := A_ H; clear H
     obtain ⟨hcz17_0, hcz17_1, hfz17_0, hfz17_1⟩ := cz2_ BK164
     go_wp2
     repeat (go_quiet (fail); try go_wp2)
     go_loopg [4] k2 (fun kq v4 w' => ∃ (x4_3 : Int), v4 = .int .i64 x4_3 ∧ Aside0 (spec_MemOk.l1 kq x4_3 l0_0 l0_1 = some r) ∧ Aside0 (kq ≤ k2) ∧ Aside0 (w'.heap[gb164]? = some (.cells #[(.slice A0_0 l0_0.length c0_0), (.slice A0_1 l0_1.length c0_1)] 31 (0, 0))) ∧ Aside0 (Below w.heap.size w w'))
     case atStart => exact ⟨(0), rt_, H', ⟨Nat.le_refl _⟩, ⟨bk_ BK164⟩, ⟨hb_ HB⟩⟩
     case round =>
      clear H'
      try clear c4
      try clear c4b0
      try clear c4b1
      try clear c8
      try clear c9b0
      try clear c10b0
      try clear c12
      try clear hx166_0
      try clear hx166_1
      try clear hx166_2
      try clear hx166_3
      try clear hx166_4
      try clear p166
      try clear q166
      obtain ⟨x4_3, rfl, HA, HK3, BK164, HB⟩ := hrel
      cases gk with
      | zero => exact absurd HA.out (by simp [spec_MemOk.l1])
      | succ k3 =>
       have H := HA.out
       clear HA
       simp only [spec_MemOk.l1] at H
       replace H := ic_ H
       rcases H with ⟨c18b0, H⟩ | ⟨c18b0, H⟩
       ·
        replace H := ix_ H
        obtain ⟨c19b0, H⟩ := H
        replace H := bs_ H
        obtain ⟨t170, A20, H⟩ := H
        by_cases c21 : t170 = true
        ·
         subst c21
         replace H := it_ H
         replace H := ic_ H
         rcases H with ⟨c22b0, H⟩ | ⟨c22b0, H⟩
         ·
          obtain ⟨ji23, hji23⟩ : ∃ j_ : Int, (wrap64 (((rd_T95 l0_0 x4_3).f1) - 1)) = j_ := ⟨_, rfl⟩
          replace H : (if 0 ≤ (ji23) then (if (ji23) < (l0_1.length : Int) then ((spec_Entries.f k3 ((rd_T119 l0_1 (ji23)).f0) ((rd_T119 l0_1 (ji23)).f1) ((rd_T119 l0_1 (ji23)).f2) ((rd_T119 l0_1 (ji23)).f3.f0) ((rd_T119 l0_1 (ji23)).f3.f1) x4_3).bind fun bt172 => (if bt172.2.2.2 = true then (if ((rd_T119 l0_1 (ji23)).f0) = ((rd_T95 l0_0 x4_3).f2) then (spec_MemOk.l1 k3 (wrap64 (x4_3 + 1)) l0_0 l0_1) else (some false)) else (some false))) else (none)) else (none)) = some r := by first | (rw [hji23] at H; exact H) | (simp only [hji23] at H ⊢; exact H)
          (try rw [hji23] at A20)
          have hji23w : (IntKind.i64.wrap (((rd_T95 l0_0 x4_3).f1) - 1)) = ji23 := (i64_w _).trans hji23
          replace H := ix_ H
          obtain ⟨c24b0, H⟩ := H
          replace H := ix_ H
          obtain ⟨c25b0, H⟩ := H
          replace H := bs_ H
          obtain ⟨⟨t172, t173, t174, t175⟩, A26, H⟩ := H
          dsimp only at H
          by_cases c27 : t175 = true
          ·
           subst c27
           replace H := it_ H
           by_cases c28 : ((rd_T119 l0_1 (ji23)).f0) = ((rd_T95 l0_0 x4_3).f2)
           ·
            rw [if_pos c28] at H
            have c28b0 : (((rd_T119 l0_1 (ji23)).f0) == ((rd_T95 l0_0 x4_3).f2)) = true := beq_iff_eq.mpr c28
            have c28b1 : (((rd_T119 l0_1 (ji23)).f0) != ((rd_T95 l0_0 x4_3).f2)) = false := bne_eq_false_iff_eq.mpr c28
            clear c28
            replace H' := A_ H; clear H
            obtain ⟨hcz29_0, hcz29_1, hfz29_0, hfz29_1⟩ := cz2_ BK164
            obtain ⟨ad168, p168, q168, rfl, hx168_0, hx168_1, hx168_2⟩ := ab_T95 HB HR0_0 x4_3
            go_wp2_with (first | ((with_reducible refine gate_dst (N := 5) rfl ?_); (try (refine gate_guard (by rfl) ?_; dsimp only)); refine bx_ HB rfl (N := 5) rfl (cs := #[.int .i64 0, .int .i64 0, .int .i64 0]) (t := 95) hr_ ?_; clear HB; intro gb169 w30 hg hb BK169 GW169 HB; have NB164_169 := ng_ BK164 hg; have NB169_164 := ns_ (ng_ BK164 hg); replace BK164 := bb_ BK164 hb; clear hb hg; have hnb31 := NB169_164.out; have hnc31 := NB164_169.out; obtain ⟨hcz32_0, hcz32_1, hcz32_2, hfz32_0, hfz32_1, hfz32_2⟩ := cz3_ BK169; obtain ⟨hcz33_0, hcz33_1, hfz33_0, hfz33_1⟩ := cz2_ BK164) | (go_at_call 114; (with_reducible refine (spec_WordOk.calls ((rd_T95 l0_0 x4_3).f0) ((rd_T95 l0_0 x4_3).f1) ((rd_T95 l0_0 x4_3).f2) (l0_1.length : Int) true _ A20.out).mono ?_); rintro e w34 ⟨rfl, hb⟩; replace BK164 := bb_ BK164 hb; replace BK169 := bq_ (o' := .cells #[.int .i64 ((rd_T95 l0_0 x4_3).f0), .int .i64 ((rd_T95 l0_0 x4_3).f1), .int .i64 ((rd_T95 l0_0 x4_3).f2)] 95 (0, 0)) BK169 hb; replace HB := hs_ HB hb; (try clear hb); (try clear hb2); (try clear hk); (try clear hi); obtain ⟨hcz35_0, hcz35_1, hcz35_2, hfz35_0, hfz35_1, hfz35_2⟩ := cz3_ BK169; obtain ⟨hcz36_0, hcz36_1, hfz36_0, hfz36_1⟩ := cz2_ BK164; have p171 : 0 ≤ ((ji23) : Int) := od_; have q171 : (ji23) < (l0_1.length : Int) := od_; obtain ⟨ad171, A171_2, c171_2, A171_4, c171_4, e171, hx171_0, hx171_1, hx171_2, hx171_3, hx171_4, hl171_2, hi171_2, hl171_4, hi171_4⟩ := at_T119 HR0_1.out (ji23) p171 q171; cases e171; replace hx171_0 := hx_ HB hx171_0; replace hx171_1 := hx_ HB hx171_1; replace hx171_2 := hx_ HB hx171_2; replace hx171_3 := hx_ HB hx171_3; replace hx171_4 := hx_ HB hx171_4; have HR171_2 := A_ hi171_2; have HC171_2 := A_ hl171_2; clear hi171_2 hl171_2; have HR171_4 := A_ hi171_4; have HC171_4 := A_ hl171_4; clear hi171_4 hl171_4; replace p171 := eq_true p171; replace q171 := eq_true q171) | (go_at_call 115; (with_reducible refine (spec_Entries.calls k3 ((rd_T119 l0_1 (ji23)).f0) ((rd_T119 l0_1 (ji23)).f1) _ _ ((rd_T119 l0_1 (ji23)).f2) ((rd_T119 l0_1 (ji23)).f3.f0) _ _ ((rd_T119 l0_1 (ji23)).f3.f1) x4_3 t172 t173 t174 true _ ?side1 ?side2 ?side3 ?side4 A26.out).mono ?_); (case side1 => exact cb_ (Kd.C_below HR171_2.out HB.out)); (case side2 => exact HC171_2.out); (case side3 => exact cb_ (Kd.C_below HR171_4.out HB.out)); (case side4 => exact HC171_4.out); rintro e w37 ⟨rfl, hb⟩; replace BK164 := bb_ BK164 hb; replace BK169 := bb_ BK169 hb; replace HB := hs_ HB hb; (try clear hb); (try clear hb2); (try clear hk); (try clear hi)) | ((with_reducible refine gate_dst (N := 6) rfl ?_); (try (refine gate_guard (by rfl) ?_; dsimp only)); refine bx_ HB rfl (N := 6) rfl (cs := #[.int .i64 0, .int .i64 0, .int .i64 0]) (t := 122) hr_ ?_; clear HB; intro gb176 w38 hg hb BK176 GW176 HB; have NB164_176 := ng_ BK164 hg; have NB176_164 := ns_ (ng_ BK164 hg); have NB169_176 := ng_ BK169 hg; have NB176_169 := ns_ (ng_ BK169 hg); replace BK164 := bb_ BK164 hb; replace BK169 := bb_ BK169 hb; clear hb hg; have hnb39 := NB176_164.out; have hnc39 := NB164_176.out; have hnb40 := NB176_169.out; have hnc40 := NB169_176.out; obtain ⟨hcz41_0, hcz41_1, hcz41_2, hfz41_0, hfz41_1, hfz41_2⟩ := cz3_ BK176; obtain ⟨hcz42_0, hcz42_1, hfz42_0, hfz42_1⟩ := cz2_ BK164; obtain ⟨hcz43_0, hcz43_1, hcz43_2, hfz43_0, hfz43_1, hfz43_2⟩ := cz3_ BK169; have p177 : 0 ≤ ((ji23) : Int) := od_; have q177 : (ji23) < (l0_1.length : Int) := od_; obtain ⟨ad177, A177_2, c177_2, A177_4, c177_4, e177, hx177_0, hx177_1, hx177_2, hx177_3, hx177_4, hl177_2, hi177_2, hl177_4, hi177_4⟩ := at_T119 HR0_1.out (ji23) p177 q177; obtain rfl : ad171 = ad177 := (by injection e177); have hn177_0 : ad171.block ≠ gb176 := Nat.ne_of_lt (Nat.lt_of_lt_of_le (by have := World.block_lt_of_cell? _ _ hx177_0; first | rwa [add_block] at this | exact this) GW176.out); have hn177_1 : ad171.block ≠ gb176 := Nat.ne_of_lt (Nat.lt_of_lt_of_le (by have := World.block_lt_of_cell? _ _ hx177_0; first | rwa [add_block] at this | exact this) GW176.out); have hn177_2 : ad171.block ≠ gb176 := Nat.ne_of_lt (Nat.lt_of_lt_of_le (by have := World.block_lt_of_cell? _ _ hx177_0; first | rwa [add_block] at this | exact this) GW176.out); replace hx177_0 := hx_ HB hx177_0; replace hx177_1 := hx_ HB hx177_1; replace hx177_2 := hx_ HB hx177_2; replace hx177_3 := hx_ HB hx177_3; replace hx177_4 := hx_ HB hx177_4; have HR177_2 := A_ hi177_2; have HC177_2 := A_ hl177_2; clear hi177_2 hl177_2; have HR177_4 := A_ hi177_4; have HC177_4 := A_ hl177_4; clear hi177_4 hl177_4; replace hx177_0 := cf_ 0 hn177_0 (.int .i64 t172) hx177_0; replace hx177_1 := cf_ 0 hn177_0 (.int .i64 t172) hx177_1; replace hx177_2 := cf_ 0 hn177_0 (.int .i64 t172) hx177_2; replace hx177_3 := cf_ 0 hn177_0 (.int .i64 t172) hx177_3; replace hx177_4 := cf_ 0 hn177_0 (.int .i64 t172) hx177_4; replace hx177_0 := cf_ 1 hn177_1 (.int .i64 t173) hx177_0; replace hx177_1 := cf_ 1 hn177_1 (.int .i64 t173) hx177_1; replace hx177_2 := cf_ 1 hn177_1 (.int .i64 t173) hx177_2; replace hx177_3 := cf_ 1 hn177_1 (.int .i64 t173) hx177_3; replace hx177_4 := cf_ 1 hn177_1 (.int .i64 t173) hx177_4; replace hx177_0 := cf_ 2 hn177_2 (.int .i64 t174) hx177_0; replace hx177_1 := cf_ 2 hn177_2 (.int .i64 t174) hx177_1; replace hx177_2 := cf_ 2 hn177_2 (.int .i64 t174) hx177_2; replace hx177_3 := cf_ 2 hn177_2 (.int .i64 t174) hx177_3; replace hx177_4 := cf_ 2 hn177_2 (.int .i64 t174) hx177_4; (try have hy177_0 := fun (n_ : Nat) => (show (((((w38.drewN n_).setCell ⟨gb176, 0, none⟩ (.int .i64 t172)).setCell ⟨gb176, 1, none⟩ (.int .i64 t173)).setCell ⟨gb176, 2, none⟩ (.int .i64 t174))).cell? _ = some _ from hx177_0)); (try have hy177_1 := fun (n_ : Nat) => (show (((((w38.drewN n_).setCell ⟨gb176, 0, none⟩ (.int .i64 t172)).setCell ⟨gb176, 1, none⟩ (.int .i64 t173)).setCell ⟨gb176, 2, none⟩ (.int .i64 t174))).cell? _ = some _ from hx177_1)); (try have hy177_2 := fun (n_ : Nat) => (show (((((w38.drewN n_).setCell ⟨gb176, 0, none⟩ (.int .i64 t172)).setCell ⟨gb176, 1, none⟩ (.int .i64 t173)).setCell ⟨gb176, 2, none⟩ (.int .i64 t174))).cell? _ = some _ from hx177_2)); (try have hy177_3 := fun (n_ : Nat) => (show (((((w38.drewN n_).setCell ⟨gb176, 0, none⟩ (.int .i64 t172)).setCell ⟨gb176, 1, none⟩ (.int .i64 t173)).setCell ⟨gb176, 2, none⟩ (.int .i64 t174))).cell? _ = some _ from hx177_3)); (try have hy177_4 := fun (n_ : Nat) => (show (((((w38.drewN n_).setCell ⟨gb176, 0, none⟩ (.int .i64 t172)).setCell ⟨gb176, 1, none⟩ (.int .i64 t173)).setCell ⟨gb176, 2, none⟩ (.int .i64 t174))).cell? _ = some _ from hx177_4)); clear hn177_0; clear hn177_1; clear hn177_2; replace p177 := eq_true p177; replace q177 := eq_true q177))
            repeat (go_quiet (first | ((with_reducible refine gate_dst (N := 5) rfl ?_); (try (refine gate_guard (by rfl) ?_; dsimp only)); refine bx_ HB rfl (N := 5) rfl (cs := #[.int .i64 0, .int .i64 0, .int .i64 0]) (t := 95) hr_ ?_; clear HB; intro gb169 w30 hg hb BK169 GW169 HB; have NB164_169 := ng_ BK164 hg; have NB169_164 := ns_ (ng_ BK164 hg); replace BK164 := bb_ BK164 hb; clear hb hg; have hnb31 := NB169_164.out; have hnc31 := NB164_169.out; obtain ⟨hcz32_0, hcz32_1, hcz32_2, hfz32_0, hfz32_1, hfz32_2⟩ := cz3_ BK169; obtain ⟨hcz33_0, hcz33_1, hfz33_0, hfz33_1⟩ := cz2_ BK164) | (go_at_call 114; (with_reducible refine (spec_WordOk.calls ((rd_T95 l0_0 x4_3).f0) ((rd_T95 l0_0 x4_3).f1) ((rd_T95 l0_0 x4_3).f2) (l0_1.length : Int) true _ A20.out).mono ?_); rintro e w34 ⟨rfl, hb⟩; replace BK164 := bb_ BK164 hb; replace BK169 := bq_ (o' := .cells #[.int .i64 ((rd_T95 l0_0 x4_3).f0), .int .i64 ((rd_T95 l0_0 x4_3).f1), .int .i64 ((rd_T95 l0_0 x4_3).f2)] 95 (0, 0)) BK169 hb; replace HB := hs_ HB hb; (try clear hb); (try clear hb2); (try clear hk); (try clear hi); obtain ⟨hcz35_0, hcz35_1, hcz35_2, hfz35_0, hfz35_1, hfz35_2⟩ := cz3_ BK169; obtain ⟨hcz36_0, hcz36_1, hfz36_0, hfz36_1⟩ := cz2_ BK164; have p171 : 0 ≤ ((ji23) : Int) := od_; have q171 : (ji23) < (l0_1.length : Int) := od_; obtain ⟨ad171, A171_2, c171_2, A171_4, c171_4, e171, hx171_0, hx171_1, hx171_2, hx171_3, hx171_4, hl171_2, hi171_2, hl171_4, hi171_4⟩ := at_T119 HR0_1.out (ji23) p171 q171; cases e171; replace hx171_0 := hx_ HB hx171_0; replace hx171_1 := hx_ HB hx171_1; replace hx171_2 := hx_ HB hx171_2; replace hx171_3 := hx_ HB hx171_3; replace hx171_4 := hx_ HB hx171_4; have HR171_2 := A_ hi171_2; have HC171_2 := A_ hl171_2; clear hi171_2 hl171_2; have HR171_4 := A_ hi171_4; have HC171_4 := A_ hl171_4; clear hi171_4 hl171_4; replace p171 := eq_true p171; replace q171 := eq_true q171) | (go_at_call 115; (with_reducible refine (spec_Entries.calls k3 ((rd_T119 l0_1 (ji23)).f0) ((rd_T119 l0_1 (ji23)).f1) _ _ ((rd_T119 l0_1 (ji23)).f2) ((rd_T119 l0_1 (ji23)).f3.f0) _ _ ((rd_T119 l0_1 (ji23)).f3.f1) x4_3 t172 t173 t174 true _ ?side1 ?side2 ?side3 ?side4 A26.out).mono ?_); (case side1 => exact cb_ (Kd.C_below HR171_2.out HB.out)); (case side2 => exact HC171_2.out); (case side3 => exact cb_ (Kd.C_below HR171_4.out HB.out)); (case side4 => exact HC171_4.out); rintro e w37 ⟨rfl, hb⟩; replace BK164 := bb_ BK164 hb; replace BK169 := bb_ BK169 hb; replace HB := hs_ HB hb; (try clear hb); (try clear hb2); (try clear hk); (try clear hi)) | ((with_reducible refine gate_dst (N := 6) rfl ?_); (try (refine gate_guard (by rfl) ?_; dsimp only)); refine bx_ HB rfl (N := 6) rfl (cs := #[.int .i64 0, .int .i64 0, .int .i64 0]) (t := 122) hr_ ?_; clear HB; intro gb176 w38 hg hb BK176 GW176 HB; have NB164_176 := ng_ BK164 hg; have NB176_164 := ns_ (ng_ BK164 hg); have NB169_176 := ng_ BK169 hg; have NB176_169 := ns_ (ng_ BK169 hg); replace BK164 := bb_ BK164 hb; replace BK169 := bb_ BK169 hb; clear hb hg; have hnb39 := NB176_164.out; have hnc39 := NB164_176.out; have hnb40 := NB176_169.out; have hnc40 := NB169_176.out; obtain ⟨hcz41_0, hcz41_1, hcz41_2, hfz41_0, hfz41_1, hfz41_2⟩ := cz3_ BK176; obtain ⟨hcz42_0, hcz42_1, hfz42_0, hfz42_1⟩ := cz2_ BK164; obtain ⟨hcz43_0, hcz43_1, hcz43_2, hfz43_0, hfz43_1, hfz43_2⟩ := cz3_ BK169; have p177 : 0 ≤ ((ji23) : Int) := od_; have q177 : (ji23) < (l0_1.length : Int) := od_; obtain ⟨ad177, A177_2, c177_2, A177_4, c177_4, e177, hx177_0, hx177_1, hx177_2, hx177_3, hx177_4, hl177_2, hi177_2, hl177_4, hi177_4⟩ := at_T119 HR0_1.out (ji23) p177 q177; obtain rfl : ad171 = ad177 := (by injection e177); have hn177_0 : ad171.block ≠ gb176 := Nat.ne_of_lt (Nat.lt_of_lt_of_le (by have := World.block_lt_of_cell? _ _ hx177_0; first | rwa [add_block] at this | exact this) GW176.out); have hn177_1 : ad171.block ≠ gb176 := Nat.ne_of_lt (Nat.lt_of_lt_of_le (by have := World.block_lt_of_cell? _ _ hx177_0; first | rwa [add_block] at this | exact this) GW176.out); have hn177_2 : ad171.block ≠ gb176 := Nat.ne_of_lt (Nat.lt_of_lt_of_le (by have := World.block_lt_of_cell? _ _ hx177_0; first | rwa [add_block] at this | exact this) GW176.out); replace hx177_0 := hx_ HB hx177_0; replace hx177_1 := hx_ HB hx177_1; replace hx177_2 := hx_ HB hx177_2; replace hx177_3 := hx_ HB hx177_3; replace hx177_4 := hx_ HB hx177_4; have HR177_2 := A_ hi177_2; have HC177_2 := A_ hl177_2; clear hi177_2 hl177_2; have HR177_4 := A_ hi177_4; have HC177_4 := A_ hl177_4; clear hi177_4 hl177_4; replace hx177_0 := cf_ 0 hn177_0 (.int .i64 t172) hx177_0; replace hx177_1 := cf_ 0 hn177_0 (.int .i64 t172) hx177_1; replace hx177_2 := cf_ 0 hn177_0 (.int .i64 t172) hx177_2; replace hx177_3 := cf_ 0 hn177_0 (.int .i64 t172) hx177_3; replace hx177_4 := cf_ 0 hn177_0 (.int .i64 t172) hx177_4; replace hx177_0 := cf_ 1 hn177_1 (.int .i64 t173) hx177_0; replace hx177_1 := cf_ 1 hn177_1 (.int .i64 t173) hx177_1; replace hx177_2 := cf_ 1 hn177_1 (.int .i64 t173) hx177_2; replace hx177_3 := cf_ 1 hn177_1 (.int .i64 t173) hx177_3; replace hx177_4 := cf_ 1 hn177_1 (.int .i64 t173) hx177_4; replace hx177_0 := cf_ 2 hn177_2 (.int .i64 t174) hx177_0; replace hx177_1 := cf_ 2 hn177_2 (.int .i64 t174) hx177_1; replace hx177_2 := cf_ 2 hn177_2 (.int .i64 t174) hx177_2; replace hx177_3 := cf_ 2 hn177_2 (.int .i64 t174) hx177_3; replace hx177_4 := cf_ 2 hn177_2 (.int .i64 t174) hx177_4; (try have hy177_0 := fun (n_ : Nat) => (show (((((w38.drewN n_).setCell ⟨gb176, 0, none⟩ (.int .i64 t172)).setCell ⟨gb176, 1, none⟩ (.int .i64 t173)).setCell ⟨gb176, 2, none⟩ (.int .i64 t174))).cell? _ = some _ from hx177_0)); (try have hy177_1 := fun (n_ : Nat) => (show (((((w38.drewN n_).setCell ⟨gb176, 0, none⟩ (.int .i64 t172)).setCell ⟨gb176, 1, none⟩ (.int .i64 t173)).setCell ⟨gb176, 2, none⟩ (.int .i64 t174))).cell? _ = some _ from hx177_1)); (try have hy177_2 := fun (n_ : Nat) => (show (((((w38.drewN n_).setCell ⟨gb176, 0, none⟩ (.int .i64 t172)).setCell ⟨gb176, 1, none⟩ (.int .i64 t173)).setCell ⟨gb176, 2, none⟩ (.int .i64 t174))).cell? _ = some _ from hx177_2)); (try have hy177_3 := fun (n_ : Nat) => (show (((((w38.drewN n_).setCell ⟨gb176, 0, none⟩ (.int .i64 t172)).setCell ⟨gb176, 1, none⟩ (.int .i64 t173)).setCell ⟨gb176, 2, none⟩ (.int .i64 t174))).cell? _ = some _ from hx177_3)); (try have hy177_4 := fun (n_ : Nat) => (show (((((w38.drewN n_).setCell ⟨gb176, 0, none⟩ (.int .i64 t172)).setCell ⟨gb176, 1, none⟩ (.int .i64 t173)).setCell ⟨gb176, 2, none⟩ (.int .i64 t174))).cell? _ = some _ from hx177_4)); clear hn177_0; clear hn177_1; clear hn177_2; replace p177 := eq_true p177; replace q177 := eq_true q177)); try go_wp2_with (first | ((with_reducible refine gate_dst (N := 5) rfl ?_); (try (refine gate_guard (by rfl) ?_; dsimp only)); refine bx_ HB rfl (N := 5) rfl (cs := #[.int .i64 0, .int .i64 0, .int .i64 0]) (t := 95) hr_ ?_; clear HB; intro gb169 w30 hg hb BK169 GW169 HB; have NB164_169 := ng_ BK164 hg; have NB169_164 := ns_ (ng_ BK164 hg); replace BK164 := bb_ BK164 hb; clear hb hg; have hnb31 := NB169_164.out; have hnc31 := NB164_169.out; obtain ⟨hcz32_0, hcz32_1, hcz32_2, hfz32_0, hfz32_1, hfz32_2⟩ := cz3_ BK169; obtain ⟨hcz33_0, hcz33_1, hfz33_0, hfz33_1⟩ := cz2_ BK164) | (go_at_call 114; (with_reducible refine (spec_WordOk.calls ((rd_T95 l0_0 x4_3).f0) ((rd_T95 l0_0 x4_3).f1) ((rd_T95 l0_0 x4_3).f2) (l0_1.length : Int) true _ A20.out).mono ?_); rintro e w34 ⟨rfl, hb⟩; replace BK164 := bb_ BK164 hb; replace BK169 := bq_ (o' := .cells #[.int .i64 ((rd_T95 l0_0 x4_3).f0), .int .i64 ((rd_T95 l0_0 x4_3).f1), .int .i64 ((rd_T95 l0_0 x4_3).f2)] 95 (0, 0)) BK169 hb; replace HB := hs_ HB hb; (try clear hb); (try clear hb2); (try clear hk); (try clear hi); obtain ⟨hcz35_0, hcz35_1, hcz35_2, hfz35_0, hfz35_1, hfz35_2⟩ := cz3_ BK169; obtain ⟨hcz36_0, hcz36_1, hfz36_0, hfz36_1⟩ := cz2_ BK164; have p171 : 0 ≤ ((ji23) : Int) := od_; have q171 : (ji23) < (l0_1.length : Int) := od_; obtain ⟨ad171, A171_2, c171_2, A171_4, c171_4, e171, hx171_0, hx171_1, hx171_2, hx171_3, hx171_4, hl171_2, hi171_2, hl171_4, hi171_4⟩ := at_T119 HR0_1.out (ji23) p171 q171; cases e171; replace hx171_0 := hx_ HB hx171_0; replace hx171_1 := hx_ HB hx171_1; replace hx171_2 := hx_ HB hx171_2; replace hx171_3 := hx_ HB hx171_3; replace hx171_4 := hx_ HB hx171_4; have HR171_2 := A_ hi171_2; have HC171_2 := A_ hl171_2; clear hi171_2 hl171_2; have HR171_4 := A_ hi171_4; have HC171_4 := A_ hl171_4; clear hi171_4 hl171_4; replace p171 := eq_true p171; replace q171 := eq_true q171) | (go_at_call 115; (with_reducible refine (spec_Entries.calls k3 ((rd_T119 l0_1 (ji23)).f0) ((rd_T119 l0_1 (ji23)).f1) _ _ ((rd_T119 l0_1 (ji23)).f2) ((rd_T119 l0_1 (ji23)).f3.f0) _ _ ((rd_T119 l0_1 (ji23)).f3.f1) x4_3 t172 t173 t174 true _ ?side1 ?side2 ?side3 ?side4 A26.out).mono ?_); (case side1 => exact cb_ (Kd.C_below HR171_2.out HB.out)); (case side2 => exact HC171_2.out); (case side3 => exact cb_ (Kd.C_below HR171_4.out HB.out)); (case side4 => exact HC171_4.out); rintro e w37 ⟨rfl, hb⟩; replace BK164 := bb_ BK164 hb; replace BK169 := bb_ BK169 hb; replace HB := hs_ HB hb; (try clear hb); (try clear hb2); (try clear hk); (try clear hi)) | ((with_reducible refine gate_dst (N := 6) rfl ?_); (try (refine gate_guard (by rfl) ?_; dsimp only)); refine bx_ HB rfl (N := 6) rfl (cs := #[.int .i64 0, .int .i64 0, .int .i64 0]) (t := 122) hr_ ?_; clear HB; intro gb176 w38 hg hb BK176 GW176 HB; have NB164_176 := ng_ BK164 hg; have NB176_164 := ns_ (ng_ BK164 hg); have NB169_176 := ng_ BK169 hg; have NB176_169 := ns_ (ng_ BK169 hg); replace BK164 := bb_ BK164 hb; replace BK169 := bb_ BK169 hb; clear hb hg; have hnb39 := NB176_164.out; have hnc39 := NB164_176.out; have hnb40 := NB176_169.out; have hnc40 := NB169_176.out; obtain ⟨hcz41_0, hcz41_1, hcz41_2, hfz41_0, hfz41_1, hfz41_2⟩ := cz3_ BK176; obtain ⟨hcz42_0, hcz42_1, hfz42_0, hfz42_1⟩ := cz2_ BK164; obtain ⟨hcz43_0, hcz43_1, hcz43_2, hfz43_0, hfz43_1, hfz43_2⟩ := cz3_ BK169; have p177 : 0 ≤ ((ji23) : Int) := od_; have q177 : (ji23) < (l0_1.length : Int) := od_; obtain ⟨ad177, A177_2, c177_2, A177_4, c177_4, e177, hx177_0, hx177_1, hx177_2, hx177_3, hx177_4, hl177_2, hi177_2, hl177_4, hi177_4⟩ := at_T119 HR0_1.out (ji23) p177 q177; obtain rfl : ad171 = ad177 := (by injection e177); have hn177_0 : ad171.block ≠ gb176 := Nat.ne_of_lt (Nat.lt_of_lt_of_le (by have := World.block_lt_of_cell? _ _ hx177_0; first | rwa [add_block] at this | exact this) GW176.out); have hn177_1 : ad171.block ≠ gb176 := Nat.ne_of_lt (Nat.lt_of_lt_of_le (by have := World.block_lt_of_cell? _ _ hx177_0; first | rwa [add_block] at this | exact this) GW176.out); have hn177_2 : ad171.block ≠ gb176 := Nat.ne_of_lt (Nat.lt_of_lt_of_le (by have := World.block_lt_of_cell? _ _ hx177_0; first | rwa [add_block] at this | exact this) GW176.out); replace hx177_0 := hx_ HB hx177_0; replace hx177_1 := hx_ HB hx177_1; replace hx177_2 := hx_ HB hx177_2; replace hx177_3 := hx_ HB hx177_3; replace hx177_4 := hx_ HB hx177_4; have HR177_2 := A_ hi177_2; have HC177_2 := A_ hl177_2; clear hi177_2 hl177_2; have HR177_4 := A_ hi177_4; have HC177_4 := A_ hl177_4; clear hi177_4 hl177_4; replace hx177_0 := cf_ 0 hn177_0 (.int .i64 t172) hx177_0; replace hx177_1 := cf_ 0 hn177_0 (.int .i64 t172) hx177_1; replace hx177_2 := cf_ 0 hn177_0 (.int .i64 t172) hx177_2; replace hx177_3 := cf_ 0 hn177_0 (.int .i64 t172) hx177_3; replace hx177_4 := cf_ 0 hn177_0 (.int .i64 t172) hx177_4; replace hx177_0 := cf_ 1 hn177_1 (.int .i64 t173) hx177_0; replace hx177_1 := cf_ 1 hn177_1 (.int .i64 t173) hx177_1; replace hx177_2 := cf_ 1 hn177_1 (.int .i64 t173) hx177_2; replace hx177_3 := cf_ 1 hn177_1 (.int .i64 t173) hx177_3; replace hx177_4 := cf_ 1 hn177_1 (.int .i64 t173) hx177_4; replace hx177_0 := cf_ 2 hn177_2 (.int .i64 t174) hx177_0; replace hx177_1 := cf_ 2 hn177_2 (.int .i64 t174) hx177_1; replace hx177_2 := cf_ 2 hn177_2 (.int .i64 t174) hx177_2; replace hx177_3 := cf_ 2 hn177_2 (.int .i64 t174) hx177_3; replace hx177_4 := cf_ 2 hn177_2 (.int .i64 t174) hx177_4; (try have hy177_0 := fun (n_ : Nat) => (show (((((w38.drewN n_).setCell ⟨gb176, 0, none⟩ (.int .i64 t172)).setCell ⟨gb176, 1, none⟩ (.int .i64 t173)).setCell ⟨gb176, 2, none⟩ (.int .i64 t174))).cell? _ = some _ from hx177_0)); (try have hy177_1 := fun (n_ : Nat) => (show (((((w38.drewN n_).setCell ⟨gb176, 0, none⟩ (.int .i64 t172)).setCell ⟨gb176, 1, none⟩ (.int .i64 t173)).setCell ⟨gb176, 2, none⟩ (.int .i64 t174))).cell? _ = some _ from hx177_1)); (try have hy177_2 := fun (n_ : Nat) => (show (((((w38.drewN n_).setCell ⟨gb176, 0, none⟩ (.int .i64 t172)).setCell ⟨gb176, 1, none⟩ (.int .i64 t173)).setCell ⟨gb176, 2, none⟩ (.int .i64 t174))).cell? _ = some _ from hx177_2)); (try have hy177_3 := fun (n_ : Nat) => (show (((((w38.drewN n_).setCell ⟨gb176, 0, none⟩ (.int .i64 t172)).setCell ⟨gb176, 1, none⟩ (.int .i64 t173)).setCell ⟨gb176, 2, none⟩ (.int .i64 t174))).cell? _ = some _ from hx177_3)); (try have hy177_4 := fun (n_ : Nat) => (show (((((w38.drewN n_).setCell ⟨gb176, 0, none⟩ (.int .i64 t172)).setCell ⟨gb176, 1, none⟩ (.int .i64 t173)).setCell ⟨gb176, 2, none⟩ (.int .i64 t174))).cell? _ = some _ from hx177_4)); clear hn177_0; clear hn177_1; clear hn177_2; replace p177 := eq_true p177; replace q177 := eq_true q177)))
            go_roundg k3
            case measure => have := HJ1.out; have := HK2.out; have := HK3.out; omega
            case rel => exact ⟨(wrap64 (x4_3 + 1)), rt_, H', ⟨by have := HJ1.out; have := HK2.out; have := HK3.out; omega⟩, ⟨bk_ BK164⟩, ⟨hb_ HB⟩⟩
           rw [if_neg c28] at H
           have c28b0 : (((rd_T119 l0_1 (ji23)).f0) == ((rd_T95 l0_0 x4_3).f2)) = false := beq_eq_false_iff_ne.mpr c28
           have c28b1 : (((rd_T119 l0_1 (ji23)).f0) != ((rd_T95 l0_0 x4_3).f2)) = true := bne_iff_ne.mpr c28
           obtain rfl := Option.some.inj H
           obtain ⟨hcz44_0, hcz44_1, hfz44_0, hfz44_1⟩ := cz2_ BK164
           obtain ⟨ad168, p168, q168, rfl, hx168_0, hx168_1, hx168_2⟩ := ab_T95 HB HR0_0 x4_3
           go_wp2_with (first | ((with_reducible refine gate_dst (N := 5) rfl ?_); (try (refine gate_guard (by rfl) ?_; dsimp only)); refine bx_ HB rfl (N := 5) rfl (cs := #[.int .i64 0, .int .i64 0, .int .i64 0]) (t := 95) hr_ ?_; clear HB; intro gb169 w45 hg hb BK169 GW169 HB; have NB164_169 := ng_ BK164 hg; have NB169_164 := ns_ (ng_ BK164 hg); replace BK164 := bb_ BK164 hb; clear hb hg; have hnb46 := NB169_164.out; have hnc46 := NB164_169.out; obtain ⟨hcz47_0, hcz47_1, hcz47_2, hfz47_0, hfz47_1, hfz47_2⟩ := cz3_ BK169; obtain ⟨hcz48_0, hcz48_1, hfz48_0, hfz48_1⟩ := cz2_ BK164) | (go_at_call 114; (with_reducible refine (spec_WordOk.calls ((rd_T95 l0_0 x4_3).f0) ((rd_T95 l0_0 x4_3).f1) ((rd_T95 l0_0 x4_3).f2) (l0_1.length : Int) true _ A20.out).mono ?_); rintro e w49 ⟨rfl, hb⟩; replace BK164 := bb_ BK164 hb; replace BK169 := bq_ (o' := .cells #[.int .i64 ((rd_T95 l0_0 x4_3).f0), .int .i64 ((rd_T95 l0_0 x4_3).f1), .int .i64 ((rd_T95 l0_0 x4_3).f2)] 95 (0, 0)) BK169 hb; replace HB := hs_ HB hb; (try clear hb); (try clear hb2); (try clear hk); (try clear hi); obtain ⟨hcz50_0, hcz50_1, hcz50_2, hfz50_0, hfz50_1, hfz50_2⟩ := cz3_ BK169; obtain ⟨hcz51_0, hcz51_1, hfz51_0, hfz51_1⟩ := cz2_ BK164; have p171 : 0 ≤ ((ji23) : Int) := od_; have q171 : (ji23) < (l0_1.length : Int) := od_; obtain ⟨ad171, A171_2, c171_2, A171_4, c171_4, e171, hx171_0, hx171_1, hx171_2, hx171_3, hx171_4, hl171_2, hi171_2, hl171_4, hi171_4⟩ := at_T119 HR0_1.out (ji23) p171 q171; cases e171; replace hx171_0 := hx_ HB hx171_0; replace hx171_1 := hx_ HB hx171_1; replace hx171_2 := hx_ HB hx171_2; replace hx171_3 := hx_ HB hx171_3; replace hx171_4 := hx_ HB hx171_4; have HR171_2 := A_ hi171_2; have HC171_2 := A_ hl171_2; clear hi171_2 hl171_2; have HR171_4 := A_ hi171_4; have HC171_4 := A_ hl171_4; clear hi171_4 hl171_4; replace p171 := eq_true p171; replace q171 := eq_true q171) | (go_at_call 115; (with_reducible refine (spec_Entries.calls k3 ((rd_T119 l0_1 (ji23)).f0) ((rd_T119 l0_1 (ji23)).f1) _ _ ((rd_T119 l0_1 (ji23)).f2) ((rd_T119 l0_1 (ji23)).f3.f0) _ _ ((rd_T119 l0_1 (ji23)).f3.f1) x4_3 t172 t173 t174 true _ ?side1 ?side2 ?side3 ?side4 A26.out).mono ?_); (case side1 => exact cb_ (Kd.C_below HR171_2.out HB.out)); (case side2 => exact HC171_2.out); (case side3 => exact cb_ (Kd.C_below HR171_4.out HB.out)); (case side4 => exact HC171_4.out); rintro e w52 ⟨rfl, hb⟩; replace BK164 := bb_ BK164 hb; replace BK169 := bb_ BK169 hb; replace HB := hs_ HB hb; (try clear hb); (try clear hb2); (try clear hk); (try clear hi)) | ((with_reducible refine gate_dst (N := 6) rfl ?_); (try (refine gate_guard (by rfl) ?_; dsimp only)); refine bx_ HB rfl (N := 6) rfl (cs := #[.int .i64 0, .int .i64 0, .int .i64 0]) (t := 122) hr_ ?_; clear HB; intro gb176 w53 hg hb BK176 GW176 HB; have NB164_176 := ng_ BK164 hg; have NB176_164 := ns_ (ng_ BK164 hg); have NB169_176 := ng_ BK169 hg; have NB176_169 := ns_ (ng_ BK169 hg); replace BK164 := bb_ BK164 hb; replace BK169 := bb_ BK169 hb; clear hb hg; have hnb54 := NB176_164.out; have hnc54 := NB164_176.out; have hnb55 := NB176_169.out; have hnc55 := NB169_176.out; obtain ⟨hcz56_0, hcz56_1, hcz56_2, hfz56_0, hfz56_1, hfz56_2⟩ := cz3_ BK176; obtain ⟨hcz57_0, hcz57_1, hfz57_0, hfz57_1⟩ := cz2_ BK164; obtain ⟨hcz58_0, hcz58_1, hcz58_2, hfz58_0, hfz58_1, hfz58_2⟩ := cz3_ BK169; have p177 : 0 ≤ ((ji23) : Int) := od_; have q177 : (ji23) < (l0_1.length : Int) := od_; obtain ⟨ad177, A177_2, c177_2, A177_4, c177_4, e177, hx177_0, hx177_1, hx177_2, hx177_3, hx177_4, hl177_2, hi177_2, hl177_4, hi177_4⟩ := at_T119 HR0_1.out (ji23) p177 q177; obtain rfl : ad171 = ad177 := (by injection e177); have hn177_0 : ad171.block ≠ gb176 := Nat.ne_of_lt (Nat.lt_of_lt_of_le (by have := World.block_lt_of_cell? _ _ hx177_0; first | rwa [add_block] at this | exact this) GW176.out); have hn177_1 : ad171.block ≠ gb176 := Nat.ne_of_lt (Nat.lt_of_lt_of_le (by have := World.block_lt_of_cell? _ _ hx177_0; first | rwa [add_block] at this | exact this) GW176.out); have hn177_2 : ad171.block ≠ gb176 := Nat.ne_of_lt (Nat.lt_of_lt_of_le (by have := World.block_lt_of_cell? _ _ hx177_0; first | rwa [add_block] at this | exact this) GW176.out); replace hx177_0 := hx_ HB hx177_0; replace hx177_1 := hx_ HB hx177_1; replace hx177_2 := hx_ HB hx177_2; replace hx177_3 := hx_ HB hx177_3; replace hx177_4 := hx_ HB hx177_4; have HR177_2 := A_ hi177_2; have HC177_2 := A_ hl177_2; clear hi177_2 hl177_2; have HR177_4 := A_ hi177_4; have HC177_4 := A_ hl177_4; clear hi177_4 hl177_4; replace hx177_0 := cf_ 0 hn177_0 (.int .i64 t172) hx177_0; replace hx177_1 := cf_ 0 hn177_0 (.int .i64 t172) hx177_1; replace hx177_2 := cf_ 0 hn177_0 (.int .i64 t172) hx177_2; replace hx177_3 := cf_ 0 hn177_0 (.int .i64 t172) hx177_3; replace hx177_4 := cf_ 0 hn177_0 (.int .i64 t172) hx177_4; replace hx177_0 := cf_ 1 hn177_1 (.int .i64 t173) hx177_0; replace hx177_1 := cf_ 1 hn177_1 (.int .i64 t173) hx177_1; replace hx177_2 := cf_ 1 hn177_1 (.int .i64 t173) hx177_2; replace hx177_3 := cf_ 1 hn177_1 (.int .i64 t173) hx177_3; replace hx177_4 := cf_ 1 hn177_1 (.int .i64 t173) hx177_4; replace hx177_0 := cf_ 2 hn177_2 (.int .i64 t174) hx177_0; replace hx177_1 := cf_ 2 hn177_2 (.int .i64 t174) hx177_1; replace hx177_2 := cf_ 2 hn177_2 (.int .i64 t174) hx177_2; replace hx177_3 := cf_ 2 hn177_2 (.int .i64 t174) hx177_3; replace hx177_4 := cf_ 2 hn177_2 (.int .i64 t174) hx177_4; (try have hy177_0 := fun (n_ : Nat) => (show (((((w53.drewN n_).setCell ⟨gb176, 0, none⟩ (.int .i64 t172)).setCell ⟨gb176, 1, none⟩ (.int .i64 t173)).setCell ⟨gb176, 2, none⟩ (.int .i64 t174))).cell? _ = some _ from hx177_0)); (try have hy177_1 := fun (n_ : Nat) => (show (((((w53.drewN n_).setCell ⟨gb176, 0, none⟩ (.int .i64 t172)).setCell ⟨gb176, 1, none⟩ (.int .i64 t173)).setCell ⟨gb176, 2, none⟩ (.int .i64 t174))).cell? _ = some _ from hx177_1)); (try have hy177_2 := fun (n_ : Nat) => (show (((((w53.drewN n_).setCell ⟨gb176, 0, none⟩ (.int .i64 t172)).setCell ⟨gb176, 1, none⟩ (.int .i64 t173)).setCell ⟨gb176, 2, none⟩ (.int .i64 t174))).cell? _ = some _ from hx177_2)); (try have hy177_3 := fun (n_ : Nat) => (show (((((w53.drewN n_).setCell ⟨gb176, 0, none⟩ (.int .i64 t172)).setCell ⟨gb176, 1, none⟩ (.int .i64 t173)).setCell ⟨gb176, 2, none⟩ (.int .i64 t174))).cell? _ = some _ from hx177_3)); (try have hy177_4 := fun (n_ : Nat) => (show (((((w53.drewN n_).setCell ⟨gb176, 0, none⟩ (.int .i64 t172)).setCell ⟨gb176, 1, none⟩ (.int .i64 t173)).setCell ⟨gb176, 2, none⟩ (.int .i64 t174))).cell? _ = some _ from hx177_4)); clear hn177_0; clear hn177_1; clear hn177_2; replace p177 := eq_true p177; replace q177 := eq_true q177))
           repeat (go_quiet (first | ((with_reducible refine gate_dst (N := 5) rfl ?_); (try (refine gate_guard (by rfl) ?_; dsimp only)); refine bx_ HB rfl (N := 5) rfl (cs := #[.int .i64 0, .int .i64 0, .int .i64 0]) (t := 95) hr_ ?_; clear HB; intro gb169 w45 hg hb BK169 GW169 HB; have NB164_169 := ng_ BK164 hg; have NB169_164 := ns_ (ng_ BK164 hg); replace BK164 := bb_ BK164 hb; clear hb hg; have hnb46 := NB169_164.out; have hnc46 := NB164_169.out; obtain ⟨hcz47_0, hcz47_1, hcz47_2, hfz47_0, hfz47_1, hfz47_2⟩ := cz3_ BK169; obtain ⟨hcz48_0, hcz48_1, hfz48_0, hfz48_1⟩ := cz2_ BK164) | (go_at_call 114; (with_reducible refine (spec_WordOk.calls ((rd_T95 l0_0 x4_3).f0) ((rd_T95 l0_0 x4_3).f1) ((rd_T95 l0_0 x4_3).f2) (l0_1.length : Int) true _ A20.out).mono ?_); rintro e w49 ⟨rfl, hb⟩; replace BK164 := bb_ BK164 hb; replace BK169 := bq_ (o' := .cells #[.int .i64 ((rd_T95 l0_0 x4_3).f0), .int .i64 ((rd_T95 l0_0 x4_3).f1), .int .i64 ((rd_T95 l0_0 x4_3).f2)] 95 (0, 0)) BK169 hb; replace HB := hs_ HB hb; (try clear hb); (try clear hb2); (try clear hk); (try clear hi); obtain ⟨hcz50_0, hcz50_1, hcz50_2, hfz50_0, hfz50_1, hfz50_2⟩ := cz3_ BK169; obtain ⟨hcz51_0, hcz51_1, hfz51_0, hfz51_1⟩ := cz2_ BK164; have p171 : 0 ≤ ((ji23) : Int) := od_; have q171 : (ji23) < (l0_1.length : Int) := od_; obtain ⟨ad171, A171_2, c171_2, A171_4, c171_4, e171, hx171_0, hx171_1, hx171_2, hx171_3, hx171_4, hl171_2, hi171_2, hl171_4, hi171_4⟩ := at_T119 HR0_1.out (ji23) p171 q171; cases e171; replace hx171_0 := hx_ HB hx171_0; replace hx171_1 := hx_ HB hx171_1; replace hx171_2 := hx_ HB hx171_2; replace hx171_3 := hx_ HB hx171_3; replace hx171_4 := hx_ HB hx171_4; have HR171_2 := A_ hi171_2; have HC171_2 := A_ hl171_2; clear hi171_2 hl171_2; have HR171_4 := A_ hi171_4; have HC171_4 := A_ hl171_4; clear hi171_4 hl171_4; replace p171 := eq_true p171; replace q171 := eq_true q171) | (go_at_call 115; (with_reducible refine (spec_Entries.calls k3 ((rd_T119 l0_1 (ji23)).f0) ((rd_T119 l0_1 (ji23)).f1) _ _ ((rd_T119 l0_1 (ji23)).f2) ((rd_T119 l0_1 (ji23)).f3.f0) _ _ ((rd_T119 l0_1 (ji23)).f3.f1) x4_3 t172 t173 t174 true _ ?side1 ?side2 ?side3 ?side4 A26.out).mono ?_); (case side1 => exact cb_ (Kd.C_below HR171_2.out HB.out)); (case side2 => exact HC171_2.out); (case side3 => exact cb_ (Kd.C_below HR171_4.out HB.out)); (case side4 => exact HC171_4.out); rintro e w52 ⟨rfl, hb⟩; replace BK164 := bb_ BK164 hb; replace BK169 := bb_ BK169 hb; replace HB := hs_ HB hb; (try clear hb); (try clear hb2); (try clear hk); (try clear hi)) | ((with_reducible refine gate_dst (N := 6) rfl ?_); (try (refine gate_guard (by rfl) ?_; dsimp only)); refine bx_ HB rfl (N := 6) rfl (cs := #[.int .i64 0, .int .i64 0, .int .i64 0]) (t := 122) hr_ ?_; clear HB; intro gb176 w53 hg hb BK176 GW176 HB; have NB164_176 := ng_ BK164 hg; have NB176_164 := ns_ (ng_ BK164 hg); have NB169_176 := ng_ BK169 hg; have NB176_169 := ns_ (ng_ BK169 hg); replace BK164 := bb_ BK164 hb; replace BK169 := bb_ BK169 hb; clear hb hg; have hnb54 := NB176_164.out; have hnc54 := NB164_176.out; have hnb55 := NB176_169.out; have hnc55 := NB169_176.out; obtain ⟨hcz56_0, hcz56_1, hcz56_2, hfz56_0, hfz56_1, hfz56_2⟩ := cz3_ BK176; obtain ⟨hcz57_0, hcz57_1, hfz57_0, hfz57_1⟩ := cz2_ BK164; obtain ⟨hcz58_0, hcz58_1, hcz58_2, hfz58_0, hfz58_1, hfz58_2⟩ := cz3_ BK169; have p177 : 0 ≤ ((ji23) : Int) := od_; have q177 : (ji23) < (l0_1.length : Int) := od_; obtain ⟨ad177, A177_2, c177_2, A177_4, c177_4, e177, hx177_0, hx177_1, hx177_2, hx177_3, hx177_4, hl177_2, hi177_2, hl177_4, hi177_4⟩ := at_T119 HR0_1.out (ji23) p177 q177; obtain rfl : ad171 = ad177 := (by injection e177); have hn177_0 : ad171.block ≠ gb176 := Nat.ne_of_lt (Nat.lt_of_lt_of_le (by have := World.block_lt_of_cell? _ _ hx177_0; first | rwa [add_block] at this | exact this) GW176.out); have hn177_1 : ad171.block ≠ gb176 := Nat.ne_of_lt (Nat.lt_of_lt_of_le (by have := World.block_lt_of_cell? _ _ hx177_0; first | rwa [add_block] at this | exact this) GW176.out); have hn177_2 : ad171.block ≠ gb176 := Nat.ne_of_lt (Nat.lt_of_lt_of_le (by have := World.block_lt_of_cell? _ _ hx177_0; first | rwa [add_block] at this | exact this) GW176.out); replace hx177_0 := hx_ HB hx177_0; replace hx177_1 := hx_ HB hx177_1; replace hx177_2 := hx_ HB hx177_2; replace hx177_3 := hx_ HB hx177_3; replace hx177_4 := hx_ HB hx177_4; have HR177_2 := A_ hi177_2; have HC177_2 := A_ hl177_2; clear hi177_2 hl177_2; have HR177_4 := A_ hi177_4; have HC177_4 := A_ hl177_4; clear hi177_4 hl177_4; replace hx177_0 := cf_ 0 hn177_0 (.int .i64 t172) hx177_0; replace hx177_1 := cf_ 0 hn177_0 (.int .i64 t172) hx177_1; replace hx177_2 := cf_ 0 hn177_0 (.int .i64 t172) hx177_2; replace hx177_3 := cf_ 0 hn177_0 (.int .i64 t172) hx177_3; replace hx177_4 := cf_ 0 hn177_0 (.int .i64 t172) hx177_4; replace hx177_0 := cf_ 1 hn177_1 (.int .i64 t173) hx177_0; replace hx177_1 := cf_ 1 hn177_1 (.int .i64 t173) hx177_1; replace hx177_2 := cf_ 1 hn177_1 (.int .i64 t173) hx177_2; replace hx177_3 := cf_ 1 hn177_1 (.int .i64 t173) hx177_3; replace hx177_4 := cf_ 1 hn177_1 (.int .i64 t173) hx177_4; replace hx177_0 := cf_ 2 hn177_2 (.int .i64 t174) hx177_0; replace hx177_1 := cf_ 2 hn177_2 (.int .i64 t174) hx177_1; replace hx177_2 := cf_ 2 hn177_2 (.int .i64 t174) hx177_2; replace hx177_3 := cf_ 2 hn177_2 (.int .i64 t174) hx177_3; replace hx177_4 := cf_ 2 hn177_2 (.int .i64 t174) hx177_4; (try have hy177_0 := fun (n_ : Nat) => (show (((((w53.drewN n_).setCell ⟨gb176, 0, none⟩ (.int .i64 t172)).setCell ⟨gb176, 1, none⟩ (.int .i64 t173)).setCell ⟨gb176, 2, none⟩ (.int .i64 t174))).cell? _ = some _ from hx177_0)); (try have hy177_1 := fun (n_ : Nat) => (show (((((w53.drewN n_).setCell ⟨gb176, 0, none⟩ (.int .i64 t172)).setCell ⟨gb176, 1, none⟩ (.int .i64 t173)).setCell ⟨gb176, 2, none⟩ (.int .i64 t174))).cell? _ = some _ from hx177_1)); (try have hy177_2 := fun (n_ : Nat) => (show (((((w53.drewN n_).setCell ⟨gb176, 0, none⟩ (.int .i64 t172)).setCell ⟨gb176, 1, none⟩ (.int .i64 t173)).setCell ⟨gb176, 2, none⟩ (.int .i64 t174))).cell? _ = some _ from hx177_2)); (try have hy177_3 := fun (n_ : Nat) => (show (((((w53.drewN n_).setCell ⟨gb176, 0, none⟩ (.int .i64 t172)).setCell ⟨gb176, 1, none⟩ (.int .i64 t173)).setCell ⟨gb176, 2, none⟩ (.int .i64 t174))).cell? _ = some _ from hx177_3)); (try have hy177_4 := fun (n_ : Nat) => (show (((((w53.drewN n_).setCell ⟨gb176, 0, none⟩ (.int .i64 t172)).setCell ⟨gb176, 1, none⟩ (.int .i64 t173)).setCell ⟨gb176, 2, none⟩ (.int .i64 t174))).cell? _ = some _ from hx177_4)); clear hn177_0; clear hn177_1; clear hn177_2; replace p177 := eq_true p177; replace q177 := eq_true q177)); try go_wp2_with (first | ((with_reducible refine gate_dst (N := 5) rfl ?_); (try (refine gate_guard (by rfl) ?_; dsimp only)); refine bx_ HB rfl (N := 5) rfl (cs := #[.int .i64 0, .int .i64 0, .int .i64 0]) (t := 95) hr_ ?_; clear HB; intro gb169 w45 hg hb BK169 GW169 HB; have NB164_169 := ng_ BK164 hg; have NB169_164 := ns_ (ng_ BK164 hg); replace BK164 := bb_ BK164 hb; clear hb hg; have hnb46 := NB169_164.out; have hnc46 := NB164_169.out; obtain ⟨hcz47_0, hcz47_1, hcz47_2, hfz47_0, hfz47_1, hfz47_2⟩ := cz3_ BK169; obtain ⟨hcz48_0, hcz48_1, hfz48_0, hfz48_1⟩ := cz2_ BK164) | (go_at_call 114; (with_reducible refine (spec_WordOk.calls ((rd_T95 l0_0 x4_3).f0) ((rd_T95 l0_0 x4_3).f1) ((rd_T95 l0_0 x4_3).f2) (l0_1.length : Int) true _ A20.out).mono ?_); rintro e w49 ⟨rfl, hb⟩; replace BK164 := bb_ BK164 hb; replace BK169 := bq_ (o' := .cells #[.int .i64 ((rd_T95 l0_0 x4_3).f0), .int .i64 ((rd_T95 l0_0 x4_3).f1), .int .i64 ((rd_T95 l0_0 x4_3).f2)] 95 (0, 0)) BK169 hb; replace HB := hs_ HB hb; (try clear hb); (try clear hb2); (try clear hk); (try clear hi); obtain ⟨hcz50_0, hcz50_1, hcz50_2, hfz50_0, hfz50_1, hfz50_2⟩ := cz3_ BK169; obtain ⟨hcz51_0, hcz51_1, hfz51_0, hfz51_1⟩ := cz2_ BK164; have p171 : 0 ≤ ((ji23) : Int) := od_; have q171 : (ji23) < (l0_1.length : Int) := od_; obtain ⟨ad171, A171_2, c171_2, A171_4, c171_4, e171, hx171_0, hx171_1, hx171_2, hx171_3, hx171_4, hl171_2, hi171_2, hl171_4, hi171_4⟩ := at_T119 HR0_1.out (ji23) p171 q171; cases e171; replace hx171_0 := hx_ HB hx171_0; replace hx171_1 := hx_ HB hx171_1; replace hx171_2 := hx_ HB hx171_2; replace hx171_3 := hx_ HB hx171_3; replace hx171_4 := hx_ HB hx171_4; have HR171_2 := A_ hi171_2; have HC171_2 := A_ hl171_2; clear hi171_2 hl171_2; have HR171_4 := A_ hi171_4; have HC171_4 := A_ hl171_4; clear hi171_4 hl171_4; replace p171 := eq_true p171; replace q171 := eq_true q171) | (go_at_call 115; (with_reducible refine (spec_Entries.calls k3 ((rd_T119 l0_1 (ji23)).f0) ((rd_T119 l0_1 (ji23)).f1) _ _ ((rd_T119 l0_1 (ji23)).f2) ((rd_T119 l0_1 (ji23)).f3.f0) _ _ ((rd_T119 l0_1 (ji23)).f3.f1) x4_3 t172 t173 t174 true _ ?side1 ?side2 ?side3 ?side4 A26.out).mono ?_); (case side1 => exact cb_ (Kd.C_below HR171_2.out HB.out)); (case side2 => exact HC171_2.out); (case side3 => exact cb_ (Kd.C_below HR171_4.out HB.out)); (case side4 => exact HC171_4.out); rintro e w52 ⟨rfl, hb⟩; replace BK164 := bb_ BK164 hb; replace BK169 := bb_ BK169 hb; replace HB := hs_ HB hb; (try clear hb); (try clear hb2); (try clear hk); (try clear hi)) | ((with_reducible refine gate_dst (N := 6) rfl ?_); (try (refine gate_guard (by rfl) ?_; dsimp only)); refine bx_ HB rfl (N := 6) rfl (cs := #[.int .i64 0, .int .i64 0, .int .i64 0]) (t := 122) hr_ ?_; clear HB; intro gb176 w53 hg hb BK176 GW176 HB; have NB164_176 := ng_ BK164 hg; have NB176_164 := ns_ (ng_ BK164 hg); have NB169_176 := ng_ BK169 hg; have NB176_169 := ns_ (ng_ BK169 hg); replace BK164 := bb_ BK164 hb; replace BK169 := bb_ BK169 hb; clear hb hg; have hnb54 := NB176_164.out; have hnc54 := NB164_176.out; have hnb55 := NB176_169.out; have hnc55 := NB169_176.out; obtain ⟨hcz56_0, hcz56_1, hcz56_2, hfz56_0, hfz56_1, hfz56_2⟩ := cz3_ BK176; obtain ⟨hcz57_0, hcz57_1, hfz57_0, hfz57_1⟩ := cz2_ BK164; obtain ⟨hcz58_0, hcz58_1, hcz58_2, hfz58_0, hfz58_1, hfz58_2⟩ := cz3_ BK169; have p177 : 0 ≤ ((ji23) : Int) := od_; have q177 : (ji23) < (l0_1.length : Int) := od_; obtain ⟨ad177, A177_2, c177_2, A177_4, c177_4, e177, hx177_0, hx177_1, hx177_2, hx177_3, hx177_4, hl177_2, hi177_2, hl177_4, hi177_4⟩ := at_T119 HR0_1.out (ji23) p177 q177; obtain rfl : ad171 = ad177 := (by injection e177); have hn177_0 : ad171.block ≠ gb176 := Nat.ne_of_lt (Nat.lt_of_lt_of_le (by have := World.block_lt_of_cell? _ _ hx177_0; first | rwa [add_block] at this | exact this) GW176.out); have hn177_1 : ad171.block ≠ gb176 := Nat.ne_of_lt (Nat.lt_of_lt_of_le (by have := World.block_lt_of_cell? _ _ hx177_0; first | rwa [add_block] at this | exact this) GW176.out); have hn177_2 : ad171.block ≠ gb176 := Nat.ne_of_lt (Nat.lt_of_lt_of_le (by have := World.block_lt_of_cell? _ _ hx177_0; first | rwa [add_block] at this | exact this) GW176.out); replace hx177_0 := hx_ HB hx177_0; replace hx177_1 := hx_ HB hx177_1; replace hx177_2 := hx_ HB hx177_2; replace hx177_3 := hx_ HB hx177_3; replace hx177_4 := hx_ HB hx177_4; have HR177_2 := A_ hi177_2; have HC177_2 := A_ hl177_2; clear hi177_2 hl177_2; have HR177_4 := A_ hi177_4; have HC177_4 := A_ hl177_4; clear hi177_4 hl177_4; replace hx177_0 := cf_ 0 hn177_0 (.int .i64 t172) hx177_0; replace hx177_1 := cf_ 0 hn177_0 (.int .i64 t172) hx177_1; replace hx177_2 := cf_ 0 hn177_0 (.int .i64 t172) hx177_2; replace hx177_3 := cf_ 0 hn177_0 (.int .i64 t172) hx177_3; replace hx177_4 := cf_ 0 hn177_0 (.int .i64 t172) hx177_4; replace hx177_0 := cf_ 1 hn177_1 (.int .i64 t173) hx177_0; replace hx177_1 := cf_ 1 hn177_1 (.int .i64 t173) hx177_1; replace hx177_2 := cf_ 1 hn177_1 (.int .i64 t173) hx177_2; replace hx177_3 := cf_ 1 hn177_1 (.int .i64 t173) hx177_3; replace hx177_4 := cf_ 1 hn177_1 (.int .i64 t173) hx177_4; replace hx177_0 := cf_ 2 hn177_2 (.int .i64 t174) hx177_0; replace hx177_1 := cf_ 2 hn177_2 (.int .i64 t174) hx177_1; replace hx177_2 := cf_ 2 hn177_2 (.int .i64 t174) hx177_2; replace hx177_3 := cf_ 2 hn177_2 (.int .i64 t174) hx177_3; replace hx177_4 := cf_ 2 hn177_2 (.int .i64 t174) hx177_4; (try have hy177_0 := fun (n_ : Nat) => (show (((((w53.drewN n_).setCell ⟨gb176, 0, none⟩ (.int .i64 t172)).setCell ⟨gb176, 1, none⟩ (.int .i64 t173)).setCell ⟨gb176, 2, none⟩ (.int .i64 t174))).cell? _ = some _ from hx177_0)); (try have hy177_1 := fun (n_ : Nat) => (show (((((w53.drewN n_).setCell ⟨gb176, 0, none⟩ (.int .i64 t172)).setCell ⟨gb176, 1, none⟩ (.int .i64 t173)).setCell ⟨gb176, 2, none⟩ (.int .i64 t174))).cell? _ = some _ from hx177_1)); (try have hy177_2 := fun (n_ : Nat) => (show (((((w53.drewN n_).setCell ⟨gb176, 0, none⟩ (.int .i64 t172)).setCell ⟨gb176, 1, none⟩ (.int .i64 t173)).setCell ⟨gb176, 2, none⟩ (.int .i64 t174))).cell? _ = some _ from hx177_2)); (try have hy177_3 := fun (n_ : Nat) => (show (((((w53.drewN n_).setCell ⟨gb176, 0, none⟩ (.int .i64 t172)).setCell ⟨gb176, 1, none⟩ (.int .i64 t173)).setCell ⟨gb176, 2, none⟩ (.int .i64 t174))).cell? _ = some _ from hx177_3)); (try have hy177_4 := fun (n_ : Nat) => (show (((((w53.drewN n_).setCell ⟨gb176, 0, none⟩ (.int .i64 t172)).setCell ⟨gb176, 1, none⟩ (.int .i64 t173)).setCell ⟨gb176, 2, none⟩ (.int .i64 t174))).cell? _ = some _ from hx177_4)); clear hn177_0; clear hn177_1; clear hn177_2; replace p177 := eq_true p177; replace q177 := eq_true q177)))
           go_ret
           exact ⟨by first | rfl | (simp [errW_none, errW_some] <;> rfl) | (simp only [← hji23]; first | rfl | (simp [errW_none, errW_some] <;> rfl)) | (simp [*, errW_none, errW_some] <;> rfl), hb_ HB⟩
          obtain rfl := Bool.eq_false_iff.mpr c27
          replace H := iF_ H
          obtain rfl := Option.some.inj H
          obtain ⟨hcz59_0, hcz59_1, hfz59_0, hfz59_1⟩ := cz2_ BK164
          obtain ⟨ad168, p168, q168, rfl, hx168_0, hx168_1, hx168_2⟩ := ab_T95 HB HR0_0 x4_3
          go_wp2_with (first | ((with_reducible refine gate_dst (N := 5) rfl ?_); (try (refine gate_guard (by rfl) ?_; dsimp only)); refine bx_ HB rfl (N := 5) rfl (cs := #[.int .i64 0, .int .i64 0, .int .i64 0]) (t := 95) hr_ ?_; clear HB; intro gb169 w60 hg hb BK169 GW169 HB; have NB164_169 := ng_ BK164 hg; have NB169_164 := ns_ (ng_ BK164 hg); replace BK164 := bb_ BK164 hb; clear hb hg; have hnb61 := NB169_164.out; have hnc61 := NB164_169.out; obtain ⟨hcz62_0, hcz62_1, hcz62_2, hfz62_0, hfz62_1, hfz62_2⟩ := cz3_ BK169; obtain ⟨hcz63_0, hcz63_1, hfz63_0, hfz63_1⟩ := cz2_ BK164) | (go_at_call 114; (with_reducible refine (spec_WordOk.calls ((rd_T95 l0_0 x4_3).f0) ((rd_T95 l0_0 x4_3).f1) ((rd_T95 l0_0 x4_3).f2) (l0_1.length : Int) true _ A20.out).mono ?_); rintro e w64 ⟨rfl, hb⟩; replace BK164 := bb_ BK164 hb; replace BK169 := bq_ (o' := .cells #[.int .i64 ((rd_T95 l0_0 x4_3).f0), .int .i64 ((rd_T95 l0_0 x4_3).f1), .int .i64 ((rd_T95 l0_0 x4_3).f2)] 95 (0, 0)) BK169 hb; replace HB := hs_ HB hb; (try clear hb); (try clear hb2); (try clear hk); (try clear hi); obtain ⟨hcz65_0, hcz65_1, hcz65_2, hfz65_0, hfz65_1, hfz65_2⟩ := cz3_ BK169; obtain ⟨hcz66_0, hcz66_1, hfz66_0, hfz66_1⟩ := cz2_ BK164; have p171 : 0 ≤ ((ji23) : Int) := od_; have q171 : (ji23) < (l0_1.length : Int) := od_; obtain ⟨ad171, A171_2, c171_2, A171_4, c171_4, e171, hx171_0, hx171_1, hx171_2, hx171_3, hx171_4, hl171_2, hi171_2, hl171_4, hi171_4⟩ := at_T119 HR0_1.out (ji23) p171 q171; cases e171; replace hx171_0 := hx_ HB hx171_0; replace hx171_1 := hx_ HB hx171_1; replace hx171_2 := hx_ HB hx171_2; replace hx171_3 := hx_ HB hx171_3; replace hx171_4 := hx_ HB hx171_4; have HR171_2 := A_ hi171_2; have HC171_2 := A_ hl171_2; clear hi171_2 hl171_2; have HR171_4 := A_ hi171_4; have HC171_4 := A_ hl171_4; clear hi171_4 hl171_4; replace p171 := eq_true p171; replace q171 := eq_true q171) | (go_at_call 115; (with_reducible refine (spec_Entries.calls k3 ((rd_T119 l0_1 (ji23)).f0) ((rd_T119 l0_1 (ji23)).f1) _ _ ((rd_T119 l0_1 (ji23)).f2) ((rd_T119 l0_1 (ji23)).f3.f0) _ _ ((rd_T119 l0_1 (ji23)).f3.f1) x4_3 t172 t173 t174 false _ ?side1 ?side2 ?side3 ?side4 A26.out).mono ?_); (case side1 => exact cb_ (Kd.C_below HR171_2.out HB.out)); (case side2 => exact HC171_2.out); (case side3 => exact cb_ (Kd.C_below HR171_4.out HB.out)); (case side4 => exact HC171_4.out); rintro e w67 ⟨rfl, hb⟩; replace BK164 := bb_ BK164 hb; replace BK169 := bb_ BK169 hb; replace HB := hs_ HB hb; (try clear hb); (try clear hb2); (try clear hk); (try clear hi)) | ((with_reducible refine gate_dst (N := 6) rfl ?_); (try (refine gate_guard (by rfl) ?_; dsimp only)); refine bx_ HB rfl (N := 6) rfl (cs := #[.int .i64 0, .int .i64 0, .int .i64 0]) (t := 122) hr_ ?_; clear HB; intro gb176 w68 hg hb BK176 GW176 HB; have NB164_176 := ng_ BK164 hg; have NB176_164 := ns_ (ng_ BK164 hg); have NB169_176 := ng_ BK169 hg; have NB176_169 := ns_ (ng_ BK169 hg); replace BK164 := bb_ BK164 hb; replace BK169 := bb_ BK169 hb; clear hb hg; have hnb69 := NB176_164.out; have hnc69 := NB164_176.out; have hnb70 := NB176_169.out; have hnc70 := NB169_176.out; obtain ⟨hcz71_0, hcz71_1, hcz71_2, hfz71_0, hfz71_1, hfz71_2⟩ := cz3_ BK176))
          repeat (go_quiet (first | ((with_reducible refine gate_dst (N := 5) rfl ?_); (try (refine gate_guard (by rfl) ?_; dsimp only)); refine bx_ HB rfl (N := 5) rfl (cs := #[.int .i64 0, .int .i64 0, .int .i64 0]) (t := 95) hr_ ?_; clear HB; intro gb169 w60 hg hb BK169 GW169 HB; have NB164_169 := ng_ BK164 hg; have NB169_164 := ns_ (ng_ BK164 hg); replace BK164 := bb_ BK164 hb; clear hb hg; have hnb61 := NB169_164.out; have hnc61 := NB164_169.out; obtain ⟨hcz62_0, hcz62_1, hcz62_2, hfz62_0, hfz62_1, hfz62_2⟩ := cz3_ BK169; obtain ⟨hcz63_0, hcz63_1, hfz63_0, hfz63_1⟩ := cz2_ BK164) | (go_at_call 114; (with_reducible refine (spec_WordOk.calls ((rd_T95 l0_0 x4_3).f0) ((rd_T95 l0_0 x4_3).f1) ((rd_T95 l0_0 x4_3).f2) (l0_1.length : Int) true _ A20.out).mono ?_); rintro e w64 ⟨rfl, hb⟩; replace BK164 := bb_ BK164 hb; replace BK169 := bq_ (o' := .cells #[.int .i64 ((rd_T95 l0_0 x4_3).f0), .int .i64 ((rd_T95 l0_0 x4_3).f1), .int .i64 ((rd_T95 l0_0 x4_3).f2)] 95 (0, 0)) BK169 hb; replace HB := hs_ HB hb; (try clear hb); (try clear hb2); (try clear hk); (try clear hi); obtain ⟨hcz65_0, hcz65_1, hcz65_2, hfz65_0, hfz65_1, hfz65_2⟩ := cz3_ BK169; obtain ⟨hcz66_0, hcz66_1, hfz66_0, hfz66_1⟩ := cz2_ BK164; have p171 : 0 ≤ ((ji23) : Int) := od_; have q171 : (ji23) < (l0_1.length : Int) := od_; obtain ⟨ad171, A171_2, c171_2, A171_4, c171_4, e171, hx171_0, hx171_1, hx171_2, hx171_3, hx171_4, hl171_2, hi171_2, hl171_4, hi171_4⟩ := at_T119 HR0_1.out (ji23) p171 q171; cases e171; replace hx171_0 := hx_ HB hx171_0; replace hx171_1 := hx_ HB hx171_1; replace hx171_2 := hx_ HB hx171_2; replace hx171_3 := hx_ HB hx171_3; replace hx171_4 := hx_ HB hx171_4; have HR171_2 := A_ hi171_2; have HC171_2 := A_ hl171_2; clear hi171_2 hl171_2; have HR171_4 := A_ hi171_4; have HC171_4 := A_ hl171_4; clear hi171_4 hl171_4; replace p171 := eq_true p171; replace q171 := eq_true q171) | (go_at_call 115; (with_reducible refine (spec_Entries.calls k3 ((rd_T119 l0_1 (ji23)).f0) ((rd_T119 l0_1 (ji23)).f1) _ _ ((rd_T119 l0_1 (ji23)).f2) ((rd_T119 l0_1 (ji23)).f3.f0) _ _ ((rd_T119 l0_1 (ji23)).f3.f1) x4_3 t172 t173 t174 false _ ?side1 ?side2 ?side3 ?side4 A26.out).mono ?_); (case side1 => exact cb_ (Kd.C_below HR171_2.out HB.out)); (case side2 => exact HC171_2.out); (case side3 => exact cb_ (Kd.C_below HR171_4.out HB.out)); (case side4 => exact HC171_4.out); rintro e w67 ⟨rfl, hb⟩; replace BK164 := bb_ BK164 hb; replace BK169 := bb_ BK169 hb; replace HB := hs_ HB hb; (try clear hb); (try clear hb2); (try clear hk); (try clear hi)) | ((with_reducible refine gate_dst (N := 6) rfl ?_); (try (refine gate_guard (by rfl) ?_; dsimp only)); refine bx_ HB rfl (N := 6) rfl (cs := #[.int .i64 0, .int .i64 0, .int .i64 0]) (t := 122) hr_ ?_; clear HB; intro gb176 w68 hg hb BK176 GW176 HB; have NB164_176 := ng_ BK164 hg; have NB176_164 := ns_ (ng_ BK164 hg); have NB169_176 := ng_ BK169 hg; have NB176_169 := ns_ (ng_ BK169 hg); replace BK164 := bb_ BK164 hb; replace BK169 := bb_ BK169 hb; clear hb hg; have hnb69 := NB176_164.out; have hnc69 := NB164_176.out; have hnb70 := NB176_169.out; have hnc70 := NB169_176.out; obtain ⟨hcz71_0, hcz71_1, hcz71_2, hfz71_0, hfz71_1, hfz71_2⟩ := cz3_ BK176)); try go_wp2_with (first | ((with_reducible refine gate_dst (N := 5) rfl ?_); (try (refine gate_guard (by rfl) ?_; dsimp only)); refine bx_ HB rfl (N := 5) rfl (cs := #[.int .i64 0, .int .i64 0, .int .i64 0]) (t := 95) hr_ ?_; clear HB; intro gb169 w60 hg hb BK169 GW169 HB; have NB164_169 := ng_ BK164 hg; have NB169_164 := ns_ (ng_ BK164 hg); replace BK164 := bb_ BK164 hb; clear hb hg; have hnb61 := NB169_164.out; have hnc61 := NB164_169.out; obtain ⟨hcz62_0, hcz62_1, hcz62_2, hfz62_0, hfz62_1, hfz62_2⟩ := cz3_ BK169; obtain ⟨hcz63_0, hcz63_1, hfz63_0, hfz63_1⟩ := cz2_ BK164) | (go_at_call 114; (with_reducible refine (spec_WordOk.calls ((rd_T95 l0_0 x4_3).f0) ((rd_T95 l0_0 x4_3).f1) ((rd_T95 l0_0 x4_3).f2) (l0_1.length : Int) true _ A20.out).mono ?_); rintro e w64 ⟨rfl, hb⟩; replace BK164 := bb_ BK164 hb; replace BK169 := bq_ (o' := .cells #[.int .i64 ((rd_T95 l0_0 x4_3).f0), .int .i64 ((rd_T95 l0_0 x4_3).f1), .int .i64 ((rd_T95 l0_0 x4_3).f2)] 95 (0, 0)) BK169 hb; replace HB := hs_ HB hb; (try clear hb); (try clear hb2); (try clear hk); (try clear hi); obtain ⟨hcz65_0, hcz65_1, hcz65_2, hfz65_0, hfz65_1, hfz65_2⟩ := cz3_ BK169; obtain ⟨hcz66_0, hcz66_1, hfz66_0, hfz66_1⟩ := cz2_ BK164; have p171 : 0 ≤ ((ji23) : Int) := od_; have q171 : (ji23) < (l0_1.length : Int) := od_; obtain ⟨ad171, A171_2, c171_2, A171_4, c171_4, e171, hx171_0, hx171_1, hx171_2, hx171_3, hx171_4, hl171_2, hi171_2, hl171_4, hi171_4⟩ := at_T119 HR0_1.out (ji23) p171 q171; cases e171; replace hx171_0 := hx_ HB hx171_0; replace hx171_1 := hx_ HB hx171_1; replace hx171_2 := hx_ HB hx171_2; replace hx171_3 := hx_ HB hx171_3; replace hx171_4 := hx_ HB hx171_4; have HR171_2 := A_ hi171_2; have HC171_2 := A_ hl171_2; clear hi171_2 hl171_2; have HR171_4 := A_ hi171_4; have HC171_4 := A_ hl171_4; clear hi171_4 hl171_4; replace p171 := eq_true p171; replace q171 := eq_true q171) | (go_at_call 115; (with_reducible refine (spec_Entries.calls k3 ((rd_T119 l0_1 (ji23)).f0) ((rd_T119 l0_1 (ji23)).f1) _ _ ((rd_T119 l0_1 (ji23)).f2) ((rd_T119 l0_1 (ji23)).f3.f0) _ _ ((rd_T119 l0_1 (ji23)).f3.f1) x4_3 t172 t173 t174 false _ ?side1 ?side2 ?side3 ?side4 A26.out).mono ?_); (case side1 => exact cb_ (Kd.C_below HR171_2.out HB.out)); (case side2 => exact HC171_2.out); (case side3 => exact cb_ (Kd.C_below HR171_4.out HB.out)); (case side4 => exact HC171_4.out); rintro e w67 ⟨rfl, hb⟩; replace BK164 := bb_ BK164 hb; replace BK169 := bb_ BK169 hb; replace HB := hs_ HB hb; (try clear hb); (try clear hb2); (try clear hk); (try clear hi)) | ((with_reducible refine gate_dst (N := 6) rfl ?_); (try (refine gate_guard (by rfl) ?_; dsimp only)); refine bx_ HB rfl (N := 6) rfl (cs := #[.int .i64 0, .int .i64 0, .int .i64 0]) (t := 122) hr_ ?_; clear HB; intro gb176 w68 hg hb BK176 GW176 HB; have NB164_176 := ng_ BK164 hg; have NB176_164 := ns_ (ng_ BK164 hg); have NB169_176 := ng_ BK169 hg; have NB176_169 := ns_ (ng_ BK169 hg); replace BK164 := bb_ BK164 hb; replace BK169 := bb_ BK169 hb; clear hb hg; have hnb69 := NB176_164.out; have hnc69 := NB164_176.out; have hnb70 := NB176_169.out; have hnc70 := NB169_176.out; obtain ⟨hcz71_0, hcz71_1, hcz71_2, hfz71_0, hfz71_1, hfz71_2⟩ := cz3_ BK176)))
          go_ret
          exact ⟨by first | rfl | (simp [errW_none, errW_some] <;> rfl) | (simp only [← hji23]; first | rfl | (simp [errW_none, errW_some] <;> rfl)) | (simp [*, errW_none, errW_some] <;> rfl), hb_ HB⟩
         replace H' := A_ H; clear H
         obtain ⟨hcz72_0, hcz72_1, hfz72_0, hfz72_1⟩ := cz2_ BK164
         obtain ⟨ad168, p168, q168, rfl, hx168_0, hx168_1, hx168_2⟩ := ab_T95 HB HR0_0 x4_3
         go_wp2_with (first | ((with_reducible refine gate_dst (N := 5) rfl ?_); (try (refine gate_guard (by rfl) ?_; dsimp only)); refine bx_ HB rfl (N := 5) rfl (cs := #[.int .i64 0, .int .i64 0, .int .i64 0]) (t := 95) hr_ ?_; clear HB; intro gb169 w73 hg hb BK169 GW169 HB; have NB164_169 := ng_ BK164 hg; have NB169_164 := ns_ (ng_ BK164 hg); replace BK164 := bb_ BK164 hb; clear hb hg; have hnb74 := NB169_164.out; have hnc74 := NB164_169.out; obtain ⟨hcz75_0, hcz75_1, hcz75_2, hfz75_0, hfz75_1, hfz75_2⟩ := cz3_ BK169; obtain ⟨hcz76_0, hcz76_1, hfz76_0, hfz76_1⟩ := cz2_ BK164) | (go_at_call 114; (with_reducible refine (spec_WordOk.calls ((rd_T95 l0_0 x4_3).f0) ((rd_T95 l0_0 x4_3).f1) ((rd_T95 l0_0 x4_3).f2) (l0_1.length : Int) true _ A20.out).mono ?_); rintro e w77 ⟨rfl, hb⟩; replace BK164 := bb_ BK164 hb; replace BK169 := bq_ (o' := .cells #[.int .i64 ((rd_T95 l0_0 x4_3).f0), .int .i64 ((rd_T95 l0_0 x4_3).f1), .int .i64 ((rd_T95 l0_0 x4_3).f2)] 95 (0, 0)) BK169 hb; replace HB := hs_ HB hb; (try clear hb); (try clear hb2); (try clear hk); (try clear hi); obtain ⟨hcz78_0, hcz78_1, hcz78_2, hfz78_0, hfz78_1, hfz78_2⟩ := cz3_ BK169))
         repeat (go_quiet (first | ((with_reducible refine gate_dst (N := 5) rfl ?_); (try (refine gate_guard (by rfl) ?_; dsimp only)); refine bx_ HB rfl (N := 5) rfl (cs := #[.int .i64 0, .int .i64 0, .int .i64 0]) (t := 95) hr_ ?_; clear HB; intro gb169 w73 hg hb BK169 GW169 HB; have NB164_169 := ng_ BK164 hg; have NB169_164 := ns_ (ng_ BK164 hg); replace BK164 := bb_ BK164 hb; clear hb hg; have hnb74 := NB169_164.out; have hnc74 := NB164_169.out; obtain ⟨hcz75_0, hcz75_1, hcz75_2, hfz75_0, hfz75_1, hfz75_2⟩ := cz3_ BK169; obtain ⟨hcz76_0, hcz76_1, hfz76_0, hfz76_1⟩ := cz2_ BK164) | (go_at_call 114; (with_reducible refine (spec_WordOk.calls ((rd_T95 l0_0 x4_3).f0) ((rd_T95 l0_0 x4_3).f1) ((rd_T95 l0_0 x4_3).f2) (l0_1.length : Int) true _ A20.out).mono ?_); rintro e w77 ⟨rfl, hb⟩; replace BK164 := bb_ BK164 hb; replace BK169 := bq_ (o' := .cells #[.int .i64 ((rd_T95 l0_0 x4_3).f0), .int .i64 ((rd_T95 l0_0 x4_3).f1), .int .i64 ((rd_T95 l0_0 x4_3).f2)] 95 (0, 0)) BK169 hb; replace HB := hs_ HB hb; (try clear hb); (try clear hb2); (try clear hk); (try clear hi); obtain ⟨hcz78_0, hcz78_1, hcz78_2, hfz78_0, hfz78_1, hfz78_2⟩ := cz3_ BK169)); try go_wp2_with (first | ((with_reducible refine gate_dst (N := 5) rfl ?_); (try (refine gate_guard (by rfl) ?_; dsimp only)); refine bx_ HB rfl (N := 5) rfl (cs := #[.int .i64 0, .int .i64 0, .int .i64 0]) (t := 95) hr_ ?_; clear HB; intro gb169 w73 hg hb BK169 GW169 HB; have NB164_169 := ng_ BK164 hg; have NB169_164 := ns_ (ng_ BK164 hg); replace BK164 := bb_ BK164 hb; clear hb hg; have hnb74 := NB169_164.out; have hnc74 := NB164_169.out; obtain ⟨hcz75_0, hcz75_1, hcz75_2, hfz75_0, hfz75_1, hfz75_2⟩ := cz3_ BK169; obtain ⟨hcz76_0, hcz76_1, hfz76_0, hfz76_1⟩ := cz2_ BK164) | (go_at_call 114; (with_reducible refine (spec_WordOk.calls ((rd_T95 l0_0 x4_3).f0) ((rd_T95 l0_0 x4_3).f1) ((rd_T95 l0_0 x4_3).f2) (l0_1.length : Int) true _ A20.out).mono ?_); rintro e w77 ⟨rfl, hb⟩; replace BK164 := bb_ BK164 hb; replace BK169 := bq_ (o' := .cells #[.int .i64 ((rd_T95 l0_0 x4_3).f0), .int .i64 ((rd_T95 l0_0 x4_3).f1), .int .i64 ((rd_T95 l0_0 x4_3).f2)] 95 (0, 0)) BK169 hb; replace HB := hs_ HB hb; (try clear hb); (try clear hb2); (try clear hk); (try clear hi); obtain ⟨hcz78_0, hcz78_1, hcz78_2, hfz78_0, hfz78_1, hfz78_2⟩ := cz3_ BK169)))
         go_roundg k3
         case measure => have := HJ1.out; have := HK2.out; have := HK3.out; omega
         case rel => exact ⟨(wrap64 (x4_3 + 1)), rt_, H', ⟨by have := HJ1.out; have := HK2.out; have := HK3.out; omega⟩, ⟨bk_ BK164⟩, ⟨hb_ HB⟩⟩
        obtain rfl := Bool.eq_false_iff.mpr c21
        replace H := iF_ H
        obtain rfl := Option.some.inj H
        obtain ⟨hcz79_0, hcz79_1, hfz79_0, hfz79_1⟩ := cz2_ BK164
        obtain ⟨ad168, p168, q168, rfl, hx168_0, hx168_1, hx168_2⟩ := ab_T95 HB HR0_0 x4_3
        go_wp2_with (first | ((with_reducible refine gate_dst (N := 5) rfl ?_); (try (refine gate_guard (by rfl) ?_; dsimp only)); refine bx_ HB rfl (N := 5) rfl (cs := #[.int .i64 0, .int .i64 0, .int .i64 0]) (t := 95) hr_ ?_; clear HB; intro gb169 w80 hg hb BK169 GW169 HB; have NB164_169 := ng_ BK164 hg; have NB169_164 := ns_ (ng_ BK164 hg); replace BK164 := bb_ BK164 hb; clear hb hg; have hnb81 := NB169_164.out; have hnc81 := NB164_169.out; obtain ⟨hcz82_0, hcz82_1, hcz82_2, hfz82_0, hfz82_1, hfz82_2⟩ := cz3_ BK169; obtain ⟨hcz83_0, hcz83_1, hfz83_0, hfz83_1⟩ := cz2_ BK164) | (go_at_call 114; (with_reducible refine (spec_WordOk.calls ((rd_T95 l0_0 x4_3).f0) ((rd_T95 l0_0 x4_3).f1) ((rd_T95 l0_0 x4_3).f2) (l0_1.length : Int) false _ A20.out).mono ?_); rintro e w84 ⟨rfl, hb⟩; replace BK164 := bb_ BK164 hb; replace BK169 := bq_ (o' := .cells #[.int .i64 ((rd_T95 l0_0 x4_3).f0), .int .i64 ((rd_T95 l0_0 x4_3).f1), .int .i64 ((rd_T95 l0_0 x4_3).f2)] 95 (0, 0)) BK169 hb; replace HB := hs_ HB hb; (try clear hb); (try clear hb2); (try clear hk); (try clear hi)))
        repeat (go_quiet (first | ((with_reducible refine gate_dst (N := 5) rfl ?_); (try (refine gate_guard (by rfl) ?_; dsimp only)); refine bx_ HB rfl (N := 5) rfl (cs := #[.int .i64 0, .int .i64 0, .int .i64 0]) (t := 95) hr_ ?_; clear HB; intro gb169 w80 hg hb BK169 GW169 HB; have NB164_169 := ng_ BK164 hg; have NB169_164 := ns_ (ng_ BK164 hg); replace BK164 := bb_ BK164 hb; clear hb hg; have hnb81 := NB169_164.out; have hnc81 := NB164_169.out; obtain ⟨hcz82_0, hcz82_1, hcz82_2, hfz82_0, hfz82_1, hfz82_2⟩ := cz3_ BK169; obtain ⟨hcz83_0, hcz83_1, hfz83_0, hfz83_1⟩ := cz2_ BK164) | (go_at_call 114; (with_reducible refine (spec_WordOk.calls ((rd_T95 l0_0 x4_3).f0) ((rd_T95 l0_0 x4_3).f1) ((rd_T95 l0_0 x4_3).f2) (l0_1.length : Int) false _ A20.out).mono ?_); rintro e w84 ⟨rfl, hb⟩; replace BK164 := bb_ BK164 hb; replace BK169 := bq_ (o' := .cells #[.int .i64 ((rd_T95 l0_0 x4_3).f0), .int .i64 ((rd_T95 l0_0 x4_3).f1), .int .i64 ((rd_T95 l0_0 x4_3).f2)] 95 (0, 0)) BK169 hb; replace HB := hs_ HB hb; (try clear hb); (try clear hb2); (try clear hk); (try clear hi))); try go_wp2_with (first | ((with_reducible refine gate_dst (N := 5) rfl ?_); (try (refine gate_guard (by rfl) ?_; dsimp only)); refine bx_ HB rfl (N := 5) rfl (cs := #[.int .i64 0, .int .i64 0, .int .i64 0]) (t := 95) hr_ ?_; clear HB; intro gb169 w80 hg hb BK169 GW169 HB; have NB164_169 := ng_ BK164 hg; have NB169_164 := ns_ (ng_ BK164 hg); replace BK164 := bb_ BK164 hb; clear hb hg; have hnb81 := NB169_164.out; have hnc81 := NB164_169.out; obtain ⟨hcz82_0, hcz82_1, hcz82_2, hfz82_0, hfz82_1, hfz82_2⟩ := cz3_ BK169; obtain ⟨hcz83_0, hcz83_1, hfz83_0, hfz83_1⟩ := cz2_ BK164) | (go_at_call 114; (with_reducible refine (spec_WordOk.calls ((rd_T95 l0_0 x4_3).f0) ((rd_T95 l0_0 x4_3).f1) ((rd_T95 l0_0 x4_3).f2) (l0_1.length : Int) false _ A20.out).mono ?_); rintro e w84 ⟨rfl, hb⟩; replace BK164 := bb_ BK164 hb; replace BK169 := bq_ (o' := .cells #[.int .i64 ((rd_T95 l0_0 x4_3).f0), .int .i64 ((rd_T95 l0_0 x4_3).f1), .int .i64 ((rd_T95 l0_0 x4_3).f2)] 95 (0, 0)) BK169 hb; replace HB := hs_ HB hb; (try clear hb); (try clear hb2); (try clear hk); (try clear hi))))
        go_ret
        exact ⟨rs_, hb_ HB⟩
       obtain rfl := Option.some.inj H
       obtain ⟨hcz85_0, hcz85_1, hfz85_0, hfz85_1⟩ := cz2_ BK164
       go_wp2
       repeat (go_quiet (fail); try go_wp2)
       go_ret
       exact ⟨rs_, hb_ HB⟩

/-! ### spec_ValOk: function 91 -/
def spec_ValOk.f (a0 : Int) : Option (Bool) := (spec_l1In.f a0 1 6).bind fun t178 => (some t178)
set_option maxHeartbeats 8000000 in
set_option maxRecDepth 100000 in
theorem spec_ValOk.calls (a0 : Int) (r : Bool) (w : World) (h : spec_ValOk.f a0 = some r) :
    Calls Try.prog 91 #[.int .i64 a0] w fun e w' => e = .returned (.bool r) ∧ Drawn0 w w' := by
 have H : ((spec_l1In.f a0 1 6).bind fun t178 => (some t178)) = some r := h
 clear h
 replace H := bs_ H
 obtain ⟨t178, A2, H⟩ := H
 obtain rfl := Option.some.inj H
 go_enter Try.func91, Try.ntmps91
 go_wp2_with (first | ((with_reducible refine gate_callee (f := 87) rfl ?_); refine goesL_ (some 4) rfl rfl Try.func87 (by kernel_rfl) rfl #[.int .i64 a0, .int .i64 1, .int .i64 6] rfl al_ ?_; (with_reducible refine (spec_l1In.calls a0 1 6 t178 _ A2.out).mono ?_); rintro e w' ⟨rfl, ⟨nd, rfl⟩⟩; refine ⟨_, rfl, ?_⟩))
 go_ret
 exact ⟨rt_, by repeat (first | exact Drawn0.refl _ | apply Drawn0.step)⟩

/-! ### spec_KeyOf: function 133 -/
def spec_KeyOf.l0 : Nat → Int → Int → List Int → Int → Option (Int)
 | 0, _, _, _, _ => none
 | k + 1, x1, x5, x180000, x180001 => if x5 < (x180000.length : Int) then (if 0 ≤ x5 then (if (rd x180000 x5) = x1 then (some x5) else (spec_KeyOf.l0 k x1 (wrap64 (x5 + 1)) x180000 x180001)) else (none)) else (some (-1))
def spec_KeyOf.f (k : Nat) (l0_0 : List Int) (a0_1 : Int) (a1 : Int) : Option (Int) := spec_KeyOf.l0 k a1 0 l0_0 a0_1
theorem spec_KeyOf.mono_l : ∀ k, (∀ y0 y1 y2 y3, LeO (spec_KeyOf.l0 k y0 y1 y2 y3) (spec_KeyOf.l0 (k + 1) y0 y1 y2 y3))
 | 0 => fun _ _ _ _ r h => by simp [spec_KeyOf.l0] at h
 | k + 1 => by
  have ih0 := spec_KeyOf.mono_l k
  ·
   intro y0 y1 y2 y3
   unfold spec_KeyOf.l0
   repeat' first | (with_reducible first | apply ih0 | apply LeO.refl | apply LeO.none | apply LeO.ite | refine LeO.bind ?_ (fun _ => ?_)) | apply ih0 | apply LeO.none | apply LeO.ite | refine LeO.bind ?_ (fun _ => ?_)
theorem spec_KeyOf.mono : ∀ a0 a1 a2 k, LeO (spec_KeyOf.f k a0 a1 a2) (spec_KeyOf.f (k + 1) a0 a1 a2) := by
 intro a0 a1 a2 k
 have ih0 := spec_KeyOf.mono_l k
 unfold spec_KeyOf.f
 repeat' first | (with_reducible first | apply ih0 | apply LeO.refl | apply LeO.none | apply LeO.ite | refine LeO.bind ?_ (fun _ => ?_)) | apply ih0 | apply LeO.none | apply LeO.ite | refine LeO.bind ?_ (fun _ => ?_)
set_option maxHeartbeats 8000000 in
set_option maxRecDepth 100000 in
theorem spec_KeyOf.calls (k : Nat) (A0_0 : Option Addr) (c0_0 : Nat) (l0_0 : List Int) (a0_1 : Int) (a1 : Int) (r : Int) (w : World) (hr0_0 : Kd.C (Kd.int .i64) w A0_0 l0_0.length l0_0) (hc0_0 : l0_0.length ≤ c0_0) (h : spec_KeyOf.f k l0_0 a0_1 a1 = some r) :
    Calls Try.prog 133 #[.agg #[.slice A0_0 l0_0.length c0_0, .int .i64 a0_1], .int .i64 a1] w fun e w' => e = .returned (.int .i64 r) ∧ Below w.heap.size w w' := by
 have hu44 := Try.underlying44
 have HR0_0 := A_ hr0_0
 have HC0_0 := A_ hc0_0
 clear hr0_0 hc0_0
 have HB := A_ (Below.refl w.heap.size w)
 have H : (spec_KeyOf.l0 k a1 0 l0_0 a0_1) = some r := h
 clear h
 replace H' := A_ H; clear H
 go_enter Try.func133, Try.ntmps133
 go_wp2_with (first | ((with_reducible refine gate_dst (N := 2) rfl ?_); refine bx_ HB rfl (N := 2) rfl (cs := #[.slice A0_0 l0_0.length c0_0, .int .i64 a0_1]) (t := 44) hr_ ?_; clear HB; intro gb179 w3 hg hb BK179 GW179 HB; clear hb hg))
 go_loopg [5] k (fun kq v5 w' => ∃ (x5_1 : Int), v5 = .int .i64 x5_1 ∧ Aside0 (spec_KeyOf.l0 kq a1 x5_1 l0_0 a0_1 = some r) ∧ Aside0 (kq ≤ k) ∧ Aside0 (w'.heap[gb179]? = some (.cells #[(.slice A0_0 l0_0.length c0_0), .int .i64 a0_1] 44 (0, 0))) ∧ Aside0 (Below w.heap.size w w'))
 case atStart => exact ⟨(0), rt_, H', ⟨Nat.le_refl _⟩, ⟨bk_ BK179⟩, ⟨hb_ HB⟩⟩
 case round =>
  clear H'
  obtain ⟨x5_1, rfl, HA, HK1, BK179, HB⟩ := hrel
  cases gk with
  | zero => exact absurd HA.out (by simp [spec_KeyOf.l0])
  | succ k1 =>
   have H := HA.out
   clear HA
   simp only [spec_KeyOf.l0] at H
   replace H := ic_ H
   rcases H with ⟨c4b0, H⟩ | ⟨c4b0, H⟩
   ·
    replace H := ix_ H
    obtain ⟨c5b0, H⟩ := H
    by_cases c6 : (rd l0_0 x5_1) = a1
    ·
     rw [if_pos c6] at H
     have c6b0 : ((rd l0_0 x5_1) == a1) = true := beq_iff_eq.mpr c6
     have c6b1 : ((rd l0_0 x5_1) != a1) = false := bne_eq_false_iff_eq.mpr c6
     clear c6
     obtain rfl := Option.some.inj H
     obtain ⟨hcz7_0, hcz7_1, hfz7_0, hfz7_1⟩ := cz2_ BK179
     obtain ⟨ad180, p180, q180, rfl, hx180_0⟩ := ab_int HB HR0_0 x5_1
     go_wp2
     go_ret
     exact ⟨rs_, hb_ HB⟩
    rw [if_neg c6] at H
    have c6b0 : ((rd l0_0 x5_1) == a1) = false := beq_eq_false_iff_ne.mpr c6
    have c6b1 : ((rd l0_0 x5_1) != a1) = true := bne_iff_ne.mpr c6
    replace H' := A_ H; clear H
    obtain ⟨hcz8_0, hcz8_1, hfz8_0, hfz8_1⟩ := cz2_ BK179
    obtain ⟨ad180, p180, q180, rfl, hx180_0⟩ := ab_int HB HR0_0 x5_1
    go_wp2
    go_roundg k1
    case measure => have := HK1.out; omega
    case rel => exact ⟨(wrap64 (x5_1 + 1)), rt_, H', ⟨by have := HK1.out; omega⟩, ⟨bk_ BK179⟩, ⟨hb_ HB⟩⟩
   obtain rfl := Option.some.inj H
   obtain ⟨hcz9_0, hcz9_1, hfz9_0, hfz9_1⟩ := cz2_ BK179
   go_wp2
   go_ret
   exact ⟨rs_, hb_ HB⟩

end Go.Proofs.Ytmkhghbalnadlaa.PFnExactMemNew
