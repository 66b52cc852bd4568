/- Contracts of functions of the program. No condition beyond the hypotheses that each theorem names. -/
import Derived.Test.YtdcinhpdpoodfaaGreatPFnExactFinishedx0
import Derived.Test.YtdcinhpdpoodfaaGreatPFnExactFinishedx3
import Derived.Test.YtdcinhpdpoodfaaGreatPFnExactFinishedx5
namespace Go.Proofs.YtdcinhpdpoodfaaGreat.PFnExactFinished
open Go.RowKit Go.Proofs.YtdcinhpdpoodfaaGreatW.PrintWords Go.Proofs.YtdcinhpdpoodfaaGreatW.PrintLast Go.Proofs.YtdcinhpdpoodfaaGreatW.PrintMore
attribute [local go_sem] max2_int min2_int max_two min_two max_three min_three max_four min_four
set_option linter.unusedVariables false
set_option linter.unusedSimpArgs false
def spec_Entries.l0 : Nat → Int → Int → Int → Int → List (S37) → Int → List Int → Option (Int × Int × Int × Bool)
 | 0, _, _, _, _, _, _, _ => none
 | k + 1, x1, x6, x166000, x166001, x166002, x166003, x166004 => if x6 < (x166002.length : Int) then (if 0 ≤ x6 then (if ((rd_T37 x166002 x6).f0) = x1 then (some ((rd_T37 x166002 x6).f0, (rd_T37 x166002 x6).f1, (rd_T37 x166002 x6).f2, true)) else (spec_Entries.l0 k x1 (wrap64 (x6 + 1)) x166000 x166001 x166002 x166003 x166004)) else (none)) else (some (0, 0, 0, false))
def spec_Entries.f (k : Nat) (a0_0 : Int) (a0_1 : Int) (l0_2 : List (S37)) (a0_3 : Int) (l0_4 : List Int) (a1 : Int) : Option (Int × Int × Int × Bool) := spec_Entries.l0 k a1 0 a0_0 a0_1 l0_2 a0_3 l0_4
set_option maxHeartbeats 8000000 in
set_option maxRecDepth 100000 in
theorem spec_Entries.calls (k : Nat) (a0_0 : Int) (a0_1 : Int) (A0_2 : Option Addr) (c0_2 : Nat) (l0_2 : List (S37)) (a0_3 : Int) (A0_4 : Option Addr) (c0_4 : Nat) (l0_4 : List Int) (a1 : Int) (r1 : Int) (r2 : Int) (r3 : Int) (r4 : Bool) (w : World) (hr0_2 : Kd.C k37 w A0_2 l0_2.length l0_2) (hc0_2 : l0_2.length ≤ c0_2) (hr0_4 : Kd.C (Kd.int .i64) w A0_4 l0_4.length l0_4) (hc0_4 : l0_4.length ≤ c0_4) (h : spec_Entries.f k a0_0 a0_1 l0_2 a0_3 l0_4 a1 = some (r1, r2, r3, r4)) :
    Calls Tryz.prog 127 #[.agg #[.int .i64 a0_0, .int .i64 a0_1, .slice A0_2 l0_2.length c0_2, .int .i64 a0_3, .slice A0_4 l0_4.length c0_4], .int .i64 a1] w fun e w' => e = .returned (.tuple #[.agg #[.int .i64 r1, .int .i64 r2, .int .i64 r3], .bool r4]) ∧ Below w.heap.size w w' := by
 have hu52 := Tryz.underlying52
 have hu37 := Tryz.underlying37
 have HR0_2 := A_ hr0_2
 have HC0_2 := A_ hc0_2
 clear hr0_2 hc0_2
 have HR0_4 := A_ hr0_4
 have HC0_4 := A_ hc0_4
 clear hr0_4 hc0_4
 have HB := A_ (Below.refl w.heap.size w)
 have H : (spec_Entries.l0 k a1 0 a0_0 a0_1 l0_2 a0_3 l0_4) = some (r1, r2, r3, r4) := h
 clear h
 replace H' := A_ H; clear H
 go_enter Tryz.func127, Tryz.ntmps127
 go_wp2_with (first | ((with_reducible refine gate_dst (N := 2) rfl ?_); refine bx_ HB rfl (N := 2) rfl (cs := #[.int .i64 a0_0, .int .i64 a0_1, .slice A0_2 l0_2.length c0_2, .int .i64 a0_3, .slice A0_4 l0_4.length c0_4]) (t := 52) hr_ ?_; clear HB; intro gb165 w3 hg hb BK165 GW165 HB; clear hb hg) | ((with_reducible refine gate_dst (N := 4) rfl ?_); refine bx_ HB rfl (N := 4) rfl (cs := #[.int .i64 0, .int .i64 0, .int .i64 0]) (t := 37) hr_ ?_; clear HB; intro gb166 w4 hg hb BK166 GW166 HB; have NB165_166 := ng_ BK165 hg; have NB166_165 := ns_ (ng_ BK165 hg); replace BK165 := bb_ BK165 hb; clear hb hg))
 go_loopg [6] k (fun kq v6 w' => ∃ (x6_1 : Int) (x167000_1 : Int) (x167001_1 : Int) (x167002_1 : Int), v6 = .int .i64 x6_1 ∧ Aside0 (spec_Entries.l0 kq a1 x6_1 a0_0 a0_1 l0_2 a0_3 l0_4 = some (r1, r2, r3, r4)) ∧ Aside0 (kq ≤ k) ∧ Aside0 (w'.heap[gb165]? = some (.cells #[.int .i64 a0_0, .int .i64 a0_1, (.slice A0_2 l0_2.length c0_2), .int .i64 a0_3, (.slice A0_4 l0_4.length c0_4)] 52 (0, 0))) ∧ Aside0 (w'.heap[gb166]? = some (.cells #[.int .i64 x167000_1, .int .i64 x167001_1, .int .i64 x167002_1] 37 (0, 0))) ∧ Aside0 (Below w.heap.size w w'))
 case atStart => exact ⟨(0), (0), (0), (0), rt_, H', ⟨Nat.le_refl _⟩, ⟨bk_ BK165⟩, ⟨bk_ BK166⟩, ⟨hb_ HB⟩⟩
 case round =>
  clear H'
  obtain ⟨x6_1, x167000_1, x167001_1, x167002_1, rfl, HA, HK1, BK165, BK166, HB⟩ := hrel
  cases gk with
  | zero => exact absurd HA.out (by simp [spec_Entries.l0])
  | succ k1 =>
   have H := HA.out
   clear HA
   simp only [spec_Entries.l0] at H
   replace H := ic_ H
   rcases H with ⟨c5b0, H⟩ | ⟨c5b0, H⟩
   ·
    replace H := ix_ H
    obtain ⟨c6b0, H⟩ := H
    by_cases c7 : ((rd_T37 l0_2 x6_1).f0) = a1
    ·
     rw [if_pos c7] at H
     have c7b0 : (((rd_T37 l0_2 x6_1).f0) == a1) = true := beq_iff_eq.mpr c7
     have c7b1 : (((rd_T37 l0_2 x6_1).f0) != a1) = false := bne_eq_false_iff_eq.mpr c7
     clear c7
     simp only [Option.some.injEq, Prod.mk.injEq] at H
     obtain ⟨rfl, rfl, rfl, rfl⟩ := H
     have hnb8 := NB165_166.out
     have hnc8 := NB166_165.out
     obtain ⟨z9_0, z9_1, z9_2, z9_3, z9_4, y9_0, y9_1, y9_2, y9_3, y9_4⟩ := cz5_ BK165
     obtain ⟨ad167, p167, q167, rfl, u167_0, u167_1, u167_2⟩ := ab_T37 HB HR0_2 x6_1
     have p168 : 0 ≤ (x6_1 : Int) := od_
     have q168 : x6_1 < (l0_2.length : Int) := od_
     obtain ⟨ad168, e168, u168_0, u168_1, u168_2⟩ := at_T37 HR0_2.out x6_1 p168 q168
     obtain rfl : ad167 = ad168 := (by injection e168)
     replace u168_0 := hx_ HB u168_0
     replace u168_1 := hx_ HB u168_1
     replace u168_2 := hx_ HB u168_2
     replace p168 := eq_true p168
     replace q168 := eq_true q168
     obtain ⟨z10_0, z10_1, z10_2, y10_0, y10_1, y10_2⟩ := cz3_ BK166
     go_wp2
     refine bodyPost_ret (results_ct rfl _ _ gb166 37 #[.int .i64 ((rd_T37 l0_2 x6_1).f0), .int .i64 ((rd_T37 l0_2 x6_1).f1), .int .i64 ((rd_T37 l0_2 x6_1).f2)] (0, 0) _ rfl (bp_ BK166) Tryz.underlying37 rfl (by kernel_rfl)) rfl ?_
     exact ⟨rs_, hb_ HB⟩
    rw [if_neg c7] at H
    have c7b0 : (((rd_T37 l0_2 x6_1).f0) == a1) = false := beq_eq_false_iff_ne.mpr c7
    have c7b1 : (((rd_T37 l0_2 x6_1).f0) != a1) = true := bne_iff_ne.mpr c7
    replace H' := A_ H; clear H
    have hnb11 := NB165_166.out
    have hnc11 := NB166_165.out
    obtain ⟨z12_0, z12_1, z12_2, z12_3, z12_4, y12_0, y12_1, y12_2, y12_3, y12_4⟩ := cz5_ BK165
    obtain ⟨ad167, p167, q167, rfl, u167_0, u167_1, u167_2⟩ := ab_T37 HB HR0_2 x6_1
    go_wp2
    go_roundg k1
    case measure => have := HK1.out; omega
    case rel => exact ⟨(wrap64 (x6_1 + 1)), (x167000_1), (x167001_1), (x167002_1), rt_, H', ⟨by have := HK1.out; omega⟩, ⟨bk_ BK165⟩, ⟨bk_ BK166⟩, ⟨hb_ HB⟩⟩
   simp only [Option.some.injEq, Prod.mk.injEq] at H
   obtain ⟨rfl, rfl, rfl, rfl⟩ := H
   have hnb13 := NB165_166.out
   have hnc13 := NB166_165.out
   obtain ⟨z14_0, z14_1, z14_2, z14_3, z14_4, y14_0, y14_1, y14_2, y14_3, y14_4⟩ := cz5_ BK165
   obtain ⟨z15_0, z15_1, z15_2, y15_0, y15_1, y15_2⟩ := cz3_ BK166
   go_wp2
   refine bodyPost_ret (results_ct rfl _ _ gb166 37 #[.int .i64 0, .int .i64 0, .int .i64 0] (0, 0) _ rfl (bp_ BK166) Tryz.underlying37 rfl (by kernel_rfl)) rfl ?_
   exact ⟨rs_, hb_ HB⟩
mutual
def spec_MemOk.j0 : Nat → Bool → List (S39) → List (S52) → Option (Bool)
 | 0, _, _, _ => none
 | k + 1, x18, x170000, x170001 => if x18 = true then (some false) else (spec_MemOk.l0 k 0 x170000 x170001)
def spec_MemOk.l0 : Nat → Int → List (S39) → List (S52) → Option (Bool)
 | 0, _, _, _ => none
 | k + 1, x3, x170000, x170001 => if x3 < (x170001.length : Int) then (if 0 ≤ x3 then ((spec_DescOk.f k ((rd_T52 x170001 x3).f0) ((rd_T52 x170001 x3).f1) ((rd_T52 x170001 x3).f2) ((rd_T52 x170001 x3).f3.f0) ((rd_T52 x170001 x3).f3.f1)).bind fun t172 => (if t172 = true then (spec_MemOk.l0 k (wrap64 (x3 + 1)) x170000 x170001) else (some false))) else (none)) else (spec_MemOk.l1 k 0 x170000 x170001)
def spec_MemOk.l1 : Nat → Int → List (S39) → List (S52) → Option (Bool)
 | 0, _, _, _ => none
 | k + 1, x4, x170000, x170001 => if x4 < (x170000.length : Int) then (if 0 ≤ x4 then ((spec_WordOk.f ((rd_T39 x170000 x4).f0) ((rd_T39 x170000 x4).f1) ((rd_T39 x170000 x4).f2) (x170001.length : Int)).bind fun t175 => (if t175 = true then (if ((rd_T39 x170000 x4).f1) > 0 then (if 0 ≤ (wrap64 (((rd_T39 x170000 x4).f1) - 1)) then (if (wrap64 (((rd_T39 x170000 x4).f1) - 1)) < (x170001.length : Int) then ((spec_Entries.f k ((rd_T52 x170001 (wrap64 (((rd_T39 x170000 x4).f1) - 1))).f0) ((rd_T52 x170001 (wrap64 (((rd_T39 x170000 x4).f1) - 1))).f1) ((rd_T52 x170001 (wrap64 (((rd_T39 x170000 x4).f1) - 1))).f2) ((rd_T52 x170001 (wrap64 (((rd_T39 x170000 x4).f1) - 1))).f3.f0) ((rd_T52 x170001 (wrap64 (((rd_T39 x170000 x4).f1) - 1))).f3.f1) x4).bind fun bt177 => (if bt177.2.2.2 = true then (if ((rd_T52 x170001 (wrap64 (((rd_T39 x170000 x4).f1) - 1))).f0) = ((rd_T39 x170000 x4).f2) then (spec_MemOk.l1 k (wrap64 (x4 + 1)) x170000 x170001) else (some false)) else (some false))) else (none)) else (none)) else (spec_MemOk.l1 k (wrap64 (x4 + 1)) x170000 x170001)) else (some false))) else (none)) else (some true)
end
def spec_MemOk.f (k : Nat) (l0_0 : List (S39)) (l0_1 : List (S52)) : Option (Bool) := if (l0_0.length : Int) = 20 then ((spec_l1In.f (l0_1.length : Int) 1 4).bind fun t170 => (spec_MemOk.j0 k (!t170) l0_0 l0_1)) else (spec_MemOk.j0 k true l0_0 l0_1)
set_option maxHeartbeats 8000000 in
set_option maxRecDepth 100000 in
theorem spec_MemOk.calls (k : Nat) (A0_0 : Option Addr) (c0_0 : Nat) (l0_0 : List (S39)) (A0_1 : Option Addr) (c0_1 : Nat) (l0_1 : List (S52)) (r : Bool) (w : World) (hr0_0 : Kd.C k39 w A0_0 l0_0.length l0_0) (hc0_0 : l0_0.length ≤ c0_0) (hr0_1 : Kd.C k52 w A0_1 l0_1.length l0_1) (hc0_1 : l0_1.length ≤ c0_1) (h : spec_MemOk.f k l0_0 l0_1 = some r) :
    Calls Tryz.prog 59 #[.agg #[.slice A0_0 l0_0.length c0_0, .slice A0_1 l0_1.length c0_1]] w fun e w' => e = .returned (.bool r) ∧ Below w.heap.size w w' := by
 have hu27 := Tryz.underlying27
 have hu52 := Tryz.underlying52
 have hu39 := Tryz.underlying39
 have hu37 := Tryz.underlying37
 have HR0_0 := A_ hr0_0
 have HC0_0 := A_ hc0_0
 clear hr0_0 hc0_0
 have HR0_1 := A_ hr0_1
 have HC0_1 := A_ hc0_1
 clear hr0_1 hc0_1
 have HB := A_ (Below.refl w.heap.size w)
 have H : (if (l0_0.length : Int) = 20 then ((spec_l1In.f (l0_1.length : Int) 1 4).bind fun t170 => (spec_MemOk.j0 k (!t170) l0_0 l0_1)) else (spec_MemOk.j0 k true l0_0 l0_1)) = some r := h
 clear h
 have HC2 := A_ H
 clear H
 go_enter Tryz.func59, Tryz.ntmps59
 go_upto_region 1 with (first | ((with_reducible refine gate_dst (N := 1) rfl ?_); (try (refine gate_guard (by rfl) ?_; dsimp only)); refine bx_ HB rfl (N := 1) rfl (cs := #[.slice A0_0 l0_0.length c0_0, .slice A0_1 l0_1.length c0_1]) (t := 27) hr_ ?_; clear HB; intro gb169 w3 hg hb BK169 GW169 HB; clear hb hg))
 repeat (go_quiet (first | ((with_reducible refine gate_dst (N := 1) rfl ?_); (try (refine gate_guard (by rfl) ?_; dsimp only)); refine bx_ HB rfl (N := 1) rfl (cs := #[.slice A0_0 l0_0.length c0_0, .slice A0_1 l0_1.length c0_1]) (t := 27) hr_ ?_; clear HB; intro gb169 w3 hg hb BK169 GW169 HB; clear hb hg)); go_upto_region 1 with (first | ((with_reducible refine gate_dst (N := 1) rfl ?_); (try (refine gate_guard (by rfl) ?_; dsimp only)); refine bx_ HB rfl (N := 1) rfl (cs := #[.slice A0_0 l0_0.length c0_0, .slice A0_1 l0_1.length c0_1]) (t := 27) hr_ ?_; clear HB; intro gb169 w3 hg hb BK169 GW169 HB; clear hb hg)))
 (try simp only [Act.put, List.setIfInBounds_toArray, List.set_cons_zero, List.set_cons_succ])
 go_cut [18] (fun v18 wc => ∃ (kq : Nat) (x18_1 : Bool), v18 = .bool x18_1 ∧ Aside0 (spec_MemOk.j0 kq x18_1 l0_0 l0_1 = some r) ∧ Aside0 (kq ≤ k) ∧ Aside0 (wc.heap[gb169]? = some (.cells #[(.slice A0_0 l0_0.length c0_0), (.slice A0_1 l0_1.length c0_1)] 27 (0, 0))) ∧ Aside0 (Below w.heap.size w wc))
 case first =>
  have H := HC2.out
  clear HC2
  by_cases c4 : (l0_0.length : Int) = 20
  ·
   rw [if_pos c4] at H
   have c4b0 : ((l0_0.length : Int) == 20) = true := beq_iff_eq.mpr c4
   have c4b1 : ((l0_0.length : Int) != 20) = false := bne_eq_false_iff_eq.mpr c4
   clear c4
   (first | rw [c4b0] | (simp only [i64_w, i32_w]; rw [c4b0]) | skip)
   replace H := bs_ H
   obtain ⟨t170, A5, H⟩ := H
   replace H' := A_ H; clear H
   obtain ⟨z6_0, z6_1, y6_0, y6_1⟩ := cz2_ BK169
   iterate 5 (try go_wp2_with (first | (go_at_call 70; (with_reducible refine (spec_l1In.calls (l0_1.length : Int) 1 4 t170 _ A5.out).mono ?_); rintro e w' ⟨rfl, ⟨nd, rfl⟩⟩; (try exact dd_))); try go_quiet (first | (go_at_call 70; (with_reducible refine (spec_l1In.calls (l0_1.length : Int) 1 4 t170 _ A5.out).mono ?_); rintro e w' ⟨rfl, ⟨nd, rfl⟩⟩; (try exact dd_))))
   go_meet
   case rel => exact ⟨_, (!t170), rt_, H', ⟨by first | omega | exact Nat.le_refl _⟩, ⟨bk_ BK169⟩, ⟨hb_ HB⟩⟩
  rw [if_neg c4] at H
  have c4b0 : ((l0_0.length : Int) == 20) = false := beq_eq_false_iff_ne.mpr c4
  have c4b1 : ((l0_0.length : Int) != 20) = true := bne_iff_ne.mpr c4
  (first | rw [c4b0] | (simp only [i64_w, i32_w]; rw [c4b0]) | skip)
  replace H' := A_ H; clear H
  obtain ⟨z7_0, z7_1, y7_0, y7_1⟩ := cz2_ BK169
  go_wp2
  repeat (go_quiet (fail); try go_wp2)
  go_meet
  case rel => exact ⟨_, (true), rt_, H', ⟨by first | omega | exact Nat.le_refl _⟩, ⟨bk_ BK169⟩, ⟨hb_ HB⟩⟩
 case rest =>
  clear HC2
  try clear c4
  try clear c4b0
  try clear c4b1
  obtain ⟨kq, x18_1, rfl, HA, HJ1, BK169, HB⟩ := hcut
  cases kq with
  | zero => exact absurd HA.out (by simp [spec_MemOk.j0])
  | succ kj1 =>
   have H := HA.out
   clear HA
   simp only [spec_MemOk.j0] at H
   by_cases c8 : x18_1 = true
   ·
    subst c8
    replace H := it_ H
    obtain rfl := Option.some.inj H
    go_wp2
    repeat (go_quiet (fail); try go_wp2)
    go_ret
    exact ⟨rs_, hb_ HB⟩
   obtain rfl := Bool.eq_false_iff.mpr c8
   replace H := iF_ H
   replace H' := A_ H; clear H
   go_wp2
   repeat (go_quiet (fail); try go_wp2)
   go_loopg [3] kj1 (fun kq v3 w' => ∃ (x3_2 : Int), v3 = .int .i64 x3_2 ∧ Aside0 (spec_MemOk.l0 kq x3_2 l0_0 l0_1 = some r) ∧ Aside0 (kq ≤ kj1) ∧ Aside0 (w'.heap[gb169]? = some (.cells #[(.slice A0_0 l0_0.length c0_0), (.slice A0_1 l0_1.length c0_1)] 27 (0, 0))) ∧ Aside0 (Below w.heap.size w w'))
   case atStart => exact ⟨(0), rt_, H', ⟨Nat.le_refl _⟩, ⟨bk_ BK169⟩, ⟨hb_ HB⟩⟩
   case round =>
    clear H'
    try clear c4
    try clear c4b0
    try clear c4b1
    try clear c8
    obtain ⟨x3_2, rfl, HA, HK2, BK169, HB⟩ := hrel
    cases gk with
    | zero => exact absurd HA.out (by simp [spec_MemOk.l0])
    | succ k2 =>
     have H := HA.out
     clear HA
     simp only [spec_MemOk.l0] at H
     replace H := ic_ H
     rcases H with ⟨c9b0, H⟩ | ⟨c9b0, H⟩
     ·
      replace H := ix_ H
      obtain ⟨c10b0, H⟩ := H
      replace H := bs_ H
      obtain ⟨t172, A11, H⟩ := H
      by_cases c12 : t172 = true
      ·
       subst c12
       replace H := it_ H
       replace H' := A_ H; clear H
       obtain ⟨z13_0, z13_1, y13_0, y13_1⟩ := cz2_ BK169
       obtain ⟨ad171, A171_2, c171_2, A171_4, c171_4, p171, q171, rfl, u171_0, u171_1, u171_2, u171_3, u171_4, HC171_2, HR171_2, HC171_4, HR171_4⟩ := ab_T52 HB HR0_1 x3_2
       iterate 5 (try go_wp2_with (first | (go_at_call 125; (with_reducible refine (spec_DescOk.calls k2 ((rd_T52 l0_1 x3_2).f0) ((rd_T52 l0_1 x3_2).f1) _ _ ((rd_T52 l0_1 x3_2).f2) ((rd_T52 l0_1 x3_2).f3.f0) _ _ ((rd_T52 l0_1 x3_2).f3.f1) true _ ?s1 ?s2 ?s3 ?s4 A11.out).mono ?_); (case s1 => exact cb_ (Kd.C_below HR171_2.out HB.out)); (case s2 => exact HC171_2.out); (case s3 => exact cb_ (Kd.C_below HR171_4.out HB.out)); (case s4 => exact HC171_4.out); rintro e w14 ⟨rfl, hb⟩; replace BK169 := bb_ BK169 hb; replace HB := hs_ HB hb; clear hb)); try go_quiet (first | (go_at_call 125; (with_reducible refine (spec_DescOk.calls k2 ((rd_T52 l0_1 x3_2).f0) ((rd_T52 l0_1 x3_2).f1) _ _ ((rd_T52 l0_1 x3_2).f2) ((rd_T52 l0_1 x3_2).f3.f0) _ _ ((rd_T52 l0_1 x3_2).f3.f1) true _ ?s1 ?s2 ?s3 ?s4 A11.out).mono ?_); (case s1 => exact cb_ (Kd.C_below HR171_2.out HB.out)); (case s2 => exact HC171_2.out); (case s3 => exact cb_ (Kd.C_below HR171_4.out HB.out)); (case s4 => exact HC171_4.out); rintro e w14 ⟨rfl, hb⟩; replace BK169 := bb_ BK169 hb; replace HB := hs_ HB hb; clear hb)))
       go_roundg k2
       case measure => have := HJ1.out; have := HK2.out; omega
       case rel => exact ⟨(wrap64 (x3_2 + 1)), rt_, H', ⟨by have := HJ1.out; have := HK2.out; omega⟩, ⟨bk_ BK169⟩, ⟨hb_ HB⟩⟩
      obtain rfl := Bool.eq_false_iff.mpr c12
      replace H := iF_ H
      obtain rfl := Option.some.inj H
      obtain ⟨z15_0, z15_1, y15_0, y15_1⟩ := cz2_ BK169
      obtain ⟨ad171, A171_2, c171_2, A171_4, c171_4, p171, q171, rfl, u171_0, u171_1, u171_2, u171_3, u171_4, HC171_2, HR171_2, HC171_4, HR171_4⟩ := ab_T52 HB HR0_1 x3_2
      iterate 5 (try go_wp2_with (first | (go_at_call 125; (with_reducible refine (spec_DescOk.calls k2 ((rd_T52 l0_1 x3_2).f0) ((rd_T52 l0_1 x3_2).f1) _ _ ((rd_T52 l0_1 x3_2).f2) ((rd_T52 l0_1 x3_2).f3.f0) _ _ ((rd_T52 l0_1 x3_2).f3.f1) false _ ?s1 ?s2 ?s3 ?s4 A11.out).mono ?_); (case s1 => exact cb_ (Kd.C_below HR171_2.out HB.out)); (case s2 => exact HC171_2.out); (case s3 => exact cb_ (Kd.C_below HR171_4.out HB.out)); (case s4 => exact HC171_4.out); rintro e w16 ⟨rfl, hb⟩; replace BK169 := bb_ BK169 hb; replace HB := hs_ HB hb; clear hb)); try go_quiet (first | (go_at_call 125; (with_reducible refine (spec_DescOk.calls k2 ((rd_T52 l0_1 x3_2).f0) ((rd_T52 l0_1 x3_2).f1) _ _ ((rd_T52 l0_1 x3_2).f2) ((rd_T52 l0_1 x3_2).f3.f0) _ _ ((rd_T52 l0_1 x3_2).f3.f1) false _ ?s1 ?s2 ?s3 ?s4 A11.out).mono ?_); (case s1 => exact cb_ (Kd.C_below HR171_2.out HB.out)); (case s2 => exact HC171_2.out); (case s3 => exact cb_ (Kd.C_below HR171_4.out HB.out)); (case s4 => exact HC171_4.out); rintro e w16 ⟨rfl, hb⟩; replace BK169 := bb_ BK169 hb; replace HB := hs_ HB hb; clear hb)))
      go_ret
      exact ⟨rs_, hb_ HB⟩
     replace H' := A_ H; clear H
     obtain ⟨z17_0, z17_1, y17_0, y17_1⟩ := cz2_ BK169
     go_wp2
     repeat (go_quiet (fail); try go_wp2)
     go_loopg [4] k2 (fun kq v4 w' => ∃ (x4_3 : Int), v4 = .int .i64 x4_3 ∧ Aside0 (spec_MemOk.l1 kq x4_3 l0_0 l0_1 = some r) ∧ Aside0 (kq ≤ k2) ∧ Aside0 (w'.heap[gb169]? = some (.cells #[(.slice A0_0 l0_0.length c0_0), (.slice A0_1 l0_1.length c0_1)] 27 (0, 0))) ∧ Aside0 (Below w.heap.size w w'))
     case atStart => exact ⟨(0), rt_, H', ⟨Nat.le_refl _⟩, ⟨bk_ BK169⟩, ⟨hb_ HB⟩⟩
     case round =>
      clear H'
      try clear c4
      try clear c4b0
      try clear c4b1
      try clear c8
      try clear c9b0
      try clear c10b0
      try clear c12
      try clear u171_0
      try clear u171_1
      try clear u171_2
      try clear u171_3
      try clear u171_4
      try clear p171
      try clear q171
      obtain ⟨x4_3, rfl, HA, HK3, BK169, HB⟩ := hrel
      cases gk with
      | zero => exact absurd HA.out (by simp [spec_MemOk.l1])
      | succ k3 =>
       have H := HA.out
       clear HA
       simp only [spec_MemOk.l1] at H
       replace H := ic_ H
       rcases H with ⟨c18b0, H⟩ | ⟨c18b0, H⟩
       ·
        replace H := ix_ H
        obtain ⟨c19b0, H⟩ := H
        replace H := bs_ H
        obtain ⟨t175, A20, H⟩ := H
        by_cases c21 : t175 = true
        ·
         subst c21
         replace H := it_ H
         replace H := ic_ H
         rcases H with ⟨c22b0, H⟩ | ⟨c22b0, H⟩
         ·
          obtain ⟨ji23, hji23⟩ : ∃ j_ : Int, (wrap64 (((rd_T39 l0_0 x4_3).f1) - 1)) = j_ := ⟨_, rfl⟩
          replace H : (if 0 ≤ (ji23) then (if (ji23) < (l0_1.length : Int) then ((spec_Entries.f k3 ((rd_T52 l0_1 (ji23)).f0) ((rd_T52 l0_1 (ji23)).f1) ((rd_T52 l0_1 (ji23)).f2) ((rd_T52 l0_1 (ji23)).f3.f0) ((rd_T52 l0_1 (ji23)).f3.f1) x4_3).bind fun bt177 => (if bt177.2.2.2 = true then (if ((rd_T52 l0_1 (ji23)).f0) = ((rd_T39 l0_0 x4_3).f2) then (spec_MemOk.l1 k3 (wrap64 (x4_3 + 1)) l0_0 l0_1) else (some false)) else (some false))) else (none)) else (none)) = some r := by first | (rw [hji23] at H; exact H) | (simp only [hji23] at H ⊢; exact H)
          (try rw [hji23] at A20)
          have hji23w : (IntKind.i64.wrap (((rd_T39 l0_0 x4_3).f1) - 1)) = ji23 := (i64_w _).trans hji23
          replace H := ix_ H
          obtain ⟨c24b0, H⟩ := H
          replace H := ix_ H
          obtain ⟨c25b0, H⟩ := H
          replace H := bs_ H
          obtain ⟨⟨t177, t178, t179, t180⟩, A26, H⟩ := H
          dsimp only at H
          by_cases c27 : t180 = true
          ·
           subst c27
           replace H := it_ H
           by_cases c28 : ((rd_T52 l0_1 (ji23)).f0) = ((rd_T39 l0_0 x4_3).f2)
           ·
            rw [if_pos c28] at H
            have c28b0 : (((rd_T52 l0_1 (ji23)).f0) == ((rd_T39 l0_0 x4_3).f2)) = true := beq_iff_eq.mpr c28
            have c28b1 : (((rd_T52 l0_1 (ji23)).f0) != ((rd_T39 l0_0 x4_3).f2)) = false := bne_eq_false_iff_eq.mpr c28
            clear c28
            replace H' := A_ H; clear H
            obtain ⟨z29_0, z29_1, y29_0, y29_1⟩ := cz2_ BK169
            obtain ⟨ad173, p173, q173, rfl, u173_0, u173_1, u173_2⟩ := ab_T39 HB HR0_0 x4_3
            iterate 5 (try go_wp2_with (first | ((with_reducible refine gate_dst (N := 5) rfl ?_); (try (refine gate_guard (by rfl) ?_; dsimp only)); refine bx_ HB rfl (N := 5) rfl (cs := #[.int .i64 0, .int .i64 0, .int .i64 0]) (t := 39) hr_ ?_; clear HB; intro gb174 w30 hg hb BK174 GW174 HB; have NB169_174 := ng_ BK169 hg; have NB174_169 := ns_ (ng_ BK169 hg); replace BK169 := bb_ BK169 hb; clear hb hg; have hnb31 := NB174_169.out; have hnc31 := NB169_174.out; obtain ⟨z32_0, z32_1, z32_2, y32_0, y32_1, y32_2⟩ := cz3_ BK174; obtain ⟨z33_0, z33_1, y33_0, y33_1⟩ := cz2_ BK169) | (go_at_call 126; (with_reducible refine (spec_WordOk.calls ((rd_T39 l0_0 x4_3).f0) ((rd_T39 l0_0 x4_3).f1) ((rd_T39 l0_0 x4_3).f2) (l0_1.length : Int) true _ A20.out).mono ?_); rintro e w34 ⟨rfl, hb⟩; replace BK169 := bb_ BK169 hb; replace BK174 := bq_ (o' := .cells #[.int .i64 ((rd_T39 l0_0 x4_3).f0), .int .i64 ((rd_T39 l0_0 x4_3).f1), .int .i64 ((rd_T39 l0_0 x4_3).f2)] 39 (0, 0)) BK174 hb; replace HB := hs_ HB hb; clear hb; obtain ⟨z35_0, z35_1, z35_2, y35_0, y35_1, y35_2⟩ := cz3_ BK174; obtain ⟨z36_0, z36_1, y36_0, y36_1⟩ := cz2_ BK169; have p176 : 0 ≤ ((ji23) : Int) := od_; have q176 : (ji23) < (l0_1.length : Int) := od_; obtain ⟨ad176, A176_2, c176_2, A176_4, c176_4, e176, u176_0, u176_1, u176_2, u176_3, u176_4, hl176_2, hi176_2, hl176_4, hi176_4⟩ := at_T52 HR0_1.out (ji23) p176 q176; cases e176; replace u176_0 := hx_ HB u176_0; replace u176_1 := hx_ HB u176_1; replace u176_2 := hx_ HB u176_2; replace u176_3 := hx_ HB u176_3; replace u176_4 := hx_ HB u176_4; have HR176_2 := A_ hi176_2; have HC176_2 := A_ hl176_2; clear hi176_2 hl176_2; have HR176_4 := A_ hi176_4; have HC176_4 := A_ hl176_4; clear hi176_4 hl176_4; replace p176 := eq_true p176; replace q176 := eq_true q176) | (go_at_call 127; (with_reducible refine (spec_Entries.calls k3 ((rd_T52 l0_1 (ji23)).f0) ((rd_T52 l0_1 (ji23)).f1) _ _ ((rd_T52 l0_1 (ji23)).f2) ((rd_T52 l0_1 (ji23)).f3.f0) _ _ ((rd_T52 l0_1 (ji23)).f3.f1) x4_3 t177 t178 t179 true _ ?s1 ?s2 ?s3 ?s4 A26.out).mono ?_); (case s1 => exact cb_ (Kd.C_below HR176_2.out HB.out)); (case s2 => exact HC176_2.out); (case s3 => exact cb_ (Kd.C_below HR176_4.out HB.out)); (case s4 => exact HC176_4.out); rintro e w37 ⟨rfl, hb⟩; replace BK169 := bb_ BK169 hb; replace BK174 := bb_ BK174 hb; replace HB := hs_ HB hb; clear hb) | ((with_reducible refine gate_dst (N := 6) rfl ?_); (try (refine gate_guard (by rfl) ?_; dsimp only)); refine bx_ HB rfl (N := 6) rfl (cs := #[.int .i64 0, .int .i64 0, .int .i64 0]) (t := 37) hr_ ?_; clear HB; intro gb181 w38 hg hb BK181 GW181 HB; have NB169_181 := ng_ BK169 hg; have NB181_169 := ns_ (ng_ BK169 hg); have NB174_181 := ng_ BK174 hg; have NB181_174 := ns_ (ng_ BK174 hg); replace BK169 := bb_ BK169 hb; replace BK174 := bb_ BK174 hb; clear hb hg; have hnb39 := NB181_169.out; have hnc39 := NB169_181.out; have hnb40 := NB181_174.out; have hnc40 := NB174_181.out; obtain ⟨z41_0, z41_1, z41_2, y41_0, y41_1, y41_2⟩ := cz3_ BK181; obtain ⟨z42_0, z42_1, y42_0, y42_1⟩ := cz2_ BK169; obtain ⟨z43_0, z43_1, z43_2, y43_0, y43_1, y43_2⟩ := cz3_ BK174; have p182 : 0 ≤ ((ji23) : Int) := od_; have q182 : (ji23) < (l0_1.length : Int) := od_; obtain ⟨ad182, A182_2, c182_2, A182_4, c182_4, e182, u182_0, u182_1, u182_2, u182_3, u182_4, hl182_2, hi182_2, hl182_4, hi182_4⟩ := at_T52 HR0_1.out (ji23) p182 q182; obtain rfl : ad176 = ad182 := (by injection e182); have hn182_0 : ad176.block ≠ gb181 := Nat.ne_of_lt (Nat.lt_of_lt_of_le (by have := World.block_lt_of_cell? _ _ u182_0; first | rwa [add_block] at this | exact this) GW181.out); have hn182_1 : ad176.block ≠ gb181 := Nat.ne_of_lt (Nat.lt_of_lt_of_le (by have := World.block_lt_of_cell? _ _ u182_0; first | rwa [add_block] at this | exact this) GW181.out); have hn182_2 : ad176.block ≠ gb181 := Nat.ne_of_lt (Nat.lt_of_lt_of_le (by have := World.block_lt_of_cell? _ _ u182_0; first | rwa [add_block] at this | exact this) GW181.out); replace u182_0 := hx_ HB u182_0; replace u182_1 := hx_ HB u182_1; replace u182_2 := hx_ HB u182_2; replace u182_3 := hx_ HB u182_3; replace u182_4 := hx_ HB u182_4; have HR182_2 := A_ hi182_2; have HC182_2 := A_ hl182_2; clear hi182_2 hl182_2; have HR182_4 := A_ hi182_4; have HC182_4 := A_ hl182_4; clear hi182_4 hl182_4; replace u182_0 := cf_ 0 hn182_0 (.int .i64 t177) u182_0; replace u182_1 := cf_ 0 hn182_0 (.int .i64 t177) u182_1; replace u182_2 := cf_ 0 hn182_0 (.int .i64 t177) u182_2; replace u182_3 := cf_ 0 hn182_0 (.int .i64 t177) u182_3; replace u182_4 := cf_ 0 hn182_0 (.int .i64 t177) u182_4; replace u182_0 := cf_ 1 hn182_1 (.int .i64 t178) u182_0; replace u182_1 := cf_ 1 hn182_1 (.int .i64 t178) u182_1; replace u182_2 := cf_ 1 hn182_1 (.int .i64 t178) u182_2; replace u182_3 := cf_ 1 hn182_1 (.int .i64 t178) u182_3; replace u182_4 := cf_ 1 hn182_1 (.int .i64 t178) u182_4; replace u182_0 := cf_ 2 hn182_2 (.int .i64 t179) u182_0; replace u182_1 := cf_ 2 hn182_2 (.int .i64 t179) u182_1; replace u182_2 := cf_ 2 hn182_2 (.int .i64 t179) u182_2; replace u182_3 := cf_ 2 hn182_2 (.int .i64 t179) u182_3; replace u182_4 := cf_ 2 hn182_2 (.int .i64 t179) u182_4; (try have hy182_0 := fun (n_ : Nat) => (show (((((w38.drewN n_).setCell ⟨gb181, 0, none⟩ (.int .i64 t177)).setCell ⟨gb181, 1, none⟩ (.int .i64 t178)).setCell ⟨gb181, 2, none⟩ (.int .i64 t179))).cell? _ = some _ from u182_0)); (try have hy182_1 := fun (n_ : Nat) => (show (((((w38.drewN n_).setCell ⟨gb181, 0, none⟩ (.int .i64 t177)).setCell ⟨gb181, 1, none⟩ (.int .i64 t178)).setCell ⟨gb181, 2, none⟩ (.int .i64 t179))).cell? _ = some _ from u182_1)); (try have hy182_2 := fun (n_ : Nat) => (show (((((w38.drewN n_).setCell ⟨gb181, 0, none⟩ (.int .i64 t177)).setCell ⟨gb181, 1, none⟩ (.int .i64 t178)).setCell ⟨gb181, 2, none⟩ (.int .i64 t179))).cell? _ = some _ from u182_2)); (try have hy182_3 := fun (n_ : Nat) => (show (((((w38.drewN n_).setCell ⟨gb181, 0, none⟩ (.int .i64 t177)).setCell ⟨gb181, 1, none⟩ (.int .i64 t178)).setCell ⟨gb181, 2, none⟩ (.int .i64 t179))).cell? _ = some _ from u182_3)); (try have hy182_4 := fun (n_ : Nat) => (show (((((w38.drewN n_).setCell ⟨gb181, 0, none⟩ (.int .i64 t177)).setCell ⟨gb181, 1, none⟩ (.int .i64 t178)).setCell ⟨gb181, 2, none⟩ (.int .i64 t179))).cell? _ = some _ from u182_4)); clear hn182_0; clear hn182_1; clear hn182_2; replace p182 := eq_true p182; replace q182 := eq_true q182)); try go_quiet (first | ((with_reducible refine gate_dst (N := 5) rfl ?_); (try (refine gate_guard (by rfl) ?_; dsimp only)); refine bx_ HB rfl (N := 5) rfl (cs := #[.int .i64 0, .int .i64 0, .int .i64 0]) (t := 39) hr_ ?_; clear HB; intro gb174 w30 hg hb BK174 GW174 HB; have NB169_174 := ng_ BK169 hg; have NB174_169 := ns_ (ng_ BK169 hg); replace BK169 := bb_ BK169 hb; clear hb hg; have hnb31 := NB174_169.out; have hnc31 := NB169_174.out; obtain ⟨z32_0, z32_1, z32_2, y32_0, y32_1, y32_2⟩ := cz3_ BK174; obtain ⟨z33_0, z33_1, y33_0, y33_1⟩ := cz2_ BK169) | (go_at_call 126; (with_reducible refine (spec_WordOk.calls ((rd_T39 l0_0 x4_3).f0) ((rd_T39 l0_0 x4_3).f1) ((rd_T39 l0_0 x4_3).f2) (l0_1.length : Int) true _ A20.out).mono ?_); rintro e w34 ⟨rfl, hb⟩; replace BK169 := bb_ BK169 hb; replace BK174 := bq_ (o' := .cells #[.int .i64 ((rd_T39 l0_0 x4_3).f0), .int .i64 ((rd_T39 l0_0 x4_3).f1), .int .i64 ((rd_T39 l0_0 x4_3).f2)] 39 (0, 0)) BK174 hb; replace HB := hs_ HB hb; clear hb; obtain ⟨z35_0, z35_1, z35_2, y35_0, y35_1, y35_2⟩ := cz3_ BK174; obtain ⟨z36_0, z36_1, y36_0, y36_1⟩ := cz2_ BK169; have p176 : 0 ≤ ((ji23) : Int) := od_; have q176 : (ji23) < (l0_1.length : Int) := od_; obtain ⟨ad176, A176_2, c176_2, A176_4, c176_4, e176, u176_0, u176_1, u176_2, u176_3, u176_4, hl176_2, hi176_2, hl176_4, hi176_4⟩ := at_T52 HR0_1.out (ji23) p176 q176; cases e176; replace u176_0 := hx_ HB u176_0; replace u176_1 := hx_ HB u176_1; replace u176_2 := hx_ HB u176_2; replace u176_3 := hx_ HB u176_3; replace u176_4 := hx_ HB u176_4; have HR176_2 := A_ hi176_2; have HC176_2 := A_ hl176_2; clear hi176_2 hl176_2; have HR176_4 := A_ hi176_4; have HC176_4 := A_ hl176_4; clear hi176_4 hl176_4; replace p176 := eq_true p176; replace q176 := eq_true q176) | (go_at_call 127; (with_reducible refine (spec_Entries.calls k3 ((rd_T52 l0_1 (ji23)).f0) ((rd_T52 l0_1 (ji23)).f1) _ _ ((rd_T52 l0_1 (ji23)).f2) ((rd_T52 l0_1 (ji23)).f3.f0) _ _ ((rd_T52 l0_1 (ji23)).f3.f1) x4_3 t177 t178 t179 true _ ?s1 ?s2 ?s3 ?s4 A26.out).mono ?_); (case s1 => exact cb_ (Kd.C_below HR176_2.out HB.out)); (case s2 => exact HC176_2.out); (case s3 => exact cb_ (Kd.C_below HR176_4.out HB.out)); (case s4 => exact HC176_4.out); rintro e w37 ⟨rfl, hb⟩; replace BK169 := bb_ BK169 hb; replace BK174 := bb_ BK174 hb; replace HB := hs_ HB hb; clear hb) | ((with_reducible refine gate_dst (N := 6) rfl ?_); (try (refine gate_guard (by rfl) ?_; dsimp only)); refine bx_ HB rfl (N := 6) rfl (cs := #[.int .i64 0, .int .i64 0, .int .i64 0]) (t := 37) hr_ ?_; clear HB; intro gb181 w38 hg hb BK181 GW181 HB; have NB169_181 := ng_ BK169 hg; have NB181_169 := ns_ (ng_ BK169 hg); have NB174_181 := ng_ BK174 hg; have NB181_174 := ns_ (ng_ BK174 hg); replace BK169 := bb_ BK169 hb; replace BK174 := bb_ BK174 hb; clear hb hg; have hnb39 := NB181_169.out; have hnc39 := NB169_181.out; have hnb40 := NB181_174.out; have hnc40 := NB174_181.out; obtain ⟨z41_0, z41_1, z41_2, y41_0, y41_1, y41_2⟩ := cz3_ BK181; obtain ⟨z42_0, z42_1, y42_0, y42_1⟩ := cz2_ BK169; obtain ⟨z43_0, z43_1, z43_2, y43_0, y43_1, y43_2⟩ := cz3_ BK174; have p182 : 0 ≤ ((ji23) : Int) := od_; have q182 : (ji23) < (l0_1.length : Int) := od_; obtain ⟨ad182, A182_2, c182_2, A182_4, c182_4, e182, u182_0, u182_1, u182_2, u182_3, u182_4, hl182_2, hi182_2, hl182_4, hi182_4⟩ := at_T52 HR0_1.out (ji23) p182 q182; obtain rfl : ad176 = ad182 := (by injection e182); have hn182_0 : ad176.block ≠ gb181 := Nat.ne_of_lt (Nat.lt_of_lt_of_le (by have := World.block_lt_of_cell? _ _ u182_0; first | rwa [add_block] at this | exact this) GW181.out); have hn182_1 : ad176.block ≠ gb181 := Nat.ne_of_lt (Nat.lt_of_lt_of_le (by have := World.block_lt_of_cell? _ _ u182_0; first | rwa [add_block] at this | exact this) GW181.out); have hn182_2 : ad176.block ≠ gb181 := Nat.ne_of_lt (Nat.lt_of_lt_of_le (by have := World.block_lt_of_cell? _ _ u182_0; first | rwa [add_block] at this | exact this) GW181.out); replace u182_0 := hx_ HB u182_0; replace u182_1 := hx_ HB u182_1; replace u182_2 := hx_ HB u182_2; replace u182_3 := hx_ HB u182_3; replace u182_4 := hx_ HB u182_4; have HR182_2 := A_ hi182_2; have HC182_2 := A_ hl182_2; clear hi182_2 hl182_2; have HR182_4 := A_ hi182_4; have HC182_4 := A_ hl182_4; clear hi182_4 hl182_4; replace u182_0 := cf_ 0 hn182_0 (.int .i64 t177) u182_0; replace u182_1 := cf_ 0 hn182_0 (.int .i64 t177) u182_1; replace u182_2 := cf_ 0 hn182_0 (.int .i64 t177) u182_2; replace u182_3 := cf_ 0 hn182_0 (.int .i64 t177) u182_3; replace u182_4 := cf_ 0 hn182_0 (.int .i64 t177) u182_4; replace u182_0 := cf_ 1 hn182_1 (.int .i64 t178) u182_0; replace u182_1 := cf_ 1 hn182_1 (.int .i64 t178) u182_1; replace u182_2 := cf_ 1 hn182_1 (.int .i64 t178) u182_2; replace u182_3 := cf_ 1 hn182_1 (.int .i64 t178) u182_3; replace u182_4 := cf_ 1 hn182_1 (.int .i64 t178) u182_4; replace u182_0 := cf_ 2 hn182_2 (.int .i64 t179) u182_0; replace u182_1 := cf_ 2 hn182_2 (.int .i64 t179) u182_1; replace u182_2 := cf_ 2 hn182_2 (.int .i64 t179) u182_2; replace u182_3 := cf_ 2 hn182_2 (.int .i64 t179) u182_3; replace u182_4 := cf_ 2 hn182_2 (.int .i64 t179) u182_4; (try have hy182_0 := fun (n_ : Nat) => (show (((((w38.drewN n_).setCell ⟨gb181, 0, none⟩ (.int .i64 t177)).setCell ⟨gb181, 1, none⟩ (.int .i64 t178)).setCell ⟨gb181, 2, none⟩ (.int .i64 t179))).cell? _ = some _ from u182_0)); (try have hy182_1 := fun (n_ : Nat) => (show (((((w38.drewN n_).setCell ⟨gb181, 0, none⟩ (.int .i64 t177)).setCell ⟨gb181, 1, none⟩ (.int .i64 t178)).setCell ⟨gb181, 2, none⟩ (.int .i64 t179))).cell? _ = some _ from u182_1)); (try have hy182_2 := fun (n_ : Nat) => (show (((((w38.drewN n_).setCell ⟨gb181, 0, none⟩ (.int .i64 t177)).setCell ⟨gb181, 1, none⟩ (.int .i64 t178)).setCell ⟨gb181, 2, none⟩ (.int .i64 t179))).cell? _ = some _ from u182_2)); (try have hy182_3 := fun (n_ : Nat) => (show (((((w38.drewN n_).setCell ⟨gb181, 0, none⟩ (.int .i64 t177)).setCell ⟨gb181, 1, none⟩ (.int .i64 t178)).setCell ⟨gb181, 2, none⟩ (.int .i64 t179))).cell? _ = some _ from u182_3)); (try have hy182_4 := fun (n_ : Nat) => (show (((((w38.drewN n_).setCell ⟨gb181, 0, none⟩ (.int .i64 t177)).setCell ⟨gb181, 1, none⟩ (.int .i64 t178)).setCell ⟨gb181, 2, none⟩ (.int .i64 t179))).cell? _ = some _ from u182_4)); clear hn182_0; clear hn182_1; clear hn182_2; replace p182 := eq_true p182; replace q182 := eq_true q182)))
            go_roundg k3
            case measure => have := HJ1.out; have := HK2.out; have := HK3.out; omega
            case rel => exact ⟨(wrap64 (x4_3 + 1)), rt_, H', ⟨by have := HJ1.out; have := HK2.out; have := HK3.out; omega⟩, ⟨bk_ BK169⟩, ⟨hb_ HB⟩⟩
           rw [if_neg c28] at H
           have c28b0 : (((rd_T52 l0_1 (ji23)).f0) == ((rd_T39 l0_0 x4_3).f2)) = false := beq_eq_false_iff_ne.mpr c28
           have c28b1 : (((rd_T52 l0_1 (ji23)).f0) != ((rd_T39 l0_0 x4_3).f2)) = true := bne_iff_ne.mpr c28
           obtain rfl := Option.some.inj H
           obtain ⟨z44_0, z44_1, y44_0, y44_1⟩ := cz2_ BK169
           obtain ⟨ad173, p173, q173, rfl, u173_0, u173_1, u173_2⟩ := ab_T39 HB HR0_0 x4_3
           iterate 5 (try go_wp2_with (first | ((with_reducible refine gate_dst (N := 5) rfl ?_); (try (refine gate_guard (by rfl) ?_; dsimp only)); refine bx_ HB rfl (N := 5) rfl (cs := #[.int .i64 0, .int .i64 0, .int .i64 0]) (t := 39) hr_ ?_; clear HB; intro gb174 w45 hg hb BK174 GW174 HB; have NB169_174 := ng_ BK169 hg; have NB174_169 := ns_ (ng_ BK169 hg); replace BK169 := bb_ BK169 hb; clear hb hg; have hnb46 := NB174_169.out; have hnc46 := NB169_174.out; obtain ⟨z47_0, z47_1, z47_2, y47_0, y47_1, y47_2⟩ := cz3_ BK174; obtain ⟨z48_0, z48_1, y48_0, y48_1⟩ := cz2_ BK169) | (go_at_call 126; (with_reducible refine (spec_WordOk.calls ((rd_T39 l0_0 x4_3).f0) ((rd_T39 l0_0 x4_3).f1) ((rd_T39 l0_0 x4_3).f2) (l0_1.length : Int) true _ A20.out).mono ?_); rintro e w49 ⟨rfl, hb⟩; replace BK169 := bb_ BK169 hb; replace BK174 := bq_ (o' := .cells #[.int .i64 ((rd_T39 l0_0 x4_3).f0), .int .i64 ((rd_T39 l0_0 x4_3).f1), .int .i64 ((rd_T39 l0_0 x4_3).f2)] 39 (0, 0)) BK174 hb; replace HB := hs_ HB hb; clear hb; obtain ⟨z50_0, z50_1, z50_2, y50_0, y50_1, y50_2⟩ := cz3_ BK174; obtain ⟨z51_0, z51_1, y51_0, y51_1⟩ := cz2_ BK169; have p176 : 0 ≤ ((ji23) : Int) := od_; have q176 : (ji23) < (l0_1.length : Int) := od_; obtain ⟨ad176, A176_2, c176_2, A176_4, c176_4, e176, u176_0, u176_1, u176_2, u176_3, u176_4, hl176_2, hi176_2, hl176_4, hi176_4⟩ := at_T52 HR0_1.out (ji23) p176 q176; cases e176; replace u176_0 := hx_ HB u176_0; replace u176_1 := hx_ HB u176_1; replace u176_2 := hx_ HB u176_2; replace u176_3 := hx_ HB u176_3; replace u176_4 := hx_ HB u176_4; have HR176_2 := A_ hi176_2; have HC176_2 := A_ hl176_2; clear hi176_2 hl176_2; have HR176_4 := A_ hi176_4; have HC176_4 := A_ hl176_4; clear hi176_4 hl176_4; replace p176 := eq_true p176; replace q176 := eq_true q176) | (go_at_call 127; (with_reducible refine (spec_Entries.calls k3 ((rd_T52 l0_1 (ji23)).f0) ((rd_T52 l0_1 (ji23)).f1) _ _ ((rd_T52 l0_1 (ji23)).f2) ((rd_T52 l0_1 (ji23)).f3.f0) _ _ ((rd_T52 l0_1 (ji23)).f3.f1) x4_3 t177 t178 t179 true _ ?s1 ?s2 ?s3 ?s4 A26.out).mono ?_); (case s1 => exact cb_ (Kd.C_below HR176_2.out HB.out)); (case s2 => exact HC176_2.out); (case s3 => exact cb_ (Kd.C_below HR176_4.out HB.out)); (case s4 => exact HC176_4.out); rintro e w52 ⟨rfl, hb⟩; replace BK169 := bb_ BK169 hb; replace BK174 := bb_ BK174 hb; replace HB := hs_ HB hb; clear hb) | ((with_reducible refine gate_dst (N := 6) rfl ?_); (try (refine gate_guard (by rfl) ?_; dsimp only)); refine bx_ HB rfl (N := 6) rfl (cs := #[.int .i64 0, .int .i64 0, .int .i64 0]) (t := 37) hr_ ?_; clear HB; intro gb181 w53 hg hb BK181 GW181 HB; have NB169_181 := ng_ BK169 hg; have NB181_169 := ns_ (ng_ BK169 hg); have NB174_181 := ng_ BK174 hg; have NB181_174 := ns_ (ng_ BK174 hg); replace BK169 := bb_ BK169 hb; replace BK174 := bb_ BK174 hb; clear hb hg; have hnb54 := NB181_169.out; have hnc54 := NB169_181.out; have hnb55 := NB181_174.out; have hnc55 := NB174_181.out; obtain ⟨z56_0, z56_1, z56_2, y56_0, y56_1, y56_2⟩ := cz3_ BK181; obtain ⟨z57_0, z57_1, y57_0, y57_1⟩ := cz2_ BK169; obtain ⟨z58_0, z58_1, z58_2, y58_0, y58_1, y58_2⟩ := cz3_ BK174; have p182 : 0 ≤ ((ji23) : Int) := od_; have q182 : (ji23) < (l0_1.length : Int) := od_; obtain ⟨ad182, A182_2, c182_2, A182_4, c182_4, e182, u182_0, u182_1, u182_2, u182_3, u182_4, hl182_2, hi182_2, hl182_4, hi182_4⟩ := at_T52 HR0_1.out (ji23) p182 q182; obtain rfl : ad176 = ad182 := (by injection e182); have hn182_0 : ad176.block ≠ gb181 := Nat.ne_of_lt (Nat.lt_of_lt_of_le (by have := World.block_lt_of_cell? _ _ u182_0; first | rwa [add_block] at this | exact this) GW181.out); have hn182_1 : ad176.block ≠ gb181 := Nat.ne_of_lt (Nat.lt_of_lt_of_le (by have := World.block_lt_of_cell? _ _ u182_0; first | rwa [add_block] at this | exact this) GW181.out); have hn182_2 : ad176.block ≠ gb181 := Nat.ne_of_lt (Nat.lt_of_lt_of_le (by have := World.block_lt_of_cell? _ _ u182_0; first | rwa [add_block] at this | exact this) GW181.out); replace u182_0 := hx_ HB u182_0; replace u182_1 := hx_ HB u182_1; replace u182_2 := hx_ HB u182_2; replace u182_3 := hx_ HB u182_3; replace u182_4 := hx_ HB u182_4; have HR182_2 := A_ hi182_2; have HC182_2 := A_ hl182_2; clear hi182_2 hl182_2; have HR182_4 := A_ hi182_4; have HC182_4 := A_ hl182_4; clear hi182_4 hl182_4; replace u182_0 := cf_ 0 hn182_0 (.int .i64 t177) u182_0; replace u182_1 := cf_ 0 hn182_0 (.int .i64 t177) u182_1; replace u182_2 := cf_ 0 hn182_0 (.int .i64 t177) u182_2; replace u182_3 := cf_ 0 hn182_0 (.int .i64 t177) u182_3; replace u182_4 := cf_ 0 hn182_0 (.int .i64 t177) u182_4; replace u182_0 := cf_ 1 hn182_1 (.int .i64 t178) u182_0; replace u182_1 := cf_ 1 hn182_1 (.int .i64 t178) u182_1; replace u182_2 := cf_ 1 hn182_1 (.int .i64 t178) u182_2; replace u182_3 := cf_ 1 hn182_1 (.int .i64 t178) u182_3; replace u182_4 := cf_ 1 hn182_1 (.int .i64 t178) u182_4; replace u182_0 := cf_ 2 hn182_2 (.int .i64 t179) u182_0; replace u182_1 := cf_ 2 hn182_2 (.int .i64 t179) u182_1; replace u182_2 := cf_ 2 hn182_2 (.int .i64 t179) u182_2; replace u182_3 := cf_ 2 hn182_2 (.int .i64 t179) u182_3; replace u182_4 := cf_ 2 hn182_2 (.int .i64 t179) u182_4; (try have hy182_0 := fun (n_ : Nat) => (show (((((w53.drewN n_).setCell ⟨gb181, 0, none⟩ (.int .i64 t177)).setCell ⟨gb181, 1, none⟩ (.int .i64 t178)).setCell ⟨gb181, 2, none⟩ (.int .i64 t179))).cell? _ = some _ from u182_0)); (try have hy182_1 := fun (n_ : Nat) => (show (((((w53.drewN n_).setCell ⟨gb181, 0, none⟩ (.int .i64 t177)).setCell ⟨gb181, 1, none⟩ (.int .i64 t178)).setCell ⟨gb181, 2, none⟩ (.int .i64 t179))).cell? _ = some _ from u182_1)); (try have hy182_2 := fun (n_ : Nat) => (show (((((w53.drewN n_).setCell ⟨gb181, 0, none⟩ (.int .i64 t177)).setCell ⟨gb181, 1, none⟩ (.int .i64 t178)).setCell ⟨gb181, 2, none⟩ (.int .i64 t179))).cell? _ = some _ from u182_2)); (try have hy182_3 := fun (n_ : Nat) => (show (((((w53.drewN n_).setCell ⟨gb181, 0, none⟩ (.int .i64 t177)).setCell ⟨gb181, 1, none⟩ (.int .i64 t178)).setCell ⟨gb181, 2, none⟩ (.int .i64 t179))).cell? _ = some _ from u182_3)); (try have hy182_4 := fun (n_ : Nat) => (show (((((w53.drewN n_).setCell ⟨gb181, 0, none⟩ (.int .i64 t177)).setCell ⟨gb181, 1, none⟩ (.int .i64 t178)).setCell ⟨gb181, 2, none⟩ (.int .i64 t179))).cell? _ = some _ from u182_4)); clear hn182_0; clear hn182_1; clear hn182_2; replace p182 := eq_true p182; replace q182 := eq_true q182)); try go_quiet (first | ((with_reducible refine gate_dst (N := 5) rfl ?_); (try (refine gate_guard (by rfl) ?_; dsimp only)); refine bx_ HB rfl (N := 5) rfl (cs := #[.int .i64 0, .int .i64 0, .int .i64 0]) (t := 39) hr_ ?_; clear HB; intro gb174 w45 hg hb BK174 GW174 HB; have NB169_174 := ng_ BK169 hg; have NB174_169 := ns_ (ng_ BK169 hg); replace BK169 := bb_ BK169 hb; clear hb hg; have hnb46 := NB174_169.out; have hnc46 := NB169_174.out; obtain ⟨z47_0, z47_1, z47_2, y47_0, y47_1, y47_2⟩ := cz3_ BK174; obtain ⟨z48_0, z48_1, y48_0, y48_1⟩ := cz2_ BK169) | (go_at_call 126; (with_reducible refine (spec_WordOk.calls ((rd_T39 l0_0 x4_3).f0) ((rd_T39 l0_0 x4_3).f1) ((rd_T39 l0_0 x4_3).f2) (l0_1.length : Int) true _ A20.out).mono ?_); rintro e w49 ⟨rfl, hb⟩; replace BK169 := bb_ BK169 hb; replace BK174 := bq_ (o' := .cells #[.int .i64 ((rd_T39 l0_0 x4_3).f0), .int .i64 ((rd_T39 l0_0 x4_3).f1), .int .i64 ((rd_T39 l0_0 x4_3).f2)] 39 (0, 0)) BK174 hb; replace HB := hs_ HB hb; clear hb; obtain ⟨z50_0, z50_1, z50_2, y50_0, y50_1, y50_2⟩ := cz3_ BK174; obtain ⟨z51_0, z51_1, y51_0, y51_1⟩ := cz2_ BK169; have p176 : 0 ≤ ((ji23) : Int) := od_; have q176 : (ji23) < (l0_1.length : Int) := od_; obtain ⟨ad176, A176_2, c176_2, A176_4, c176_4, e176, u176_0, u176_1, u176_2, u176_3, u176_4, hl176_2, hi176_2, hl176_4, hi176_4⟩ := at_T52 HR0_1.out (ji23) p176 q176; cases e176; replace u176_0 := hx_ HB u176_0; replace u176_1 := hx_ HB u176_1; replace u176_2 := hx_ HB u176_2; replace u176_3 := hx_ HB u176_3; replace u176_4 := hx_ HB u176_4; have HR176_2 := A_ hi176_2; have HC176_2 := A_ hl176_2; clear hi176_2 hl176_2; have HR176_4 := A_ hi176_4; have HC176_4 := A_ hl176_4; clear hi176_4 hl176_4; replace p176 := eq_true p176; replace q176 := eq_true q176) | (go_at_call 127; (with_reducible refine (spec_Entries.calls k3 ((rd_T52 l0_1 (ji23)).f0) ((rd_T52 l0_1 (ji23)).f1) _ _ ((rd_T52 l0_1 (ji23)).f2) ((rd_T52 l0_1 (ji23)).f3.f0) _ _ ((rd_T52 l0_1 (ji23)).f3.f1) x4_3 t177 t178 t179 true _ ?s1 ?s2 ?s3 ?s4 A26.out).mono ?_); (case s1 => exact cb_ (Kd.C_below HR176_2.out HB.out)); (case s2 => exact HC176_2.out); (case s3 => exact cb_ (Kd.C_below HR176_4.out HB.out)); (case s4 => exact HC176_4.out); rintro e w52 ⟨rfl, hb⟩; replace BK169 := bb_ BK169 hb; replace BK174 := bb_ BK174 hb; replace HB := hs_ HB hb; clear hb) | ((with_reducible refine gate_dst (N := 6) rfl ?_); (try (refine gate_guard (by rfl) ?_; dsimp only)); refine bx_ HB rfl (N := 6) rfl (cs := #[.int .i64 0, .int .i64 0, .int .i64 0]) (t := 37) hr_ ?_; clear HB; intro gb181 w53 hg hb BK181 GW181 HB; have NB169_181 := ng_ BK169 hg; have NB181_169 := ns_ (ng_ BK169 hg); have NB174_181 := ng_ BK174 hg; have NB181_174 := ns_ (ng_ BK174 hg); replace BK169 := bb_ BK169 hb; replace BK174 := bb_ BK174 hb; clear hb hg; have hnb54 := NB181_169.out; have hnc54 := NB169_181.out; have hnb55 := NB181_174.out; have hnc55 := NB174_181.out; obtain ⟨z56_0, z56_1, z56_2, y56_0, y56_1, y56_2⟩ := cz3_ BK181; obtain ⟨z57_0, z57_1, y57_0, y57_1⟩ := cz2_ BK169; obtain ⟨z58_0, z58_1, z58_2, y58_0, y58_1, y58_2⟩ := cz3_ BK174; have p182 : 0 ≤ ((ji23) : Int) := od_; have q182 : (ji23) < (l0_1.length : Int) := od_; obtain ⟨ad182, A182_2, c182_2, A182_4, c182_4, e182, u182_0, u182_1, u182_2, u182_3, u182_4, hl182_2, hi182_2, hl182_4, hi182_4⟩ := at_T52 HR0_1.out (ji23) p182 q182; obtain rfl : ad176 = ad182 := (by injection e182); have hn182_0 : ad176.block ≠ gb181 := Nat.ne_of_lt (Nat.lt_of_lt_of_le (by have := World.block_lt_of_cell? _ _ u182_0; first | rwa [add_block] at this | exact this) GW181.out); have hn182_1 : ad176.block ≠ gb181 := Nat.ne_of_lt (Nat.lt_of_lt_of_le (by have := World.block_lt_of_cell? _ _ u182_0; first | rwa [add_block] at this | exact this) GW181.out); have hn182_2 : ad176.block ≠ gb181 := Nat.ne_of_lt (Nat.lt_of_lt_of_le (by have := World.block_lt_of_cell? _ _ u182_0; first | rwa [add_block] at this | exact this) GW181.out); replace u182_0 := hx_ HB u182_0; replace u182_1 := hx_ HB u182_1; replace u182_2 := hx_ HB u182_2; replace u182_3 := hx_ HB u182_3; replace u182_4 := hx_ HB u182_4; have HR182_2 := A_ hi182_2; have HC182_2 := A_ hl182_2; clear hi182_2 hl182_2; have HR182_4 := A_ hi182_4; have HC182_4 := A_ hl182_4; clear hi182_4 hl182_4; replace u182_0 := cf_ 0 hn182_0 (.int .i64 t177) u182_0; replace u182_1 := cf_ 0 hn182_0 (.int .i64 t177) u182_1; replace u182_2 := cf_ 0 hn182_0 (.int .i64 t177) u182_2; replace u182_3 := cf_ 0 hn182_0 (.int .i64 t177) u182_3; replace u182_4 := cf_ 0 hn182_0 (.int .i64 t177) u182_4; replace u182_0 := cf_ 1 hn182_1 (.int .i64 t178) u182_0; replace u182_1 := cf_ 1 hn182_1 (.int .i64 t178) u182_1; replace u182_2 := cf_ 1 hn182_1 (.int .i64 t178) u182_2; replace u182_3 := cf_ 1 hn182_1 (.int .i64 t178) u182_3; replace u182_4 := cf_ 1 hn182_1 (.int .i64 t178) u182_4; replace u182_0 := cf_ 2 hn182_2 (.int .i64 t179) u182_0; replace u182_1 := cf_ 2 hn182_2 (.int .i64 t179) u182_1; replace u182_2 := cf_ 2 hn182_2 (.int .i64 t179) u182_2; replace u182_3 := cf_ 2 hn182_2 (.int .i64 t179) u182_3; replace u182_4 := cf_ 2 hn182_2 (.int .i64 t179) u182_4; (try have hy182_0 := fun (n_ : Nat) => (show (((((w53.drewN n_).setCell ⟨gb181, 0, none⟩ (.int .i64 t177)).setCell ⟨gb181, 1, none⟩ (.int .i64 t178)).setCell ⟨gb181, 2, none⟩ (.int .i64 t179))).cell? _ = some _ from u182_0)); (try have hy182_1 := fun (n_ : Nat) => (show (((((w53.drewN n_).setCell ⟨gb181, 0, none⟩ (.int .i64 t177)).setCell ⟨gb181, 1, none⟩ (.int .i64 t178)).setCell ⟨gb181, 2, none⟩ (.int .i64 t179))).cell? _ = some _ from u182_1)); (try have hy182_2 := fun (n_ : Nat) => (show (((((w53.drewN n_).setCell ⟨gb181, 0, none⟩ (.int .i64 t177)).setCell ⟨gb181, 1, none⟩ (.int .i64 t178)).setCell ⟨gb181, 2, none⟩ (.int .i64 t179))).cell? _ = some _ from u182_2)); (try have hy182_3 := fun (n_ : Nat) => (show (((((w53.drewN n_).setCell ⟨gb181, 0, none⟩ (.int .i64 t177)).setCell ⟨gb181, 1, none⟩ (.int .i64 t178)).setCell ⟨gb181, 2, none⟩ (.int .i64 t179))).cell? _ = some _ from u182_3)); (try have hy182_4 := fun (n_ : Nat) => (show (((((w53.drewN n_).setCell ⟨gb181, 0, none⟩ (.int .i64 t177)).setCell ⟨gb181, 1, none⟩ (.int .i64 t178)).setCell ⟨gb181, 2, none⟩ (.int .i64 t179))).cell? _ = some _ from u182_4)); clear hn182_0; clear hn182_1; clear hn182_2; replace p182 := eq_true p182; replace q182 := eq_true q182)))
           go_ret
           exact ⟨by first | rfl | (simp [errW_none, errW_some] <;> rfl) | (simp only [← hji23]; first | rfl | (simp [errW_none, errW_some] <;> rfl)) | (simp [*, errW_none, errW_some] <;> rfl), hb_ HB⟩
          obtain rfl := Bool.eq_false_iff.mpr c27
          replace H := iF_ H
          obtain rfl := Option.some.inj H
          obtain ⟨z59_0, z59_1, y59_0, y59_1⟩ := cz2_ BK169
          obtain ⟨ad173, p173, q173, rfl, u173_0, u173_1, u173_2⟩ := ab_T39 HB HR0_0 x4_3
          iterate 5 (try go_wp2_with (first | ((with_reducible refine gate_dst (N := 5) rfl ?_); (try (refine gate_guard (by rfl) ?_; dsimp only)); refine bx_ HB rfl (N := 5) rfl (cs := #[.int .i64 0, .int .i64 0, .int .i64 0]) (t := 39) hr_ ?_; clear HB; intro gb174 w60 hg hb BK174 GW174 HB; have NB169_174 := ng_ BK169 hg; have NB174_169 := ns_ (ng_ BK169 hg); replace BK169 := bb_ BK169 hb; clear hb hg; have hnb61 := NB174_169.out; have hnc61 := NB169_174.out; obtain ⟨z62_0, z62_1, z62_2, y62_0, y62_1, y62_2⟩ := cz3_ BK174; obtain ⟨z63_0, z63_1, y63_0, y63_1⟩ := cz2_ BK169) | (go_at_call 126; (with_reducible refine (spec_WordOk.calls ((rd_T39 l0_0 x4_3).f0) ((rd_T39 l0_0 x4_3).f1) ((rd_T39 l0_0 x4_3).f2) (l0_1.length : Int) true _ A20.out).mono ?_); rintro e w64 ⟨rfl, hb⟩; replace BK169 := bb_ BK169 hb; replace BK174 := bq_ (o' := .cells #[.int .i64 ((rd_T39 l0_0 x4_3).f0), .int .i64 ((rd_T39 l0_0 x4_3).f1), .int .i64 ((rd_T39 l0_0 x4_3).f2)] 39 (0, 0)) BK174 hb; replace HB := hs_ HB hb; clear hb; obtain ⟨z65_0, z65_1, z65_2, y65_0, y65_1, y65_2⟩ := cz3_ BK174; obtain ⟨z66_0, z66_1, y66_0, y66_1⟩ := cz2_ BK169; have p176 : 0 ≤ ((ji23) : Int) := od_; have q176 : (ji23) < (l0_1.length : Int) := od_; obtain ⟨ad176, A176_2, c176_2, A176_4, c176_4, e176, u176_0, u176_1, u176_2, u176_3, u176_4, hl176_2, hi176_2, hl176_4, hi176_4⟩ := at_T52 HR0_1.out (ji23) p176 q176; cases e176; replace u176_0 := hx_ HB u176_0; replace u176_1 := hx_ HB u176_1; replace u176_2 := hx_ HB u176_2; replace u176_3 := hx_ HB u176_3; replace u176_4 := hx_ HB u176_4; have HR176_2 := A_ hi176_2; have HC176_2 := A_ hl176_2; clear hi176_2 hl176_2; have HR176_4 := A_ hi176_4; have HC176_4 := A_ hl176_4; clear hi176_4 hl176_4; replace p176 := eq_true p176; replace q176 := eq_true q176) | (go_at_call 127; (with_reducible refine (spec_Entries.calls k3 ((rd_T52 l0_1 (ji23)).f0) ((rd_T52 l0_1 (ji23)).f1) _ _ ((rd_T52 l0_1 (ji23)).f2) ((rd_T52 l0_1 (ji23)).f3.f0) _ _ ((rd_T52 l0_1 (ji23)).f3.f1) x4_3 t177 t178 t179 false _ ?s1 ?s2 ?s3 ?s4 A26.out).mono ?_); (case s1 => exact cb_ (Kd.C_below HR176_2.out HB.out)); (case s2 => exact HC176_2.out); (case s3 => exact cb_ (Kd.C_below HR176_4.out HB.out)); (case s4 => exact HC176_4.out); rintro e w67 ⟨rfl, hb⟩; replace BK169 := bb_ BK169 hb; replace BK174 := bb_ BK174 hb; replace HB := hs_ HB hb; clear hb) | ((with_reducible refine gate_dst (N := 6) rfl ?_); (try (refine gate_guard (by rfl) ?_; dsimp only)); refine bx_ HB rfl (N := 6) rfl (cs := #[.int .i64 0, .int .i64 0, .int .i64 0]) (t := 37) hr_ ?_; clear HB; intro gb181 w68 hg hb BK181 GW181 HB; have NB169_181 := ng_ BK169 hg; have NB181_169 := ns_ (ng_ BK169 hg); have NB174_181 := ng_ BK174 hg; have NB181_174 := ns_ (ng_ BK174 hg); replace BK169 := bb_ BK169 hb; replace BK174 := bb_ BK174 hb; clear hb hg; have hnb69 := NB181_169.out; have hnc69 := NB169_181.out; have hnb70 := NB181_174.out; have hnc70 := NB174_181.out; obtain ⟨z71_0, z71_1, z71_2, y71_0, y71_1, y71_2⟩ := cz3_ BK181)); try go_quiet (first | ((with_reducible refine gate_dst (N := 5) rfl ?_); (try (refine gate_guard (by rfl) ?_; dsimp only)); refine bx_ HB rfl (N := 5) rfl (cs := #[.int .i64 0, .int .i64 0, .int .i64 0]) (t := 39) hr_ ?_; clear HB; intro gb174 w60 hg hb BK174 GW174 HB; have NB169_174 := ng_ BK169 hg; have NB174_169 := ns_ (ng_ BK169 hg); replace BK169 := bb_ BK169 hb; clear hb hg; have hnb61 := NB174_169.out; have hnc61 := NB169_174.out; obtain ⟨z62_0, z62_1, z62_2, y62_0, y62_1, y62_2⟩ := cz3_ BK174; obtain ⟨z63_0, z63_1, y63_0, y63_1⟩ := cz2_ BK169) | (go_at_call 126; (with_reducible refine (spec_WordOk.calls ((rd_T39 l0_0 x4_3).f0) ((rd_T39 l0_0 x4_3).f1) ((rd_T39 l0_0 x4_3).f2) (l0_1.length : Int) true _ A20.out).mono ?_); rintro e w64 ⟨rfl, hb⟩; replace BK169 := bb_ BK169 hb; replace BK174 := bq_ (o' := .cells #[.int .i64 ((rd_T39 l0_0 x4_3).f0), .int .i64 ((rd_T39 l0_0 x4_3).f1), .int .i64 ((rd_T39 l0_0 x4_3).f2)] 39 (0, 0)) BK174 hb; replace HB := hs_ HB hb; clear hb; obtain ⟨z65_0, z65_1, z65_2, y65_0, y65_1, y65_2⟩ := cz3_ BK174; obtain ⟨z66_0, z66_1, y66_0, y66_1⟩ := cz2_ BK169; have p176 : 0 ≤ ((ji23) : Int) := od_; have q176 : (ji23) < (l0_1.length : Int) := od_; obtain ⟨ad176, A176_2, c176_2, A176_4, c176_4, e176, u176_0, u176_1, u176_2, u176_3, u176_4, hl176_2, hi176_2, hl176_4, hi176_4⟩ := at_T52 HR0_1.out (ji23) p176 q176; cases e176; replace u176_0 := hx_ HB u176_0; replace u176_1 := hx_ HB u176_1; replace u176_2 := hx_ HB u176_2; replace u176_3 := hx_ HB u176_3; replace u176_4 := hx_ HB u176_4; have HR176_2 := A_ hi176_2; have HC176_2 := A_ hl176_2; clear hi176_2 hl176_2; have HR176_4 := A_ hi176_4; have HC176_4 := A_ hl176_4; clear hi176_4 hl176_4; replace p176 := eq_true p176; replace q176 := eq_true q176) | (go_at_call 127; (with_reducible refine (spec_Entries.calls k3 ((rd_T52 l0_1 (ji23)).f0) ((rd_T52 l0_1 (ji23)).f1) _ _ ((rd_T52 l0_1 (ji23)).f2) ((rd_T52 l0_1 (ji23)).f3.f0) _ _ ((rd_T52 l0_1 (ji23)).f3.f1) x4_3 t177 t178 t179 false _ ?s1 ?s2 ?s3 ?s4 A26.out).mono ?_); (case s1 => exact cb_ (Kd.C_below HR176_2.out HB.out)); (case s2 => exact HC176_2.out); (case s3 => exact cb_ (Kd.C_below HR176_4.out HB.out)); (case s4 => exact HC176_4.out); rintro e w67 ⟨rfl, hb⟩; replace BK169 := bb_ BK169 hb; replace BK174 := bb_ BK174 hb; replace HB := hs_ HB hb; clear hb) | ((with_reducible refine gate_dst (N := 6) rfl ?_); (try (refine gate_guard (by rfl) ?_; dsimp only)); refine bx_ HB rfl (N := 6) rfl (cs := #[.int .i64 0, .int .i64 0, .int .i64 0]) (t := 37) hr_ ?_; clear HB; intro gb181 w68 hg hb BK181 GW181 HB; have NB169_181 := ng_ BK169 hg; have NB181_169 := ns_ (ng_ BK169 hg); have NB174_181 := ng_ BK174 hg; have NB181_174 := ns_ (ng_ BK174 hg); replace BK169 := bb_ BK169 hb; replace BK174 := bb_ BK174 hb; clear hb hg; have hnb69 := NB181_169.out; have hnc69 := NB169_181.out; have hnb70 := NB181_174.out; have hnc70 := NB174_181.out; obtain ⟨z71_0, z71_1, z71_2, y71_0, y71_1, y71_2⟩ := cz3_ BK181)))
          go_ret
          exact ⟨by first | rfl | (simp [errW_none, errW_some] <;> rfl) | (simp only [← hji23]; first | rfl | (simp [errW_none, errW_some] <;> rfl)) | (simp [*, errW_none, errW_some] <;> rfl), hb_ HB⟩
         replace H' := A_ H; clear H
         obtain ⟨z72_0, z72_1, y72_0, y72_1⟩ := cz2_ BK169
         obtain ⟨ad173, p173, q173, rfl, u173_0, u173_1, u173_2⟩ := ab_T39 HB HR0_0 x4_3
         iterate 5 (try go_wp2_with (first | ((with_reducible refine gate_dst (N := 5) rfl ?_); (try (refine gate_guard (by rfl) ?_; dsimp only)); refine bx_ HB rfl (N := 5) rfl (cs := #[.int .i64 0, .int .i64 0, .int .i64 0]) (t := 39) hr_ ?_; clear HB; intro gb174 w73 hg hb BK174 GW174 HB; have NB169_174 := ng_ BK169 hg; have NB174_169 := ns_ (ng_ BK169 hg); replace BK169 := bb_ BK169 hb; clear hb hg; have hnb74 := NB174_169.out; have hnc74 := NB169_174.out; obtain ⟨z75_0, z75_1, z75_2, y75_0, y75_1, y75_2⟩ := cz3_ BK174; obtain ⟨z76_0, z76_1, y76_0, y76_1⟩ := cz2_ BK169) | (go_at_call 126; (with_reducible refine (spec_WordOk.calls ((rd_T39 l0_0 x4_3).f0) ((rd_T39 l0_0 x4_3).f1) ((rd_T39 l0_0 x4_3).f2) (l0_1.length : Int) true _ A20.out).mono ?_); rintro e w77 ⟨rfl, hb⟩; replace BK169 := bb_ BK169 hb; replace BK174 := bq_ (o' := .cells #[.int .i64 ((rd_T39 l0_0 x4_3).f0), .int .i64 ((rd_T39 l0_0 x4_3).f1), .int .i64 ((rd_T39 l0_0 x4_3).f2)] 39 (0, 0)) BK174 hb; replace HB := hs_ HB hb; clear hb; obtain ⟨z78_0, z78_1, z78_2, y78_0, y78_1, y78_2⟩ := cz3_ BK174)); try go_quiet (first | ((with_reducible refine gate_dst (N := 5) rfl ?_); (try (refine gate_guard (by rfl) ?_; dsimp only)); refine bx_ HB rfl (N := 5) rfl (cs := #[.int .i64 0, .int .i64 0, .int .i64 0]) (t := 39) hr_ ?_; clear HB; intro gb174 w73 hg hb BK174 GW174 HB; have NB169_174 := ng_ BK169 hg; have NB174_169 := ns_ (ng_ BK169 hg); replace BK169 := bb_ BK169 hb; clear hb hg; have hnb74 := NB174_169.out; have hnc74 := NB169_174.out; obtain ⟨z75_0, z75_1, z75_2, y75_0, y75_1, y75_2⟩ := cz3_ BK174; obtain ⟨z76_0, z76_1, y76_0, y76_1⟩ := cz2_ BK169) | (go_at_call 126; (with_reducible refine (spec_WordOk.calls ((rd_T39 l0_0 x4_3).f0) ((rd_T39 l0_0 x4_3).f1) ((rd_T39 l0_0 x4_3).f2) (l0_1.length : Int) true _ A20.out).mono ?_); rintro e w77 ⟨rfl, hb⟩; replace BK169 := bb_ BK169 hb; replace BK174 := bq_ (o' := .cells #[.int .i64 ((rd_T39 l0_0 x4_3).f0), .int .i64 ((rd_T39 l0_0 x4_3).f1), .int .i64 ((rd_T39 l0_0 x4_3).f2)] 39 (0, 0)) BK174 hb; replace HB := hs_ HB hb; clear hb; obtain ⟨z78_0, z78_1, z78_2, y78_0, y78_1, y78_2⟩ := cz3_ BK174)))
         go_roundg k3
         case measure => have := HJ1.out; have := HK2.out; have := HK3.out; omega
         case rel => exact ⟨(wrap64 (x4_3 + 1)), rt_, H', ⟨by have := HJ1.out; have := HK2.out; have := HK3.out; omega⟩, ⟨bk_ BK169⟩, ⟨hb_ HB⟩⟩
        obtain rfl := Bool.eq_false_iff.mpr c21
        replace H := iF_ H
        obtain rfl := Option.some.inj H
        obtain ⟨z79_0, z79_1, y79_0, y79_1⟩ := cz2_ BK169
        obtain ⟨ad173, p173, q173, rfl, u173_0, u173_1, u173_2⟩ := ab_T39 HB HR0_0 x4_3
        iterate 5 (try go_wp2_with (first | ((with_reducible refine gate_dst (N := 5) rfl ?_); (try (refine gate_guard (by rfl) ?_; dsimp only)); refine bx_ HB rfl (N := 5) rfl (cs := #[.int .i64 0, .int .i64 0, .int .i64 0]) (t := 39) hr_ ?_; clear HB; intro gb174 w80 hg hb BK174 GW174 HB; have NB169_174 := ng_ BK169 hg; have NB174_169 := ns_ (ng_ BK169 hg); replace BK169 := bb_ BK169 hb; clear hb hg; have hnb81 := NB174_169.out; have hnc81 := NB169_174.out; obtain ⟨z82_0, z82_1, z82_2, y82_0, y82_1, y82_2⟩ := cz3_ BK174; obtain ⟨z83_0, z83_1, y83_0, y83_1⟩ := cz2_ BK169) | (go_at_call 126; (with_reducible refine (spec_WordOk.calls ((rd_T39 l0_0 x4_3).f0) ((rd_T39 l0_0 x4_3).f1) ((rd_T39 l0_0 x4_3).f2) (l0_1.length : Int) false _ A20.out).mono ?_); rintro e w84 ⟨rfl, hb⟩; replace BK169 := bb_ BK169 hb; replace BK174 := bq_ (o' := .cells #[.int .i64 ((rd_T39 l0_0 x4_3).f0), .int .i64 ((rd_T39 l0_0 x4_3).f1), .int .i64 ((rd_T39 l0_0 x4_3).f2)] 39 (0, 0)) BK174 hb; replace HB := hs_ HB hb; clear hb)); try go_quiet (first | ((with_reducible refine gate_dst (N := 5) rfl ?_); (try (refine gate_guard (by rfl) ?_; dsimp only)); refine bx_ HB rfl (N := 5) rfl (cs := #[.int .i64 0, .int .i64 0, .int .i64 0]) (t := 39) hr_ ?_; clear HB; intro gb174 w80 hg hb BK174 GW174 HB; have NB169_174 := ng_ BK169 hg; have NB174_169 := ns_ (ng_ BK169 hg); replace BK169 := bb_ BK169 hb; clear hb hg; have hnb81 := NB174_169.out; have hnc81 := NB169_174.out; obtain ⟨z82_0, z82_1, z82_2, y82_0, y82_1, y82_2⟩ := cz3_ BK174; obtain ⟨z83_0, z83_1, y83_0, y83_1⟩ := cz2_ BK169) | (go_at_call 126; (with_reducible refine (spec_WordOk.calls ((rd_T39 l0_0 x4_3).f0) ((rd_T39 l0_0 x4_3).f1) ((rd_T39 l0_0 x4_3).f2) (l0_1.length : Int) false _ A20.out).mono ?_); rintro e w84 ⟨rfl, hb⟩; replace BK169 := bb_ BK169 hb; replace BK174 := bq_ (o' := .cells #[.int .i64 ((rd_T39 l0_0 x4_3).f0), .int .i64 ((rd_T39 l0_0 x4_3).f1), .int .i64 ((rd_T39 l0_0 x4_3).f2)] 39 (0, 0)) BK174 hb; replace HB := hs_ HB hb; clear hb)))
        go_ret
        exact ⟨rs_, hb_ HB⟩
       obtain rfl := Option.some.inj H
       obtain ⟨z85_0, z85_1, y85_0, y85_1⟩ := cz2_ BK169
       go_wp2
       repeat (go_quiet (fail); try go_wp2)
       go_ret
       exact ⟨rs_, hb_ HB⟩
def spec_KeyOf.l0 : Nat → Int → Int → List Int → Int → Option (Int)
 | 0, _, _, _, _ => none
 | k + 1, x1, x5, x184000, x184001 => if x5 < (x184000.length : Int) then (if 0 ≤ x5 then (if (rd x184000 x5) = x1 then (some x5) else (spec_KeyOf.l0 k x1 (wrap64 (x5 + 1)) x184000 x184001)) else (none)) else (some (-1))
def spec_KeyOf.f (k : Nat) (l0_0 : List Int) (a0_1 : Int) (a1 : Int) : Option (Int) := spec_KeyOf.l0 k a1 0 l0_0 a0_1
set_option maxHeartbeats 8000000 in
set_option maxRecDepth 100000 in
theorem spec_KeyOf.calls (k : Nat) (A0_0 : Option Addr) (c0_0 : Nat) (l0_0 : List Int) (a0_1 : Int) (a1 : Int) (r : Int) (w : World) (hr0_0 : Kd.C (Kd.int .i64) w A0_0 l0_0.length l0_0) (hc0_0 : l0_0.length ≤ c0_0) (h : spec_KeyOf.f k l0_0 a0_1 a1 = some r) :
    Calls Tryz.prog 153 #[.agg #[.slice A0_0 l0_0.length c0_0, .int .i64 a0_1], .int .i64 a1] w fun e w' => e = .returned (.int .i64 r) ∧ Below w.heap.size w w' := by
 have hu91 := Tryz.underlying91
 have HR0_0 := A_ hr0_0
 have HC0_0 := A_ hc0_0
 clear hr0_0 hc0_0
 have HB := A_ (Below.refl w.heap.size w)
 have H : (spec_KeyOf.l0 k a1 0 l0_0 a0_1) = some r := h
 clear h
 replace H' := A_ H; clear H
 go_enter Tryz.func153, Tryz.ntmps153
 go_wp2_with (first | ((with_reducible refine gate_dst (N := 2) rfl ?_); refine bx_ HB rfl (N := 2) rfl (cs := #[.slice A0_0 l0_0.length c0_0, .int .i64 a0_1]) (t := 91) hr_ ?_; clear HB; intro gb183 w3 hg hb BK183 GW183 HB; clear hb hg))
 go_loopg [5] k (fun kq v5 w' => ∃ (x5_1 : Int), v5 = .int .i64 x5_1 ∧ Aside0 (spec_KeyOf.l0 kq a1 x5_1 l0_0 a0_1 = some r) ∧ Aside0 (kq ≤ k) ∧ Aside0 (w'.heap[gb183]? = some (.cells #[(.slice A0_0 l0_0.length c0_0), .int .i64 a0_1] 91 (0, 0))) ∧ Aside0 (Below w.heap.size w w'))
 case atStart => exact ⟨(0), rt_, H', ⟨Nat.le_refl _⟩, ⟨bk_ BK183⟩, ⟨hb_ HB⟩⟩
 case round =>
  clear H'
  obtain ⟨x5_1, rfl, HA, HK1, BK183, HB⟩ := hrel
  cases gk with
  | zero => exact absurd HA.out (by simp [spec_KeyOf.l0])
  | succ k1 =>
   have H := HA.out
   clear HA
   simp only [spec_KeyOf.l0] at H
   replace H := ic_ H
   rcases H with ⟨c4b0, H⟩ | ⟨c4b0, H⟩
   ·
    replace H := ix_ H
    obtain ⟨c5b0, H⟩ := H
    by_cases c6 : (rd l0_0 x5_1) = a1
    ·
     rw [if_pos c6] at H
     have c6b0 : ((rd l0_0 x5_1) == a1) = true := beq_iff_eq.mpr c6
     have c6b1 : ((rd l0_0 x5_1) != a1) = false := bne_eq_false_iff_eq.mpr c6
     clear c6
     obtain rfl := Option.some.inj H
     obtain ⟨z7_0, z7_1, y7_0, y7_1⟩ := cz2_ BK183
     obtain ⟨ad184, p184, q184, rfl, u184_0⟩ := ab_int HB HR0_0 x5_1
     go_wp2
     go_ret
     exact ⟨rs_, hb_ HB⟩
    rw [if_neg c6] at H
    have c6b0 : ((rd l0_0 x5_1) == a1) = false := beq_eq_false_iff_ne.mpr c6
    have c6b1 : ((rd l0_0 x5_1) != a1) = true := bne_iff_ne.mpr c6
    replace H' := A_ H; clear H
    obtain ⟨z8_0, z8_1, y8_0, y8_1⟩ := cz2_ BK183
    obtain ⟨ad184, p184, q184, rfl, u184_0⟩ := ab_int HB HR0_0 x5_1
    go_wp2
    go_roundg k1
    case measure => have := HK1.out; omega
    case rel => exact ⟨(wrap64 (x5_1 + 1)), rt_, H', ⟨by have := HK1.out; omega⟩, ⟨bk_ BK183⟩, ⟨hb_ HB⟩⟩
   obtain rfl := Option.some.inj H
   obtain ⟨z9_0, z9_1, y9_0, y9_1⟩ := cz2_ BK183
   go_wp2
   go_ret
   exact ⟨rs_, hb_ HB⟩
end Go.Proofs.YtdcinhpdpoodfaaGreat.PFnExactFinished
