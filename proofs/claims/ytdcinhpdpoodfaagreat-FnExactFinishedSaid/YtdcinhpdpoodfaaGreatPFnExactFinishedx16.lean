/- Contracts of functions of the program. No condition beyond the hypotheses that each theorem names. -/
import Derived.Test.YtdcinhpdpoodfaaGreatPFnExactFinishedx0
import Derived.Test.YtdcinhpdpoodfaaGreatPFnExactFinishedx15
namespace Go.Proofs.YtdcinhpdpoodfaaGreat.PFnExactFinished
open Go.RowKit Go.Proofs.YtdcinhpdpoodfaaGreatW.PrintWords Go.Proofs.YtdcinhpdpoodfaaGreatW.PrintLast Go.Proofs.YtdcinhpdpoodfaaGreatW.PrintMore
attribute [local go_sem] max2_int min2_int max_two min_two max_three min_three max_four min_four
set_option linter.unusedVariables false
set_option linter.unusedSimpArgs false
def slices_IndexFuncMemOk_c1.l0 : Nat → List (S52) → Int → Int → Option (Int)
 | 0, _, _, _ => none
 | k + 1, x0, x7, x8 => if x8 < x7 then (if 0 ≤ x8 then (if x8 < (x0.length : Int) then ((impl_MemOk_c1.f k ((rd_T52 x0 x8).f0) ((rd_T52 x0 x8).f1) ((rd_T52 x0 x8).f2) ((rd_T52 x0 x8).f3.f0) ((rd_T52 x0 x8).f3.f1)).bind fun t434 => (if t434 = true then (some x8) else (slices_IndexFuncMemOk_c1.l0 k x0 x7 (wrap64 (x8 + 1))))) else (none)) else (none)) else (some (-1))
def slices_IndexFuncMemOk_c1.f (k : Nat) (l0 : List (S52)) : Option (Int) := slices_IndexFuncMemOk_c1.l0 k l0 (l0.length : Int) 0
set_option maxHeartbeats 8000000 in
set_option maxRecDepth 100000 in
theorem slices_IndexFuncMemOk_c1.calls (k : Nat) (A0 : Option Addr) (c0 : Nat) (l0 : List (S52)) (r : Int) (w : World) (hr0 : Kd.C k52 w A0 l0.length l0) (hc0 : l0.length ≤ c0) (h : slices_IndexFuncMemOk_c1.f k l0 = some r) :
    Calls Tryz.prog 134 #[.slice A0 l0.length c0, .func (.func 77) #[] #[]] w fun e w' => e = .returned (.int .i64 r) ∧ Below w.heap.size w w' := by
 have hu52 := Tryz.underlying52
 have HR0 := A_ hr0
 have HC0 := A_ hc0
 clear hr0 hc0
 have HB := A_ (Below.refl w.heap.size w)
 have H : (slices_IndexFuncMemOk_c1.l0 k l0 (l0.length : Int) 0) = some r := h
 clear h
 replace H' := A_ H; clear H
 go_enter Tryz.func134, Tryz.ntmps134
 go_wp2
 go_loopg [8] k (fun kq v8 w' => ∃ (x8_1 : Int), v8 = .int .i64 x8_1 ∧ Aside0 (slices_IndexFuncMemOk_c1.l0 kq l0 (l0.length : Int) x8_1 = some r) ∧ Aside0 (kq ≤ k) ∧ Aside0 (Below w.heap.size w w'))
 case atStart => exact ⟨(0), rt_, H', ⟨Nat.le_refl _⟩, ⟨hb_ HB⟩⟩
 case round =>
  clear H'
  obtain ⟨x8_1, rfl, HA, HK1, HB⟩ := hrel
  cases gk with
  | zero => exact absurd HA.out (by simp [slices_IndexFuncMemOk_c1.l0])
  | succ k1 =>
   have H := HA.out
   clear HA
   simp only [slices_IndexFuncMemOk_c1.l0] at H
   replace H := ic_ H
   rcases H with ⟨c2b0, H⟩ | ⟨c2b0, H⟩
   ·
    replace H := ix_ H
    obtain ⟨c3b0, H⟩ := H
    replace H := ix_ H
    obtain ⟨c4b0, H⟩ := H
    replace H := bs_ H
    obtain ⟨t434, A5, H⟩ := H
    by_cases c6 : t434 = true
    ·
     subst c6
     replace H := it_ H
     obtain rfl := Option.some.inj H
     obtain ⟨ad433, A433_2, c433_2, A433_4, c433_4, p433, q433, rfl, u433_0, u433_1, u433_2, u433_3, u433_4, HC433_2, HR433_2, HC433_4, HR433_4⟩ := ab_T52 HB HR0 x8_1
     go_wp2_with (first | ((with_reducible refine gate_dst (N := 16) rfl ?_); refine goesV_ (c := .tmp 11) (some 16) rfl rfl Tryz.func77 (by kernel_rfl) rfl #[.agg #[.int .i64 ((rd_T52 l0 x8_1).f0), .int .i64 ((rd_T52 l0 x8_1).f1), .slice A433_2 ((rd_T52 l0 x8_1).f2).length c433_2, .int .i64 ((rd_T52 l0 x8_1).f3.f0), .slice A433_4 ((rd_T52 l0 x8_1).f3.f1).length c433_4]] rfl rfl al_ ?_; (with_reducible refine (impl_MemOk_c1.calls k1 ((rd_T52 l0 x8_1).f0) ((rd_T52 l0 x8_1).f1) _ _ ((rd_T52 l0 x8_1).f2) ((rd_T52 l0 x8_1).f3.f0) _ _ ((rd_T52 l0 x8_1).f3.f1) true _ ?s1 ?s2 ?s3 ?s4 A5.out).mono ?_); (case s1 => exact cb_ (Kd.C_below HR433_2.out HB.out)); (case s2 => exact HC433_2.out); (case s3 => exact cb_ (Kd.C_below HR433_4.out HB.out)); (case s4 => exact HC433_4.out); rintro e w7 ⟨rfl, hb⟩; refine ⟨_, rfl, ?_⟩; replace HB := hs_ HB hb; clear hb))
     go_ret
     exact ⟨rs_, hb_ HB⟩
    obtain rfl := Bool.eq_false_iff.mpr c6
    replace H := iF_ H
    replace H' := A_ H; clear H
    obtain ⟨ad433, A433_2, c433_2, A433_4, c433_4, p433, q433, rfl, u433_0, u433_1, u433_2, u433_3, u433_4, HC433_2, HR433_2, HC433_4, HR433_4⟩ := ab_T52 HB HR0 x8_1
    go_wp2_with (first | ((with_reducible refine gate_dst (N := 16) rfl ?_); refine goesV_ (c := .tmp 11) (some 16) rfl rfl Tryz.func77 (by kernel_rfl) rfl #[.agg #[.int .i64 ((rd_T52 l0 x8_1).f0), .int .i64 ((rd_T52 l0 x8_1).f1), .slice A433_2 ((rd_T52 l0 x8_1).f2).length c433_2, .int .i64 ((rd_T52 l0 x8_1).f3.f0), .slice A433_4 ((rd_T52 l0 x8_1).f3.f1).length c433_4]] rfl rfl al_ ?_; (with_reducible refine (impl_MemOk_c1.calls k1 ((rd_T52 l0 x8_1).f0) ((rd_T52 l0 x8_1).f1) _ _ ((rd_T52 l0 x8_1).f2) ((rd_T52 l0 x8_1).f3.f0) _ _ ((rd_T52 l0 x8_1).f3.f1) false _ ?s1 ?s2 ?s3 ?s4 A5.out).mono ?_); (case s1 => exact cb_ (Kd.C_below HR433_2.out HB.out)); (case s2 => exact HC433_2.out); (case s3 => exact cb_ (Kd.C_below HR433_4.out HB.out)); (case s4 => exact HC433_4.out); rintro e w8 ⟨rfl, hb⟩; refine ⟨_, rfl, ?_⟩; replace HB := hs_ HB hb; clear hb))
    go_roundg k1
    case measure => have := HK1.out; omega
    case rel => exact ⟨(wrap64 (x8_1 + 1)), rt_, H', ⟨by have := HK1.out; omega⟩, ⟨hb_ HB⟩⟩
   obtain rfl := Option.some.inj H
   go_wp2
   go_ret
   exact ⟨rs_, hb_ HB⟩
def slices_ContainsFuncMemOk_c1.f (k : Nat) (l0 : List (S52)) : Option (Bool) := (slices_IndexFuncMemOk_c1.f k l0).bind fun t435 => (some (decide (t435 ≥ 0)))
set_option maxHeartbeats 8000000 in
set_option maxRecDepth 100000 in
theorem slices_ContainsFuncMemOk_c1.calls (k : Nat) (A0 : Option Addr) (c0 : Nat) (l0 : List (S52)) (r : Bool) (w : World) (hr0 : Kd.C k52 w A0 l0.length l0) (hc0 : l0.length ≤ c0) (h : slices_ContainsFuncMemOk_c1.f k l0 = some r) :
    Calls Tryz.prog 76 #[.slice A0 l0.length c0, .func (.func 77) #[] #[]] w fun e w' => e = .returned (.bool r) ∧ Below w.heap.size w w' := by
 have HR0 := A_ hr0
 have HC0 := A_ hc0
 clear hr0 hc0
 have HB := A_ (Below.refl w.heap.size w)
 have H : ((slices_IndexFuncMemOk_c1.f k l0).bind fun t435 => (some (decide (t435 ≥ 0)))) = some r := h
 clear h
 replace H := bs_ H
 obtain ⟨t435, A2, H⟩ := H
 obtain rfl := Option.some.inj H
 go_enter Tryz.func76, Tryz.ntmps76
 go_wp2_with (first | ((with_reducible refine gate_callee (f := 134) rfl ?_); refine goesL_ (some 7) rfl rfl Tryz.func134 (by kernel_rfl) rfl #[.slice A0 l0.length c0, .func (.func 77) #[] #[]] rfl al_ ?_; (with_reducible refine (slices_IndexFuncMemOk_c1.calls k _ _ l0 t435 _ ?s1 ?s2 A2.out).mono ?_); (case s1 => exact cb_ HR0.out); (case s2 => exact HC0.out); rintro e w3 ⟨rfl, hb⟩; refine ⟨_, rfl, ?_⟩; replace HB := hs_ HB hb; clear hb))
 go_ret
 exact ⟨rs_, hb_ HB⟩
mutual
def impl_MemOk.j0 : Nat → Bool → List (S39) → List (S52) → Option (Bool)
 | 0, _, _, _ => none
 | k + 1, x23, x437000, x437001 => if x23 = true then (some false) else (impl_MemOk.l0 k x437000 (x437000.length : Int) 0 x437000 x437001)
def impl_MemOk.l0 : Nat → List (S39) → Int → Int → List (S39) → List (S52) → Option (Bool)
 | 0, _, _, _, _, _ => none
 | k + 1, x25, x26, x27, x437000, x437001 => if x27 < x26 then (if 0 ≤ x27 then (if x27 < (x25.length : Int) then ((impl_WordOk.f ((rd_T39 x25 x27).f0) ((rd_T39 x25 x27).f1) ((rd_T39 x25 x27).f2) (x437001.length : Int)).bind fun t441 => (if t441 = true then (if ((rd_T39 x25 x27).f1) = 0 then (impl_MemOk.l0 k x25 x26 (wrap64 (x27 + 1)) x437000 x437001) else (if 0 ≤ (wrap64 (((rd_T39 x25 x27).f1) - 1)) then (if (wrap64 (((rd_T39 x25 x27).f1) - 1)) < (x437001.length : Int) then ((impl_Entries.f k ((rd_T52 x437001 (wrap64 (((rd_T39 x25 x27).f1) - 1))).f0) ((rd_T52 x437001 (wrap64 (((rd_T39 x25 x27).f1) - 1))).f1) ((rd_T52 x437001 (wrap64 (((rd_T39 x25 x27).f1) - 1))).f2) ((rd_T52 x437001 (wrap64 (((rd_T39 x25 x27).f1) - 1))).f3.f0) ((rd_T52 x437001 (wrap64 (((rd_T39 x25 x27).f1) - 1))).f3.f1) x27).bind fun bt444 => (if bt444.2.2.2 = true then (if ((rd_T52 x437001 (wrap64 (((rd_T39 x25 x27).f1) - 1))).f0) = ((rd_T39 x25 x27).f2) then (impl_MemOk.l0 k x25 x26 (wrap64 (x27 + 1)) x437000 x437001) else (some false)) else (some false))) else (none)) else (none))) else (some false))) else (none)) else (none)) else (some true)
end
def impl_MemOk.f (k : Nat) (l0_0 : List (S39)) (l0_1 : List (S52)) : Option (Bool) := if (l0_0.length : Int) = 20 then ((impl_from.f (l0_1.length : Int) 1 4).bind fun t437 => (if t437 = true then ((slices_ContainsFuncMemOk_c1.f k l0_1).bind fun t438 => (impl_MemOk.j0 k t438 l0_0 l0_1)) else (impl_MemOk.j0 k true l0_0 l0_1))) else (impl_MemOk.j0 k true l0_0 l0_1)
set_option maxHeartbeats 8000000 in
set_option maxRecDepth 100000 in
theorem impl_MemOk.calls (k : Nat) (A0_0 : Option Addr) (c0_0 : Nat) (l0_0 : List (S39)) (A0_1 : Option Addr) (c0_1 : Nat) (l0_1 : List (S52)) (r : Bool) (w : World) (hr0_0 : Kd.C k39 w A0_0 l0_0.length l0_0) (hc0_0 : l0_0.length ≤ c0_0) (hr0_1 : Kd.C k52 w A0_1 l0_1.length l0_1) (hc0_1 : l0_1.length ≤ c0_1) (h : impl_MemOk.f k l0_0 l0_1 = some r) :
    Calls Tryz.prog 22 #[.agg #[.slice A0_0 l0_0.length c0_0, .slice A0_1 l0_1.length c0_1]] w fun e w' => e = .returned (.bool r) ∧ Below w.heap.size w w' := by
 have hu27 := Tryz.underlying27
 have hu39 := Tryz.underlying39
 have hu52 := Tryz.underlying52
 have hu37 := Tryz.underlying37
 have HR0_0 := A_ hr0_0
 have HC0_0 := A_ hc0_0
 clear hr0_0 hc0_0
 have HR0_1 := A_ hr0_1
 have HC0_1 := A_ hc0_1
 clear hr0_1 hc0_1
 have HB := A_ (Below.refl w.heap.size w)
 have H : (if (l0_0.length : Int) = 20 then ((impl_from.f (l0_1.length : Int) 1 4).bind fun t437 => (if t437 = true then ((slices_ContainsFuncMemOk_c1.f k l0_1).bind fun t438 => (impl_MemOk.j0 k t438 l0_0 l0_1)) else (impl_MemOk.j0 k true l0_0 l0_1))) else (impl_MemOk.j0 k true l0_0 l0_1)) = some r := h
 clear h
 have HC2 := A_ H
 clear H
 go_enter Tryz.func22, Tryz.ntmps22
 go_upto_region 1 with (first | ((with_reducible refine gate_dst (N := 1) rfl ?_); (try (refine gate_guard (by rfl) ?_; dsimp only)); refine bx_ HB rfl (N := 1) rfl (cs := #[.slice A0_0 l0_0.length c0_0, .slice A0_1 l0_1.length c0_1]) (t := 27) hr_ ?_; clear HB; intro gb436 w3 hg hb BK436 GW436 HB; clear hb hg))
 (try simp only [Act.put, List.setIfInBounds_toArray, List.set_cons_zero, List.set_cons_succ])
 go_cut [23] (fun v23 wc => ∃ (kq : Nat) (x23_1 : Bool), v23 = .bool x23_1 ∧ Aside0 (impl_MemOk.j0 kq x23_1 l0_0 l0_1 = some r) ∧ Aside0 (kq ≤ k) ∧ Aside0 (wc.heap[gb436]? = some (.cells #[(.slice A0_0 l0_0.length c0_0), (.slice A0_1 l0_1.length c0_1)] 27 (0, 0))) ∧ Aside0 (Below w.heap.size w wc))
 case first =>
  have H := HC2.out
  clear HC2
  by_cases c4 : (l0_0.length : Int) = 20
  ·
   rw [if_pos c4] at H
   have c4b0 : ((l0_0.length : Int) == 20) = true := beq_iff_eq.mpr c4
   have c4b1 : ((l0_0.length : Int) != 20) = false := bne_eq_false_iff_eq.mpr c4
   clear c4
   (first | rw [c4b0] | (simp only [i64_w, i32_w]; rw [c4b0]) | skip)
   replace H := bs_ H
   obtain ⟨t437, A5, H⟩ := H
   by_cases c6 : t437 = true
   ·
    subst c6
    replace H := it_ H
    replace H := bs_ H
    obtain ⟨t438, A7, H⟩ := H
    replace H' := A_ H; clear H
    obtain ⟨z8_0, z8_1, y8_0, y8_1⟩ := cz2_ BK436
    go_wp2_with (first | (go_at_call 62; (with_reducible refine (impl_from.calls (l0_1.length : Int) 1 4 true _ A5.out).mono ?_); rintro e w' ⟨rfl, ⟨nd, rfl⟩⟩) | (go_at_call 76; (with_reducible refine (slices_ContainsFuncMemOk_c1.calls k _ _ l0_1 t438 _ ?s1 ?s2 A7.out).mono ?_); (case s1 => exact cb_ (Kd.C_below HR0_1.out (hb_ HB))); (case s2 => exact HC0_1.out); rintro e w9 ⟨rfl, hb⟩; replace BK436 := bb_ BK436 hb; replace HB := hs_ HB hb; clear hb))
    go_meet
    case rel => exact ⟨_, (t438), rt_, H', ⟨by first | omega | exact Nat.le_refl _⟩, ⟨bk_ BK436⟩, ⟨hb_ HB⟩⟩
   obtain rfl := Bool.eq_false_iff.mpr c6
   replace H := iF_ H
   replace H' := A_ H; clear H
   obtain ⟨z10_0, z10_1, y10_0, y10_1⟩ := cz2_ BK436
   go_wp2_with (first | (go_at_call 62; (with_reducible refine (impl_from.calls (l0_1.length : Int) 1 4 false _ A5.out).mono ?_); rintro e w' ⟨rfl, ⟨nd, rfl⟩⟩))
   go_meet
   case rel => exact ⟨_, (true), rt_, H', ⟨by first | omega | exact Nat.le_refl _⟩, ⟨bk_ BK436⟩, ⟨hb_ HB⟩⟩
  rw [if_neg c4] at H
  have c4b0 : ((l0_0.length : Int) == 20) = false := beq_eq_false_iff_ne.mpr c4
  have c4b1 : ((l0_0.length : Int) != 20) = true := bne_iff_ne.mpr c4
  (first | rw [c4b0] | (simp only [i64_w, i32_w]; rw [c4b0]) | skip)
  replace H' := A_ H; clear H
  obtain ⟨z11_0, z11_1, y11_0, y11_1⟩ := cz2_ BK436
  go_wp2
  go_meet
  case rel => exact ⟨_, (true), rt_, H', ⟨by first | omega | exact Nat.le_refl _⟩, ⟨bk_ BK436⟩, ⟨hb_ HB⟩⟩
 case rest =>
  clear HC2
  try clear c4
  try clear c4b0
  try clear c4b1
  try clear c6
  obtain ⟨kq, x23_1, rfl, HA, HJ1, BK436, HB⟩ := hcut
  cases kq with
  | zero => exact absurd HA.out (by simp [impl_MemOk.j0])
  | succ kj1 =>
   have H := HA.out
   clear HA
   simp only [impl_MemOk.j0] at H
   by_cases c12 : x23_1 = true
   ·
    subst c12
    replace H := it_ H
    obtain rfl := Option.some.inj H
    go_wp2
    go_ret
    exact ⟨rs_, hb_ HB⟩
   obtain rfl := Bool.eq_false_iff.mpr c12
   replace H := iF_ H
   replace H' := A_ H; clear H
   obtain ⟨z13_0, z13_1, y13_0, y13_1⟩ := cz2_ BK436
   go_wp2
   go_loopg [27] kj1 (fun kq v27 w' => ∃ (x27_2 : Int), v27 = .int .i64 x27_2 ∧ Aside0 (impl_MemOk.l0 kq l0_0 (l0_0.length : Int) x27_2 l0_0 l0_1 = some r) ∧ Aside0 (kq ≤ kj1) ∧ Aside0 (w'.heap[gb436]? = some (.cells #[(.slice A0_0 l0_0.length c0_0), (.slice A0_1 l0_1.length c0_1)] 27 (0, 0))) ∧ Aside0 (Below w.heap.size w w'))
   case atStart => exact ⟨(0), rt_, H', ⟨Nat.le_refl _⟩, ⟨bk_ BK436⟩, ⟨hb_ HB⟩⟩
   case round =>
    clear H'
    try clear c4
    try clear c4b0
    try clear c4b1
    try clear c6
    try clear c12
    obtain ⟨x27_2, rfl, HA, HK2, BK436, HB⟩ := hrel
    cases gk with
    | zero => exact absurd HA.out (by simp [impl_MemOk.l0])
    | succ k2 =>
     have H := HA.out
     clear HA
     simp only [impl_MemOk.l0] at H
     replace H := ic_ H
     rcases H with ⟨c14b0, H⟩ | ⟨c14b0, H⟩
     ·
      replace H := ix_ H
      obtain ⟨c15b0, H⟩ := H
      replace H := ix_ H
      obtain ⟨c16b0, H⟩ := H
      replace H := bs_ H
      obtain ⟨t441, A17, H⟩ := H
      by_cases c18 : t441 = true
      ·
       subst c18
       replace H := it_ H
       by_cases c19 : ((rd_T39 l0_0 x27_2).f1) = 0
       ·
        rw [if_pos c19] at H
        have c19b0 : (((rd_T39 l0_0 x27_2).f1) == 0) = true := beq_iff_eq.mpr c19
        have c19b1 : (((rd_T39 l0_0 x27_2).f1) != 0) = false := bne_eq_false_iff_eq.mpr c19
        clear c19
        replace H' := A_ H; clear H
        obtain ⟨ad439, p439, q439, rfl, u439_0, u439_1, u439_2⟩ := ab_T39 HB HR0_0 x27_2
        go_wp2_with (first | ((with_reducible refine gate_dst (N := 4) rfl ?_); (try (refine gate_guard (by rfl) ?_; dsimp only)); refine bx_ HB rfl (N := 4) rfl (cs := #[.int .i64 0, .int .i64 0, .int .i64 0]) (t := 39) hr_ ?_; clear HB; intro gb440 w20 hg hb BK440 GW440 HB; have NB436_440 := ng_ BK436 hg; have NB440_436 := ns_ (ng_ BK436 hg); replace BK436 := bb_ BK436 hb; clear hb hg; have hnb21 := NB440_436.out; have hnc21 := NB436_440.out; obtain ⟨z22_0, z22_1, z22_2, y22_0, y22_1, y22_2⟩ := cz3_ BK440; obtain ⟨z23_0, z23_1, y23_0, y23_1⟩ := cz2_ BK436) | ((with_reducible refine gate_callee (f := 79) rfl ?_); refine goesL_ (some 36) rfl rfl Tryz.func79 (by kernel_rfl) rfl #[.agg #[.int .i64 ((rd_T39 l0_0 x27_2).f0), .int .i64 ((rd_T39 l0_0 x27_2).f1), .int .i64 ((rd_T39 l0_0 x27_2).f2)], .int .i64 (l0_1.length : Int)] rfl al_ ?_; (with_reducible refine (impl_WordOk.calls ((rd_T39 l0_0 x27_2).f0) ((rd_T39 l0_0 x27_2).f1) ((rd_T39 l0_0 x27_2).f2) (l0_1.length : Int) true _ A17.out).mono ?_); rintro e w24 ⟨rfl, hb⟩; refine ⟨_, rfl, ?_⟩; replace BK436 := bb_ BK436 hb; replace BK440 := bq_ (o' := .cells #[.int .i64 ((rd_T39 l0_0 x27_2).f0), .int .i64 ((rd_T39 l0_0 x27_2).f1), .int .i64 ((rd_T39 l0_0 x27_2).f2)] 39 (0, 0)) BK440 hb; replace HB := hs_ HB hb; clear hb; obtain ⟨z25_0, z25_1, z25_2, y25_0, y25_1, y25_2⟩ := cz3_ BK440))
        go_roundg k2
        case measure => have := HJ1.out; have := HK2.out; omega
        case rel => exact ⟨(wrap64 (x27_2 + 1)), rt_, H', ⟨by have := HJ1.out; have := HK2.out; omega⟩, ⟨bk_ BK436⟩, ⟨hb_ HB⟩⟩
       rw [if_neg c19] at H
       have c19b0 : (((rd_T39 l0_0 x27_2).f1) == 0) = false := beq_eq_false_iff_ne.mpr c19
       have c19b1 : (((rd_T39 l0_0 x27_2).f1) != 0) = true := bne_iff_ne.mpr c19
       obtain ⟨ji26, hji26⟩ : ∃ j_ : Int, (wrap64 (((rd_T39 l0_0 x27_2).f1) - 1)) = j_ := ⟨_, rfl⟩
       replace H : (if 0 ≤ (ji26) then (if (ji26) < (l0_1.length : Int) then ((impl_Entries.f k2 ((rd_T52 l0_1 (ji26)).f0) ((rd_T52 l0_1 (ji26)).f1) ((rd_T52 l0_1 (ji26)).f2) ((rd_T52 l0_1 (ji26)).f3.f0) ((rd_T52 l0_1 (ji26)).f3.f1) x27_2).bind fun bt444 => (if bt444.2.2.2 = true then (if ((rd_T52 l0_1 (ji26)).f0) = ((rd_T39 l0_0 x27_2).f2) then (impl_MemOk.l0 k2 l0_0 (l0_0.length : Int) (wrap64 (x27_2 + 1)) l0_0 l0_1) else (some false)) else (some false))) else (none)) else (none)) = some r := by first | (rw [hji26] at H; exact H) | (simp only [hji26] at H ⊢; exact H)
       (try rw [hji26] at A17)
       have hji26w : (IntKind.i64.wrap (((rd_T39 l0_0 x27_2).f1) - 1)) = ji26 := (i64_w _).trans hji26
       replace H := ix_ H
       obtain ⟨c27b0, H⟩ := H
       replace H := ix_ H
       obtain ⟨c28b0, H⟩ := H
       replace H := bs_ H
       obtain ⟨⟨t444, t445, t446, t447⟩, A29, H⟩ := H
       dsimp only at H
       by_cases c30 : t447 = true
       ·
        subst c30
        replace H := it_ H
        by_cases c31 : ((rd_T52 l0_1 (ji26)).f0) = ((rd_T39 l0_0 x27_2).f2)
        ·
         rw [if_pos c31] at H
         have c31b0 : (((rd_T52 l0_1 (ji26)).f0) == ((rd_T39 l0_0 x27_2).f2)) = true := beq_iff_eq.mpr c31
         have c31b1 : (((rd_T52 l0_1 (ji26)).f0) != ((rd_T39 l0_0 x27_2).f2)) = false := bne_eq_false_iff_eq.mpr c31
         clear c31
         replace H' := A_ H; clear H
         obtain ⟨ad439, p439, q439, rfl, u439_0, u439_1, u439_2⟩ := ab_T39 HB HR0_0 x27_2
         go_wp2_with (first | ((with_reducible refine gate_dst (N := 4) rfl ?_); (try (refine gate_guard (by rfl) ?_; dsimp only)); refine bx_ HB rfl (N := 4) rfl (cs := #[.int .i64 0, .int .i64 0, .int .i64 0]) (t := 39) hr_ ?_; clear HB; intro gb440 w32 hg hb BK440 GW440 HB; have NB436_440 := ng_ BK436 hg; have NB440_436 := ns_ (ng_ BK436 hg); replace BK436 := bb_ BK436 hb; clear hb hg; have hnb33 := NB440_436.out; have hnc33 := NB436_440.out; obtain ⟨z34_0, z34_1, z34_2, y34_0, y34_1, y34_2⟩ := cz3_ BK440; obtain ⟨z35_0, z35_1, y35_0, y35_1⟩ := cz2_ BK436) | ((with_reducible refine gate_callee (f := 79) rfl ?_); refine goesL_ (some 36) rfl rfl Tryz.func79 (by kernel_rfl) rfl #[.agg #[.int .i64 ((rd_T39 l0_0 x27_2).f0), .int .i64 ((rd_T39 l0_0 x27_2).f1), .int .i64 ((rd_T39 l0_0 x27_2).f2)], .int .i64 (l0_1.length : Int)] rfl al_ ?_; (with_reducible refine (impl_WordOk.calls ((rd_T39 l0_0 x27_2).f0) ((rd_T39 l0_0 x27_2).f1) ((rd_T39 l0_0 x27_2).f2) (l0_1.length : Int) true _ A17.out).mono ?_); rintro e w36 ⟨rfl, hb⟩; refine ⟨_, rfl, ?_⟩; replace BK436 := bb_ BK436 hb; replace BK440 := bq_ (o' := .cells #[.int .i64 ((rd_T39 l0_0 x27_2).f0), .int .i64 ((rd_T39 l0_0 x27_2).f1), .int .i64 ((rd_T39 l0_0 x27_2).f2)] 39 (0, 0)) BK440 hb; replace HB := hs_ HB hb; clear hb; obtain ⟨z37_0, z37_1, z37_2, y37_0, y37_1, y37_2⟩ := cz3_ BK440; obtain ⟨z38_0, z38_1, y38_0, y38_1⟩ := cz2_ BK436; have p442 : 0 ≤ ((ji26) : Int) := od_; have q442 : (ji26) < (l0_1.length : Int) := od_; obtain ⟨ad442, A442_2, c442_2, A442_4, c442_4, e442, u442_0, u442_1, u442_2, u442_3, u442_4, hl442_2, hi442_2, hl442_4, hi442_4⟩ := at_T52 HR0_1.out (ji26) p442 q442; cases e442; replace u442_0 := hx_ HB u442_0; replace u442_1 := hx_ HB u442_1; replace u442_2 := hx_ HB u442_2; replace u442_3 := hx_ HB u442_3; replace u442_4 := hx_ HB u442_4; have HR442_2 := A_ hi442_2; have HC442_2 := A_ hl442_2; clear hi442_2 hl442_2; have HR442_4 := A_ hi442_4; have HC442_4 := A_ hl442_4; clear hi442_4 hl442_4; replace p442 := eq_true p442; replace q442 := eq_true q442) | ((with_reducible refine gate_dst (N := 5) rfl ?_); (try (refine gate_guard (by rfl) ?_; dsimp only)); refine bx_ HB rfl (N := 5) rfl (cs := #[.int .i64 0, .int .i64 0, .slice none 0 0, .int .i64 0, .slice none 0 0]) (t := 52) hr_ ?_; clear HB; intro gb443 w39 hg hb BK443 GW443 HB; have NB436_443 := ng_ BK436 hg; have NB443_436 := ns_ (ng_ BK436 hg); have NB440_443 := ng_ BK440 hg; have NB443_440 := ns_ (ng_ BK440 hg); replace BK436 := bb_ BK436 hb; replace BK440 := bb_ BK440 hb; clear hb hg; have hnb40 := NB443_436.out; have hnc40 := NB436_443.out; have hnb41 := NB443_440.out; have hnc41 := NB440_443.out; obtain ⟨z42_0, z42_1, z42_2, z42_3, z42_4, y42_0, y42_1, y42_2, y42_3, y42_4⟩ := cz5_ BK443) | ((with_reducible refine gate_callee (f := 23) rfl ?_); refine goesL_ (some 51) rfl rfl Tryz.func23 (by kernel_rfl) rfl #[.agg #[.int .i64 ((rd_T52 l0_1 (ji26)).f0), .int .i64 ((rd_T52 l0_1 (ji26)).f1), .slice A442_2 ((rd_T52 l0_1 (ji26)).f2).length c442_2, .int .i64 ((rd_T52 l0_1 (ji26)).f3.f0), .slice A442_4 ((rd_T52 l0_1 (ji26)).f3.f1).length c442_4], .int .i64 x27_2] rfl (by (try simp only [List.map_toArray, List.map_cons, List.map_nil]); first | done | (simp only [hji26]; rfl) | rfl | (simp only [List.length_drop, List.length_take]; rfl)) ?_; (with_reducible refine (impl_Entries.calls k2 ((rd_T52 l0_1 (ji26)).f0) ((rd_T52 l0_1 (ji26)).f1) _ _ ((rd_T52 l0_1 (ji26)).f2) ((rd_T52 l0_1 (ji26)).f3.f0) _ _ ((rd_T52 l0_1 (ji26)).f3.f1) x27_2 t444 t445 t446 true _ ?s1 ?s2 ?s3 ?s4 A29.out).mono ?_); (case s1 => exact Kd.C_below HR442_2.out (hb_ HB)); (case s2 => exact HC442_2.out); (case s3 => exact Kd.C_below HR442_4.out (hb_ HB)); (case s4 => exact HC442_4.out); rintro e w43 ⟨rfl, hb⟩; refine ⟨_, rfl, ?_⟩; replace BK436 := bb_ BK436 hb; replace BK440 := bb_ BK440 hb; replace BK443 := bq_ (o' := .cells #[.int .i64 ((rd_T52 l0_1 (ji26)).f0), .int .i64 ((rd_T52 l0_1 (ji26)).f1), .slice A442_2 ((rd_T52 l0_1 (ji26)).f2).length c442_2, .int .i64 ((rd_T52 l0_1 (ji26)).f3.f0), .slice A442_4 ((rd_T52 l0_1 (ji26)).f3.f1).length c442_4] 52 (0, 0)) BK443 hb; replace HB := hs_ HB hb; clear hb) | ((with_reducible refine gate_dst (N := 6) rfl ?_); (try (refine gate_guard (by rfl) ?_; dsimp only)); refine bx_ HB rfl (N := 6) rfl (cs := #[.int .i64 0, .int .i64 0, .int .i64 0]) (t := 37) hr_ ?_; clear HB; intro gb448 w44 hg hb BK448 GW448 HB; have NB436_448 := ng_ BK436 hg; have NB448_436 := ns_ (ng_ BK436 hg); have NB440_448 := ng_ BK440 hg; have NB448_440 := ns_ (ng_ BK440 hg); have NB443_448 := ng_ BK443 hg; have NB448_443 := ns_ (ng_ BK443 hg); replace BK436 := bb_ BK436 hb; replace BK440 := bb_ BK440 hb; replace BK443 := bb_ BK443 hb; clear hb hg; have hnb45 := NB448_436.out; have hnc45 := NB436_448.out; have hnb46 := NB448_440.out; have hnc46 := NB440_448.out; have hnb47 := NB448_443.out; have hnc47 := NB443_448.out; obtain ⟨z48_0, z48_1, z48_2, y48_0, y48_1, y48_2⟩ := cz3_ BK448; obtain ⟨z49_0, z49_1, z49_2, z49_3, z49_4, y49_0, y49_1, y49_2, y49_3, y49_4⟩ := cz5_ BK443; obtain ⟨z50_0, z50_1, z50_2, y50_0, y50_1, y50_2⟩ := cz3_ BK440))
         go_roundg k2
         case measure => have := HJ1.out; have := HK2.out; omega
         case rel => exact ⟨(wrap64 (x27_2 + 1)), rt_, H', ⟨by have := HJ1.out; have := HK2.out; omega⟩, ⟨bk_ BK436⟩, ⟨hb_ HB⟩⟩
        rw [if_neg c31] at H
        have c31b0 : (((rd_T52 l0_1 (ji26)).f0) == ((rd_T39 l0_0 x27_2).f2)) = false := beq_eq_false_iff_ne.mpr c31
        have c31b1 : (((rd_T52 l0_1 (ji26)).f0) != ((rd_T39 l0_0 x27_2).f2)) = true := bne_iff_ne.mpr c31
        obtain rfl := Option.some.inj H
        obtain ⟨ad439, p439, q439, rfl, u439_0, u439_1, u439_2⟩ := ab_T39 HB HR0_0 x27_2
        go_wp2_with (first | ((with_reducible refine gate_dst (N := 4) rfl ?_); (try (refine gate_guard (by rfl) ?_; dsimp only)); refine bx_ HB rfl (N := 4) rfl (cs := #[.int .i64 0, .int .i64 0, .int .i64 0]) (t := 39) hr_ ?_; clear HB; intro gb440 w51 hg hb BK440 GW440 HB; have NB436_440 := ng_ BK436 hg; have NB440_436 := ns_ (ng_ BK436 hg); replace BK436 := bb_ BK436 hb; clear hb hg; have hnb52 := NB440_436.out; have hnc52 := NB436_440.out; obtain ⟨z53_0, z53_1, z53_2, y53_0, y53_1, y53_2⟩ := cz3_ BK440; obtain ⟨z54_0, z54_1, y54_0, y54_1⟩ := cz2_ BK436) | ((with_reducible refine gate_callee (f := 79) rfl ?_); refine goesL_ (some 36) rfl rfl Tryz.func79 (by kernel_rfl) rfl #[.agg #[.int .i64 ((rd_T39 l0_0 x27_2).f0), .int .i64 ((rd_T39 l0_0 x27_2).f1), .int .i64 ((rd_T39 l0_0 x27_2).f2)], .int .i64 (l0_1.length : Int)] rfl al_ ?_; (with_reducible refine (impl_WordOk.calls ((rd_T39 l0_0 x27_2).f0) ((rd_T39 l0_0 x27_2).f1) ((rd_T39 l0_0 x27_2).f2) (l0_1.length : Int) true _ A17.out).mono ?_); rintro e w55 ⟨rfl, hb⟩; refine ⟨_, rfl, ?_⟩; replace BK436 := bb_ BK436 hb; replace BK440 := bq_ (o' := .cells #[.int .i64 ((rd_T39 l0_0 x27_2).f0), .int .i64 ((rd_T39 l0_0 x27_2).f1), .int .i64 ((rd_T39 l0_0 x27_2).f2)] 39 (0, 0)) BK440 hb; replace HB := hs_ HB hb; clear hb; obtain ⟨z56_0, z56_1, z56_2, y56_0, y56_1, y56_2⟩ := cz3_ BK440; obtain ⟨z57_0, z57_1, y57_0, y57_1⟩ := cz2_ BK436; have p442 : 0 ≤ ((ji26) : Int) := od_; have q442 : (ji26) < (l0_1.length : Int) := od_; obtain ⟨ad442, A442_2, c442_2, A442_4, c442_4, e442, u442_0, u442_1, u442_2, u442_3, u442_4, hl442_2, hi442_2, hl442_4, hi442_4⟩ := at_T52 HR0_1.out (ji26) p442 q442; cases e442; replace u442_0 := hx_ HB u442_0; replace u442_1 := hx_ HB u442_1; replace u442_2 := hx_ HB u442_2; replace u442_3 := hx_ HB u442_3; replace u442_4 := hx_ HB u442_4; have HR442_2 := A_ hi442_2; have HC442_2 := A_ hl442_2; clear hi442_2 hl442_2; have HR442_4 := A_ hi442_4; have HC442_4 := A_ hl442_4; clear hi442_4 hl442_4; replace p442 := eq_true p442; replace q442 := eq_true q442) | ((with_reducible refine gate_dst (N := 5) rfl ?_); (try (refine gate_guard (by rfl) ?_; dsimp only)); refine bx_ HB rfl (N := 5) rfl (cs := #[.int .i64 0, .int .i64 0, .slice none 0 0, .int .i64 0, .slice none 0 0]) (t := 52) hr_ ?_; clear HB; intro gb443 w58 hg hb BK443 GW443 HB; have NB436_443 := ng_ BK436 hg; have NB443_436 := ns_ (ng_ BK436 hg); have NB440_443 := ng_ BK440 hg; have NB443_440 := ns_ (ng_ BK440 hg); replace BK436 := bb_ BK436 hb; replace BK440 := bb_ BK440 hb; clear hb hg; have hnb59 := NB443_436.out; have hnc59 := NB436_443.out; have hnb60 := NB443_440.out; have hnc60 := NB440_443.out; obtain ⟨z61_0, z61_1, z61_2, z61_3, z61_4, y61_0, y61_1, y61_2, y61_3, y61_4⟩ := cz5_ BK443) | ((with_reducible refine gate_callee (f := 23) rfl ?_); refine goesL_ (some 51) rfl rfl Tryz.func23 (by kernel_rfl) rfl #[.agg #[.int .i64 ((rd_T52 l0_1 (ji26)).f0), .int .i64 ((rd_T52 l0_1 (ji26)).f1), .slice A442_2 ((rd_T52 l0_1 (ji26)).f2).length c442_2, .int .i64 ((rd_T52 l0_1 (ji26)).f3.f0), .slice A442_4 ((rd_T52 l0_1 (ji26)).f3.f1).length c442_4], .int .i64 x27_2] rfl (by (try simp only [List.map_toArray, List.map_cons, List.map_nil]); first | done | (simp only [hji26]; rfl) | rfl | (simp only [List.length_drop, List.length_take]; rfl)) ?_; (with_reducible refine (impl_Entries.calls k2 ((rd_T52 l0_1 (ji26)).f0) ((rd_T52 l0_1 (ji26)).f1) _ _ ((rd_T52 l0_1 (ji26)).f2) ((rd_T52 l0_1 (ji26)).f3.f0) _ _ ((rd_T52 l0_1 (ji26)).f3.f1) x27_2 t444 t445 t446 true _ ?s1 ?s2 ?s3 ?s4 A29.out).mono ?_); (case s1 => exact Kd.C_below HR442_2.out (hb_ HB)); (case s2 => exact HC442_2.out); (case s3 => exact Kd.C_below HR442_4.out (hb_ HB)); (case s4 => exact HC442_4.out); rintro e w62 ⟨rfl, hb⟩; refine ⟨_, rfl, ?_⟩; replace BK436 := bb_ BK436 hb; replace BK440 := bb_ BK440 hb; replace BK443 := bq_ (o' := .cells #[.int .i64 ((rd_T52 l0_1 (ji26)).f0), .int .i64 ((rd_T52 l0_1 (ji26)).f1), .slice A442_2 ((rd_T52 l0_1 (ji26)).f2).length c442_2, .int .i64 ((rd_T52 l0_1 (ji26)).f3.f0), .slice A442_4 ((rd_T52 l0_1 (ji26)).f3.f1).length c442_4] 52 (0, 0)) BK443 hb; replace HB := hs_ HB hb; clear hb) | ((with_reducible refine gate_dst (N := 6) rfl ?_); (try (refine gate_guard (by rfl) ?_; dsimp only)); refine bx_ HB rfl (N := 6) rfl (cs := #[.int .i64 0, .int .i64 0, .int .i64 0]) (t := 37) hr_ ?_; clear HB; intro gb448 w63 hg hb BK448 GW448 HB; have NB436_448 := ng_ BK436 hg; have NB448_436 := ns_ (ng_ BK436 hg); have NB440_448 := ng_ BK440 hg; have NB448_440 := ns_ (ng_ BK440 hg); have NB443_448 := ng_ BK443 hg; have NB448_443 := ns_ (ng_ BK443 hg); replace BK436 := bb_ BK436 hb; replace BK440 := bb_ BK440 hb; replace BK443 := bb_ BK443 hb; clear hb hg; have hnb64 := NB448_436.out; have hnc64 := NB436_448.out; have hnb65 := NB448_440.out; have hnc65 := NB440_448.out; have hnb66 := NB448_443.out; have hnc66 := NB443_448.out; obtain ⟨z67_0, z67_1, z67_2, y67_0, y67_1, y67_2⟩ := cz3_ BK448; obtain ⟨z68_0, z68_1, z68_2, z68_3, z68_4, y68_0, y68_1, y68_2, y68_3, y68_4⟩ := cz5_ BK443; obtain ⟨z69_0, z69_1, z69_2, y69_0, y69_1, y69_2⟩ := cz3_ BK440))
        go_ret
        exact ⟨by first | rfl | (simp [errW_none, errW_some] <;> rfl) | (simp only [← hji26]; first | rfl | (simp [errW_none, errW_some] <;> rfl)) | (simp [*, errW_none, errW_some] <;> rfl), hb_ HB⟩
       obtain rfl := Bool.eq_false_iff.mpr c30
       replace H := iF_ H
       obtain rfl := Option.some.inj H
       obtain ⟨ad439, p439, q439, rfl, u439_0, u439_1, u439_2⟩ := ab_T39 HB HR0_0 x27_2
       go_wp2_with (first | ((with_reducible refine gate_dst (N := 4) rfl ?_); (try (refine gate_guard (by rfl) ?_; dsimp only)); refine bx_ HB rfl (N := 4) rfl (cs := #[.int .i64 0, .int .i64 0, .int .i64 0]) (t := 39) hr_ ?_; clear HB; intro gb440 w70 hg hb BK440 GW440 HB; have NB436_440 := ng_ BK436 hg; have NB440_436 := ns_ (ng_ BK436 hg); replace BK436 := bb_ BK436 hb; clear hb hg; have hnb71 := NB440_436.out; have hnc71 := NB436_440.out; obtain ⟨z72_0, z72_1, z72_2, y72_0, y72_1, y72_2⟩ := cz3_ BK440; obtain ⟨z73_0, z73_1, y73_0, y73_1⟩ := cz2_ BK436) | ((with_reducible refine gate_callee (f := 79) rfl ?_); refine goesL_ (some 36) rfl rfl Tryz.func79 (by kernel_rfl) rfl #[.agg #[.int .i64 ((rd_T39 l0_0 x27_2).f0), .int .i64 ((rd_T39 l0_0 x27_2).f1), .int .i64 ((rd_T39 l0_0 x27_2).f2)], .int .i64 (l0_1.length : Int)] rfl al_ ?_; (with_reducible refine (impl_WordOk.calls ((rd_T39 l0_0 x27_2).f0) ((rd_T39 l0_0 x27_2).f1) ((rd_T39 l0_0 x27_2).f2) (l0_1.length : Int) true _ A17.out).mono ?_); rintro e w74 ⟨rfl, hb⟩; refine ⟨_, rfl, ?_⟩; replace BK436 := bb_ BK436 hb; replace BK440 := bq_ (o' := .cells #[.int .i64 ((rd_T39 l0_0 x27_2).f0), .int .i64 ((rd_T39 l0_0 x27_2).f1), .int .i64 ((rd_T39 l0_0 x27_2).f2)] 39 (0, 0)) BK440 hb; replace HB := hs_ HB hb; clear hb; obtain ⟨z75_0, z75_1, z75_2, y75_0, y75_1, y75_2⟩ := cz3_ BK440; obtain ⟨z76_0, z76_1, y76_0, y76_1⟩ := cz2_ BK436; have p442 : 0 ≤ ((ji26) : Int) := od_; have q442 : (ji26) < (l0_1.length : Int) := od_; obtain ⟨ad442, A442_2, c442_2, A442_4, c442_4, e442, u442_0, u442_1, u442_2, u442_3, u442_4, hl442_2, hi442_2, hl442_4, hi442_4⟩ := at_T52 HR0_1.out (ji26) p442 q442; cases e442; replace u442_0 := hx_ HB u442_0; replace u442_1 := hx_ HB u442_1; replace u442_2 := hx_ HB u442_2; replace u442_3 := hx_ HB u442_3; replace u442_4 := hx_ HB u442_4; have HR442_2 := A_ hi442_2; have HC442_2 := A_ hl442_2; clear hi442_2 hl442_2; have HR442_4 := A_ hi442_4; have HC442_4 := A_ hl442_4; clear hi442_4 hl442_4; replace p442 := eq_true p442; replace q442 := eq_true q442) | ((with_reducible refine gate_dst (N := 5) rfl ?_); (try (refine gate_guard (by rfl) ?_; dsimp only)); refine bx_ HB rfl (N := 5) rfl (cs := #[.int .i64 0, .int .i64 0, .slice none 0 0, .int .i64 0, .slice none 0 0]) (t := 52) hr_ ?_; clear HB; intro gb443 w77 hg hb BK443 GW443 HB; have NB436_443 := ng_ BK436 hg; have NB443_436 := ns_ (ng_ BK436 hg); have NB440_443 := ng_ BK440 hg; have NB443_440 := ns_ (ng_ BK440 hg); replace BK436 := bb_ BK436 hb; replace BK440 := bb_ BK440 hb; clear hb hg; have hnb78 := NB443_436.out; have hnc78 := NB436_443.out; have hnb79 := NB443_440.out; have hnc79 := NB440_443.out; obtain ⟨z80_0, z80_1, z80_2, z80_3, z80_4, y80_0, y80_1, y80_2, y80_3, y80_4⟩ := cz5_ BK443) | ((with_reducible refine gate_callee (f := 23) rfl ?_); refine goesL_ (some 51) rfl rfl Tryz.func23 (by kernel_rfl) rfl #[.agg #[.int .i64 ((rd_T52 l0_1 (ji26)).f0), .int .i64 ((rd_T52 l0_1 (ji26)).f1), .slice A442_2 ((rd_T52 l0_1 (ji26)).f2).length c442_2, .int .i64 ((rd_T52 l0_1 (ji26)).f3.f0), .slice A442_4 ((rd_T52 l0_1 (ji26)).f3.f1).length c442_4], .int .i64 x27_2] rfl (by (try simp only [List.map_toArray, List.map_cons, List.map_nil]); first | done | (simp only [hji26]; rfl) | rfl | (simp only [List.length_drop, List.length_take]; rfl)) ?_; (with_reducible refine (impl_Entries.calls k2 ((rd_T52 l0_1 (ji26)).f0) ((rd_T52 l0_1 (ji26)).f1) _ _ ((rd_T52 l0_1 (ji26)).f2) ((rd_T52 l0_1 (ji26)).f3.f0) _ _ ((rd_T52 l0_1 (ji26)).f3.f1) x27_2 t444 t445 t446 false _ ?s1 ?s2 ?s3 ?s4 A29.out).mono ?_); (case s1 => exact Kd.C_below HR442_2.out (hb_ HB)); (case s2 => exact HC442_2.out); (case s3 => exact Kd.C_below HR442_4.out (hb_ HB)); (case s4 => exact HC442_4.out); rintro e w81 ⟨rfl, hb⟩; refine ⟨_, rfl, ?_⟩; replace BK436 := bb_ BK436 hb; replace BK440 := bb_ BK440 hb; replace BK443 := bq_ (o' := .cells #[.int .i64 ((rd_T52 l0_1 (ji26)).f0), .int .i64 ((rd_T52 l0_1 (ji26)).f1), .slice A442_2 ((rd_T52 l0_1 (ji26)).f2).length c442_2, .int .i64 ((rd_T52 l0_1 (ji26)).f3.f0), .slice A442_4 ((rd_T52 l0_1 (ji26)).f3.f1).length c442_4] 52 (0, 0)) BK443 hb; replace HB := hs_ HB hb; clear hb) | ((with_reducible refine gate_dst (N := 6) rfl ?_); (try (refine gate_guard (by rfl) ?_; dsimp only)); refine bx_ HB rfl (N := 6) rfl (cs := #[.int .i64 0, .int .i64 0, .int .i64 0]) (t := 37) hr_ ?_; clear HB; intro gb448 w82 hg hb BK448 GW448 HB; have NB436_448 := ng_ BK436 hg; have NB448_436 := ns_ (ng_ BK436 hg); have NB440_448 := ng_ BK440 hg; have NB448_440 := ns_ (ng_ BK440 hg); have NB443_448 := ng_ BK443 hg; have NB448_443 := ns_ (ng_ BK443 hg); replace BK436 := bb_ BK436 hb; replace BK440 := bb_ BK440 hb; replace BK443 := bb_ BK443 hb; clear hb hg; have hnb83 := NB448_436.out; have hnc83 := NB436_448.out; have hnb84 := NB448_440.out; have hnc84 := NB440_448.out; have hnb85 := NB448_443.out; have hnc85 := NB443_448.out; obtain ⟨z86_0, z86_1, z86_2, y86_0, y86_1, y86_2⟩ := cz3_ BK448))
       go_ret
       exact ⟨by first | rfl | (simp [errW_none, errW_some] <;> rfl) | (simp only [← hji26]; first | rfl | (simp [errW_none, errW_some] <;> rfl)) | (simp [*, errW_none, errW_some] <;> rfl), hb_ HB⟩
      obtain rfl := Bool.eq_false_iff.mpr c18
      replace H := iF_ H
      obtain rfl := Option.some.inj H
      obtain ⟨ad439, p439, q439, rfl, u439_0, u439_1, u439_2⟩ := ab_T39 HB HR0_0 x27_2
      go_wp2_with (first | ((with_reducible refine gate_dst (N := 4) rfl ?_); (try (refine gate_guard (by rfl) ?_; dsimp only)); refine bx_ HB rfl (N := 4) rfl (cs := #[.int .i64 0, .int .i64 0, .int .i64 0]) (t := 39) hr_ ?_; clear HB; intro gb440 w87 hg hb BK440 GW440 HB; have NB436_440 := ng_ BK436 hg; have NB440_436 := ns_ (ng_ BK436 hg); replace BK436 := bb_ BK436 hb; clear hb hg; have hnb88 := NB440_436.out; have hnc88 := NB436_440.out; obtain ⟨z89_0, z89_1, z89_2, y89_0, y89_1, y89_2⟩ := cz3_ BK440; obtain ⟨z90_0, z90_1, y90_0, y90_1⟩ := cz2_ BK436) | ((with_reducible refine gate_callee (f := 79) rfl ?_); refine goesL_ (some 36) rfl rfl Tryz.func79 (by kernel_rfl) rfl #[.agg #[.int .i64 ((rd_T39 l0_0 x27_2).f0), .int .i64 ((rd_T39 l0_0 x27_2).f1), .int .i64 ((rd_T39 l0_0 x27_2).f2)], .int .i64 (l0_1.length : Int)] rfl al_ ?_; (with_reducible refine (impl_WordOk.calls ((rd_T39 l0_0 x27_2).f0) ((rd_T39 l0_0 x27_2).f1) ((rd_T39 l0_0 x27_2).f2) (l0_1.length : Int) false _ A17.out).mono ?_); rintro e w91 ⟨rfl, hb⟩; refine ⟨_, rfl, ?_⟩; replace BK436 := bb_ BK436 hb; replace BK440 := bq_ (o' := .cells #[.int .i64 ((rd_T39 l0_0 x27_2).f0), .int .i64 ((rd_T39 l0_0 x27_2).f1), .int .i64 ((rd_T39 l0_0 x27_2).f2)] 39 (0, 0)) BK440 hb; replace HB := hs_ HB hb; clear hb))
      go_ret
      exact ⟨rs_, hb_ HB⟩
     obtain rfl := Option.some.inj H
     go_wp2
     go_ret
     exact ⟨rs_, hb_ HB⟩
-- NOT PRINTED: function 139 (impl_Op_139)
-- NOT PRINTED: function 86 (impl_Op_86)
-- NOT PRINTED: function 143 (impl_Pair_143)
-- NOT PRINTED: function 89 (impl_Pair_89)
-- NOT PRINTED: function 144 (impl_Help_144)
-- NOT PRINTED: function 93 (impl_Help_93)
def impl_KeyOk.f (a0 : Int) : Option (Bool) := (impl_from.f a0 0 3).bind fun t449 => (some t449)
set_option maxHeartbeats 8000000 in
set_option maxRecDepth 100000 in
theorem impl_KeyOk.calls (a0 : Int) (r : Bool) (w : World) (h : impl_KeyOk.f a0 = some r) :
    Calls Tryz.prog 140 #[.int .i64 a0] w fun e w' => e = .returned (.bool r) ∧ Drawn0 w w' := by
 have H : ((impl_from.f a0 0 3).bind fun t449 => (some t449)) = some r := h
 clear h
 replace H := bs_ H
 obtain ⟨t449, A2, H⟩ := H
 obtain rfl := Option.some.inj H
 go_enter Tryz.func140, Tryz.ntmps140
 go_wp2_with (first | ((with_reducible refine gate_callee (f := 62) rfl ?_); refine goesL_ (some 4) rfl rfl Tryz.func62 (by kernel_rfl) rfl #[.int .i64 a0, .int .i64 0, .int .i64 3] rfl al_ ?_; (with_reducible refine (impl_from.calls a0 0 3 t449 _ A2.out).mono ?_); rintro e w' ⟨rfl, ⟨nd, rfl⟩⟩; refine ⟨_, rfl, ?_⟩))
 go_ret
 exact ⟨rt_, by repeat (first | exact Drawn0.refl _ | apply Drawn0.step)⟩
def impl_ValOk.f (a0 : Int) : Option (Bool) := (impl_from.f a0 1 6).bind fun t450 => (some t450)
set_option maxHeartbeats 8000000 in
set_option maxRecDepth 100000 in
theorem impl_ValOk.calls (a0 : Int) (r : Bool) (w : World) (h : impl_ValOk.f a0 = some r) :
    Calls Tryz.prog 141 #[.int .i64 a0] w fun e w' => e = .returned (.bool r) ∧ Drawn0 w w' := by
 have H : ((impl_from.f a0 1 6).bind fun t450 => (some t450)) = some r := h
 clear h
 replace H := bs_ H
 obtain ⟨t450, A2, H⟩ := H
 obtain rfl := Option.some.inj H
 go_enter Tryz.func141, Tryz.ntmps141
 go_wp2_with (first | ((with_reducible refine gate_callee (f := 62) rfl ?_); refine goesL_ (some 4) rfl rfl Tryz.func62 (by kernel_rfl) rfl #[.int .i64 a0, .int .i64 1, .int .i64 6] rfl al_ ?_; (with_reducible refine (impl_from.calls a0 1 6 t450 _ A2.out).mono ?_); rintro e w' ⟨rfl, ⟨nd, rfl⟩⟩; refine ⟨_, rfl, ?_⟩))
 go_ret
 exact ⟨rt_, by repeat (first | exact Drawn0.refl _ | apply Drawn0.step)⟩
def impl_isClass.f (a0 : Int) : Option (Bool) := (impl_from.f a0 0 2).bind fun t451 => (some t451)
set_option maxHeartbeats 8000000 in
set_option maxRecDepth 100000 in
theorem impl_isClass.calls (a0 : Int) (r : Bool) (w : World) (h : impl_isClass.f a0 = some r) :
    Calls Tryz.prog 142 #[.int .i64 a0] w fun e w' => e = .returned (.bool r) ∧ Drawn0 w w' := by
 have H : ((impl_from.f a0 0 2).bind fun t451 => (some t451)) = some r := h
 clear h
 replace H := bs_ H
 obtain ⟨t451, A2, H⟩ := H
 obtain rfl := Option.some.inj H
 go_enter Tryz.func142, Tryz.ntmps142
 go_wp2_with (first | ((with_reducible refine gate_callee (f := 62) rfl ?_); refine goesL_ (some 4) rfl rfl Tryz.func62 (by kernel_rfl) rfl #[.int .i64 a0, .int .i64 0, .int .i64 2] rfl al_ ?_; (with_reducible refine (impl_from.calls a0 0 2 t451 _ A2.out).mono ?_); rintro e w' ⟨rfl, ⟨nd, rfl⟩⟩; refine ⟨_, rfl, ?_⟩))
 go_ret
 exact ⟨rt_, by repeat (first | exact Drawn0.refl _ | apply Drawn0.step)⟩
end Go.Proofs.YtdcinhpdpoodfaaGreat.PFnExactFinished
