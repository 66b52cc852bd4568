/- Contracts of functions of the program. No condition beyond the hypotheses that each theorem names. -/
import Derived.Lib.SliceRun
import Derived.Test.YtmkhghbalnadlaaPFnExactBeginx0
import Derived.Test.YtmkhghbalnadlaaPFnExactBeginx11
namespace Go.Proofs.Ytmkhghbalnadlaa.PFnExactBegin
open Go.RowKit Go.Proofs.YtmkhghbalnadlaaW.PrintWords Go.Proofs.YtmkhghbalnadlaaW.PrintLast Go.Proofs.YtmkhghbalnadlaaW.PrintMore
attribute [local go_sem] max2_int min2_int max_two min_two max_three min_three max_four min_four
set_option linter.unusedVariables false
set_option linter.unusedSimpArgs false
def slices_IndexFuncMemOk_c1.l0 : Nat → List (S119) → Int → Int → Option (Int)
 | 0, _, _, _ => none
 | k + 1, x0, x7, x8 => if x8 < x7 then (if 0 ≤ x8 then (if x8 < (x0.length : Int) then ((impl_MemOk_c1.f k ((rd_T119 x0 x8).f0) ((rd_T119 x0 x8).f1) ((rd_T119 x0 x8).f2) ((rd_T119 x0 x8).f3.f0) ((rd_T119 x0 x8).f3.f1)).bind fun t371 => (if t371 = true then (some x8) else (slices_IndexFuncMemOk_c1.l0 k x0 x7 (wrap64 (x8 + 1))))) else (none)) else (none)) else (some (-1))
def slices_IndexFuncMemOk_c1.f (k : Nat) (l0 : List (S119)) : Option (Int) := slices_IndexFuncMemOk_c1.l0 k l0 (l0.length : Int) 0
set_option maxHeartbeats 8000000 in
set_option maxRecDepth 100000 in
theorem slices_IndexFuncMemOk_c1.calls (k : Nat) (A0 : Option Addr) (c0 : Nat) (l0 : List (S119)) (r : Int) (w : World) (hr0 : Kd.C k119 w A0 l0.length l0) (hc0 : l0.length ≤ c0) (h : slices_IndexFuncMemOk_c1.f k l0 = some r) :
    Calls Try.prog 150 #[.slice A0 l0.length c0, .func (.func 119) #[] #[]] w fun e w' => e = .returned (.int .i64 r) ∧ Below w.heap.size w w' := by
 have hu119 := Try.underlying119
 have HR0 := A_ hr0
 have HC0 := A_ hc0
 clear hr0 hc0
 have HB := A_ (Below.refl w.heap.size w)
 have H : (slices_IndexFuncMemOk_c1.l0 k l0 (l0.length : Int) 0) = some r := h
 clear h
 replace H' := A_ H; clear H
 go_enter Try.func150, Try.ntmps150
 go_wp2
 go_loopg [8] k (fun kq v8 w' => ∃ (x8_1 : Int), v8 = .int .i64 x8_1 ∧ Aside0 (slices_IndexFuncMemOk_c1.l0 kq l0 (l0.length : Int) x8_1 = some r) ∧ Aside0 (kq ≤ k) ∧ Aside0 (Below w.heap.size w w'))
 case atStart => exact ⟨(0), rt_, H', ⟨Nat.le_refl _⟩, ⟨hb_ HB⟩⟩
 case round =>
  clear H'
  obtain ⟨x8_1, rfl, HA, HK1, HB⟩ := hrel
  cases gk with
  | zero => exact absurd HA.out (by simp [slices_IndexFuncMemOk_c1.l0])
  | succ k1 =>
   have H := HA.out
   clear HA
   simp only [slices_IndexFuncMemOk_c1.l0] at H
   replace H := ic_ H
   rcases H with ⟨c2b0, H⟩ | ⟨c2b0, H⟩
   ·
    replace H := ix_ H
    obtain ⟨c3b0, H⟩ := H
    replace H := ix_ H
    obtain ⟨c4b0, H⟩ := H
    replace H := bs_ H
    obtain ⟨t371, A5, H⟩ := H
    by_cases c6 : t371 = true
    ·
     subst c6
     replace H := it_ H
     obtain rfl := Option.some.inj H
     obtain ⟨ad370, A370_2, c370_2, A370_4, c370_4, p370, q370, rfl, u370_0, u370_1, u370_2, u370_3, u370_4, HC370_2, HR370_2, HC370_4, HR370_4⟩ := ab_T119 HB HR0 x8_1
     go_wp2_with (first | ((with_reducible refine gate_dst (N := 16) rfl ?_); refine goesV_ (c := .tmp 11) (some 16) rfl rfl Try.func119 (by kernel_rfl) rfl #[.agg #[.int .i64 ((rd_T119 l0 x8_1).f0), .int .i64 ((rd_T119 l0 x8_1).f1), .slice A370_2 ((rd_T119 l0 x8_1).f2).length c370_2, .int .i64 ((rd_T119 l0 x8_1).f3.f0), .slice A370_4 ((rd_T119 l0 x8_1).f3.f1).length c370_4]] rfl rfl al_ ?_; (with_reducible refine (impl_MemOk_c1.calls k1 ((rd_T119 l0 x8_1).f0) ((rd_T119 l0 x8_1).f1) _ _ ((rd_T119 l0 x8_1).f2) ((rd_T119 l0 x8_1).f3.f0) _ _ ((rd_T119 l0 x8_1).f3.f1) true _ ?s1 ?s2 ?s3 ?s4 A5.out).mono ?_); (case s1 => exact cb_ (Kd.C_below HR370_2.out HB.out)); (case s2 => exact HC370_2.out); (case s3 => exact cb_ (Kd.C_below HR370_4.out HB.out)); (case s4 => exact HC370_4.out); rintro e w7 ⟨rfl, hb⟩; refine ⟨_, rfl, ?_⟩; replace HB := hs_ HB hb; clear hb))
     go_ret
     exact ⟨rs_, hb_ HB⟩
    obtain rfl := Bool.eq_false_iff.mpr c6
    replace H := iF_ H
    replace H' := A_ H; clear H
    obtain ⟨ad370, A370_2, c370_2, A370_4, c370_4, p370, q370, rfl, u370_0, u370_1, u370_2, u370_3, u370_4, HC370_2, HR370_2, HC370_4, HR370_4⟩ := ab_T119 HB HR0 x8_1
    go_wp2_with (first | ((with_reducible refine gate_dst (N := 16) rfl ?_); refine goesV_ (c := .tmp 11) (some 16) rfl rfl Try.func119 (by kernel_rfl) rfl #[.agg #[.int .i64 ((rd_T119 l0 x8_1).f0), .int .i64 ((rd_T119 l0 x8_1).f1), .slice A370_2 ((rd_T119 l0 x8_1).f2).length c370_2, .int .i64 ((rd_T119 l0 x8_1).f3.f0), .slice A370_4 ((rd_T119 l0 x8_1).f3.f1).length c370_4]] rfl rfl al_ ?_; (with_reducible refine (impl_MemOk_c1.calls k1 ((rd_T119 l0 x8_1).f0) ((rd_T119 l0 x8_1).f1) _ _ ((rd_T119 l0 x8_1).f2) ((rd_T119 l0 x8_1).f3.f0) _ _ ((rd_T119 l0 x8_1).f3.f1) false _ ?s1 ?s2 ?s3 ?s4 A5.out).mono ?_); (case s1 => exact cb_ (Kd.C_below HR370_2.out HB.out)); (case s2 => exact HC370_2.out); (case s3 => exact cb_ (Kd.C_below HR370_4.out HB.out)); (case s4 => exact HC370_4.out); rintro e w8 ⟨rfl, hb⟩; refine ⟨_, rfl, ?_⟩; replace HB := hs_ HB hb; clear hb))
    go_roundg k1
    case measure => have := HK1.out; omega
    case rel => exact ⟨(wrap64 (x8_1 + 1)), rt_, H', ⟨by have := HK1.out; omega⟩, ⟨hb_ HB⟩⟩
   obtain rfl := Option.some.inj H
   go_wp2
   go_ret
   exact ⟨rs_, hb_ HB⟩
def slices_ContainsFuncMemOk_c1.f (k : Nat) (l0 : List (S119)) : Option (Bool) := (slices_IndexFuncMemOk_c1.f k l0).bind fun t372 => (some (decide (t372 ≥ 0)))
set_option maxHeartbeats 8000000 in
set_option maxRecDepth 100000 in
theorem slices_ContainsFuncMemOk_c1.calls (k : Nat) (A0 : Option Addr) (c0 : Nat) (l0 : List (S119)) (r : Bool) (w : World) (hr0 : Kd.C k119 w A0 l0.length l0) (hc0 : l0.length ≤ c0) (h : slices_ContainsFuncMemOk_c1.f k l0 = some r) :
    Calls Try.prog 118 #[.slice A0 l0.length c0, .func (.func 119) #[] #[]] w fun e w' => e = .returned (.bool r) ∧ Below w.heap.size w w' := by
 have HR0 := A_ hr0
 have HC0 := A_ hc0
 clear hr0 hc0
 have HB := A_ (Below.refl w.heap.size w)
 have H : ((slices_IndexFuncMemOk_c1.f k l0).bind fun t372 => (some (decide (t372 ≥ 0)))) = some r := h
 clear h
 replace H := bs_ H
 obtain ⟨t372, A2, H⟩ := H
 obtain rfl := Option.some.inj H
 go_enter Try.func118, Try.ntmps118
 go_wp2_with (first | ((with_reducible refine gate_callee (f := 150) rfl ?_); refine goesL_ (some 7) rfl rfl Try.func150 (by kernel_rfl) rfl #[.slice A0 l0.length c0, .func (.func 119) #[] #[]] rfl al_ ?_; (with_reducible refine (slices_IndexFuncMemOk_c1.calls k _ _ l0 t372 _ ?s1 ?s2 A2.out).mono ?_); (case s1 => exact cb_ HR0.out); (case s2 => exact HC0.out); rintro e w3 ⟨rfl, hb⟩; refine ⟨_, rfl, ?_⟩; replace HB := hs_ HB hb; clear hb))
 go_ret
 exact ⟨rs_, hb_ HB⟩
mutual
def impl_MemOk.j0 : Nat → Bool → List (S95) → List (S119) → Option (Bool)
 | 0, _, _, _ => none
 | k + 1, x23, x374000, x374001 => if x23 = true then (some false) else (impl_MemOk.l0 k x374000 (x374000.length : Int) 0 x374000 x374001)
def impl_MemOk.l0 : Nat → List (S95) → Int → Int → List (S95) → List (S119) → Option (Bool)
 | 0, _, _, _, _, _ => none
 | k + 1, x25, x26, x27, x374000, x374001 => if x27 < x26 then (if 0 ≤ x27 then (if x27 < (x25.length : Int) then ((impl_WordOk.f ((rd_T95 x25 x27).f0) ((rd_T95 x25 x27).f1) ((rd_T95 x25 x27).f2) (x374001.length : Int)).bind fun t378 => (if t378 = true then (if ((rd_T95 x25 x27).f1) = 0 then (impl_MemOk.l0 k x25 x26 (wrap64 (x27 + 1)) x374000 x374001) else (if 0 ≤ (wrap64 (((rd_T95 x25 x27).f1) - 1)) then (if (wrap64 (((rd_T95 x25 x27).f1) - 1)) < (x374001.length : Int) then ((impl_Entries.f k ((rd_T119 x374001 (wrap64 (((rd_T95 x25 x27).f1) - 1))).f0) ((rd_T119 x374001 (wrap64 (((rd_T95 x25 x27).f1) - 1))).f1) ((rd_T119 x374001 (wrap64 (((rd_T95 x25 x27).f1) - 1))).f2) ((rd_T119 x374001 (wrap64 (((rd_T95 x25 x27).f1) - 1))).f3.f0) ((rd_T119 x374001 (wrap64 (((rd_T95 x25 x27).f1) - 1))).f3.f1) x27).bind fun bt381 => (if bt381.2.2.2 = true then (if ((rd_T119 x374001 (wrap64 (((rd_T95 x25 x27).f1) - 1))).f0) = ((rd_T95 x25 x27).f2) then (impl_MemOk.l0 k x25 x26 (wrap64 (x27 + 1)) x374000 x374001) else (some false)) else (some false))) else (none)) else (none))) else (some false))) else (none)) else (none)) else (some true)
end
def impl_MemOk.f (k : Nat) (l0_0 : List (S95)) (l0_1 : List (S119)) : Option (Bool) := if (l0_0.length : Int) = 20 then ((impl_from.f (l0_1.length : Int) 1 4).bind fun t374 => (if t374 = true then ((slices_ContainsFuncMemOk_c1.f k l0_1).bind fun t375 => (impl_MemOk.j0 k t375 l0_0 l0_1)) else (impl_MemOk.j0 k true l0_0 l0_1))) else (impl_MemOk.j0 k true l0_0 l0_1)
set_option maxHeartbeats 8000000 in
set_option maxRecDepth 100000 in
theorem impl_MemOk.calls (k : Nat) (A0_0 : Option Addr) (c0_0 : Nat) (l0_0 : List (S95)) (A0_1 : Option Addr) (c0_1 : Nat) (l0_1 : List (S119)) (r : Bool) (w : World) (hr0_0 : Kd.C k95 w A0_0 l0_0.length l0_0) (hc0_0 : l0_0.length ≤ c0_0) (hr0_1 : Kd.C k119 w A0_1 l0_1.length l0_1) (hc0_1 : l0_1.length ≤ c0_1) (h : impl_MemOk.f k l0_0 l0_1 = some r) :
    Calls Try.prog 58 #[.agg #[.slice A0_0 l0_0.length c0_0, .slice A0_1 l0_1.length c0_1]] w fun e w' => e = .returned (.bool r) ∧ Below w.heap.size w w' := by
 have hu31 := Try.underlying31
 have hu95 := Try.underlying95
 have hu119 := Try.underlying119
 have hu122 := Try.underlying122
 have HR0_0 := A_ hr0_0
 have HC0_0 := A_ hc0_0
 clear hr0_0 hc0_0
 have HR0_1 := A_ hr0_1
 have HC0_1 := A_ hc0_1
 clear hr0_1 hc0_1
 have HB := A_ (Below.refl w.heap.size w)
 have H : (if (l0_0.length : Int) = 20 then ((impl_from.f (l0_1.length : Int) 1 4).bind fun t374 => (if t374 = true then ((slices_ContainsFuncMemOk_c1.f k l0_1).bind fun t375 => (impl_MemOk.j0 k t375 l0_0 l0_1)) else (impl_MemOk.j0 k true l0_0 l0_1))) else (impl_MemOk.j0 k true l0_0 l0_1)) = some r := h
 clear h
 have HC2 := A_ H
 clear H
 go_enter Try.func58, Try.ntmps58
 go_upto_region 1 with (first | ((with_reducible refine gate_dst (N := 1) rfl ?_); (try (refine gate_guard (by rfl) ?_; dsimp only)); refine bx_ HB rfl (N := 1) rfl (cs := #[.slice A0_0 l0_0.length c0_0, .slice A0_1 l0_1.length c0_1]) (t := 31) hr_ ?_; clear HB; intro gb373 w3 hg hb BK373 GW373 HB; clear hb hg))
 (try simp only [Act.put, List.setIfInBounds_toArray, List.set_cons_zero, List.set_cons_succ])
 go_cut [23] (fun v23 wc => ∃ (kq : Nat) (x23_1 : Bool), v23 = .bool x23_1 ∧ Aside0 (impl_MemOk.j0 kq x23_1 l0_0 l0_1 = some r) ∧ Aside0 (kq ≤ k) ∧ Aside0 (wc.heap[gb373]? = some (.cells #[(.slice A0_0 l0_0.length c0_0), (.slice A0_1 l0_1.length c0_1)] 31 (0, 0))) ∧ Aside0 (Below w.heap.size w wc))
 case first =>
  have H := HC2.out
  clear HC2
  by_cases c4 : (l0_0.length : Int) = 20
  ·
   rw [if_pos c4] at H
   have c4b0 : ((l0_0.length : Int) == 20) = true := beq_iff_eq.mpr c4
   have c4b1 : ((l0_0.length : Int) != 20) = false := bne_eq_false_iff_eq.mpr c4
   clear c4
   (first | rw [c4b0] | (simp only [i64_w, i32_w]; rw [c4b0]) | skip)
   replace H := bs_ H
   obtain ⟨t374, A5, H⟩ := H
   by_cases c6 : t374 = true
   ·
    subst c6
    replace H := it_ H
    replace H := bs_ H
    obtain ⟨t375, A7, H⟩ := H
    replace H' := A_ H; clear H
    obtain ⟨z8_0, z8_1, y8_0, y8_1⟩ := cz2_ BK373
    go_wp2_with (first | (go_at_call 93; (with_reducible refine (impl_from.calls (l0_1.length : Int) 1 4 true _ A5.out).mono ?_); rintro e w' ⟨rfl, ⟨nd, rfl⟩⟩) | (go_at_call 118; (with_reducible refine (slices_ContainsFuncMemOk_c1.calls k _ _ l0_1 t375 _ ?s1 ?s2 A7.out).mono ?_); (case s1 => exact cb_ (Kd.C_below HR0_1.out (hb_ HB))); (case s2 => exact HC0_1.out); rintro e w9 ⟨rfl, hb⟩; replace BK373 := bb_ BK373 hb; replace HB := hs_ HB hb; clear hb))
    go_meet
    case rel => exact ⟨_, (t375), rt_, H', ⟨by first | omega | exact Nat.le_refl _⟩, ⟨bk_ BK373⟩, ⟨hb_ HB⟩⟩
   obtain rfl := Bool.eq_false_iff.mpr c6
   replace H := iF_ H
   replace H' := A_ H; clear H
   obtain ⟨z10_0, z10_1, y10_0, y10_1⟩ := cz2_ BK373
   go_wp2_with (first | (go_at_call 93; (with_reducible refine (impl_from.calls (l0_1.length : Int) 1 4 false _ A5.out).mono ?_); rintro e w' ⟨rfl, ⟨nd, rfl⟩⟩))
   go_meet
   case rel => exact ⟨_, (true), rt_, H', ⟨by first | omega | exact Nat.le_refl _⟩, ⟨bk_ BK373⟩, ⟨hb_ HB⟩⟩
  rw [if_neg c4] at H
  have c4b0 : ((l0_0.length : Int) == 20) = false := beq_eq_false_iff_ne.mpr c4
  have c4b1 : ((l0_0.length : Int) != 20) = true := bne_iff_ne.mpr c4
  (first | rw [c4b0] | (simp only [i64_w, i32_w]; rw [c4b0]) | skip)
  replace H' := A_ H; clear H
  obtain ⟨z11_0, z11_1, y11_0, y11_1⟩ := cz2_ BK373
  go_wp2
  go_meet
  case rel => exact ⟨_, (true), rt_, H', ⟨by first | omega | exact Nat.le_refl _⟩, ⟨bk_ BK373⟩, ⟨hb_ HB⟩⟩
 case rest =>
  clear HC2
  try clear c4
  try clear c4b0
  try clear c4b1
  try clear c6
  obtain ⟨kq, x23_1, rfl, HA, HJ1, BK373, HB⟩ := hcut
  cases kq with
  | zero => exact absurd HA.out (by simp [impl_MemOk.j0])
  | succ kj1 =>
   have H := HA.out
   clear HA
   simp only [impl_MemOk.j0] at H
   by_cases c12 : x23_1 = true
   ·
    subst c12
    replace H := it_ H
    obtain rfl := Option.some.inj H
    go_wp2
    go_ret
    exact ⟨rs_, hb_ HB⟩
   obtain rfl := Bool.eq_false_iff.mpr c12
   replace H := iF_ H
   replace H' := A_ H; clear H
   obtain ⟨z13_0, z13_1, y13_0, y13_1⟩ := cz2_ BK373
   go_wp2
   go_loopg [27] kj1 (fun kq v27 w' => ∃ (x27_2 : Int), v27 = .int .i64 x27_2 ∧ Aside0 (impl_MemOk.l0 kq l0_0 (l0_0.length : Int) x27_2 l0_0 l0_1 = some r) ∧ Aside0 (kq ≤ kj1) ∧ Aside0 (w'.heap[gb373]? = some (.cells #[(.slice A0_0 l0_0.length c0_0), (.slice A0_1 l0_1.length c0_1)] 31 (0, 0))) ∧ Aside0 (Below w.heap.size w w'))
   case atStart => exact ⟨(0), rt_, H', ⟨Nat.le_refl _⟩, ⟨bk_ BK373⟩, ⟨hb_ HB⟩⟩
   case round =>
    clear H'
    try clear c4
    try clear c4b0
    try clear c4b1
    try clear c6
    try clear c12
    obtain ⟨x27_2, rfl, HA, HK2, BK373, HB⟩ := hrel
    cases gk with
    | zero => exact absurd HA.out (by simp [impl_MemOk.l0])
    | succ k2 =>
     have H := HA.out
     clear HA
     simp only [impl_MemOk.l0] at H
     replace H := ic_ H
     rcases H with ⟨c14b0, H⟩ | ⟨c14b0, H⟩
     ·
      replace H := ix_ H
      obtain ⟨c15b0, H⟩ := H
      replace H := ix_ H
      obtain ⟨c16b0, H⟩ := H
      replace H := bs_ H
      obtain ⟨t378, A17, H⟩ := H
      by_cases c18 : t378 = true
      ·
       subst c18
       replace H := it_ H
       by_cases c19 : ((rd_T95 l0_0 x27_2).f1) = 0
       ·
        rw [if_pos c19] at H
        have c19b0 : (((rd_T95 l0_0 x27_2).f1) == 0) = true := beq_iff_eq.mpr c19
        have c19b1 : (((rd_T95 l0_0 x27_2).f1) != 0) = false := bne_eq_false_iff_eq.mpr c19
        clear c19
        replace H' := A_ H; clear H
        obtain ⟨ad376, p376, q376, rfl, u376_0, u376_1, u376_2⟩ := ab_T95 HB HR0_0 x27_2
        go_wp2_with (first | ((with_reducible refine gate_dst (N := 4) rfl ?_); (try (refine gate_guard (by rfl) ?_; dsimp only)); refine bx_ HB rfl (N := 4) rfl (cs := #[.int .i64 0, .int .i64 0, .int .i64 0]) (t := 95) hr_ ?_; clear HB; intro gb377 w20 hg hb BK377 GW377 HB; have NB373_377 := ng_ BK373 hg; have NB377_373 := ns_ (ng_ BK373 hg); replace BK373 := bb_ BK373 hb; clear hb hg; have hnb21 := NB377_373.out; have hnc21 := NB373_377.out; obtain ⟨z22_0, z22_1, z22_2, y22_0, y22_1, y22_2⟩ := cz3_ BK377; obtain ⟨z23_0, z23_1, y23_0, y23_1⟩ := cz2_ BK373) | ((with_reducible refine gate_callee (f := 121) rfl ?_); refine goesL_ (some 36) rfl rfl Try.func121 (by kernel_rfl) rfl #[.agg #[.int .i64 ((rd_T95 l0_0 x27_2).f0), .int .i64 ((rd_T95 l0_0 x27_2).f1), .int .i64 ((rd_T95 l0_0 x27_2).f2)], .int .i64 (l0_1.length : Int)] rfl al_ ?_; (with_reducible refine (impl_WordOk.calls ((rd_T95 l0_0 x27_2).f0) ((rd_T95 l0_0 x27_2).f1) ((rd_T95 l0_0 x27_2).f2) (l0_1.length : Int) true _ A17.out).mono ?_); rintro e w24 ⟨rfl, hb⟩; refine ⟨_, rfl, ?_⟩; replace BK373 := bb_ BK373 hb; replace BK377 := bq_ (o' := .cells #[.int .i64 ((rd_T95 l0_0 x27_2).f0), .int .i64 ((rd_T95 l0_0 x27_2).f1), .int .i64 ((rd_T95 l0_0 x27_2).f2)] 95 (0, 0)) BK377 hb; replace HB := hs_ HB hb; clear hb; obtain ⟨z25_0, z25_1, z25_2, y25_0, y25_1, y25_2⟩ := cz3_ BK377))
        go_roundg k2
        case measure => have := HJ1.out; have := HK2.out; omega
        case rel => exact ⟨(wrap64 (x27_2 + 1)), rt_, H', ⟨by have := HJ1.out; have := HK2.out; omega⟩, ⟨bk_ BK373⟩, ⟨hb_ HB⟩⟩
       rw [if_neg c19] at H
       have c19b0 : (((rd_T95 l0_0 x27_2).f1) == 0) = false := beq_eq_false_iff_ne.mpr c19
       have c19b1 : (((rd_T95 l0_0 x27_2).f1) != 0) = true := bne_iff_ne.mpr c19
       obtain ⟨ji26, hji26⟩ : ∃ j_ : Int, (wrap64 (((rd_T95 l0_0 x27_2).f1) - 1)) = j_ := ⟨_, rfl⟩
       replace H : (if 0 ≤ (ji26) then (if (ji26) < (l0_1.length : Int) then ((impl_Entries.f k2 ((rd_T119 l0_1 (ji26)).f0) ((rd_T119 l0_1 (ji26)).f1) ((rd_T119 l0_1 (ji26)).f2) ((rd_T119 l0_1 (ji26)).f3.f0) ((rd_T119 l0_1 (ji26)).f3.f1) x27_2).bind fun bt381 => (if bt381.2.2.2 = true then (if ((rd_T119 l0_1 (ji26)).f0) = ((rd_T95 l0_0 x27_2).f2) then (impl_MemOk.l0 k2 l0_0 (l0_0.length : Int) (wrap64 (x27_2 + 1)) l0_0 l0_1) else (some false)) else (some false))) else (none)) else (none)) = some r := by first | (rw [hji26] at H; exact H) | (simp only [hji26] at H ⊢; exact H)
       (try rw [hji26] at A17)
       have hji26w : (IntKind.i64.wrap (((rd_T95 l0_0 x27_2).f1) - 1)) = ji26 := (i64_w _).trans hji26
       replace H := ix_ H
       obtain ⟨c27b0, H⟩ := H
       replace H := ix_ H
       obtain ⟨c28b0, H⟩ := H
       replace H := bs_ H
       obtain ⟨⟨t381, t382, t383, t384⟩, A29, H⟩ := H
       dsimp only at H
       by_cases c30 : t384 = true
       ·
        subst c30
        replace H := it_ H
        by_cases c31 : ((rd_T119 l0_1 (ji26)).f0) = ((rd_T95 l0_0 x27_2).f2)
        ·
         rw [if_pos c31] at H
         have c31b0 : (((rd_T119 l0_1 (ji26)).f0) == ((rd_T95 l0_0 x27_2).f2)) = true := beq_iff_eq.mpr c31
         have c31b1 : (((rd_T119 l0_1 (ji26)).f0) != ((rd_T95 l0_0 x27_2).f2)) = false := bne_eq_false_iff_eq.mpr c31
         clear c31
         replace H' := A_ H; clear H
         obtain ⟨ad376, p376, q376, rfl, u376_0, u376_1, u376_2⟩ := ab_T95 HB HR0_0 x27_2
         go_wp2_with (first | ((with_reducible refine gate_dst (N := 4) rfl ?_); (try (refine gate_guard (by rfl) ?_; dsimp only)); refine bx_ HB rfl (N := 4) rfl (cs := #[.int .i64 0, .int .i64 0, .int .i64 0]) (t := 95) hr_ ?_; clear HB; intro gb377 w32 hg hb BK377 GW377 HB; have NB373_377 := ng_ BK373 hg; have NB377_373 := ns_ (ng_ BK373 hg); replace BK373 := bb_ BK373 hb; clear hb hg; have hnb33 := NB377_373.out; have hnc33 := NB373_377.out; obtain ⟨z34_0, z34_1, z34_2, y34_0, y34_1, y34_2⟩ := cz3_ BK377; obtain ⟨z35_0, z35_1, y35_0, y35_1⟩ := cz2_ BK373) | ((with_reducible refine gate_callee (f := 121) rfl ?_); refine goesL_ (some 36) rfl rfl Try.func121 (by kernel_rfl) rfl #[.agg #[.int .i64 ((rd_T95 l0_0 x27_2).f0), .int .i64 ((rd_T95 l0_0 x27_2).f1), .int .i64 ((rd_T95 l0_0 x27_2).f2)], .int .i64 (l0_1.length : Int)] rfl al_ ?_; (with_reducible refine (impl_WordOk.calls ((rd_T95 l0_0 x27_2).f0) ((rd_T95 l0_0 x27_2).f1) ((rd_T95 l0_0 x27_2).f2) (l0_1.length : Int) true _ A17.out).mono ?_); rintro e w36 ⟨rfl, hb⟩; refine ⟨_, rfl, ?_⟩; replace BK373 := bb_ BK373 hb; replace BK377 := bq_ (o' := .cells #[.int .i64 ((rd_T95 l0_0 x27_2).f0), .int .i64 ((rd_T95 l0_0 x27_2).f1), .int .i64 ((rd_T95 l0_0 x27_2).f2)] 95 (0, 0)) BK377 hb; replace HB := hs_ HB hb; clear hb; obtain ⟨z37_0, z37_1, z37_2, y37_0, y37_1, y37_2⟩ := cz3_ BK377; obtain ⟨z38_0, z38_1, y38_0, y38_1⟩ := cz2_ BK373; have p379 : 0 ≤ ((ji26) : Int) := od_; have q379 : (ji26) < (l0_1.length : Int) := od_; obtain ⟨ad379, A379_2, c379_2, A379_4, c379_4, e379, u379_0, u379_1, u379_2, u379_3, u379_4, hl379_2, hi379_2, hl379_4, hi379_4⟩ := at_T119 HR0_1.out (ji26) p379 q379; cases e379; replace u379_0 := hx_ HB u379_0; replace u379_1 := hx_ HB u379_1; replace u379_2 := hx_ HB u379_2; replace u379_3 := hx_ HB u379_3; replace u379_4 := hx_ HB u379_4; have HR379_2 := A_ hi379_2; have HC379_2 := A_ hl379_2; clear hi379_2 hl379_2; have HR379_4 := A_ hi379_4; have HC379_4 := A_ hl379_4; clear hi379_4 hl379_4; replace p379 := eq_true p379; replace q379 := eq_true q379) | ((with_reducible refine gate_dst (N := 5) rfl ?_); (try (refine gate_guard (by rfl) ?_; dsimp only)); refine bx_ HB rfl (N := 5) rfl (cs := #[.int .i64 0, .int .i64 0, .slice none 0 0, .int .i64 0, .slice none 0 0]) (t := 119) hr_ ?_; clear HB; intro gb380 w39 hg hb BK380 GW380 HB; have NB373_380 := ng_ BK373 hg; have NB380_373 := ns_ (ng_ BK373 hg); have NB377_380 := ng_ BK377 hg; have NB380_377 := ns_ (ng_ BK377 hg); replace BK373 := bb_ BK373 hb; replace BK377 := bb_ BK377 hb; clear hb hg; have hnb40 := NB380_373.out; have hnc40 := NB373_380.out; have hnb41 := NB380_377.out; have hnc41 := NB377_380.out; obtain ⟨z42_0, z42_1, z42_2, z42_3, z42_4, y42_0, y42_1, y42_2, y42_3, y42_4⟩ := cz5_ BK380) | ((with_reducible refine gate_callee (f := 122) rfl ?_); refine goesL_ (some 51) rfl rfl Try.func122 (by kernel_rfl) rfl #[.agg #[.int .i64 ((rd_T119 l0_1 (ji26)).f0), .int .i64 ((rd_T119 l0_1 (ji26)).f1), .slice A379_2 ((rd_T119 l0_1 (ji26)).f2).length c379_2, .int .i64 ((rd_T119 l0_1 (ji26)).f3.f0), .slice A379_4 ((rd_T119 l0_1 (ji26)).f3.f1).length c379_4], .int .i64 x27_2] rfl (by (try simp only [List.map_toArray, List.map_cons, List.map_nil]); first | done | (simp only [hji26]; rfl) | rfl | (simp only [List.length_drop, List.length_take]; rfl)) ?_; (with_reducible refine (impl_Entries.calls k2 ((rd_T119 l0_1 (ji26)).f0) ((rd_T119 l0_1 (ji26)).f1) _ _ ((rd_T119 l0_1 (ji26)).f2) ((rd_T119 l0_1 (ji26)).f3.f0) _ _ ((rd_T119 l0_1 (ji26)).f3.f1) x27_2 t381 t382 t383 true _ ?s1 ?s2 ?s3 ?s4 A29.out).mono ?_); (case s1 => exact Kd.C_below HR379_2.out (hb_ HB)); (case s2 => exact HC379_2.out); (case s3 => exact Kd.C_below HR379_4.out (hb_ HB)); (case s4 => exact HC379_4.out); rintro e w43 ⟨rfl, hb⟩; refine ⟨_, rfl, ?_⟩; replace BK373 := bb_ BK373 hb; replace BK377 := bb_ BK377 hb; replace BK380 := bq_ (o' := .cells #[.int .i64 ((rd_T119 l0_1 (ji26)).f0), .int .i64 ((rd_T119 l0_1 (ji26)).f1), .slice A379_2 ((rd_T119 l0_1 (ji26)).f2).length c379_2, .int .i64 ((rd_T119 l0_1 (ji26)).f3.f0), .slice A379_4 ((rd_T119 l0_1 (ji26)).f3.f1).length c379_4] 119 (0, 0)) BK380 hb; replace HB := hs_ HB hb; clear hb) | ((with_reducible refine gate_dst (N := 6) rfl ?_); (try (refine gate_guard (by rfl) ?_; dsimp only)); refine bx_ HB rfl (N := 6) rfl (cs := #[.int .i64 0, .int .i64 0, .int .i64 0]) (t := 122) hr_ ?_; clear HB; intro gb385 w44 hg hb BK385 GW385 HB; have NB373_385 := ng_ BK373 hg; have NB385_373 := ns_ (ng_ BK373 hg); have NB377_385 := ng_ BK377 hg; have NB385_377 := ns_ (ng_ BK377 hg); have NB380_385 := ng_ BK380 hg; have NB385_380 := ns_ (ng_ BK380 hg); replace BK373 := bb_ BK373 hb; replace BK377 := bb_ BK377 hb; replace BK380 := bb_ BK380 hb; clear hb hg; have hnb45 := NB385_373.out; have hnc45 := NB373_385.out; have hnb46 := NB385_377.out; have hnc46 := NB377_385.out; have hnb47 := NB385_380.out; have hnc47 := NB380_385.out; obtain ⟨z48_0, z48_1, z48_2, y48_0, y48_1, y48_2⟩ := cz3_ BK385; obtain ⟨z49_0, z49_1, z49_2, z49_3, z49_4, y49_0, y49_1, y49_2, y49_3, y49_4⟩ := cz5_ BK380; obtain ⟨z50_0, z50_1, z50_2, y50_0, y50_1, y50_2⟩ := cz3_ BK377))
         go_roundg k2
         case measure => have := HJ1.out; have := HK2.out; omega
         case rel => exact ⟨(wrap64 (x27_2 + 1)), rt_, H', ⟨by have := HJ1.out; have := HK2.out; omega⟩, ⟨bk_ BK373⟩, ⟨hb_ HB⟩⟩
        rw [if_neg c31] at H
        have c31b0 : (((rd_T119 l0_1 (ji26)).f0) == ((rd_T95 l0_0 x27_2).f2)) = false := beq_eq_false_iff_ne.mpr c31
        have c31b1 : (((rd_T119 l0_1 (ji26)).f0) != ((rd_T95 l0_0 x27_2).f2)) = true := bne_iff_ne.mpr c31
        obtain rfl := Option.some.inj H
        obtain ⟨ad376, p376, q376, rfl, u376_0, u376_1, u376_2⟩ := ab_T95 HB HR0_0 x27_2
        go_wp2_with (first | ((with_reducible refine gate_dst (N := 4) rfl ?_); (try (refine gate_guard (by rfl) ?_; dsimp only)); refine bx_ HB rfl (N := 4) rfl (cs := #[.int .i64 0, .int .i64 0, .int .i64 0]) (t := 95) hr_ ?_; clear HB; intro gb377 w51 hg hb BK377 GW377 HB; have NB373_377 := ng_ BK373 hg; have NB377_373 := ns_ (ng_ BK373 hg); replace BK373 := bb_ BK373 hb; clear hb hg; have hnb52 := NB377_373.out; have hnc52 := NB373_377.out; obtain ⟨z53_0, z53_1, z53_2, y53_0, y53_1, y53_2⟩ := cz3_ BK377; obtain ⟨z54_0, z54_1, y54_0, y54_1⟩ := cz2_ BK373) | ((with_reducible refine gate_callee (f := 121) rfl ?_); refine goesL_ (some 36) rfl rfl Try.func121 (by kernel_rfl) rfl #[.agg #[.int .i64 ((rd_T95 l0_0 x27_2).f0), .int .i64 ((rd_T95 l0_0 x27_2).f1), .int .i64 ((rd_T95 l0_0 x27_2).f2)], .int .i64 (l0_1.length : Int)] rfl al_ ?_; (with_reducible refine (impl_WordOk.calls ((rd_T95 l0_0 x27_2).f0) ((rd_T95 l0_0 x27_2).f1) ((rd_T95 l0_0 x27_2).f2) (l0_1.length : Int) true _ A17.out).mono ?_); rintro e w55 ⟨rfl, hb⟩; refine ⟨_, rfl, ?_⟩; replace BK373 := bb_ BK373 hb; replace BK377 := bq_ (o' := .cells #[.int .i64 ((rd_T95 l0_0 x27_2).f0), .int .i64 ((rd_T95 l0_0 x27_2).f1), .int .i64 ((rd_T95 l0_0 x27_2).f2)] 95 (0, 0)) BK377 hb; replace HB := hs_ HB hb; clear hb; obtain ⟨z56_0, z56_1, z56_2, y56_0, y56_1, y56_2⟩ := cz3_ BK377; obtain ⟨z57_0, z57_1, y57_0, y57_1⟩ := cz2_ BK373; have p379 : 0 ≤ ((ji26) : Int) := od_; have q379 : (ji26) < (l0_1.length : Int) := od_; obtain ⟨ad379, A379_2, c379_2, A379_4, c379_4, e379, u379_0, u379_1, u379_2, u379_3, u379_4, hl379_2, hi379_2, hl379_4, hi379_4⟩ := at_T119 HR0_1.out (ji26) p379 q379; cases e379; replace u379_0 := hx_ HB u379_0; replace u379_1 := hx_ HB u379_1; replace u379_2 := hx_ HB u379_2; replace u379_3 := hx_ HB u379_3; replace u379_4 := hx_ HB u379_4; have HR379_2 := A_ hi379_2; have HC379_2 := A_ hl379_2; clear hi379_2 hl379_2; have HR379_4 := A_ hi379_4; have HC379_4 := A_ hl379_4; clear hi379_4 hl379_4; replace p379 := eq_true p379; replace q379 := eq_true q379) | ((with_reducible refine gate_dst (N := 5) rfl ?_); (try (refine gate_guard (by rfl) ?_; dsimp only)); refine bx_ HB rfl (N := 5) rfl (cs := #[.int .i64 0, .int .i64 0, .slice none 0 0, .int .i64 0, .slice none 0 0]) (t := 119) hr_ ?_; clear HB; intro gb380 w58 hg hb BK380 GW380 HB; have NB373_380 := ng_ BK373 hg; have NB380_373 := ns_ (ng_ BK373 hg); have NB377_380 := ng_ BK377 hg; have NB380_377 := ns_ (ng_ BK377 hg); replace BK373 := bb_ BK373 hb; replace BK377 := bb_ BK377 hb; clear hb hg; have hnb59 := NB380_373.out; have hnc59 := NB373_380.out; have hnb60 := NB380_377.out; have hnc60 := NB377_380.out; obtain ⟨z61_0, z61_1, z61_2, z61_3, z61_4, y61_0, y61_1, y61_2, y61_3, y61_4⟩ := cz5_ BK380) | ((with_reducible refine gate_callee (f := 122) rfl ?_); refine goesL_ (some 51) rfl rfl Try.func122 (by kernel_rfl) rfl #[.agg #[.int .i64 ((rd_T119 l0_1 (ji26)).f0), .int .i64 ((rd_T119 l0_1 (ji26)).f1), .slice A379_2 ((rd_T119 l0_1 (ji26)).f2).length c379_2, .int .i64 ((rd_T119 l0_1 (ji26)).f3.f0), .slice A379_4 ((rd_T119 l0_1 (ji26)).f3.f1).length c379_4], .int .i64 x27_2] rfl (by (try simp only [List.map_toArray, List.map_cons, List.map_nil]); first | done | (simp only [hji26]; rfl) | rfl | (simp only [List.length_drop, List.length_take]; rfl)) ?_; (with_reducible refine (impl_Entries.calls k2 ((rd_T119 l0_1 (ji26)).f0) ((rd_T119 l0_1 (ji26)).f1) _ _ ((rd_T119 l0_1 (ji26)).f2) ((rd_T119 l0_1 (ji26)).f3.f0) _ _ ((rd_T119 l0_1 (ji26)).f3.f1) x27_2 t381 t382 t383 true _ ?s1 ?s2 ?s3 ?s4 A29.out).mono ?_); (case s1 => exact Kd.C_below HR379_2.out (hb_ HB)); (case s2 => exact HC379_2.out); (case s3 => exact Kd.C_below HR379_4.out (hb_ HB)); (case s4 => exact HC379_4.out); rintro e w62 ⟨rfl, hb⟩; refine ⟨_, rfl, ?_⟩; replace BK373 := bb_ BK373 hb; replace BK377 := bb_ BK377 hb; replace BK380 := bq_ (o' := .cells #[.int .i64 ((rd_T119 l0_1 (ji26)).f0), .int .i64 ((rd_T119 l0_1 (ji26)).f1), .slice A379_2 ((rd_T119 l0_1 (ji26)).f2).length c379_2, .int .i64 ((rd_T119 l0_1 (ji26)).f3.f0), .slice A379_4 ((rd_T119 l0_1 (ji26)).f3.f1).length c379_4] 119 (0, 0)) BK380 hb; replace HB := hs_ HB hb; clear hb) | ((with_reducible refine gate_dst (N := 6) rfl ?_); (try (refine gate_guard (by rfl) ?_; dsimp only)); refine bx_ HB rfl (N := 6) rfl (cs := #[.int .i64 0, .int .i64 0, .int .i64 0]) (t := 122) hr_ ?_; clear HB; intro gb385 w63 hg hb BK385 GW385 HB; have NB373_385 := ng_ BK373 hg; have NB385_373 := ns_ (ng_ BK373 hg); have NB377_385 := ng_ BK377 hg; have NB385_377 := ns_ (ng_ BK377 hg); have NB380_385 := ng_ BK380 hg; have NB385_380 := ns_ (ng_ BK380 hg); replace BK373 := bb_ BK373 hb; replace BK377 := bb_ BK377 hb; replace BK380 := bb_ BK380 hb; clear hb hg; have hnb64 := NB385_373.out; have hnc64 := NB373_385.out; have hnb65 := NB385_377.out; have hnc65 := NB377_385.out; have hnb66 := NB385_380.out; have hnc66 := NB380_385.out; obtain ⟨z67_0, z67_1, z67_2, y67_0, y67_1, y67_2⟩ := cz3_ BK385; obtain ⟨z68_0, z68_1, z68_2, z68_3, z68_4, y68_0, y68_1, y68_2, y68_3, y68_4⟩ := cz5_ BK380; obtain ⟨z69_0, z69_1, z69_2, y69_0, y69_1, y69_2⟩ := cz3_ BK377))
        go_ret
        exact ⟨by first | rfl | (simp [errW_none, errW_some] <;> rfl) | (simp only [← hji26]; first | rfl | (simp [errW_none, errW_some] <;> rfl)) | (simp [*, errW_none, errW_some] <;> rfl), hb_ HB⟩
       obtain rfl := Bool.eq_false_iff.mpr c30
       replace H := iF_ H
       obtain rfl := Option.some.inj H
       obtain ⟨ad376, p376, q376, rfl, u376_0, u376_1, u376_2⟩ := ab_T95 HB HR0_0 x27_2
       go_wp2_with (first | ((with_reducible refine gate_dst (N := 4) rfl ?_); (try (refine gate_guard (by rfl) ?_; dsimp only)); refine bx_ HB rfl (N := 4) rfl (cs := #[.int .i64 0, .int .i64 0, .int .i64 0]) (t := 95) hr_ ?_; clear HB; intro gb377 w70 hg hb BK377 GW377 HB; have NB373_377 := ng_ BK373 hg; have NB377_373 := ns_ (ng_ BK373 hg); replace BK373 := bb_ BK373 hb; clear hb hg; have hnb71 := NB377_373.out; have hnc71 := NB373_377.out; obtain ⟨z72_0, z72_1, z72_2, y72_0, y72_1, y72_2⟩ := cz3_ BK377; obtain ⟨z73_0, z73_1, y73_0, y73_1⟩ := cz2_ BK373) | ((with_reducible refine gate_callee (f := 121) rfl ?_); refine goesL_ (some 36) rfl rfl Try.func121 (by kernel_rfl) rfl #[.agg #[.int .i64 ((rd_T95 l0_0 x27_2).f0), .int .i64 ((rd_T95 l0_0 x27_2).f1), .int .i64 ((rd_T95 l0_0 x27_2).f2)], .int .i64 (l0_1.length : Int)] rfl al_ ?_; (with_reducible refine (impl_WordOk.calls ((rd_T95 l0_0 x27_2).f0) ((rd_T95 l0_0 x27_2).f1) ((rd_T95 l0_0 x27_2).f2) (l0_1.length : Int) true _ A17.out).mono ?_); rintro e w74 ⟨rfl, hb⟩; refine ⟨_, rfl, ?_⟩; replace BK373 := bb_ BK373 hb; replace BK377 := bq_ (o' := .cells #[.int .i64 ((rd_T95 l0_0 x27_2).f0), .int .i64 ((rd_T95 l0_0 x27_2).f1), .int .i64 ((rd_T95 l0_0 x27_2).f2)] 95 (0, 0)) BK377 hb; replace HB := hs_ HB hb; clear hb; obtain ⟨z75_0, z75_1, z75_2, y75_0, y75_1, y75_2⟩ := cz3_ BK377; obtain ⟨z76_0, z76_1, y76_0, y76_1⟩ := cz2_ BK373; have p379 : 0 ≤ ((ji26) : Int) := od_; have q379 : (ji26) < (l0_1.length : Int) := od_; obtain ⟨ad379, A379_2, c379_2, A379_4, c379_4, e379, u379_0, u379_1, u379_2, u379_3, u379_4, hl379_2, hi379_2, hl379_4, hi379_4⟩ := at_T119 HR0_1.out (ji26) p379 q379; cases e379; replace u379_0 := hx_ HB u379_0; replace u379_1 := hx_ HB u379_1; replace u379_2 := hx_ HB u379_2; replace u379_3 := hx_ HB u379_3; replace u379_4 := hx_ HB u379_4; have HR379_2 := A_ hi379_2; have HC379_2 := A_ hl379_2; clear hi379_2 hl379_2; have HR379_4 := A_ hi379_4; have HC379_4 := A_ hl379_4; clear hi379_4 hl379_4; replace p379 := eq_true p379; replace q379 := eq_true q379) | ((with_reducible refine gate_dst (N := 5) rfl ?_); (try (refine gate_guard (by rfl) ?_; dsimp only)); refine bx_ HB rfl (N := 5) rfl (cs := #[.int .i64 0, .int .i64 0, .slice none 0 0, .int .i64 0, .slice none 0 0]) (t := 119) hr_ ?_; clear HB; intro gb380 w77 hg hb BK380 GW380 HB; have NB373_380 := ng_ BK373 hg; have NB380_373 := ns_ (ng_ BK373 hg); have NB377_380 := ng_ BK377 hg; have NB380_377 := ns_ (ng_ BK377 hg); replace BK373 := bb_ BK373 hb; replace BK377 := bb_ BK377 hb; clear hb hg; have hnb78 := NB380_373.out; have hnc78 := NB373_380.out; have hnb79 := NB380_377.out; have hnc79 := NB377_380.out; obtain ⟨z80_0, z80_1, z80_2, z80_3, z80_4, y80_0, y80_1, y80_2, y80_3, y80_4⟩ := cz5_ BK380) | ((with_reducible refine gate_callee (f := 122) rfl ?_); refine goesL_ (some 51) rfl rfl Try.func122 (by kernel_rfl) rfl #[.agg #[.int .i64 ((rd_T119 l0_1 (ji26)).f0), .int .i64 ((rd_T119 l0_1 (ji26)).f1), .slice A379_2 ((rd_T119 l0_1 (ji26)).f2).length c379_2, .int .i64 ((rd_T119 l0_1 (ji26)).f3.f0), .slice A379_4 ((rd_T119 l0_1 (ji26)).f3.f1).length c379_4], .int .i64 x27_2] rfl (by (try simp only [List.map_toArray, List.map_cons, List.map_nil]); first | done | (simp only [hji26]; rfl) | rfl | (simp only [List.length_drop, List.length_take]; rfl)) ?_; (with_reducible refine (impl_Entries.calls k2 ((rd_T119 l0_1 (ji26)).f0) ((rd_T119 l0_1 (ji26)).f1) _ _ ((rd_T119 l0_1 (ji26)).f2) ((rd_T119 l0_1 (ji26)).f3.f0) _ _ ((rd_T119 l0_1 (ji26)).f3.f1) x27_2 t381 t382 t383 false _ ?s1 ?s2 ?s3 ?s4 A29.out).mono ?_); (case s1 => exact Kd.C_below HR379_2.out (hb_ HB)); (case s2 => exact HC379_2.out); (case s3 => exact Kd.C_below HR379_4.out (hb_ HB)); (case s4 => exact HC379_4.out); rintro e w81 ⟨rfl, hb⟩; refine ⟨_, rfl, ?_⟩; replace BK373 := bb_ BK373 hb; replace BK377 := bb_ BK377 hb; replace BK380 := bq_ (o' := .cells #[.int .i64 ((rd_T119 l0_1 (ji26)).f0), .int .i64 ((rd_T119 l0_1 (ji26)).f1), .slice A379_2 ((rd_T119 l0_1 (ji26)).f2).length c379_2, .int .i64 ((rd_T119 l0_1 (ji26)).f3.f0), .slice A379_4 ((rd_T119 l0_1 (ji26)).f3.f1).length c379_4] 119 (0, 0)) BK380 hb; replace HB := hs_ HB hb; clear hb) | ((with_reducible refine gate_dst (N := 6) rfl ?_); (try (refine gate_guard (by rfl) ?_; dsimp only)); refine bx_ HB rfl (N := 6) rfl (cs := #[.int .i64 0, .int .i64 0, .int .i64 0]) (t := 122) hr_ ?_; clear HB; intro gb385 w82 hg hb BK385 GW385 HB; have NB373_385 := ng_ BK373 hg; have NB385_373 := ns_ (ng_ BK373 hg); have NB377_385 := ng_ BK377 hg; have NB385_377 := ns_ (ng_ BK377 hg); have NB380_385 := ng_ BK380 hg; have NB385_380 := ns_ (ng_ BK380 hg); replace BK373 := bb_ BK373 hb; replace BK377 := bb_ BK377 hb; replace BK380 := bb_ BK380 hb; clear hb hg; have hnb83 := NB385_373.out; have hnc83 := NB373_385.out; have hnb84 := NB385_377.out; have hnc84 := NB377_385.out; have hnb85 := NB385_380.out; have hnc85 := NB380_385.out; obtain ⟨z86_0, z86_1, z86_2, y86_0, y86_1, y86_2⟩ := cz3_ BK385))
       go_ret
       exact ⟨by first | rfl | (simp [errW_none, errW_some] <;> rfl) | (simp only [← hji26]; first | rfl | (simp [errW_none, errW_some] <;> rfl)) | (simp [*, errW_none, errW_some] <;> rfl), hb_ HB⟩
      obtain rfl := Bool.eq_false_iff.mpr c18
      replace H := iF_ H
      obtain rfl := Option.some.inj H
      obtain ⟨ad376, p376, q376, rfl, u376_0, u376_1, u376_2⟩ := ab_T95 HB HR0_0 x27_2
      go_wp2_with (first | ((with_reducible refine gate_dst (N := 4) rfl ?_); (try (refine gate_guard (by rfl) ?_; dsimp only)); refine bx_ HB rfl (N := 4) rfl (cs := #[.int .i64 0, .int .i64 0, .int .i64 0]) (t := 95) hr_ ?_; clear HB; intro gb377 w87 hg hb BK377 GW377 HB; have NB373_377 := ng_ BK373 hg; have NB377_373 := ns_ (ng_ BK373 hg); replace BK373 := bb_ BK373 hb; clear hb hg; have hnb88 := NB377_373.out; have hnc88 := NB373_377.out; obtain ⟨z89_0, z89_1, z89_2, y89_0, y89_1, y89_2⟩ := cz3_ BK377; obtain ⟨z90_0, z90_1, y90_0, y90_1⟩ := cz2_ BK373) | ((with_reducible refine gate_callee (f := 121) rfl ?_); refine goesL_ (some 36) rfl rfl Try.func121 (by kernel_rfl) rfl #[.agg #[.int .i64 ((rd_T95 l0_0 x27_2).f0), .int .i64 ((rd_T95 l0_0 x27_2).f1), .int .i64 ((rd_T95 l0_0 x27_2).f2)], .int .i64 (l0_1.length : Int)] rfl al_ ?_; (with_reducible refine (impl_WordOk.calls ((rd_T95 l0_0 x27_2).f0) ((rd_T95 l0_0 x27_2).f1) ((rd_T95 l0_0 x27_2).f2) (l0_1.length : Int) false _ A17.out).mono ?_); rintro e w91 ⟨rfl, hb⟩; refine ⟨_, rfl, ?_⟩; replace BK373 := bb_ BK373 hb; replace BK377 := bq_ (o' := .cells #[.int .i64 ((rd_T95 l0_0 x27_2).f0), .int .i64 ((rd_T95 l0_0 x27_2).f1), .int .i64 ((rd_T95 l0_0 x27_2).f2)] 95 (0, 0)) BK377 hb; replace HB := hs_ HB hb; clear hb))
      go_ret
      exact ⟨rs_, hb_ HB⟩
     obtain rfl := Option.some.inj H
     go_wp2
     go_ret
     exact ⟨rs_, hb_ HB⟩
-- NOT PRINTED: function 123 (impl_Word_123)
-- NOT PRINTED: function 59 (impl_Word_59)
def impl_Entry.f (l0 : List (S122)) : Option ((List (S122))) := (some (([] : List (S122)) : List (S122))).bind fun y386 => (if y386.length + l0.length < 5864062014805 then (some (y386 ++ l0)) else (none))
set_option maxHeartbeats 8000000 in
set_option maxRecDepth 100000 in
theorem impl_Entry.calls (A0 : Option Addr) (c0 : Nat) (l0 : List (S122)) (r : List (S122)) (w : World) (hr0 : Kd.C k122 w A0 l0.length l0) (hc0 : l0.length ≤ c0) (h : impl_Entry.f l0 = some r) :
    Calls Try.prog 105 #[.slice A0 l0.length c0] w fun e w' => ∃ v0_ : Value, e = .returned (v0_) ∧ Kd.R k122 122 w' w.heap.size (fun _ => True) v0_ r ∧ Below w.heap.size w w' := by
 rcases A0 with _ | ad0_
 ·
  have hz_ : l0 = [] := by
   by_cases h0_ : 0 < l0.length
   ·
    obtain ⟨ad_, he_, _⟩ := hr0.2.2 h0_
    cases he_
   exact List.eq_nil_of_length_eq_zero (by omega)
  subst hz_
  have hq_ : r = [] := by
   have h2_ := h
   simp [impl_Entry.f] at h2_
   exact h2_
  subst hq_
  clear h hr0 hc0
  have heq_ := fun (w : World) => Lib.run_eql_slice_nil (P := Try.prog) w 77 122 none 0 c0 0 0 Try.underlying77
  show Calls Try.prog 105 #[.slice none 0 c0] w _
  go_enter Try.func105, Try.ntmps105
  go_wp2
  go_ret
  exact ⟨_, rfl, Kd.R_nil _ _ _ _ _, by repeat (first | exact Below.refl _ _ | apply below_alloc | apply pw_below_drewN | apply below_drew1)⟩
 have heq_ := fun (w : World) => Lib.run_eql_slice_nil (P := Try.prog) w 77 122 (some ad0_) l0.length c0 0 0 Try.underlying77
 have HR0 := A_ hr0
 have HC0 := A_ hc0
 clear hr0 hc0
 have HB := A_ (Below.refl w.heap.size w)
 have H : ((some (([] : List (S122)) : List (S122))).bind fun y386 => (if y386.length + l0.length < 5864062014805 then (some (y386 ++ l0)) else (none))) = some r := h
 clear h
 obtain ⟨y386, hy386⟩ : ∃ y_ : List (S122), y_ = (([] : List (S122))) := ⟨_, rfl⟩
 replace H : (if y386.length + l0.length < 5864062014805 then (some (y386 ++ l0)) else (none)) = some r := by first | (rw [hy386]; with_reducible exact H) | (have H2_ := (Option.bind_some _ _).symm.trans H; rw [hy386]; with_reducible exact H2_) | (have H2_ := (Option.bind_some _ _).symm.trans H; with_reducible exact H2_) | with_reducible exact H | (rw [hy386]; exact H) | exact H
 have Ny386 := A_ hy386
 clear hy386
 by_cases c2 : y386.length + l0.length < 5864062014805
 ·
  rw [if_pos c2] at H
  have LMc2 := A_ c2
  clear c2
  obtain ⟨y389, hy389⟩ : ∃ y_ : List (S122), y_ = (y386 ++ l0) := ⟨_, rfl⟩
  replace H : (some y389) = some r := by first | (rw [hy389]; with_reducible exact H) | (have H2_ := (Option.bind_some _ _).symm.trans H; rw [hy389]; with_reducible exact H2_) | (have H2_ := (Option.bind_some _ _).symm.trans H; with_reducible exact H2_) | with_reducible exact H | (rw [hy389]; exact H) | exact H
  have Ny389 := A_ hy389
  clear hy389
  obtain rfl := Option.some.inj H
  go_enter Try.func105, Try.ntmps105
  go_wp2_with (first | ((with_reducible refine gate_dst (N := 5) rfl ?_); refine Kd.R_lit k122 _ 122 ?hg (N := 5) ?hd (xs := ([] : List (S122))) (inner := []) (ok := fun _ => True) (okp := fun _ => True) ?hr ?hp (fun _ hk => hk) trivial (Below.refl _ _) (Nat.le_refl _) (by simp) ?_; (case hd => rfl); (case hg => rfl); (case hr => first | (go_simp; done) | (go_simp; rfl)); (case hp => exact (Reps.none _ _)); intro v387 w3 ho4 hb hg_ hnew_; clear hg_ hnew_; (first | rw [← Ny386.out] at ho4 | (simp only [Int.reduceToNat] at ho4; rw [← Ny386.out] at ho4)); have HO388 := A_ (Kd.R_lower ho4 (below_size (hb_ HB))); replace HB := hs_ HB hb; clear hb ho4) | ((with_reducible refine gate_builtin (b := .append) (xs := #[.tmp 5, .tmp 6]) rfl ?_); at_builtin; refine Kd.R_append_rows k122 (w0 := w) w.heap.size rfl (.tmp 5) (.tmp 6) 77 122 (.agg #[(.int .i64 0), (.int .i64 0), (.int .i64 0)]) 24 rfl Try.underlying77 info122 rfl (by decide) (by omega) v387 y386 l0 _ _ _ (fun _ => True) (fun _ => False) rfl rfl ?aO ?aR (fun _ _ h => h) (fun _ h => h.elim) ?aF ?aB ?aS ?aL ?_; (case aR => exact cb_ (Kd.C_below HR0.out HB.out)); (case aB => exact (hb_ HB)); (case aF => exact (fun _ _ => trivial)); (case aO => exact (rb_ HO388.out)); (case aS => exact (below_size (hb_ HB))); (case aL => have := LMc2.out; omega); intro v390 w5 ho hb hg hat; rw [← Ny389.out] at ho; have HO391 := A_ ho; replace HB := A_ hb; clear HO388; clear ho hb hg hat))
  go_ret
  exact ⟨_, rs_, rb_ HO391.out, hb_ HB⟩
 rw [if_neg c2] at H
 exact absurd H (by simp)
def slices_Clone_int_int.f (l0 : List Int) : Option (List Int) := (some (([] : List Int) : List Int)).bind fun y392 => (if y392.length + l0.length < 17592186044416 then (some (y392 ++ l0)) else (none))
set_option maxHeartbeats 8000000 in
set_option maxRecDepth 100000 in
theorem slices_Clone_int_int.calls (A0 : Option Addr) (c0 : Nat) (l0 : List Int) (r : List Int) (w : World) (hr0 : Kd.C (Kd.int .i64) w A0 l0.length l0) (hc0 : l0.length ≤ c0) (h : slices_Clone_int_int.f l0 = some r) :
    Calls Try.prog 126 #[.slice A0 l0.length c0] w fun e w' => ∃ v0_ : Value, e = .returned (v0_) ∧ Kd.R (Kd.int .i64) 3 w' w.heap.size (fun _ => True) v0_ r ∧ Below w.heap.size w w' := by
 rcases A0 with _ | ad0_
 ·
  have hz_ : l0 = [] := by
   by_cases h0_ : 0 < l0.length
   ·
    obtain ⟨ad_, he_, _⟩ := hr0.2.2 h0_
    cases he_
   exact List.eq_nil_of_length_eq_zero (by omega)
  subst hz_
  have hq_ : r = [] := by
   have h2_ := h
   simp [slices_Clone_int_int.f] at h2_
   exact h2_
  subst hq_
  clear h hr0 hc0
  have heq_ := fun (w : World) => Lib.run_eql_slice_nil (P := Try.prog) w 35 3 none 0 c0 0 0 Try.underlying35
  show Calls Try.prog 126 #[.slice none 0 c0] w _
  go_enter Try.func126, Try.ntmps126
  go_wp2
  go_ret
  exact ⟨_, rfl, Kd.R_nil _ _ _ _ _, by repeat (first | exact Below.refl _ _ | apply below_alloc | apply pw_below_drewN | apply below_drew1)⟩
 have heq_ := fun (w : World) => Lib.run_eql_slice_nil (P := Try.prog) w 35 3 (some ad0_) l0.length c0 0 0 Try.underlying35
 have HR0 := A_ hr0
 have HC0 := A_ hc0
 clear hr0 hc0
 have HB := A_ (Below.refl w.heap.size w)
 have H : ((some (([] : List Int) : List Int)).bind fun y392 => (if y392.length + l0.length < 17592186044416 then (some (y392 ++ l0)) else (none))) = some r := h
 clear h
 obtain ⟨y392, hy392⟩ : ∃ y_ : List Int, y_ = (([] : List Int)) := ⟨_, rfl⟩
 replace H : (if y392.length + l0.length < 17592186044416 then (some (y392 ++ l0)) else (none)) = some r := by first | (rw [hy392]; with_reducible exact H) | (have H2_ := (Option.bind_some _ _).symm.trans H; rw [hy392]; with_reducible exact H2_) | (have H2_ := (Option.bind_some _ _).symm.trans H; with_reducible exact H2_) | with_reducible exact H | (rw [hy392]; exact H) | exact H
 have Ny392 := A_ hy392
 clear hy392
 by_cases c2 : y392.length + l0.length < 17592186044416
 ·
  rw [if_pos c2] at H
  have LMc2 := A_ c2
  clear c2
  obtain ⟨y395, hy395⟩ : ∃ y_ : List Int, y_ = (y392 ++ l0) := ⟨_, rfl⟩
  replace H : (some y395) = some r := by first | (rw [hy395]; with_reducible exact H) | (have H2_ := (Option.bind_some _ _).symm.trans H; rw [hy395]; with_reducible exact H2_) | (have H2_ := (Option.bind_some _ _).symm.trans H; with_reducible exact H2_) | with_reducible exact H | (rw [hy395]; exact H) | exact H
  have Ny395 := A_ hy395
  clear hy395
  obtain rfl := Option.some.inj H
  go_enter Try.func126, Try.ntmps126
  go_wp2_with (first | ((with_reducible refine gate_dst (N := 5) rfl ?_); refine Kd.R_lit (Kd.int .i64) _ 3 ?hg (N := 5) ?hd (xs := ([] : List Int)) (inner := []) (ok := fun _ => True) (okp := fun _ => True) ?hr ?hp (fun _ hk => hk) trivial (Below.refl _ _) (Nat.le_refl _) (by simp) ?_; (case hd => rfl); (case hg => rfl); (case hr => first | (go_simp; done) | (go_simp; rfl)); (case hp => exact (Reps.none _ _)); intro v393 w3 ho4 hb hg_ hnew_; clear hg_ hnew_; (first | rw [← Ny392.out] at ho4 | (simp only [Int.reduceToNat] at ho4; rw [← Ny392.out] at ho4)); have HO394 := A_ (Kd.R_lower ho4 (below_size (hb_ HB))); replace HB := hs_ HB hb; clear hb ho4) | ((with_reducible refine gate_builtin (b := .append) (xs := #[.tmp 5, .tmp 6]) rfl ?_); at_builtin; refine Kd.R_append_rows (Kd.int .i64) (w0 := w) w.heap.size rfl (.tmp 5) (.tmp 6) 35 3 (.int .i64 0) 8 rfl Try.underlying35 info3 rfl (by decide) (by omega) v393 y392 l0 _ _ _ (fun _ => True) (fun _ => False) rfl rfl ?aO ?aR (fun _ _ h => h) (fun _ h => h.elim) ?aF ?aB ?aS ?aL ?_; (case aR => exact cb_ (Kd.C_below HR0.out HB.out)); (case aB => exact (hb_ HB)); (case aF => exact (fun _ _ => trivial)); (case aO => exact (rb_ HO394.out)); (case aS => exact (below_size (hb_ HB))); (case aL => have := LMc2.out; omega); intro v396 w5 ho hb hg hat; rw [← Ny395.out] at ho; have HO397 := A_ ho; replace HB := A_ hb; clear HO394; clear ho hb hg hat))
  go_ret
  exact ⟨_, rs_, rb_ HO397.out, hb_ HB⟩
 rw [if_neg c2] at H
 exact absurd H (by simp)
def impl_copyRes.f (a0_0 : Int) (l0_1 : List Int) : Option (Int × List Int) := (slices_Clone_int_int.f l0_1).bind fun t400 => (some (a0_0, t400))
set_option maxHeartbeats 8000000 in
set_option maxRecDepth 100000 in
theorem impl_copyRes.calls (a0_0 : Int) (A0_1 : Option Addr) (c0_1 : Nat) (l0_1 : List Int) (r1 : Int) (r2 : List Int) (w : World) (hr0_1 : Kd.C (Kd.int .i64) w A0_1 l0_1.length l0_1) (hc0_1 : l0_1.length ≤ c0_1) (h : impl_copyRes.f a0_0 l0_1 = some (r1, r2)) :
    Calls Try.prog 106 #[.agg #[.int .i64 a0_0, .slice A0_1 l0_1.length c0_1]] w fun e w' => ∃ v1_ : Value, e = .returned (.agg #[.int .i64 r1, v1_]) ∧ Kd.R (Kd.int .i64) 3 w' w.heap.size (fun _ => True) v1_ r2 ∧ Below w.heap.size w w' := by
 have hu49 := Try.underlying49
 have HR0_1 := A_ hr0_1
 have HC0_1 := A_ hc0_1
 clear hr0_1 hc0_1
 have HB := A_ (Below.refl w.heap.size w)
 have H : ((slices_Clone_int_int.f l0_1).bind fun t400 => (some (a0_0, t400))) = some (r1, r2) := h
 clear h
 replace H := bs_ H
 obtain ⟨t400, A2, H⟩ := H
 simp only [Option.some.injEq, Prod.mk.injEq] at H
 obtain ⟨rfl, rfl⟩ := H
 go_enter Try.func106, Try.ntmps106
 try go_wp2_with (first | ((with_reducible refine gate_dst (N := 1) rfl ?_); refine bx_ HB rfl (N := 1) rfl (cs := #[.int .i64 a0_0, .slice A0_1 l0_1.length c0_1]) (t := 49) hr_ ?_; clear HB; intro gb398 w3 hg hb BK398 GW398 HB; clear hb hg) | ((with_reducible refine gate_dst (N := 2) rfl ?_); refine bx_ HB rfl (N := 2) rfl (cs := #[.int .i64 0, .slice none 0 0]) (t := 49) hr_ ?_; clear HB; intro gb399 w4 hg hb BK399 GW399 HB; have NB398_399 := ng_ BK398 hg; have NB399_398 := ns_ (ng_ BK398 hg); replace BK398 := bb_ BK398 hb; clear hb hg))
 replace BK398 := A_ (blk_drew BK398.out)
 replace BK399 := A_ (blk_drew BK399.out)
 replace HB := A_ (below_drew1 HB.out)
 refine start_ (n := 7) (S := fun w' => w'.cell? ⟨gb398, 0, none⟩ = some (.int .i64 a0_0) ∧ w'.cell? ⟨gb398, 1, none⟩ = some (.slice A0_1 l0_1.length c0_1)) (ds := []) (bt_ 0 7) (by kernel_rfl) rfl rfl ⟨(blk_cell BK398.out 0).trans rfl, (blk_cell BK398.out 1).trans rfl⟩ (fun hHeld => ?_)
 generalize w4.drew = w5 at BK398 BK399 HB hHeld ⊢
 refine pure_ (i := 0) (N := some 3) (v := ?_) (a' := ?_) (bt_ 1 7) rfl rfl (by kernel_rfl) (fun _ _ _ h => h) (Or.inl ⟨by rfl, ?_⟩) ?_ ?_
 rotate_left
 ·
  intro w'
  go_simp
  with_reducible rfl
 rotate_left
 ·
  simp only [Act.put, List.setIfInBounds_toArray, List.set_cons_zero, List.set_cons_succ, i64_w, i32_w]
  rfl
 refine pure_ (i := 2) (N := some 5) (v := ?_) (a' := ?_) (bt_ 5 7) rfl rfl (by kernel_rfl) (fun _ _ _ h => h) (Or.inl ⟨by rfl, ?_⟩) ?_ ?_
 rotate_left
 ·
  intro w'
  go_simp
  with_reducible rfl
 rotate_left
 ·
  simp only [Act.put, List.setIfInBounds_toArray, List.set_cons_zero, List.set_cons_succ, i64_w, i32_w]
  rfl
 refine take_ (i := 1) (N := some 4) (v := ?_) (a' := ?_) (bt_ 7 7) rfl rfl (by kernel_rfl) (fun _ _ _ h => h) (Or.inl ⟨by rfl, ?_⟩) hHeld ?_ ?_
 rotate_left
 ·
  rintro w' ⟨s0, s1⟩
  go_simp
  with_reducible rfl
 rotate_left
 ·
  simp only [Act.put, List.setIfInBounds_toArray, List.set_cons_zero, List.set_cons_succ, i64_w, i32_w]
  rfl
 refine take_ (i := 3) (N := some 6) (v := ?_) (a' := ?_) (bt_ 15 7) rfl rfl (by kernel_rfl) (fun _ _ _ h => h) (Or.inl ⟨by rfl, ?_⟩) hHeld ?_ ?_
 rotate_left
 ·
  rintro w' ⟨s0, s1⟩
  go_simp
  with_reducible rfl
 rotate_left
 ·
  simp only [Act.put, List.setIfInBounds_toArray, List.set_cons_zero, List.set_cons_succ, i64_w, i32_w]
  rfl
 refine one_ (i := 4) (N := some 7) (bt_ 31 7) rfl rfl (by kernel_rfl) (by decide) (fun K hK => ?_)
 refine goes_ Try.func126 (by kernel_rfl) rfl #[.slice A0_1 l0_1.length c0_1] (by rfl) rfl rfl al_ ?_
 with_reducible refine (slices_Clone_int_int.calls _ _ l0_1 t400 _ ?s1 ?s2 A2.out).mono ?_
 (case s1 => exact cb_ (Kd.C_below HR0_1.out HB.out))
 (case s2 => exact HC0_1.out)
 rintro e w6 ⟨v401, rfl, ho0, hb⟩
 refine ⟨_, rfl, ?_⟩
 have HO402 := A_ (Kd.R_lower ho0 (below_size (hb_ HB)))
 replace BK398 := bb_ BK398 hb
 replace BK399 := bb_ BK399 hb
 replace HB := hs_ HB hb
 (try clear hb)
 (try clear hb2)
 (try clear hk)
 (try clear hi)
 (try clear ho0)
 obtain ⟨Ao7, co7, eo7⟩ := Kd.R_slice HO402.out
 (first | subst eo7 | (injection eo7 with f1_ f2_ f3_; have f4_ := f1_.symm; have f5_ := f3_.symm; clear f1_ f2_ f3_; subst f4_; subst f5_))
 refine hK.out _ _ ⟨(blk_cell BK398.out 0).trans rfl, (blk_cell BK398.out 1).trans rfl⟩ (fun hHeld => ?_)
 clear hK K
 refine norm_ (a' := ?_) ?_ ?_
 rotate_left
 ·
  show Act.put _ (some 7) _ = _
  simp only [Act.put, List.setIfInBounds_toArray, List.set_cons_zero, List.set_cons_succ, i64_w, i32_w]
  rfl
 refine pure_ (i := 5) (N := some 8) (v := ?_) (a' := ?_) (bt_ 63 7) rfl rfl (by kernel_rfl) (fun _ _ _ h => h) (Or.inl ⟨by rfl, ?_⟩) ?_ ?_
 rotate_left
 ·
  intro w'
  go_simp
  with_reducible rfl
 rotate_left
 ·
  simp only [Act.put, List.setIfInBounds_toArray, List.set_cons_zero, List.set_cons_succ, i64_w, i32_w]
  rfl
 refine one_ (i := 6) (N := none) (bt_ 127 7) rfl rfl (by kernel_rfl) (by decide) (fun K hK => ?_)
 have hs8 : w6.cell? ⟨gb399, 0, none⟩ = some (.int .i64 0) := (blk_cell BK399.out 0).trans rfl
 have hfs8 := blk_frozen BK399.out 0
 have hns8_0 := NB398_399.out
 have hms8_0 := NB399_398.out
 have hs9 : w6.cell? ⟨gb399, 1, none⟩ = some (.slice none 0 0) := (blk_cell BK399.out 1).trans rfl
 have hfs9 := blk_frozen BK399.out 1
 have hns9_0 := NB398_399.out
 have hms9_0 := NB399_398.out
 refine skip_ (w1 := ?_) (by rfl) rfl ?_ ?_
 rotate_left
 ·
  go_simp
  rfl
 refine hK.out _ _ ⟨((cell_far (p := ⟨gb399, _, none⟩) NB398_399.out _).trans (((cell_far (p := ⟨gb399, _, none⟩) NB398_399.out _).trans (hHeld.1)))), ((cell_far (p := ⟨gb399, _, none⟩) NB398_399.out _).trans (((cell_far (p := ⟨gb399, _, none⟩) NB398_399.out _).trans (hHeld.2))))⟩ (fun hHeld => ?_)
 clear hK K
 refine done_ (by kernel_rfl) ?_
 try go_wp2
 refine bodyPost_ret (results_cell_row rfl _ _ gb399 49 #[.int .i64 a0_0, .slice Ao7 t400.length co7] (0, 0) _ rfl (bp_ BK399) Try.underlying49 rfl (by kernel_rfl)) rfl ?_
 exact ⟨_, rs_, by (with_reducible repeat (first | apply Kd.R_alloc | apply Kd.R_drewN | apply Kd.R_drew)); exact Kd.R_mono (Kd.R_far (p := ⟨gb399, 1, none⟩) (Kd.R_far (p := ⟨gb399, 0, none⟩) (Kd.R_types HO402.out BK399.out (by decide)) (fun _ hk => hk.2) (.int .i64 a0_0)) (fun _ hk => hk.2) (.slice Ao7 t400.length co7)) (fun _ hk => trivial), hb_ HB⟩
def impl_Word_148.f (l0 : List (S95)) : Option ((List (S95))) := (some (([] : List (S95)) : List (S95))).bind fun y403 => (if y403.length + l0.length < 5864062014805 then (some (y403 ++ l0)) else (none))
set_option maxHeartbeats 8000000 in
set_option maxRecDepth 100000 in
theorem impl_Word_148.calls (A0 : Option Addr) (c0 : Nat) (l0 : List (S95)) (r : List (S95)) (w : World) (hr0 : Kd.C k95 w A0 l0.length l0) (hc0 : l0.length ≤ c0) (h : impl_Word_148.f l0 = some r) :
    Calls Try.prog 148 #[.slice A0 l0.length c0] w fun e w' => ∃ v0_ : Value, e = .returned (v0_) ∧ Kd.R k95 95 w' w.heap.size (fun _ => True) v0_ r ∧ Below w.heap.size w w' := by
 rcases A0 with _ | ad0_
 ·
  have hz_ : l0 = [] := by
   by_cases h0_ : 0 < l0.length
   ·
    obtain ⟨ad_, he_, _⟩ := hr0.2.2 h0_
    cases he_
   exact List.eq_nil_of_length_eq_zero (by omega)
  subst hz_
  have hq_ : r = [] := by
   have h2_ := h
   simp [impl_Word_148.f] at h2_
   exact h2_
  subst hq_
  clear h hr0 hc0
  have heq_ := fun (w : World) => Lib.run_eql_slice_nil (P := Try.prog) w 28 95 none 0 c0 0 0 Try.underlying28
  show Calls Try.prog 148 #[.slice none 0 c0] w _
  go_enter Try.func148, Try.ntmps148
  go_wp2
  go_ret
  exact ⟨_, rfl, Kd.R_nil _ _ _ _ _, by repeat (first | exact Below.refl _ _ | apply below_alloc | apply pw_below_drewN | apply below_drew1)⟩
 have heq_ := fun (w : World) => Lib.run_eql_slice_nil (P := Try.prog) w 28 95 (some ad0_) l0.length c0 0 0 Try.underlying28
 have HR0 := A_ hr0
 have HC0 := A_ hc0
 clear hr0 hc0
 have HB := A_ (Below.refl w.heap.size w)
 have H : ((some (([] : List (S95)) : List (S95))).bind fun y403 => (if y403.length + l0.length < 5864062014805 then (some (y403 ++ l0)) else (none))) = some r := h
 clear h
 obtain ⟨y403, hy403⟩ : ∃ y_ : List (S95), y_ = (([] : List (S95))) := ⟨_, rfl⟩
 replace H : (if y403.length + l0.length < 5864062014805 then (some (y403 ++ l0)) else (none)) = some r := by first | (rw [hy403]; with_reducible exact H) | (have H2_ := (Option.bind_some _ _).symm.trans H; rw [hy403]; with_reducible exact H2_) | (have H2_ := (Option.bind_some _ _).symm.trans H; with_reducible exact H2_) | with_reducible exact H | (rw [hy403]; exact H) | exact H
 have Ny403 := A_ hy403
 clear hy403
 by_cases c2 : y403.length + l0.length < 5864062014805
 ·
  rw [if_pos c2] at H
  have LMc2 := A_ c2
  clear c2
  obtain ⟨y406, hy406⟩ : ∃ y_ : List (S95), y_ = (y403 ++ l0) := ⟨_, rfl⟩
  replace H : (some y406) = some r := by first | (rw [hy406]; with_reducible exact H) | (have H2_ := (Option.bind_some _ _).symm.trans H; rw [hy406]; with_reducible exact H2_) | (have H2_ := (Option.bind_some _ _).symm.trans H; with_reducible exact H2_) | with_reducible exact H | (rw [hy406]; exact H) | exact H
  have Ny406 := A_ hy406
  clear hy406
  obtain rfl := Option.some.inj H
  go_enter Try.func148, Try.ntmps148
  go_wp2_with (first | ((with_reducible refine gate_dst (N := 5) rfl ?_); refine Kd.R_lit k95 _ 95 ?hg (N := 5) ?hd (xs := ([] : List (S95))) (inner := []) (ok := fun _ => True) (okp := fun _ => True) ?hr ?hp (fun _ hk => hk) trivial (Below.refl _ _) (Nat.le_refl _) (by simp) ?_; (case hd => rfl); (case hg => rfl); (case hr => first | (go_simp; done) | (go_simp; rfl)); (case hp => exact (Reps.none _ _)); intro v404 w3 ho4 hb hg_ hnew_; clear hg_ hnew_; (first | rw [← Ny403.out] at ho4 | (simp only [Int.reduceToNat] at ho4; rw [← Ny403.out] at ho4)); have HO405 := A_ (Kd.R_lower ho4 (below_size (hb_ HB))); replace HB := hs_ HB hb; clear hb ho4) | ((with_reducible refine gate_builtin (b := .append) (xs := #[.tmp 5, .tmp 6]) rfl ?_); at_builtin; refine Kd.R_append_rows k95 (w0 := w) w.heap.size rfl (.tmp 5) (.tmp 6) 28 95 (.agg #[(.int .i64 0), (.int .i64 0), (.int .i64 0)]) 24 rfl Try.underlying28 info95 rfl (by decide) (by omega) v404 y403 l0 _ _ _ (fun _ => True) (fun _ => False) rfl rfl ?aO ?aR (fun _ _ h => h) (fun _ h => h.elim) ?aF ?aB ?aS ?aL ?_; (case aR => exact cb_ (Kd.C_below HR0.out HB.out)); (case aB => exact (hb_ HB)); (case aF => exact (fun _ _ => trivial)); (case aO => exact (rb_ HO405.out)); (case aS => exact (below_size (hb_ HB))); (case aL => have := LMc2.out; omega); intro v407 w5 ho hb hg hat; rw [← Ny406.out] at ho; have HO408 := A_ ho; replace HB := A_ hb; clear HO405; clear ho hb hg hat))
  go_ret
  exact ⟨_, rs_, rb_ HO408.out, hb_ HB⟩
 rw [if_neg c2] at H
 exact absurd H (by simp)
end Go.Proofs.Ytmkhghbalnadlaa.PFnExactBegin
