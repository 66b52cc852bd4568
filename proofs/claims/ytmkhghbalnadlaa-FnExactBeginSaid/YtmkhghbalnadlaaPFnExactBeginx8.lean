/- Contracts of functions of the program: each says that the call does what a plain Lean function tells. Made by programs of this session and of the kit. No condition beyond the hypotheses that each theorem names. -/
import Derived.Test.YtmkhghbalnadlaaPFnExactBeginx0
namespace Go.Proofs.Ytmkhghbalnadlaa.PFnExactBegin
open Go.RowKit Go.Proofs.YtmkhghbalnadlaaW.PrintWords Go.Proofs.YtmkhghbalnadlaaW.PrintLast Go.Proofs.YtmkhghbalnadlaaW.PrintMore
attribute [local go_sem] max2_int min2_int max_two min_two max_three min_three max_four min_four   -- for this text's walks alone
set_option linter.unusedVariables false
set_option linter.unusedSimpArgs false

/-! ### spec_l7Marks: function 55 -/
def spec_l7Marks.l0 : Nat → Int → Int → List (S95) → List (S119) → Option (Bool)
 | 0, _, _, _, _ => none
 | k + 1, x1, x5, x266000, x266001 => if x5 < (x266000.length : Int) then (if 0 ≤ x5 then (if ((rd_T95 x266000 x5).f1) > 0 then (if x1 < 0 then (some true) else (if ((rd_T95 x266000 x5).f1) = (wrap64 (x1 + 1)) then (some true) else (spec_l7Marks.l0 k x1 (wrap64 (x5 + 1)) x266000 x266001))) else (spec_l7Marks.l0 k x1 (wrap64 (x5 + 1)) x266000 x266001)) else (none)) else (some false)
def spec_l7Marks.f (k : Nat) (l0_0 : List (S95)) (l0_1 : List (S119)) (a1 : Int) : Option (Bool) := spec_l7Marks.l0 k a1 0 l0_0 l0_1
set_option maxHeartbeats 8000000 in
set_option maxRecDepth 100000 in
theorem spec_l7Marks.calls (k : Nat) (A0_0 : Option Addr) (c0_0 : Nat) (l0_0 : List (S95)) (A0_1 : Option Addr) (c0_1 : Nat) (l0_1 : List (S119)) (a1 : Int) (r : Bool) (w : World) (hr0_0 : Kd.C k95 w A0_0 l0_0.length l0_0) (hc0_0 : l0_0.length ≤ c0_0) (hr0_1 : Kd.C k119 w A0_1 l0_1.length l0_1) (hc0_1 : l0_1.length ≤ c0_1) (h : spec_l7Marks.f k l0_0 l0_1 a1 = some r) :
    Calls Try.prog 55 #[.agg #[.slice A0_0 l0_0.length c0_0, .slice A0_1 l0_1.length c0_1], .int .i64 a1] w fun e w' => e = .returned (.bool r) ∧ Below w.heap.size w w' := by
 have hu31 := Try.underlying31
 have HR0_0 := A_ hr0_0
 have HC0_0 := A_ hc0_0
 clear hr0_0 hc0_0
 have HR0_1 := A_ hr0_1
 have HC0_1 := A_ hc0_1
 clear hr0_1 hc0_1
 have HB := A_ (Below.refl w.heap.size w)
 have H : (spec_l7Marks.l0 k a1 0 l0_0 l0_1) = some r := h
 clear h
 replace H' := A_ H; clear H
 go_enter Try.func55, Try.ntmps55
 go_wp2_with (first | ((with_reducible refine gate_dst (N := 2) rfl ?_); refine bx_ HB rfl (N := 2) rfl (cs := #[.slice A0_0 l0_0.length c0_0, .slice A0_1 l0_1.length c0_1]) (t := 31) hr_ ?_; clear HB; intro gb265 w3 hg hb BK265 GW265 HB; clear hb hg))
 go_loopg [5] k (fun kq v5 w' => ∃ (x5_1 : Int), v5 = .int .i64 x5_1 ∧ Aside0 (spec_l7Marks.l0 kq a1 x5_1 l0_0 l0_1 = some r) ∧ Aside0 (kq ≤ k) ∧ Aside0 (w'.heap[gb265]? = some (.cells #[(.slice A0_0 l0_0.length c0_0), (.slice A0_1 l0_1.length c0_1)] 31 (0, 0))) ∧ Aside0 (Below w.heap.size w w'))
 case atStart => exact ⟨(0), rt_, H', ⟨Nat.le_refl _⟩, ⟨bk_ BK265⟩, ⟨hb_ HB⟩⟩
 case round =>
  clear H'
  obtain ⟨x5_1, rfl, HA, HK1, BK265, HB⟩ := hrel
  cases gk with
  | zero => exact absurd HA.out (by simp [spec_l7Marks.l0])
  | succ k1 =>
   have H := HA.out
   clear HA
   simp only [spec_l7Marks.l0] at H
   replace H := ic_ H
   rcases H with ⟨c4b0, H⟩ | ⟨c4b0, H⟩
   ·
    replace H := ix_ H
    obtain ⟨c5b0, H⟩ := H
    replace H := ic_ H
    rcases H with ⟨c6b0, H⟩ | ⟨c6b0, H⟩
    ·
     replace H := ic_ H
     rcases H with ⟨c7b0, H⟩ | ⟨c7b0, H⟩
     ·
      obtain rfl := Option.some.inj H
      obtain ⟨hcz8_0, hcz8_1, hfz8_0, hfz8_1⟩ := cz2_ BK265
      obtain ⟨ad266, p266, q266, rfl, hx266_0, hx266_1, hx266_2⟩ := ab_T95 HB HR0_0 x5_1
      go_wp2
      go_ret
      exact ⟨rs_, hb_ HB⟩
     by_cases c9 : ((rd_T95 l0_0 x5_1).f1) = (wrap64 (a1 + 1))
     ·
      rw [if_pos c9] at H
      have c9b0 : (((rd_T95 l0_0 x5_1).f1) == (wrap64 (a1 + 1))) = true := beq_iff_eq.mpr c9
      have c9b1 : (((rd_T95 l0_0 x5_1).f1) != (wrap64 (a1 + 1))) = false := bne_eq_false_iff_eq.mpr c9
      clear c9
      obtain rfl := Option.some.inj H
      obtain ⟨hcz10_0, hcz10_1, hfz10_0, hfz10_1⟩ := cz2_ BK265
      obtain ⟨ad266, p266, q266, rfl, hx266_0, hx266_1, hx266_2⟩ := ab_T95 HB HR0_0 x5_1
      have p267 : 0 ≤ (x5_1 : Int) := od_
      have q267 : x5_1 < (l0_0.length : Int) := od_
      obtain ⟨ad267, e267, hx267_0, hx267_1, hx267_2⟩ := at_T95 HR0_0.out x5_1 p267 q267
      obtain rfl : ad266 = ad267 := (by injection e267)
      replace hx267_0 := hx_ HB hx267_0
      replace hx267_1 := hx_ HB hx267_1
      replace hx267_2 := hx_ HB hx267_2
      replace p267 := eq_true p267
      replace q267 := eq_true q267
      go_wp2
      go_ret
      exact ⟨rs_, hb_ HB⟩
     rw [if_neg c9] at H
     have c9b0 : (((rd_T95 l0_0 x5_1).f1) == (wrap64 (a1 + 1))) = false := beq_eq_false_iff_ne.mpr c9
     have c9b1 : (((rd_T95 l0_0 x5_1).f1) != (wrap64 (a1 + 1))) = true := bne_iff_ne.mpr c9
     replace H' := A_ H; clear H
     obtain ⟨hcz11_0, hcz11_1, hfz11_0, hfz11_1⟩ := cz2_ BK265
     obtain ⟨ad266, p266, q266, rfl, hx266_0, hx266_1, hx266_2⟩ := ab_T95 HB HR0_0 x5_1
     have p267 : 0 ≤ (x5_1 : Int) := od_
     have q267 : x5_1 < (l0_0.length : Int) := od_
     obtain ⟨ad267, e267, hx267_0, hx267_1, hx267_2⟩ := at_T95 HR0_0.out x5_1 p267 q267
     obtain rfl : ad266 = ad267 := (by injection e267)
     replace hx267_0 := hx_ HB hx267_0
     replace hx267_1 := hx_ HB hx267_1
     replace hx267_2 := hx_ HB hx267_2
     replace p267 := eq_true p267
     replace q267 := eq_true q267
     go_wp2
     go_roundg k1
     case measure => have := HK1.out; omega
     case rel => exact ⟨(wrap64 (x5_1 + 1)), rt_, H', ⟨by have := HK1.out; omega⟩, ⟨bk_ BK265⟩, ⟨hb_ HB⟩⟩
    replace H' := A_ H; clear H
    obtain ⟨hcz12_0, hcz12_1, hfz12_0, hfz12_1⟩ := cz2_ BK265
    obtain ⟨ad266, p266, q266, rfl, hx266_0, hx266_1, hx266_2⟩ := ab_T95 HB HR0_0 x5_1
    go_wp2
    go_roundg k1
    case measure => have := HK1.out; omega
    case rel => exact ⟨(wrap64 (x5_1 + 1)), rt_, H', ⟨by have := HK1.out; omega⟩, ⟨bk_ BK265⟩, ⟨hb_ HB⟩⟩
   obtain rfl := Option.some.inj H
   obtain ⟨hcz13_0, hcz13_1, hfz13_0, hfz13_1⟩ := cz2_ BK265
   go_wp2
   go_ret
   exact ⟨rs_, hb_ HB⟩

/-! ### spec_l6Res: function 101 -/
def spec_l6Res.f (a0_0 : Int) (l0_1 : List Int) : Option (Int × List Int) := (some (([] : List Int) : List Int)).bind fun y270 => (if y270.length + l0_1.length < 17592186044416 then (some (a0_0, (y270 ++ l0_1))) else (none))
def spec_l6Res.T1 : Bool × List (List Nat × List Nat) := (true, [([], []), ([0], [0]), ([], []), ([], []), ([3], [3]), ([2, 4], [2, 4]), ([1, 5], [1, 5]), ([6, 5, 0, 1, 2, 3, 4, 5, 6], [6])])
def spec_l6Res.B1 : List Nat := [0, 1, 0, 0, 8, 28, 63, 127]
theorem spec_l6Res.tab1 : rtab .any (opsOf Try.f101 1) = spec_l6Res.T1 := by kernel_rfl
theorem spec_l6Res.bits1 : waitsOk spec_l6Res.T1.2 spec_l6Res.B1 = true := by kernel_rfl
set_option maxHeartbeats 8000000 in
set_option maxRecDepth 100000 in
theorem spec_l6Res.calls (a0_0 : Int) (A0_1 : Option Addr) (c0_1 : Nat) (l0_1 : List Int) (r1 : Int) (r2 : List Int) (w : World) (hr0_1 : Kd.C (Kd.int .i64) w A0_1 l0_1.length l0_1) (hc0_1 : l0_1.length ≤ c0_1) (h : spec_l6Res.f a0_0 l0_1 = some (r1, r2)) :
    Calls Try.prog 101 #[.agg #[.int .i64 a0_0, .slice A0_1 l0_1.length c0_1]] w fun e w' => ∃ v1_ : Value, e = .returned (.agg #[.int .i64 r1, v1_]) ∧ Kd.R (Kd.int .i64) 3 w' w.heap.size (fun _ => True) v1_ r2 ∧ Below w.heap.size w w' := by
 have hu49 := Try.underlying49
 have HR0_1 := A_ hr0_1
 have HC0_1 := A_ hc0_1
 clear hr0_1 hc0_1
 have HB := A_ (Below.refl w.heap.size w)
 have H : ((some (([] : List Int) : List Int)).bind fun y270 => (if y270.length + l0_1.length < 17592186044416 then (some (a0_0, (y270 ++ l0_1))) else (none))) = some (r1, r2) := h
 clear h
 obtain ⟨y270, hy270⟩ : ∃ y_ : List Int, y_ = (([] : List Int)) := ⟨_, rfl⟩
 replace H : (if y270.length + l0_1.length < 17592186044416 then (some (a0_0, (y270 ++ l0_1))) else (none)) = some (r1, r2) := by first | (rw [hy270]; with_reducible exact H) | (have H2_ := (Option.bind_some _ _).symm.trans H; rw [hy270]; with_reducible exact H2_) | (have H2_ := (Option.bind_some _ _).symm.trans H; with_reducible exact H2_) | with_reducible exact H | (rw [hy270]; exact H) | exact H
 have Ny270 := A_ hy270
 clear hy270
 by_cases c2 : y270.length + l0_1.length < 17592186044416
 ·
  rw [if_pos c2] at H
  have LMc2 := A_ c2
  clear c2
  obtain ⟨y273, hy273⟩ : ∃ y_ : List Int, y_ = (y270 ++ l0_1) := ⟨_, rfl⟩
  replace H : (some (a0_0, y273)) = some (r1, r2) := by first | (rw [hy273]; with_reducible exact H) | (have H2_ := (Option.bind_some _ _).symm.trans H; rw [hy273]; with_reducible exact H2_) | (have H2_ := (Option.bind_some _ _).symm.trans H; with_reducible exact H2_) | with_reducible exact H | (rw [hy273]; exact H) | exact H
  have Ny273 := A_ hy273
  clear hy273
  simp only [Option.some.injEq, Prod.mk.injEq] at H
  obtain ⟨rfl, rfl⟩ := H
  go_enter Try.func101, Try.ntmps101
  try go_wp2_with (first | ((with_reducible refine gate_dst (N := 1) rfl ?_); refine bx_ HB rfl (N := 1) rfl (cs := #[.int .i64 a0_0, .slice A0_1 l0_1.length c0_1]) (t := 49) hr_ ?_; clear HB; intro gb268 w3 hg hb BK268 GW268 HB; clear hb hg) | ((with_reducible refine gate_dst (N := 2) rfl ?_); refine bx_ HB rfl (N := 2) rfl (cs := #[.int .i64 0, .slice none 0 0]) (t := 49) hr_ ?_; clear HB; intro gb269 w4 hg hb BK269 GW269 HB; have NB268_269 := ng_ BK268 hg; have NB269_268 := ns_ (ng_ BK268 hg); replace BK268 := bb_ BK268 hb; clear hb hg))
  replace BK268 := A_ (blk_drew BK268.out)
  replace BK269 := A_ (blk_drew BK269.out)
  replace HB := A_ (below_drew1 HB.out)
  refine start_ (n := 8) (S := fun w' => w'.cell? ⟨gb268, 0, none⟩ = some (.int .i64 a0_0) ∧ w'.cell? ⟨gb268, 1, none⟩ = some (.slice A0_1 l0_1.length c0_1)) (ds := []) (bt_ 0 8) (by kernel_rfl) rfl rfl ⟨(blk_cell BK268.out 0).trans rfl, (blk_cell BK268.out 1).trans rfl⟩ (fun hHeld => ?_); refine with_tabW spec_l6Res.tab1 spec_l6Res.bits1 (fun HT_ HW_ => ?_)
  generalize w4.drew = w5 at BK268 BK269 HB hHeld ⊢
  refine pu_ 0 3 (bt_ 1 8) ?_
  refine pu_ 3 6 (bt_ 9 8) ?_
  refine tk2_ 1 4 (bt_ 11 8) hHeld ?_
  refine tk2_ 4 7 (bt_ 27 8) hHeld ?_
  refine one_ (i := 2) (N := some 5) (bt_ 31 8) rfl rfl (one_of HT_.out (by kernel_rfl)) (by decide) (fun K hK => ?_)
  refine Kd.R_lit_step (Kd.int .i64) _ 3 ?hg (N := 5) ?hd (xs := ([] : List Int)) (inner := []) (ok := fun _ => True) (okp := fun _ => True) ?hr ?hp (fun _ hk => hk) trivial (Below.refl _ _) (Nat.le_refl _) (by simp) ?_; (case hd => rfl); (case hg => rfl); (case hr => first | (go_simp; done) | (go_simp; rfl)); (case hp => exact (Reps.none _ _))
  intro v271 w6 ho7 hb hg_ hnew_
  clear hg_ hnew_
  (first | rw [← Ny270.out] at ho7 | (simp only [Int.reduceToNat] at ho7; rw [← Ny270.out] at ho7))
  have HO272 := A_ (Kd.R_lower ho7 (below_size (hb_ HB)))
  replace BK268 := bb_ BK268 hb
  replace BK269 := bb_ BK269 hb
  replace HB := hs_ HB hb
  clear hb ho7
  refine hK.out _ _ ⟨(blk_cell BK268.out 0).trans rfl, (blk_cell BK268.out 1).trans rfl⟩ (fun hHeld => ?_)
  clear hK K
  refine norm_ (a' := ?_) ?_ ?_
  rotate_left
  ·
   show Act.put _ (some 5) _ = _
   simp only [Act.put, List.setIfInBounds_toArray, List.set_cons_zero, List.set_cons_succ, i64_w, i32_w]
   rfl
  refine one_ (i := 5) (N := some 8) (bt_ 63 8) rfl rfl (one_of HT_.out (by kernel_rfl)) (by decide) (fun K hK => ?_)
  refine Kd.R_append_rows_step (Kd.int .i64) (w0 := w) w.heap.size (by rfl) (.tmp 5) (.tmp 7) 35 3 (.int .i64 0) 8 rfl Try.underlying35 info3 rfl (by decide) (by omega) v271 y270 l0_1 _ _ _ (fun _ => True) (fun _ => False) rfl rfl ?aO ?aR (fun _ _ h => h) (fun _ h => h.elim) ?aF ?aB ?aS ?aL ?_
  (case aR => exact cb_ (Kd.C_below HR0_1.out HB.out))
  (case aB => exact (hb_ HB))
  (case aF => exact (fun _ _ => trivial))
  (case aO => exact (rb_ HO272.out))
  (case aS => exact (below_size (hb_ HB)))
  (case aL => have := LMc2.out; omega)
  intro v274 w8 ho hb hg hat
  rw [← Ny273.out] at ho
  have HO275 := A_ ho
  replace BK268 := A_ (blk_grown (g := gb268) (o := .cells #[.int .i64 a0_0, .slice A0_1 l0_1.length c0_1] 49 (0, 0)) (bk_ BK268) hg (Kd.R_ne HO272.out BK268.out (by decide)))
  replace BK269 := A_ (blk_grown (g := gb269) (o := .cells #[.int .i64 0, .slice none 0 0] 49 (0, 0)) (bk_ BK269) hg (Kd.R_ne HO272.out BK269.out (by decide)))
  replace HB := A_ hb
  clear HO272 ho hb hg hat
  obtain ⟨Ao9, co9, eo9⟩ := Kd.R_slice HO275.out
  (first | subst eo9 | (injection eo9 with f1_ f2_ f3_; have f4_ := f1_.symm; have f5_ := f3_.symm; clear f1_ f2_ f3_; subst f4_; subst f5_))
  refine hK.out _ _ ⟨(blk_cell BK268.out 0).trans rfl, (blk_cell BK268.out 1).trans rfl⟩ (fun hHeld => ?_)
  clear hK K
  refine norm_ (a' := ?_) ?_ ?_
  rotate_left
  ·
   show Act.put _ (some 8) _ = _
   simp only [Act.put, List.setIfInBounds_toArray, List.set_cons_zero, List.set_cons_succ, i64_w, i32_w]
   rfl
  refine pu_ 6 9 (bt_ 127 8) ?_
  refine one_ (i := 7) (N := none) (bt_ 255 8) rfl rfl (one_of HT_.out (by kernel_rfl)) (by decide) (fun K hK => ?_)
  have hs10 : w8.cell? ⟨gb269, 0, none⟩ = some (.int .i64 0) := (blk_cell BK269.out 0).trans rfl
  have hfs10 := blk_frozen BK269.out 0
  have hns10_0 := NB268_269.out
  have hms10_0 := NB269_268.out
  have hs11 : w8.cell? ⟨gb269, 1, none⟩ = some (.slice none 0 0) := (blk_cell BK269.out 1).trans rfl
  have hfs11 := blk_frozen BK269.out 1
  have hns11_0 := NB268_269.out
  have hms11_0 := NB269_268.out
  refine skip_ (w1 := ?_) (by rfl) rfl ?_ ?_
  rotate_left
  ·
   go_simp
   rfl
  refine hK.out _ _ ⟨((cell_far (p := ⟨gb269, _, none⟩) NB268_269.out _).trans (((cell_far (p := ⟨gb269, _, none⟩) NB268_269.out _).trans (hHeld.1)))), ((cell_far (p := ⟨gb269, _, none⟩) NB268_269.out _).trans (((cell_far (p := ⟨gb269, _, none⟩) NB268_269.out _).trans (hHeld.2))))⟩ (fun hHeld => ?_)
  clear hK K
  refine done_ (done_of HT_.out (by kernel_rfl)) ?_
  try go_wp2
  refine bodyPost_ret (results_cell_row rfl _ _ gb269 49 #[.int .i64 a0_0, .slice Ao9 y273.length co9] (0, 0) _ rfl (bp_ BK269) Try.underlying49 rfl (by kernel_rfl)) rfl ?_
  exact ⟨_, rs_, by (with_reducible repeat (first | apply Kd.R_alloc | apply Kd.R_drewN | apply Kd.R_drew)); exact Kd.R_mono (Kd.R_far (p := ⟨gb269, 1, none⟩) (Kd.R_far (p := ⟨gb269, 0, none⟩) (Kd.R_types HO275.out BK269.out (by decide)) (fun _ hk => hk.2) (.int .i64 a0_0)) (fun _ hk => hk.2) (.slice Ao9 y273.length co9)) (fun _ hk => trivial), hb_ HB⟩
 rw [if_neg c2] at H
 exact absurd H (by simp)

/-! ### spec_l6Desc: function 157 -/
def spec_l6Desc.f (a0_0 : Int) (a0_1 : Int) (l0_2 : List (S122)) (a0_3 : Int) (l0_4 : List Int) : Option (Int × Int × (List (S122)) × Int × List Int) := (some (([] : List (S122)) : List (S122))).bind fun y278 => (if y278.length + l0_2.length < 5864062014805 then ((spec_l6Res.f a0_3 l0_4).bind fun bt284 => (some (a0_0, a0_1, (y278 ++ l0_2), bt284.1, bt284.2))) else (none))
def spec_l6Desc.T1 : Bool × List (List Nat × List Nat) := (true, [([], []), ([0], [0]), ([], []), ([2], [2]), ([], []), ([], []), ([5], [5]), ([4, 6], [4, 6]), ([], []), ([8], [8]), ([9, 7], [9]), ([1, 3, 7, 10], [1, 3, 7, 10]), ([11, 10, 0, 1, 2, 3, 4, 5, 6, 7, 8, 9, 10, 11], [11])])
def spec_l6Desc.B1 : List Nat := [0, 1, 0, 4, 0, 0, 32, 112, 0, 256, 1008, 2047, 4095]
theorem spec_l6Desc.tab1 : rtab .any (opsOf Try.f157 1) = spec_l6Desc.T1 := by kernel_rfl
theorem spec_l6Desc.bits1 : waitsOk spec_l6Desc.T1.2 spec_l6Desc.B1 = true := by kernel_rfl
set_option maxHeartbeats 8000000 in
set_option maxRecDepth 100000 in
theorem spec_l6Desc.calls (a0_0 : Int) (a0_1 : Int) (A0_2 : Option Addr) (c0_2 : Nat) (l0_2 : List (S122)) (a0_3 : Int) (A0_4 : Option Addr) (c0_4 : Nat) (l0_4 : List Int) (r1 : Int) (r2 : Int) (r3 : List (S122)) (r4 : Int) (r5 : List Int) (w : World) (hr0_2 : Kd.C k122 w A0_2 l0_2.length l0_2) (hc0_2 : l0_2.length ≤ c0_2) (hr0_4 : Kd.C (Kd.int .i64) w A0_4 l0_4.length l0_4) (hc0_4 : l0_4.length ≤ c0_4) (h : spec_l6Desc.f a0_0 a0_1 l0_2 a0_3 l0_4 = some (r1, r2, r3, r4, r5)) :
    Calls Try.prog 157 #[.agg #[.int .i64 a0_0, .int .i64 a0_1, .slice A0_2 l0_2.length c0_2, .int .i64 a0_3, .slice A0_4 l0_4.length c0_4]] w fun e w' => ∃ v2_ v4_ : Value, e = .returned (.agg #[.int .i64 r1, .int .i64 r2, v2_, .int .i64 r4, v4_]) ∧ Kd.R k122 122 w' w.heap.size (fun _ => True) v2_ r3 ∧ Kd.R (Kd.int .i64) 3 w' w.heap.size (fun _ => True) v4_ r5 ∧ Below w.heap.size w w' := by
 have hu119 := Try.underlying119
 have hu49 := Try.underlying49
 have HR0_2 := A_ hr0_2
 have HC0_2 := A_ hc0_2
 clear hr0_2 hc0_2
 have HR0_4 := A_ hr0_4
 have HC0_4 := A_ hc0_4
 clear hr0_4 hc0_4
 have HB := A_ (Below.refl w.heap.size w)
 have H : ((some (([] : List (S122)) : List (S122))).bind fun y278 => (if y278.length + l0_2.length < 5864062014805 then ((spec_l6Res.f a0_3 l0_4).bind fun bt284 => (some (a0_0, a0_1, (y278 ++ l0_2), bt284.1, bt284.2))) else (none))) = some (r1, r2, r3, r4, r5) := h
 clear h
 obtain ⟨y278, hy278⟩ : ∃ y_ : List (S122), y_ = (([] : List (S122))) := ⟨_, rfl⟩
 replace H : (if y278.length + l0_2.length < 5864062014805 then ((spec_l6Res.f a0_3 l0_4).bind fun bt284 => (some (a0_0, a0_1, (y278 ++ l0_2), bt284.1, bt284.2))) else (none)) = some (r1, r2, r3, r4, r5) := by first | (rw [hy278]; with_reducible exact H) | (have H2_ := (Option.bind_some _ _).symm.trans H; rw [hy278]; with_reducible exact H2_) | (have H2_ := (Option.bind_some _ _).symm.trans H; with_reducible exact H2_) | with_reducible exact H | (rw [hy278]; exact H) | exact H
 have Ny278 := A_ hy278
 clear hy278
 by_cases c2 : y278.length + l0_2.length < 5864062014805
 ·
  rw [if_pos c2] at H
  have LMc2 := A_ c2
  clear c2
  obtain ⟨y281, hy281⟩ : ∃ y_ : List (S122), y_ = (y278 ++ l0_2) := ⟨_, rfl⟩
  replace H : ((spec_l6Res.f a0_3 l0_4).bind fun bt284 => (some (a0_0, a0_1, y281, bt284.1, bt284.2))) = some (r1, r2, r3, r4, r5) := by first | (rw [hy281]; with_reducible exact H) | (have H2_ := (Option.bind_some _ _).symm.trans H; rw [hy281]; with_reducible exact H2_) | (have H2_ := (Option.bind_some _ _).symm.trans H; with_reducible exact H2_) | with_reducible exact H | (rw [hy281]; exact H) | exact H
  have Ny281 := A_ hy281
  clear hy281
  replace H := bs_ H
  obtain ⟨⟨t284, t285⟩, A3, H⟩ := H
  dsimp only at H
  simp only [Option.some.injEq, Prod.mk.injEq] at H
  obtain ⟨rfl, rfl, rfl, rfl, rfl⟩ := H
  go_enter Try.func157, Try.ntmps157
  try go_wp2_with (first | ((with_reducible refine gate_dst (N := 1) rfl ?_); refine bx_ HB rfl (N := 1) rfl (cs := #[.int .i64 a0_0, .int .i64 a0_1, .slice A0_2 l0_2.length c0_2, .int .i64 a0_3, .slice A0_4 l0_4.length c0_4]) (t := 119) hr_ ?_; clear HB; intro gb276 w4 hg hb BK276 GW276 HB; clear hb hg) | ((with_reducible refine gate_dst (N := 2) rfl ?_); refine bx_ HB rfl (N := 2) rfl (cs := #[.int .i64 0, .int .i64 0, .slice none 0 0, .int .i64 0, .slice none 0 0]) (t := 119) hr_ ?_; clear HB; intro gb277 w5 hg hb BK277 GW277 HB; have NB276_277 := ng_ BK276 hg; have NB277_276 := ns_ (ng_ BK276 hg); replace BK276 := bb_ BK276 hb; clear hb hg))
  replace BK276 := A_ (blk_drew BK276.out)
  replace BK277 := A_ (blk_drew BK277.out)
  replace HB := A_ (below_drew1 HB.out)
  refine start_ (n := 13) (S := fun w' => w'.cell? ⟨gb276, 0, none⟩ = some (.int .i64 a0_0) ∧ w'.cell? ⟨gb276, 1, none⟩ = some (.int .i64 a0_1) ∧ w'.cell? ⟨gb276, 2, none⟩ = some (.slice A0_2 l0_2.length c0_2) ∧ w'.cell? ⟨gb276, 3, none⟩ = some (.int .i64 a0_3) ∧ w'.cell? ⟨gb276, 4, none⟩ = some (.slice A0_4 l0_4.length c0_4)) (ds := []) (bt_ 0 13) (by kernel_rfl) rfl rfl ⟨(blk_cell BK276.out 0).trans rfl, (blk_cell BK276.out 1).trans rfl, (blk_cell BK276.out 2).trans rfl, (blk_cell BK276.out 3).trans rfl, (blk_cell BK276.out 4).trans rfl⟩ (fun hHeld => ?_); refine with_tabW spec_l6Desc.tab1 spec_l6Desc.bits1 (fun HT_ HW_ => ?_)
  generalize w5.drew = w6 at BK276 BK277 HB hHeld ⊢
  refine pu_ 0 3 (bt_ 1 13) ?_
  refine pu_ 2 5 (bt_ 5 13) ?_
  refine pu_ 5 8 (bt_ 37 13) ?_
  refine pu_ 8 11 (bt_ 293 13) ?_
  refine tk5_ 1 4 (bt_ 295 13) hHeld ?_
  refine tk5_ 3 6 (bt_ 303 13) hHeld ?_
  refine tk5_ 6 9 (bt_ 367 13) hHeld ?_
  refine tk5_ 9 12 (bt_ 879 13) hHeld ?_
  refine one_ (i := 4) (N := some 7) (bt_ 895 13) rfl rfl (one_of HT_.out (by kernel_rfl)) (by decide) (fun K hK => ?_)
  refine Kd.R_lit_step k122 _ 122 ?hg (N := 7) ?hd (xs := ([] : List (S122))) (inner := []) (ok := fun _ => True) (okp := fun _ => True) ?hr ?hp (fun _ hk => hk) trivial (Below.refl _ _) (Nat.le_refl _) (by simp) ?_; (case hd => rfl); (case hg => rfl); (case hr => first | (go_simp; done) | (go_simp; rfl)); (case hp => exact (Reps.none _ _))
  intro v279 w7 ho8 hb hg_ hnew_
  clear hg_ hnew_
  (first | rw [← Ny278.out] at ho8 | (simp only [Int.reduceToNat] at ho8; rw [← Ny278.out] at ho8))
  have HO280 := A_ (Kd.R_lower ho8 (below_size (hb_ HB)))
  replace BK276 := bb_ BK276 hb
  replace BK277 := bb_ BK277 hb
  replace HB := hs_ HB hb
  clear hb ho8
  refine hK.out _ _ ⟨(blk_cell BK276.out 0).trans rfl, (blk_cell BK276.out 1).trans rfl, (blk_cell BK276.out 2).trans rfl, (blk_cell BK276.out 3).trans rfl, (blk_cell BK276.out 4).trans rfl⟩ (fun hHeld => ?_)
  clear hK K
  refine norm_ (a' := ?_) ?_ ?_
  rotate_left
  ·
   show Act.put _ (some 7) _ = _
   simp only [Act.put, List.setIfInBounds_toArray, List.set_cons_zero, List.set_cons_succ, i64_w, i32_w]
   rfl
  refine one_ (i := 7) (N := some 10) (bt_ 1023 13) rfl rfl (one_of HT_.out (by kernel_rfl)) (by decide) (fun K hK => ?_)
  refine Kd.R_append_rows_step k122 (w0 := w) w.heap.size (by rfl) (.tmp 7) (.tmp 9) 77 122 (.agg #[(.int .i64 0), (.int .i64 0), (.int .i64 0)]) 24 rfl Try.underlying77 info122 rfl (by decide) (by omega) v279 y278 l0_2 _ _ _ (fun _ => True) (fun _ => False) rfl rfl ?aO ?aR (fun _ _ h => h) (fun _ h => h.elim) ?aF ?aB ?aS ?aL ?_
  (case aR => exact cb_ (Kd.C_below HR0_2.out HB.out))
  (case aB => exact (hb_ HB))
  (case aF => exact (fun _ _ => trivial))
  (case aO => exact (rb_ HO280.out))
  (case aS => exact (below_size (hb_ HB)))
  (case aL => have := LMc2.out; omega)
  intro v282 w9 ho hb hg hat
  rw [← Ny281.out] at ho
  have HO283 := A_ ho
  replace BK276 := A_ (blk_grown (g := gb276) (o := .cells #[.int .i64 a0_0, .int .i64 a0_1, .slice A0_2 l0_2.length c0_2, .int .i64 a0_3, .slice A0_4 l0_4.length c0_4] 119 (0, 0)) (bk_ BK276) hg (Kd.R_ne HO280.out BK276.out (by decide)))
  replace BK277 := A_ (blk_grown (g := gb277) (o := .cells #[.int .i64 0, .int .i64 0, .slice none 0 0, .int .i64 0, .slice none 0 0] 119 (0, 0)) (bk_ BK277) hg (Kd.R_ne HO280.out BK277.out (by decide)))
  replace HB := A_ hb
  clear HO280 ho hb hg hat
  refine hK.out _ _ ⟨(blk_cell BK276.out 0).trans rfl, (blk_cell BK276.out 1).trans rfl, (blk_cell BK276.out 2).trans rfl, (blk_cell BK276.out 3).trans rfl, (blk_cell BK276.out 4).trans rfl⟩ (fun hHeld => ?_)
  clear hK K
  refine norm_ (a' := ?_) ?_ ?_
  rotate_left
  ·
   show Act.put _ (some 10) _ = _
   simp only [Act.put, List.setIfInBounds_toArray, List.set_cons_zero, List.set_cons_succ, i64_w, i32_w]
   rfl
  refine one_ (i := 10) (N := some 13) (bt_ 2047 13) rfl rfl (one_of HT_.out (by kernel_rfl)) (by decide) (fun K hK => ?_)
  refine goes_ Try.func101 (by kernel_rfl) rfl #[.agg #[.int .i64 a0_3, .slice A0_4 l0_4.length c0_4]] (by rfl) rfl rfl al_ ?_
  with_reducible refine (spec_l6Res.calls a0_3 _ _ l0_4 t284 t285 _ ?side1 ?side2 A3.out).mono ?_
  (case side1 => exact cb_ (Kd.C_below HR0_4.out HB.out))
  (case side2 => exact HC0_4.out)
  rintro e w10 ⟨v286, rfl, ho0, hb⟩
  refine ⟨_, rfl, ?_⟩
  have HO287 := A_ (Kd.R_lower ho0 (below_size (hb_ HB)))
  replace HO283 := A_ (Kd.R_below (rb_ HO283.out) hb)
  replace BK276 := bb_ BK276 hb
  replace BK277 := bb_ BK277 hb
  replace HB := hs_ HB hb
  (try clear hb)
  (try clear hb2)
  (try clear hk)
  (try clear hi)
  (try clear ho0)
  obtain ⟨Ao11, co11, eo11⟩ := Kd.R_slice HO287.out
  (first | subst eo11 | (injection eo11 with f1_ f2_ f3_; have f4_ := f1_.symm; have f5_ := f3_.symm; clear f1_ f2_ f3_; subst f4_; subst f5_))
  obtain ⟨Ao12, co12, eo12⟩ := Kd.R_slice HO283.out
  (first | subst eo12 | (injection eo12 with f1_ f2_ f3_; have f4_ := f1_.symm; have f5_ := f3_.symm; clear f1_ f2_ f3_; subst f4_; subst f5_))
  refine hK.out _ _ ⟨(blk_cell BK276.out 0).trans rfl, (blk_cell BK276.out 1).trans rfl, (blk_cell BK276.out 2).trans rfl, (blk_cell BK276.out 3).trans rfl, (blk_cell BK276.out 4).trans rfl⟩ (fun hHeld => ?_)
  clear hK K
  refine norm_ (a' := ?_) ?_ ?_
  rotate_left
  ·
   show Act.put _ (some 13) _ = _
   simp only [Act.put, List.setIfInBounds_toArray, List.set_cons_zero, List.set_cons_succ, i64_w, i32_w]
   rfl
  refine pu_ 11 14 (bt_ 4095 13) ?_
  refine one_ (i := 12) (N := none) (bt_ 8191 13) rfl rfl (one_of HT_.out (by kernel_rfl)) (by decide) (fun K hK => ?_)
  have hs13 : w10.cell? ⟨gb277, 0, none⟩ = some (.int .i64 0) := (blk_cell BK277.out 0).trans rfl
  have hfs13 := blk_frozen BK277.out 0
  have hns13_0 := NB276_277.out
  have hms13_0 := NB277_276.out
  have hs14 : w10.cell? ⟨gb277, 1, none⟩ = some (.int .i64 0) := (blk_cell BK277.out 1).trans rfl
  have hfs14 := blk_frozen BK277.out 1
  have hns14_0 := NB276_277.out
  have hms14_0 := NB277_276.out
  have hs15 : w10.cell? ⟨gb277, 2, none⟩ = some (.slice none 0 0) := (blk_cell BK277.out 2).trans rfl
  have hfs15 := blk_frozen BK277.out 2
  have hns15_0 := NB276_277.out
  have hms15_0 := NB277_276.out
  have hs16 : w10.cell? ⟨gb277, 3, none⟩ = some (.int .i64 0) := (blk_cell BK277.out 3).trans rfl
  have hfs16 := blk_frozen BK277.out 3
  have hns16_0 := NB276_277.out
  have hms16_0 := NB277_276.out
  have hs17 : w10.cell? ⟨gb277, 4, none⟩ = some (.slice none 0 0) := (blk_cell BK277.out 4).trans rfl
  have hfs17 := blk_frozen BK277.out 4
  have hns17_0 := NB276_277.out
  have hms17_0 := NB277_276.out
  refine skip_ (w1 := ?_) (by rfl) rfl ?_ ?_
  rotate_left
  ·
   go_simp
   rfl
  refine hK.out _ _ ⟨((cell_far (p := ⟨gb277, _, none⟩) NB276_277.out _).trans (((cell_far (p := ⟨gb277, _, none⟩) NB276_277.out _).trans (((cell_far (p := ⟨gb277, _, none⟩) NB276_277.out _).trans (((cell_far (p := ⟨gb277, _, none⟩) NB276_277.out _).trans (((cell_far (p := ⟨gb277, _, none⟩) NB276_277.out _).trans (hHeld.1)))))))))), ((cell_far (p := ⟨gb277, _, none⟩) NB276_277.out _).trans (((cell_far (p := ⟨gb277, _, none⟩) NB276_277.out _).trans (((cell_far (p := ⟨gb277, _, none⟩) NB276_277.out _).trans (((cell_far (p := ⟨gb277, _, none⟩) NB276_277.out _).trans (((cell_far (p := ⟨gb277, _, none⟩) NB276_277.out _).trans (hHeld.2.1)))))))))), ((cell_far (p := ⟨gb277, _, none⟩) NB276_277.out _).trans (((cell_far (p := ⟨gb277, _, none⟩) NB276_277.out _).trans (((cell_far (p := ⟨gb277, _, none⟩) NB276_277.out _).trans (((cell_far (p := ⟨gb277, _, none⟩) NB276_277.out _).trans (((cell_far (p := ⟨gb277, _, none⟩) NB276_277.out _).trans (hHeld.2.2.1)))))))))), ((cell_far (p := ⟨gb277, _, none⟩) NB276_277.out _).trans (((cell_far (p := ⟨gb277, _, none⟩) NB276_277.out _).trans (((cell_far (p := ⟨gb277, _, none⟩) NB276_277.out _).trans (((cell_far (p := ⟨gb277, _, none⟩) NB276_277.out _).trans (((cell_far (p := ⟨gb277, _, none⟩) NB276_277.out _).trans (hHeld.2.2.2.1)))))))))), ((cell_far (p := ⟨gb277, _, none⟩) NB276_277.out _).trans (((cell_far (p := ⟨gb277, _, none⟩) NB276_277.out _).trans (((cell_far (p := ⟨gb277, _, none⟩) NB276_277.out _).trans (((cell_far (p := ⟨gb277, _, none⟩) NB276_277.out _).trans (((cell_far (p := ⟨gb277, _, none⟩) NB276_277.out _).trans (hHeld.2.2.2.2))))))))))⟩ (fun hHeld => ?_)
  clear hK K
  refine done_ (done_of HT_.out (by kernel_rfl)) ?_
  try go_wp2
  refine bodyPost_ret (results_cell_row rfl _ _ gb277 119 #[.int .i64 a0_0, .int .i64 a0_1, .slice Ao12 y281.length co12, .int .i64 t284, .slice Ao11 t285.length co11] (0, 0) _ rfl (bp_ BK277) Try.underlying119 rfl (by kernel_rfl)) rfl ?_
  exact ⟨_, _, rs_, by (with_reducible repeat (first | apply Kd.R_alloc | apply Kd.R_drewN | apply Kd.R_drew)); exact Kd.R_mono (Kd.R_far (p := ⟨gb277, 4, none⟩) (Kd.R_far (p := ⟨gb277, 3, none⟩) (Kd.R_far (p := ⟨gb277, 2, none⟩) (Kd.R_far (p := ⟨gb277, 1, none⟩) (Kd.R_far (p := ⟨gb277, 0, none⟩) (Kd.R_types HO283.out BK277.out (by decide)) (fun _ hk => hk.2) (.int .i64 a0_0)) (fun _ hk => hk.2) (.int .i64 a0_1)) (fun _ hk => hk.2) (.slice Ao12 y281.length co12)) (fun _ hk => hk.2) (.int .i64 t284)) (fun _ hk => hk.2) (.slice Ao11 t285.length co11)) (fun _ hk => trivial), by (with_reducible repeat (first | apply Kd.R_alloc | apply Kd.R_drewN | apply Kd.R_drew)); exact Kd.R_mono (Kd.R_far (p := ⟨gb277, 4, none⟩) (Kd.R_far (p := ⟨gb277, 3, none⟩) (Kd.R_far (p := ⟨gb277, 2, none⟩) (Kd.R_far (p := ⟨gb277, 1, none⟩) (Kd.R_far (p := ⟨gb277, 0, none⟩) (Kd.R_types HO287.out BK277.out (by decide)) (fun _ hk => hk.2) (.int .i64 a0_0)) (fun _ hk => hk.2) (.int .i64 a0_1)) (fun _ hk => hk.2) (.slice Ao12 y281.length co12)) (fun _ hk => hk.2) (.int .i64 t284)) (fun _ hk => hk.2) (.slice Ao11 t285.length co11)) (fun _ hk => trivial), hb_ HB⟩
 rw [if_neg c2] at H
 exact absurd H (by simp)

/-! ### spec_l6Descs: function 147 -/
def spec_l6Descs.l0 : Nat → List (S119) → List (S119) → Int → Option ((List (S119)))
 | 0, _, _, _ => none
 | k + 1, x0, x3, x4 => if x4 < (x0.length : Int) then (if 0 ≤ x4 then ((spec_l6Desc.f ((rd_T119 x0 x4).f0) ((rd_T119 x0 x4).f1) ((rd_T119 x0 x4).f2) ((rd_T119 x0 x4).f3.f0) ((rd_T119 x0 x4).f3.f1)).bind fun bt292 => (if x3.length < 1954687338268 then (spec_l6Descs.l0 k x0 (x3 ++ [(⟨bt292.1, bt292.2.1, bt292.2.2.1, (⟨bt292.2.2.2.1, bt292.2.2.2.2⟩ : S49)⟩ : S119)]) (wrap64 (x4 + 1))) else (none))) else (none)) else (some x3)
def spec_l6Descs.f (k : Nat) (l0 : List (S119)) : Option ((List (S119))) := spec_l6Descs.l0 k l0 (([] : List (S119))) 0
set_option maxHeartbeats 8000000 in
set_option maxRecDepth 100000 in
theorem spec_l6Descs.calls (k : Nat) (A0 : Option Addr) (c0 : Nat) (l0 : List (S119)) (r : List (S119)) (w : World) (hr0 : Kd.C k119 w A0 l0.length l0) (hc0 : l0.length ≤ c0) (h : spec_l6Descs.f k l0 = some r) :
    Calls Try.prog 147 #[.slice A0 l0.length c0] w fun e w' => ∃ v0_ : Value, e = .returned (v0_) ∧ Kd.S k119 119 w' w.heap.size (fun _ => True) v0_ r ∧ Below w.heap.size w w' := by
 have hu119 := Try.underlying119
 have HR0 := A_ hr0
 have HC0 := A_ hc0
 clear hr0 hc0
 have HB := A_ (Below.refl w.heap.size w)
 have H : (spec_l6Descs.l0 k l0 (([] : List (S119))) 0) = some r := h
 clear h
 obtain ⟨y288, hy288⟩ : ∃ y_ : List (S119), y_ = (([] : List (S119))) := ⟨_, rfl⟩
 replace H : (spec_l6Descs.l0 k l0 y288 0) = some r := by first | (rw [hy288]; with_reducible exact H) | (have H2_ := (Option.bind_some _ _).symm.trans H; rw [hy288]; with_reducible exact H2_) | (have H2_ := (Option.bind_some _ _).symm.trans H; with_reducible exact H2_) | with_reducible exact H | (rw [hy288]; exact H) | exact H
 have Ny288 := A_ hy288
 clear hy288
 replace H' := A_ H; clear H
 go_enter Try.func147, Try.ntmps147
 go_wp2_with (first | ((with_reducible refine gate_dst (N := 5) rfl ?_); refine Kd.S_lit k119 _ 119 ?hg (N := 5) ?hd (xs := ([] : List (S119))) (inner := []) (ok := fun _ => True) (okp := fun _ => True) ?hr ?hp (fun _ hk => hk) trivial (Below.refl _ _) (Nat.le_refl _) (by simp) ?_; (case hd => rfl); (case hg => rfl); (case hr => first | (go_simp; done) | (go_simp; rfl)); (case hp => exact (Reps.none _ _)); intro v289 w2 ho3 hb hg_ hnew_; clear hg_ hnew_; (first | rw [← Ny288.out] at ho3 | (simp only [Int.reduceToNat] at ho3; rw [← Ny288.out] at ho3)); have HO290 := A_ (Kd.S_lower ho3 (below_size (hb_ HB))); replace HB := hs_ HB hb; clear hb ho3))
 go_loopg [3, 4] k (fun kq v3 v4 w' => ∃ (x3_1 : List (S119)) (x4_1 : Int), v4 = .int .i64 x4_1 ∧ Aside0 (spec_l6Descs.l0 kq l0 x3_1 x4_1 = some r) ∧ Aside0 (kq ≤ k) ∧ Aside0 (Kd.S k119 119 w' w.heap.size (fun _ => True) v3 x3_1) ∧ Aside0 (Below w.heap.size w w'))
 case atStart => exact ⟨(y288), (0), rt_, H', ⟨Nat.le_refl _⟩, ⟨sb_ HO290.out⟩, ⟨hb_ HB⟩⟩
 case round =>
  clear H'
  obtain ⟨x3_1, x4_1, rfl, HA, HK1, HO_3, HB⟩ := hrel
  cases gk with
  | zero => exact absurd HA.out (by simp [spec_l6Descs.l0])
  | succ k1 =>
   have H := HA.out
   clear HA
   simp only [spec_l6Descs.l0] at H
   replace H := ic_ H
   rcases H with ⟨c4b0, H⟩ | ⟨c4b0, H⟩
   ·
    replace H := ix_ H
    obtain ⟨c5b0, H⟩ := H
    replace H := bs_ H
    obtain ⟨⟨t292, t293, t294, t297, t298⟩, A6, H⟩ := H
    dsimp only at H
    by_cases c7 : x3_1.length < 1954687338268
    ·
     rw [if_pos c7] at H
     have LMc7 := A_ c7
     clear c7
     obtain ⟨y301, hy301⟩ : ∃ y_ : List (S119), y_ = (x3_1 ++ [(⟨t292, t293, t294, (⟨t297, t298⟩ : S49)⟩ : S119)]) := ⟨_, rfl⟩
     replace H : (spec_l6Descs.l0 k1 l0 y301 (wrap64 (x4_1 + 1))) = some r := by first | (rw [hy301]; with_reducible exact H) | (have H2_ := (Option.bind_some _ _).symm.trans H; rw [hy301]; with_reducible exact H2_) | (have H2_ := (Option.bind_some _ _).symm.trans H; with_reducible exact H2_) | with_reducible exact H | (rw [hy301]; exact H) | exact H
     have Ny301 := A_ hy301
     clear hy301
     replace H' := A_ H; clear H
     obtain ⟨ad291, A291_2, c291_2, A291_4, c291_4, p291, q291, rfl, hx291_0, hx291_1, hx291_2, hx291_3, hx291_4, HC291_2, HR291_2, HC291_4, HR291_4⟩ := ab_T119 HB HR0 x4_1
     go_wp2_with (first | ((with_reducible refine gate_callee (f := 157) rfl ?_); refine goesL_ (some 17) rfl rfl Try.func157 (by kernel_rfl) rfl #[.agg #[.int .i64 ((rd_T119 l0 x4_1).f0), .int .i64 ((rd_T119 l0 x4_1).f1), .slice A291_2 ((rd_T119 l0 x4_1).f2).length c291_2, .int .i64 ((rd_T119 l0 x4_1).f3.f0), .slice A291_4 ((rd_T119 l0 x4_1).f3.f1).length c291_4]] rfl al_ ?_; (with_reducible refine (spec_l6Desc.calls ((rd_T119 l0 x4_1).f0) ((rd_T119 l0 x4_1).f1) _ _ ((rd_T119 l0 x4_1).f2) ((rd_T119 l0 x4_1).f3.f0) _ _ ((rd_T119 l0 x4_1).f3.f1) t292 t293 t294 t297 t298 _ ?side1 ?side2 ?side3 ?side4 A6.out).mono ?_); (case side1 => exact cb_ (Kd.C_below HR291_2.out HB.out)); (case side2 => exact HC291_2.out); (case side3 => exact cb_ (Kd.C_below HR291_4.out HB.out)); (case side4 => exact HC291_4.out); rintro e w8 ⟨v295, v299, rfl, ho0, ho1, hb⟩; refine ⟨_, rfl, ?_⟩; have HO296 := A_ (Kd.R_lower ho0 (below_size (hb_ HB))); have HO300 := A_ (Kd.R_lower ho1 (below_size (hb_ HB))); replace HO_3 := A_ (Kd.S_mono (Kd.S_told (Kd.S_told (Kd.S_old (sb_ HO_3.out) hb) (Kd.R_base ho0)) (Kd.R_base ho1)) (fun _ h_ => h_.1)); replace HB := hs_ HB hb; (try clear hb); (try clear hb2); (try clear hk); (try clear hi); (try clear ho0); (try clear ho1); obtain ⟨Ao10, co10, eo10⟩ := Kd.R_slice HO296.out; subst eo10; obtain ⟨Ao11, co11, eo11⟩ := Kd.R_slice HO300.out; subst eo11) | ((with_reducible refine gate_builtin (b := .append) (xs := #[.tmp 12, .tmp 18]) rfl ?_); at_builtin; refine Kd.S_append k119 (w0 := w) w.heap.size rfl (.tmp 12) (.tmp 18) 29 119 (.agg #[(.int .i64 0), (.int .i64 0), (.slice none 0 0), (.int .i64 0), (.slice none 0 0)]) 72 rfl Try.underlying29 info119 rfl (by decide) (by omega) u3 x3_1 (⟨t292, t293, t294, (⟨t297, t298⟩ : S49)⟩ : S119) [.int .i64 t292, .int .i64 t293, .slice Ao10 t294.length co10, .int .i64 t297, .slice Ao11 t298.length co11] (fun _ => True) (fun k_ => some k_ = (.slice Ao10 t294.length co10 : Value).ownBlock ∨ some k_ = (.slice Ao11 t298.length co11 : Value).ownBlock) rfl rfl ?aP (fun k_ hk_ => hk_.elim (fun h_ => ((Kd.R_mono (ok' := fun k_ => ((fun _ => True)) k_ ∧ some k_ ≠ (u3 : Value).ownBlock) (Kd.R_apart' (HO296.out) (Kd.S_typed HO_3.out) (by decide)) (fun k_ hk => ⟨trivial, hk.2⟩))).1 k_ h_.symm) (fun h_ => ((Kd.R_mono (ok' := fun k_ => ((fun _ => True)) k_ ∧ some k_ ≠ (u3 : Value).ownBlock) (Kd.R_apart' (HO300.out) (Kd.S_typed HO_3.out) (by decide)) (fun k_ hk => ⟨trivial, hk.2⟩))).1 k_ h_.symm)) ?aF ?aO ?aB ?aS ?aL ?_; (case aP => exact k119_mkM _ _ _ (⟨t292, t293, t294, (⟨t297, t298⟩ : S49)⟩ : S119) (Kd.R_mono (Kd.R_tight rfl (Kd.R_mono (ok' := fun k_ => ((fun _ => True)) k_ ∧ some k_ ≠ (u3 : Value).ownBlock) (Kd.R_apart' (HO296.out) (Kd.S_typed HO_3.out) (by decide)) (fun k_ hk => ⟨trivial, hk.2⟩))) (fun _ h_ => Or.inl h_)) (Kd.R_mono (Kd.R_tight rfl (Kd.R_mono (ok' := fun k_ => ((fun _ => True)) k_ ∧ some k_ ≠ (u3 : Value).ownBlock) (Kd.R_apart' (HO300.out) (Kd.S_typed HO_3.out) (by decide)) (fun k_ hk => ⟨trivial, hk.2⟩))) (fun _ h_ => Or.inr (h_)))); (case aB => exact (hb_ HB)); (case aF => exact (fun _ _ => trivial)); (case aO => exact (by (with_reducible repeat (first | apply Kd.S_alloc | apply Kd.S_drewN | apply Kd.S_drew)); exact Kd.S_mono HO_3.out (fun k_ hk => ⟨trivial, fun e_ => e_.elim (fun h_ => hk.1.2 h_) (fun h_ => hk.2 h_)⟩))); (case aS => exact (below_size (hb_ HB))); (case aL => have := LMc7.out; omega); intro v302 w9 ho hb hg hat; rw [← Ny301.out] at ho; have HO303 := A_ ho; replace HB := A_ hb; clear HO_3 HO296 HO300; clear ho hb hg hat))
     go_roundg k1
     case measure => have := HK1.out; omega
     case rel => exact ⟨(y301), (wrap64 (x4_1 + 1)), rt_, H', ⟨by have := HK1.out; omega⟩, ⟨sb_ HO303.out⟩, ⟨hb_ HB⟩⟩
    rw [if_neg c7] at H
    exact absurd H (by simp)
   obtain rfl := Option.some.inj H
   go_wp2
   go_ret
   exact ⟨_, rs_, sb_ HO_3.out, hb_ HB⟩

end Go.Proofs.Ytmkhghbalnadlaa.PFnExactBegin
