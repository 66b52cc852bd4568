/- Contracts of functions of the program: each says that the call does what a plain Lean function tells. Made by programs of this session and of the kit. No condition beyond the hypotheses that each theorem names. -/
import Derived.Test.YtmkhghbalnadlaaPFnExactMemNewx0
import Derived.Test.YtmkhghbalnadlaaPFnExactMemNewx2
import Derived.Test.YtmkhghbalnadlaaPFnExactMemNewx4
import Derived.Test.YtmkhghbalnadlaaPFnExactMemNewx7
namespace Go.Proofs.Ytmkhghbalnadlaa.PFnExactMemNew
open Go.RowKit Go.Proofs.YtmkhghbalnadlaaW.PrintWords Go.Proofs.YtmkhghbalnadlaaW.PrintLast Go.Proofs.YtmkhghbalnadlaaW.PrintMore
attribute [local go_sem] max2_int min2_int max_two min_two max_three min_three max_four min_four   -- for this text's walks alone
set_option linter.unusedVariables false
set_option linter.unusedSimpArgs false

/-! ### spec_MemNew: function 38 -/
def spec_MemNew.l0 : Nat → Int → List Int → Int → List (S95) → Option ((List (S95)) × (List (S119)) × Bool)
 | 0, _, _, _, _ => none
 | k + 1, x1, x7, x8, x225000 => if x8 < (x7.length : Int) then (if 0 ≤ x8 then (if x225000.length < 5864062014805 then (spec_MemNew.l0 k x1 x7 (wrap64 (x8 + 1)) (x225000 ++ [(⟨rd x7 x8, 0, 0⟩ : S95)])) else (none)) else (none)) else ((spec_l1In.f x1 1 4).bind fun t232 => (if t232 = true then (if 0 ≤ x1 then (if (x1 : Int).toNat ≤ 3909374676536 then ((some (List.replicate (x1 : Int).toNat z119 : List (S119))).bind fun y233 => ((spec_MemOk.f k x225000 y233).bind fun t236 => (if t236 = true then (some (x225000, y233, true)) else (some (([] : List (S95)), ([] : List (S119)), false))))) else (none)) else (none)) else ((spec_MemOk.f k x225000 ([] : List (S119))).bind fun t237 => (if t237 = true then (some (x225000, ([] : List (S119)), true)) else (some (([] : List (S95)), ([] : List (S119)), false))))))
def spec_MemNew.f (k : Nat) (l0_0 : List Int) (a0_1 : Int) (a1 : Int) : Option ((List (S95)) × (List (S119)) × Bool) := (spec_WordsOf.f k l0_0 a0_1).bind fun t225 => (spec_MemNew.l0 k a1 t225 0 ([] : List (S95)))
theorem spec_MemNew.mono_l : ∀ k, (∀ y0 y1 y2 y3, LeO (spec_MemNew.l0 k y0 y1 y2 y3) (spec_MemNew.l0 (k + 1) y0 y1 y2 y3))
 | 0 => fun _ _ _ _ r h => by simp [spec_MemNew.l0] at h
 | k + 1 => by
  have ih0 := spec_MemNew.mono_l k
  ·
   intro y0 y1 y2 y3
   unfold spec_MemNew.l0
   repeat' first | (with_reducible first | apply ih0 | apply spec_MemOk.mono | apply spec_WordsOf.mono | apply LeO.refl | apply LeO.none | apply LeO.ite | refine LeO.bind ?_ (fun _ => ?_)) | apply ih0 | apply spec_MemOk.mono | apply spec_WordsOf.mono | apply LeO.none | apply LeO.ite | refine LeO.bind ?_ (fun _ => ?_)
theorem spec_MemNew.mono : ∀ a0 a1 a2 k, LeO (spec_MemNew.f k a0 a1 a2) (spec_MemNew.f (k + 1) a0 a1 a2) := by
 intro a0 a1 a2 k
 have ih0 := spec_MemNew.mono_l k
 unfold spec_MemNew.f
 repeat' first | (with_reducible first | apply ih0 | apply spec_MemOk.mono | apply spec_WordsOf.mono | apply LeO.refl | apply LeO.none | apply LeO.ite | refine LeO.bind ?_ (fun _ => ?_)) | apply ih0 | apply spec_MemOk.mono | apply spec_WordsOf.mono | apply LeO.none | apply LeO.ite | refine LeO.bind ?_ (fun _ => ?_)
def spec_MemNew.T6 : Bool × List (List Nat × List Nat) := (true, [([], []), ([0], [0]), ([], []), ([], []), ([2, 3], [2, 3]), ([4], [4]), ([5], [5]), ([6], [6]), ([1, 7], [1, 7]), ([0, 1, 2, 3, 4, 5, 6, 7, 8], []), ([9, 8, 8, 0, 1, 2, 3, 4, 5, 6, 7, 8], [8, 9])])
def spec_MemNew.B6 : List Nat := [0, 1, 0, 0, 12, 28, 60, 124, 255, 511, 1023]
theorem spec_MemNew.tab6 : rtab .any (opsOf Try.f38 6) = spec_MemNew.T6 := by kernel_rfl
theorem spec_MemNew.bits6 : waitsOk spec_MemNew.T6.2 spec_MemNew.B6 = true := by kernel_rfl
set_option maxHeartbeats 8000000 in
set_option maxRecDepth 100000 in
theorem spec_MemNew.calls (k : Nat) (A0_0 : Option Addr) (c0_0 : Nat) (l0_0 : List Int) (a0_1 : Int) (a1 : Int) (r1 : List (S95)) (r2 : List (S119)) (r3 : Bool) (w : World) (hr0_0 : Kd.C (Kd.int .i64) w A0_0 l0_0.length l0_0) (hc0_0 : l0_0.length ≤ c0_0) (h : spec_MemNew.f k l0_0 a0_1 a1 = some (r1, r2, r3)) :
    Calls Try.prog 38 #[.agg #[.slice A0_0 l0_0.length c0_0, .int .i64 a0_1], .int .i64 a1] w fun e w' => ∃ v0_ v1_ : Value, e = .returned (.tuple #[.agg #[v0_, v1_], .bool r3]) ∧ Kd.R k95 95 w' w.heap.size (fun _ => True) v0_ r1 ∧ Kd.S k119 119 w' w.heap.size (fun _ => True) v1_ r2 ∧ Below w.heap.size w w' := by
 have hu44 := Try.underlying44
 have hu31 := Try.underlying31
 have hu95 := Try.underlying95
 have HR0_0 := A_ hr0_0
 have HC0_0 := A_ hc0_0
 clear hr0_0 hc0_0
 have HB := A_ (Below.refl w.heap.size w)
 have H : ((spec_WordsOf.f k l0_0 a0_1).bind fun t225 => (spec_MemNew.l0 k a1 t225 0 ([] : List (S95)))) = some (r1, r2, r3) := h
 clear h
 replace H := bs_ H
 obtain ⟨t225, A3, H⟩ := H
 replace H' := A_ H; clear H
 go_enter Try.func38, Try.ntmps38
 go_wp2_with (first | ((with_reducible refine gate_dst (N := 2) rfl ?_); refine bx_ HB rfl (N := 2) rfl (cs := #[.slice A0_0 l0_0.length c0_0, .int .i64 a0_1]) (t := 44) hr_ ?_; clear HB; intro gb222 w4 hg hb BK222 GW222 HB; clear hb hg) | ((with_reducible refine gate_dst (N := 4) rfl ?_); refine bx_ HB rfl (N := 4) rfl (cs := #[.slice none 0 0, .slice none 0 0]) (t := 31) hr_ ?_; clear HB; intro gb223 w5 hg hb BK223 GW223 HB; have NB222_223 := ng_ BK222 hg; have NB223_222 := ns_ (ng_ BK222 hg); replace BK222 := bb_ BK222 hb; clear hb hg) | ((with_reducible refine gate_dst (N := 6) rfl ?_); refine bx_ HB rfl (N := 6) rfl (cs := #[.slice none 0 0, .slice none 0 0]) (t := 31) hr_ ?_; clear HB; intro gb224 w6 hg hb BK224 GW224 HB; have NB222_224 := ng_ BK222 hg; have NB224_222 := ns_ (ng_ BK222 hg); have NB223_224 := ng_ BK223 hg; have NB224_223 := ns_ (ng_ BK223 hg); replace BK222 := bb_ BK222 hb; replace BK223 := bb_ BK223 hb; clear hb hg; have hnb7 := NB224_222.out; have hnc7 := NB222_224.out; have hnb8 := NB224_223.out; have hnc8 := NB223_224.out; obtain ⟨hcz9_0, hcz9_1, hfz9_0, hfz9_1⟩ := cz2_ BK224; have hnb10 := NB222_223.out; have hnc10 := NB223_222.out; obtain ⟨hcz11_0, hcz11_1, hfz11_0, hfz11_1⟩ := cz2_ BK222) | ((with_reducible refine gate_callee (f := 94) rfl ?_); refine goesL_ (some 11) rfl rfl Try.func94 (by kernel_rfl) rfl #[.agg #[.slice A0_0 l0_0.length c0_0, .int .i64 a0_1]] rfl al_ ?_; (with_reducible refine (spec_WordsOf.calls k _ _ l0_0 a0_1 t225 _ ?side1 ?side2 A3.out).mono ?_); (case side1 => exact Kd.C_below HR0_0.out (hb_ HB)); (case side2 => exact HC0_0.out); rintro e w12 ⟨v226, rfl, ho0, hb⟩; refine ⟨_, rfl, ?_⟩; have HO227 := A_ (Kd.R_lower ho0 (below_size (hb_ HB))); replace BK222 := bb_ BK222 hb; replace BK223 := bb_ BK223 hb; replace BK224 := bq_ (o' := .cells #[.slice none 0 0, .slice none 0 0] 31 (0, 0)) BK224 hb; replace HB := hs_ HB hb; (try clear hb); (try clear hb2); (try clear hk); (try clear hi); (try clear ho0)))
 go_loopg [8] k (fun kq v8 w' => ∃ (x8_1 : Int) (x225000_1 : List (S95)) (u225000 : Value), v8 = .int .i64 x8_1 ∧ Aside0 (spec_MemNew.l0 kq a1 t225 x8_1 x225000_1 = some (r1, r2, r3)) ∧ Aside0 (kq ≤ k) ∧ Aside0 (Kd.R (Kd.int .i64) 3 w' w.heap.size (fun _ => True) v226 t225) ∧ Aside0 (Kd.R k95 95 w' w.heap.size (fun _ => True) u225000 x225000_1) ∧ Aside0 (w'.heap[gb222]? = some (.cells #[(.slice A0_0 l0_0.length c0_0), .int .i64 a0_1] 44 (0, 0))) ∧ Aside0 (w'.heap[gb223]? = some (.cells #[(.slice none 0 0), (.slice none 0 0)] 31 (0, 0))) ∧ Aside0 (w'.heap[gb224]? = some (.cells #[u225000, (.slice none 0 0)] 31 (0, 0))) ∧ Aside0 (Below w.heap.size w w'))
 case atStart => exact ⟨(0), (([] : List (S95))), (.slice none 0 0), rt_, H', ⟨Nat.le_refl _⟩, ⟨rb_ HO227.out⟩, ⟨by first | exact Kd.R_nil _ _ _ _ _ | exact Kd.N_nil _ _ _ _ _ | exact Kd.V_nil _ _ _ _ _ | exact Kd.Q_nil _ _ _ _ _ | exact Kd.S_nil _ _ _ _ _⟩, ⟨bk_ BK222⟩, ⟨bk_ BK223⟩, ⟨bk_ BK224⟩, ⟨hb_ HB⟩⟩
 case round =>
  clear H'
  try clear c3
  try clear c10
  obtain ⟨x8_1, x225000_1, u225000, rfl, HA, HK1, HO_7, HO_225000, BK222, BK223, BK224, HB⟩ := hrel
  cases gk with
  | zero => exact absurd HA.out (by simp [spec_MemNew.l0])
  | succ k1 =>
   have H := HA.out
   clear HA
   simp only [spec_MemNew.l0] at H
   replace H := ic_ H
   rcases H with ⟨c13b0, H⟩ | ⟨c13b0, H⟩
   ·
    replace H := ix_ H
    obtain ⟨c14b0, H⟩ := H
    by_cases c15 : x225000_1.length < 5864062014805
    ·
     rw [if_pos c15] at H
     have LMc15 := A_ c15
     clear c15
     obtain ⟨y229, hy229⟩ : ∃ y_ : List (S95), y_ = (x225000_1 ++ [(⟨rd t225 x8_1, 0, 0⟩ : S95)]) := ⟨_, rfl⟩
     replace H : (spec_MemNew.l0 k1 a1 t225 (wrap64 (x8_1 + 1)) y229) = some (r1, r2, r3) := by first | (rw [hy229]; with_reducible exact H) | (have H2_ := (Option.bind_some _ _).symm.trans H; rw [hy229]; with_reducible exact H2_) | (have H2_ := (Option.bind_some _ _).symm.trans H; with_reducible exact H2_) | with_reducible exact H | (rw [hy229]; exact H) | exact H
     have Ny229 := A_ hy229
     clear hy229
     replace H' := A_ H; clear H
     obtain ⟨Ao16, co16, eo16⟩ := Kd.R_slice HO_7.out
     subst eo16
     try go_wp2
     replace HO_7 := A_ (Kd.R_drew HO_7.out)
     replace HO_225000 := A_ (Kd.R_drew HO_225000.out)
     replace BK222 := A_ (blk_drew BK222.out)
     replace BK223 := A_ (blk_drew BK223.out)
     replace BK224 := A_ (blk_drew BK224.out)
     replace HB := A_ (below_drew1 HB.out)
     have p228 : 0 ≤ (x8_1 : Int) := od_
     have q228 : x8_1 < (t225.length : Int) := od_
     obtain ⟨ad228, e228, hx228_0⟩ := Kd.at_int (Kd.R_reads' HO_7.out).2.2 x8_1 p228 q228
     cases e228
     replace p228 := eq_true p228
     replace q228 := eq_true q228
     refine start_ (n := 11) (S := fun w' => w'.cell? ⟨gb224, 0, none⟩ = some (u225000) ∧ w'.cell? ⟨gb224, 1, none⟩ = some (.slice none 0 0) ∧ w'.cell? (ad228.add (x8_1).toNat) = some (.int .i64 (rd t225 x8_1))) (ds := [8, 10]) (bt_ 0 11) (by kernel_rfl) rfl rfl ⟨(blk_cell BK224.out 0).trans rfl, (blk_cell BK224.out 1).trans rfl, hx228_0⟩ (fun hHeld => ?_); refine with_tabW spec_MemNew.tab6 spec_MemNew.bits6 (fun HT_ HW_ => ?_)
     generalize wr.drew = w17 at HO_7 HO_225000 BK222 BK223 BK224 HB hx228_0 hHeld ⊢
     refine pu_ 0 18 (bt_ 1 11) ?_
     refine pu_ 2 20 (bt_ 5 11) ?_
     refine pu_ 3 21 (bt_ 13 11) ?_
     refine pu_ 4 22 (bt_ 29 11) ?_
     refine tk3_ 1 19 (bt_ 31 11) hHeld ?_
     refine tk3_ 5 23 (bt_ 63 11) hHeld ?_
     refine pu_ 6 24 (bt_ 127 11) ?_
     refine one_ (i := 7) (N := some 25) (bt_ 255 11) rfl rfl (one_of HT_.out (by kernel_rfl)) (by decide) (fun K hK => ?_)
     refine value_ (w1 := ?_) (v := ?_) (by rfl) rfl ?_ ?_
     rotate_left 2
     ·
      go_simp
      constructor
      ·
       rfl
      rfl
     refine hK.out _ _ ⟨(blk_cell (blk_alloc BK224.out _) 0).trans rfl, (blk_cell (blk_alloc BK224.out _) 1).trans rfl, (World.cell?_alloc_lt _ _ _ (World.block_lt_of_cell? _ _ (hHeld.2.2))).trans (hHeld.2.2)⟩ (fun hHeld => ?_)
     clear hK K
     refine norm_ (a' := ?_) ?_ ?_
     rotate_left
     ·
      show Act.put _ (some 25) _ = _
      simp only [Act.put, List.setIfInBounds_toArray, List.set_cons_zero, List.set_cons_succ, i64_w, i32_w]
      rfl
     refine last_ (i := 8) (N := some 26) (bt_ 511 11) rfl rfl (one_of HT_.out (by kernel_rfl)) (by decide) (fun K hK => ?_)
     refine Kd.R_append_step k95 (w0 := w) w.heap.size (by rfl) (.tmp 19) (.tmp 25) 28 95 (.agg #[(.int .i64 0), (.int .i64 0), (.int .i64 0)]) 24 rfl Try.underlying28 info95 rfl (by decide) (by omega) u225000 x225000_1 (⟨rd t225 x8_1, 0, 0⟩ : S95) [.int .i64 (rd t225 x8_1), .int .i64 0, .int .i64 0] (fun _ => True) (fun _ => False) rfl rfl ?aP (fun _ hk => hk.elim) ?aF ?aO ?aB ?aS ?aL ?_
     (case aP => exact k95_mkM _ _ _ (⟨rd t225 x8_1, 0, 0⟩ : S95))
     (case aB => exact (hb_ HB))
     (case aF => exact (fun _ _ => trivial))
     (case aO => exact (rb_ HO_225000.out))
     (case aS => exact (below_size (hb_ HB)))
     (case aL => have := LMc15.out; omega)
     intro v230 w18 ho hb hg hat
     rw [← Ny229.out] at ho
     have HO231 := A_ ho
     replace HO_7 := A_ (Kd.R_over' (rb_ HO_7.out) (Kd.R_typed (rb_ HO_225000.out)) (by decide) hg)
     replace BK222 := A_ (blk_grown (g := gb222) (o := .cells #[.slice A0_0 l0_0.length c0_0, .int .i64 a0_1] 44 (0, 0)) (bk_ BK222) hg (Kd.R_ne HO_225000.out BK222.out (by decide)))
     replace BK223 := A_ (blk_grown (g := gb223) (o := .cells #[.slice none 0 0, .slice none 0 0] 31 (0, 0)) (bk_ BK223) hg (Kd.R_ne HO_225000.out BK223.out (by decide)))
     replace BK224 := A_ (blk_grown (g := gb224) (o := .cells #[u225000, .slice none 0 0] 31 (0, 0)) (bk_ BK224) hg (Kd.R_ne HO_225000.out BK224.out (by decide)))
     replace HB := A_ hb
     clear HO_225000 ho hb hg hat
     obtain ⟨Ao19, co19, eo19⟩ := Kd.R_slice HO231.out
     (first | subst eo19 | (injection eo19 with f1_ f2_ f3_; have f4_ := f1_.symm; have f5_ := f3_.symm; clear f1_ f2_ f3_; subst f4_; subst f5_))
     refine hK.out _ _ ?_
     clear hK K
     refine norm_ (a' := ?_) ?_ ?_
     rotate_left
     ·
      show Act.put _ (some 26) _ = _
      simp only [Act.put, List.setIfInBounds_toArray, List.set_cons_zero, List.set_cons_succ, i64_w, i32_w]
      rfl
     refine pu_ 9 27 (bt_ 1023 11) ?_
     refine last_ (i := 10) (N := none) (bt_ 2047 11) rfl rfl (one_of HT_.out (by kernel_rfl)) (by decide) (fun K hK => ?_)
     have hs20 : w18.cell? ⟨gb224, 0, none⟩ = some (u225000) := (blk_cell BK224.out 0).trans rfl
     have hfs20 := blk_frozen BK224.out 0
     have hns20_0 := NB222_224.out
     have hns20_1 := NB223_224.out
     have hms20_0 := NB224_222.out
     have hms20_1 := NB224_223.out
     refine skip_ (w1 := ?_) (by rfl) rfl ?_ ?_
     rotate_left
     ·
      go_simp
      rfl
     refine hK.out _ _ ?_
     clear hK K
     refine done_ (done_of HT_.out (by kernel_rfl)) ?_
     try go_wp2
     go_roundg k1
     case measure => have := HK1.out; omega
     case rel => exact ⟨(wrap64 (x8_1 + 1)), (y229), (.slice Ao19 y229.length co19), rt_, H', ⟨by have := HK1.out; omega⟩, ⟨by (with_reducible repeat (first | apply Kd.R_alloc | apply Kd.R_drewN | apply Kd.R_drew)); exact Kd.R_mono (Kd.R_far (p := ⟨gb224, 0, none⟩) (Kd.R_types HO_7.out BK224.out (by decide)) (fun _ hk => hk.2) (.slice Ao19 y229.length co19)) (fun _ hk => trivial)⟩, ⟨by (with_reducible repeat (first | apply Kd.R_alloc | apply Kd.R_drewN | apply Kd.R_drew)); exact Kd.R_mono (Kd.R_far (p := ⟨gb224, 0, none⟩) (Kd.R_types HO231.out BK224.out (by decide)) (fun _ hk => hk.2) (.slice Ao19 y229.length co19)) (fun _ hk => trivial)⟩, ⟨bk_ BK222⟩, ⟨bk_ BK223⟩, ⟨bp_ BK224⟩, ⟨hb_ HB⟩⟩
    rw [if_neg c15] at H
    exact absurd H (by simp)
   replace H := bs_ H
   obtain ⟨t232, A21, H⟩ := H
   by_cases c22 : t232 = true
   ·
    subst c22
    replace H := it_ H
    by_cases c23 : 0 ≤ a1
    ·
     rw [if_pos c23] at H
     have c23b0 := eq_true c23
     have c23b1 : decide (0 ≤ a1) = true := decide_eq_true c23
     clear c23
     by_cases c24 : (a1 : Int).toNat ≤ 3909374676536
     ·
      rw [if_pos c24] at H
      have c24b0 := eq_true c24
      have c24b1 : decide ((a1 : Int).toNat ≤ 3909374676536) = true := decide_eq_true c24
      clear c24
      obtain ⟨y233, hy233⟩ : ∃ y_ : List (S119), y_ = (List.replicate (a1 : Int).toNat z119) := ⟨_, rfl⟩
      replace H : ((spec_MemOk.f k1 x225000_1 y233).bind fun t236 => (if t236 = true then (some (x225000_1, y233, true)) else (some (([] : List (S95)), ([] : List (S119)), false)))) = some (r1, r2, r3) := by first | (rw [hy233]; with_reducible exact H) | (have H2_ := (Option.bind_some _ _).symm.trans H; rw [hy233]; with_reducible exact H2_) | (have H2_ := (Option.bind_some _ _).symm.trans H; with_reducible exact H2_) | with_reducible exact H | (rw [hy233]; exact H) | exact H
      have Ny233 := A_ hy233
      clear hy233
      replace H := bs_ H
      obtain ⟨t236, A25, H⟩ := H
      by_cases c26 : t236 = true
      ·
       subst c26
       replace H := it_ H
       simp only [Option.some.injEq, Prod.mk.injEq] at H
       obtain ⟨rfl, rfl, rfl⟩ := H
       obtain ⟨Ao27, co27, eo27⟩ := Kd.R_slice HO_7.out
       subst eo27
       go_wp2_with (first | ((with_reducible refine gate_callee (f := 87) rfl ?_); refine goesL_ (some 29) rfl rfl Try.func87 (by kernel_rfl) rfl #[.int .i64 a1, .int .i64 1, .int .i64 4] rfl al_ ?_; (with_reducible refine (spec_l1In.calls a1 1 4 true _ A21.out).mono ?_); rintro e w' ⟨rfl, ⟨nd, rfl⟩⟩; refine ⟨_, rfl, ?_⟩; (try (rw [drewN_self wr]; generalize hq_ : World.drewN wr _ = wr; have n0_ : Aside0 (Kd.R k95 95 wr w.heap.size (fun _ => True) u225000 x225000_1) := ⟨by rw [← hq_]; exact (rb_ HO_225000.out)⟩; have n1_ : Aside0 (Kd.R (Kd.int .i64) 3 wr w.heap.size (fun _ => True) (.slice Ao27 t225.length co27) t225) := ⟨by rw [← hq_]; exact (rb_ HO_7.out)⟩; have n2_ : Aside0 (wr.heap[gb222]? = some (.cells #[.slice A0_0 l0_0.length c0_0, .int .i64 a0_1] 44 (0, 0))) := ⟨by rw [← hq_]; exact (bk_ BK222)⟩; have n3_ : Aside0 (wr.heap[gb223]? = some (.cells #[.slice none 0 0, .slice none 0 0] 31 (0, 0))) := ⟨by rw [← hq_]; exact (bk_ BK223)⟩; have n4_ : Aside0 (wr.heap[gb224]? = some (.cells #[u225000, .slice none 0 0] 31 (0, 0))) := ⟨by rw [← hq_]; exact (bk_ BK224)⟩; have n5_ : Aside0 (Below w.heap.size w wr) := ⟨by rw [← hq_]; exact (hb_ HB)⟩; clear HO_225000 HO_7 BK222 BK223 BK224 HB hq_; have HO_225000 := n0_; have HO_7 := n1_; have BK222 := n2_; have BK223 := n3_; have BK224 := n4_; have HB := n5_; clear n0_ n1_ n2_ n3_ n4_ n5_))) | ((with_reducible refine gate_dst (N := 31) rfl ?_); refine Kd.S_make k119 _ 119 rfl (N := 31) rfl 29 _ _ rfl a1 rfl rfl Try.underlying29 (.agg #[(.int .i64 0), (.int .i64 0), (.slice none 0 0), (.int .i64 0), (.slice none 0 0)]) 72 info119 rfl (by decide) (by omega) z119 (ok := fun _ => True) (okp := fun _ => True) (k119_mkM _ _ _ z119 (Kd.R_nil _ _ _ _ _) (Kd.R_nil _ _ _ _ _)) (fun _ hk => hk) trivial (od_) (Nat.le_trans (Nat.mul_le_mul_right _ (od_ : a1.toNat ≤ 3909374676536)) (by omega)) (Below.refl _ _) (Nat.le_refl _) ?_; intro v234 w28 ho29 hb hg_ hnew_; clear hg_ hnew_; (first | rw [← Ny233.out] at ho29 | (simp only [Int.reduceToNat] at ho29; rw [← Ny233.out] at ho29)); have HO235 := A_ (Kd.S_lower (Kd.S_new' ho29 (Kd.R_lt (rb_ HO_7.out))) (below_size (hb_ HB))); replace HO_7 := A_ (Kd.R_below (rb_ HO_7.out) hb); replace HO_225000 := A_ (Kd.R_below (rb_ HO_225000.out) hb); replace BK222 := bb_ BK222 hb; replace BK223 := bb_ BK223 hb; replace BK224 := bb_ BK224 hb; replace HB := hs_ HB hb; clear hb ho29; obtain ⟨Ao30, co30, eo30⟩ := Kd.S_slice HO235.out; subst eo30; have hnb31 := NB224_222.out; have hnc31 := NB222_224.out; have hnb32 := NB224_223.out; have hnc32 := NB223_224.out; obtain ⟨hcz33_0, hcz33_1, hfz33_0, hfz33_1⟩ := cz2_ BK224; obtain ⟨Ao34, co34, eo34⟩ := Kd.R_slice HO_225000.out; subst eo34) | ((with_reducible refine gate_callee (f := 54) rfl ?_); refine goesL_ (some 34) rfl rfl Try.func54 (by kernel_rfl) rfl #[.agg #[.slice Ao34 x225000_1.length co34, .slice Ao30 y233.length co30]] rfl al_ ?_; (with_reducible refine (spec_MemOk.calls k1 _ _ x225000_1 _ _ y233 true _ ?side1 ?side2 ?side3 ?side4 A25.out).mono ?_); (case side1 => refine (Kd.R_reads' (e := 95) (base := w.heap.size) (ok := fun k_ => True) (n := x225000_1.length) (c := co34) ?_).2.2; exact (by (with_reducible repeat (first | apply Kd.R_alloc | apply Kd.R_drewN | apply Kd.R_drew)); exact (Kd.R_mono (Kd.R_far (p := ⟨gb224, 1, none⟩) (Kd.R_types HO_225000.out BK224.out (by decide)) (fun _ hk => hk.2) (.slice Ao30 y233.length co30)) (fun _ h_ => h_.1)))); (case side2 => exact (Kd.R_reads' HO_225000.out).2.1); (case side3 => refine (Kd.S_reads' (e := 119) (base := w.heap.size) (ok := fun k_ => (True ∧ some k_ ≠ (.slice Ao27 t225.length co27 : Value).ownBlock)) (n := y233.length) (c := co30) ?_).2.2; exact (by (with_reducible repeat (first | apply Kd.S_alloc | apply Kd.S_drewN | apply Kd.S_drew)); exact (Kd.S_mono (Kd.S_far (p := ⟨gb224, 1, none⟩) (Kd.S_types HO235.out BK224.out (by decide)) (fun _ hk => hk.2) (.slice Ao30 y233.length co30)) (fun _ h_ => h_.1)))); (case side4 => exact (Kd.S_reads' HO235.out).2.1); rintro e w35 ⟨rfl, hb⟩; refine ⟨_, rfl, ?_⟩; replace HO_7 := A_ (Kd.R_below (by (with_reducible repeat (first | apply Kd.R_alloc | apply Kd.R_drewN | apply Kd.R_drew)); exact (Kd.R_mono (Kd.R_far (p := ⟨gb224, 1, none⟩) (Kd.R_types HO_7.out BK224.out (by decide)) (fun _ hk => hk.2) (.slice Ao30 y233.length co30)) (fun _ h_ => h_.1))) hb); replace HO_225000 := A_ (Kd.R_below (by (with_reducible repeat (first | apply Kd.R_alloc | apply Kd.R_drewN | apply Kd.R_drew)); exact (Kd.R_mono (Kd.R_far (p := ⟨gb224, 1, none⟩) (Kd.R_types HO_225000.out BK224.out (by decide)) (fun _ hk => hk.2) (.slice Ao30 y233.length co30)) (fun _ h_ => h_.1))) hb); replace HO235 := A_ (Kd.S_below (by (with_reducible repeat (first | apply Kd.S_alloc | apply Kd.S_drewN | apply Kd.S_drew)); exact (Kd.S_mono (Kd.S_far (p := ⟨gb224, 1, none⟩) (Kd.S_types HO235.out BK224.out (by decide)) (fun _ hk => hk.2) (.slice Ao30 y233.length co30)) (fun _ h_ => h_.1))) hb); replace BK222 := bb_ BK222 hb; replace BK223 := bb_ BK223 hb; replace BK224 := bq_ (o' := .cells #[.slice Ao34 x225000_1.length co34, .slice Ao30 y233.length co30] 31 (0, 0)) BK224 hb; replace HB := hs_ HB hb; (try clear hb); (try clear hb2); (try clear hk); (try clear hi); obtain ⟨hcz36_0, hcz36_1, hfz36_0, hfz36_1⟩ := cz2_ BK224; have hnb37 := NB223_222.out; have hnc37 := NB222_223.out; obtain ⟨hcz38_0, hcz38_1, hfz38_0, hfz38_1⟩ := cz2_ BK223))
       refine bodyPost_ret (results_ct rfl _ _ gb223 31 #[.slice Ao34 x225000_1.length co34, .slice Ao30 y233.length co30] (0, 0) _ rfl (bp_ BK223) Try.underlying31 rfl (by kernel_rfl)) rfl ?_
       exact ⟨_, _, rs_, by (with_reducible repeat (first | apply Kd.R_alloc | apply Kd.R_drewN | apply Kd.R_drew)); exact Kd.R_mono (Kd.R_far (p := ⟨gb223, 1, none⟩) (Kd.R_far (p := ⟨gb223, 0, none⟩) (Kd.R_types HO_225000.out BK223.out (by decide)) (fun _ hk => hk.2) (.slice Ao34 x225000_1.length co34)) (fun _ hk => hk.2) (.slice Ao30 y233.length co30)) (fun _ hk => trivial), by (with_reducible repeat (first | apply Kd.S_alloc | apply Kd.S_drewN | apply Kd.S_drew)); exact Kd.S_mono (Kd.S_far (p := ⟨gb223, 1, none⟩) (Kd.S_far (p := ⟨gb223, 0, none⟩) (Kd.S_types HO235.out BK223.out (by decide)) (fun _ hk => hk.2) (.slice Ao34 x225000_1.length co34)) (fun _ hk => hk.2) (.slice Ao30 y233.length co30)) (fun _ hk => trivial), hb_ HB⟩
      obtain rfl := Bool.eq_false_iff.mpr c26
      replace H := iF_ H
      simp only [Option.some.injEq, Prod.mk.injEq] at H
      obtain ⟨rfl, rfl, rfl⟩ := H
      obtain ⟨Ao39, co39, eo39⟩ := Kd.R_slice HO_7.out
      subst eo39
      go_wp2_with (first | ((with_reducible refine gate_callee (f := 87) rfl ?_); refine goesL_ (some 29) rfl rfl Try.func87 (by kernel_rfl) rfl #[.int .i64 a1, .int .i64 1, .int .i64 4] rfl al_ ?_; (with_reducible refine (spec_l1In.calls a1 1 4 true _ A21.out).mono ?_); rintro e w' ⟨rfl, ⟨nd, rfl⟩⟩; refine ⟨_, rfl, ?_⟩; (try (rw [drewN_self wr]; generalize hq_ : World.drewN wr _ = wr; have n0_ : Aside0 (Kd.R k95 95 wr w.heap.size (fun _ => True) u225000 x225000_1) := ⟨by rw [← hq_]; exact (rb_ HO_225000.out)⟩; have n1_ : Aside0 (Kd.R (Kd.int .i64) 3 wr w.heap.size (fun _ => True) (.slice Ao39 t225.length co39) t225) := ⟨by rw [← hq_]; exact (rb_ HO_7.out)⟩; have n2_ : Aside0 (wr.heap[gb222]? = some (.cells #[.slice A0_0 l0_0.length c0_0, .int .i64 a0_1] 44 (0, 0))) := ⟨by rw [← hq_]; exact (bk_ BK222)⟩; have n3_ : Aside0 (wr.heap[gb223]? = some (.cells #[.slice none 0 0, .slice none 0 0] 31 (0, 0))) := ⟨by rw [← hq_]; exact (bk_ BK223)⟩; have n4_ : Aside0 (wr.heap[gb224]? = some (.cells #[u225000, .slice none 0 0] 31 (0, 0))) := ⟨by rw [← hq_]; exact (bk_ BK224)⟩; have n5_ : Aside0 (Below w.heap.size w wr) := ⟨by rw [← hq_]; exact (hb_ HB)⟩; clear HO_225000 HO_7 BK222 BK223 BK224 HB hq_; have HO_225000 := n0_; have HO_7 := n1_; have BK222 := n2_; have BK223 := n3_; have BK224 := n4_; have HB := n5_; clear n0_ n1_ n2_ n3_ n4_ n5_))) | ((with_reducible refine gate_dst (N := 31) rfl ?_); refine Kd.S_make k119 _ 119 rfl (N := 31) rfl 29 _ _ rfl a1 rfl rfl Try.underlying29 (.agg #[(.int .i64 0), (.int .i64 0), (.slice none 0 0), (.int .i64 0), (.slice none 0 0)]) 72 info119 rfl (by decide) (by omega) z119 (ok := fun _ => True) (okp := fun _ => True) (k119_mkM _ _ _ z119 (Kd.R_nil _ _ _ _ _) (Kd.R_nil _ _ _ _ _)) (fun _ hk => hk) trivial (od_) (Nat.le_trans (Nat.mul_le_mul_right _ (od_ : a1.toNat ≤ 3909374676536)) (by omega)) (Below.refl _ _) (Nat.le_refl _) ?_; intro v234 w40 ho41 hb hg_ hnew_; clear hg_ hnew_; (first | rw [← Ny233.out] at ho41 | (simp only [Int.reduceToNat] at ho41; rw [← Ny233.out] at ho41)); have HO235 := A_ (Kd.S_lower (Kd.S_new' ho41 (Kd.R_lt (rb_ HO_7.out))) (below_size (hb_ HB))); replace HO_7 := A_ (Kd.R_below (rb_ HO_7.out) hb); replace HO_225000 := A_ (Kd.R_below (rb_ HO_225000.out) hb); replace BK222 := bb_ BK222 hb; replace BK223 := bb_ BK223 hb; replace BK224 := bb_ BK224 hb; replace HB := hs_ HB hb; clear hb ho41; obtain ⟨Ao42, co42, eo42⟩ := Kd.S_slice HO235.out; subst eo42; have hnb43 := NB224_222.out; have hnc43 := NB222_224.out; have hnb44 := NB224_223.out; have hnc44 := NB223_224.out; obtain ⟨hcz45_0, hcz45_1, hfz45_0, hfz45_1⟩ := cz2_ BK224; obtain ⟨Ao46, co46, eo46⟩ := Kd.R_slice HO_225000.out; subst eo46) | ((with_reducible refine gate_callee (f := 54) rfl ?_); refine goesL_ (some 34) rfl rfl Try.func54 (by kernel_rfl) rfl #[.agg #[.slice Ao46 x225000_1.length co46, .slice Ao42 y233.length co42]] rfl al_ ?_; (with_reducible refine (spec_MemOk.calls k1 _ _ x225000_1 _ _ y233 false _ ?side1 ?side2 ?side3 ?side4 A25.out).mono ?_); (case side1 => refine (Kd.R_reads' (e := 95) (base := w.heap.size) (ok := fun k_ => True) (n := x225000_1.length) (c := co46) ?_).2.2; exact (by (with_reducible repeat (first | apply Kd.R_alloc | apply Kd.R_drewN | apply Kd.R_drew)); exact (Kd.R_mono (Kd.R_far (p := ⟨gb224, 1, none⟩) (Kd.R_types HO_225000.out BK224.out (by decide)) (fun _ hk => hk.2) (.slice Ao42 y233.length co42)) (fun _ h_ => h_.1)))); (case side2 => exact (Kd.R_reads' HO_225000.out).2.1); (case side3 => refine (Kd.S_reads' (e := 119) (base := w.heap.size) (ok := fun k_ => (True ∧ some k_ ≠ (.slice Ao39 t225.length co39 : Value).ownBlock)) (n := y233.length) (c := co42) ?_).2.2; exact (by (with_reducible repeat (first | apply Kd.S_alloc | apply Kd.S_drewN | apply Kd.S_drew)); exact (Kd.S_mono (Kd.S_far (p := ⟨gb224, 1, none⟩) (Kd.S_types HO235.out BK224.out (by decide)) (fun _ hk => hk.2) (.slice Ao42 y233.length co42)) (fun _ h_ => h_.1)))); (case side4 => exact (Kd.S_reads' HO235.out).2.1); rintro e w47 ⟨rfl, hb⟩; refine ⟨_, rfl, ?_⟩; replace HO_7 := A_ (Kd.R_below (by (with_reducible repeat (first | apply Kd.R_alloc | apply Kd.R_drewN | apply Kd.R_drew)); exact (Kd.R_mono (Kd.R_far (p := ⟨gb224, 1, none⟩) (Kd.R_types HO_7.out BK224.out (by decide)) (fun _ hk => hk.2) (.slice Ao42 y233.length co42)) (fun _ h_ => h_.1))) hb); replace HO_225000 := A_ (Kd.R_below (by (with_reducible repeat (first | apply Kd.R_alloc | apply Kd.R_drewN | apply Kd.R_drew)); exact (Kd.R_mono (Kd.R_far (p := ⟨gb224, 1, none⟩) (Kd.R_types HO_225000.out BK224.out (by decide)) (fun _ hk => hk.2) (.slice Ao42 y233.length co42)) (fun _ h_ => h_.1))) hb); replace HO235 := A_ (Kd.S_below (by (with_reducible repeat (first | apply Kd.S_alloc | apply Kd.S_drewN | apply Kd.S_drew)); exact (Kd.S_mono (Kd.S_far (p := ⟨gb224, 1, none⟩) (Kd.S_types HO235.out BK224.out (by decide)) (fun _ hk => hk.2) (.slice Ao42 y233.length co42)) (fun _ h_ => h_.1))) hb); replace BK222 := bb_ BK222 hb; replace BK223 := bb_ BK223 hb; replace BK224 := bq_ (o' := .cells #[.slice Ao46 x225000_1.length co46, .slice Ao42 y233.length co42] 31 (0, 0)) BK224 hb; replace HB := hs_ HB hb; (try clear hb); (try clear hb2); (try clear hk); (try clear hi); have hnb48 := NB223_222.out; have hnc48 := NB222_223.out; obtain ⟨hcz49_0, hcz49_1, hfz49_0, hfz49_1⟩ := cz2_ BK223))
      refine bodyPost_ret (results_ct rfl _ _ gb223 31 #[.slice none 0 0, .slice none 0 0] (0, 0) _ rfl (bp_ BK223) Try.underlying31 rfl (by kernel_rfl)) rfl ?_
      exact ⟨_, _, rs_, by first | exact Kd.R_nil _ _ _ _ _ | exact Kd.N_nil _ _ _ _ _ | exact Kd.V_nil _ _ _ _ _ | exact Kd.Q_nil _ _ _ _ _ | exact Kd.S_nil _ _ _ _ _, by first | exact Kd.S_nil _ _ _ _ _ | exact Kd.N_nil _ _ _ _ _ | exact Kd.V_nil _ _ _ _ _ | exact Kd.Q_nil _ _ _ _ _ | exact Kd.R_nil _ _ _ _ _, hb_ HB⟩
     rw [if_neg c24] at H
     exact absurd H (by simp)
    rw [if_neg c23] at H
    exact absurd H (by simp)
   obtain rfl := Bool.eq_false_iff.mpr c22
   replace H := iF_ H
   replace H := bs_ H
   obtain ⟨t237, A50, H⟩ := H
   by_cases c51 : t237 = true
   ·
    subst c51
    replace H := it_ H
    simp only [Option.some.injEq, Prod.mk.injEq] at H
    obtain ⟨rfl, rfl, rfl⟩ := H
    obtain ⟨Ao52, co52, eo52⟩ := Kd.R_slice HO_7.out
    subst eo52
    go_wp2_with (first | ((with_reducible refine gate_callee (f := 87) rfl ?_); refine goesL_ (some 29) rfl rfl Try.func87 (by kernel_rfl) rfl #[.int .i64 a1, .int .i64 1, .int .i64 4] rfl al_ ?_; (with_reducible refine (spec_l1In.calls a1 1 4 false _ A21.out).mono ?_); rintro e w' ⟨rfl, ⟨nd, rfl⟩⟩; refine ⟨_, rfl, ?_⟩; (try (rw [drewN_self wr]; generalize hq_ : World.drewN wr _ = wr; have n0_ : Aside0 (Kd.R k95 95 wr w.heap.size (fun _ => True) u225000 x225000_1) := ⟨by rw [← hq_]; exact (rb_ HO_225000.out)⟩; have n1_ : Aside0 (Kd.R (Kd.int .i64) 3 wr w.heap.size (fun _ => True) (.slice Ao52 t225.length co52) t225) := ⟨by rw [← hq_]; exact (rb_ HO_7.out)⟩; have n2_ : Aside0 (wr.heap[gb222]? = some (.cells #[.slice A0_0 l0_0.length c0_0, .int .i64 a0_1] 44 (0, 0))) := ⟨by rw [← hq_]; exact (bk_ BK222)⟩; have n3_ : Aside0 (wr.heap[gb223]? = some (.cells #[.slice none 0 0, .slice none 0 0] 31 (0, 0))) := ⟨by rw [← hq_]; exact (bk_ BK223)⟩; have n4_ : Aside0 (wr.heap[gb224]? = some (.cells #[u225000, .slice none 0 0] 31 (0, 0))) := ⟨by rw [← hq_]; exact (bk_ BK224)⟩; have n5_ : Aside0 (Below w.heap.size w wr) := ⟨by rw [← hq_]; exact (hb_ HB)⟩; clear HO_225000 HO_7 BK222 BK223 BK224 HB hq_; have HO_225000 := n0_; have HO_7 := n1_; have BK222 := n2_; have BK223 := n3_; have BK224 := n4_; have HB := n5_; clear n0_ n1_ n2_ n3_ n4_ n5_)); have hnb53 := NB224_222.out; have hnc53 := NB222_224.out; have hnb54 := NB224_223.out; have hnc54 := NB223_224.out; obtain ⟨hcz55_0, hcz55_1, hfz55_0, hfz55_1⟩ := cz2_ BK224; obtain ⟨Ao56, co56, eo56⟩ := Kd.R_slice HO_225000.out; subst eo56) | ((with_reducible refine gate_callee (f := 54) rfl ?_); refine goesL_ (some 34) rfl rfl Try.func54 (by kernel_rfl) rfl #[.agg #[.slice Ao56 x225000_1.length co56, .slice none 0 0]] rfl al_ ?_; (refine (spec_MemOk.calls k1 _ _ x225000_1 _ _ ([] : List (S119)) true _ ?side1 ?side2 ?side3 ?side4 A50.out).mono ?_); (case side1 => repeat (first | exact (Kd.R_reads' HO_225000.out).2.2 | (with_reducible refine Kd.C_alloc ?_ _) | (with_reducible refine Kd.C_drewN ?_ _) | (with_reducible refine Kd.C_drew ?_))); (case side2 => exact (Kd.R_reads' HO_225000.out).2.1); (case side3 => exact Kd.C_nil _ _); (case side4 => exact Nat.le_refl _); rintro e w57 ⟨rfl, hb⟩; refine ⟨_, rfl, ?_⟩; replace HO_7 := A_ (Kd.R_below (rb_ HO_7.out) hb); replace HO_225000 := A_ (Kd.R_below (rb_ HO_225000.out) hb); replace BK222 := bb_ BK222 hb; replace BK223 := bb_ BK223 hb; replace BK224 := bb_ BK224 hb; replace HB := hs_ HB hb; (try clear hb); (try clear hb2); (try clear hk); (try clear hi); obtain ⟨hcz58_0, hcz58_1, hfz58_0, hfz58_1⟩ := cz2_ BK224; have hnb59 := NB223_222.out; have hnc59 := NB222_223.out; obtain ⟨hcz60_0, hcz60_1, hfz60_0, hfz60_1⟩ := cz2_ BK223))
    refine bodyPost_ret (results_ct rfl _ _ gb223 31 #[.slice Ao56 x225000_1.length co56, .slice none 0 0] (0, 0) _ rfl (bp_ BK223) Try.underlying31 rfl (by kernel_rfl)) rfl ?_
    exact ⟨_, _, rs_, by (with_reducible repeat (first | apply Kd.R_alloc | apply Kd.R_drewN | apply Kd.R_drew)); exact Kd.R_mono (Kd.R_far (p := ⟨gb223, 1, none⟩) (Kd.R_far (p := ⟨gb223, 0, none⟩) (Kd.R_types HO_225000.out BK223.out (by decide)) (fun _ hk => hk.2) (.slice Ao56 x225000_1.length co56)) (fun _ hk => hk.2) (.slice none 0 0)) (fun _ hk => trivial), by first | exact Kd.S_nil _ _ _ _ _ | exact Kd.N_nil _ _ _ _ _ | exact Kd.V_nil _ _ _ _ _ | exact Kd.Q_nil _ _ _ _ _ | exact Kd.R_nil _ _ _ _ _, hb_ HB⟩
   obtain rfl := Bool.eq_false_iff.mpr c51
   replace H := iF_ H
   simp only [Option.some.injEq, Prod.mk.injEq] at H
   obtain ⟨rfl, rfl, rfl⟩ := H
   obtain ⟨Ao61, co61, eo61⟩ := Kd.R_slice HO_7.out
   subst eo61
   go_wp2_with (first | ((with_reducible refine gate_callee (f := 87) rfl ?_); refine goesL_ (some 29) rfl rfl Try.func87 (by kernel_rfl) rfl #[.int .i64 a1, .int .i64 1, .int .i64 4] rfl al_ ?_; (with_reducible refine (spec_l1In.calls a1 1 4 false _ A21.out).mono ?_); rintro e w' ⟨rfl, ⟨nd, rfl⟩⟩; refine ⟨_, rfl, ?_⟩; (try (rw [drewN_self wr]; generalize hq_ : World.drewN wr _ = wr; have n0_ : Aside0 (Kd.R k95 95 wr w.heap.size (fun _ => True) u225000 x225000_1) := ⟨by rw [← hq_]; exact (rb_ HO_225000.out)⟩; have n1_ : Aside0 (Kd.R (Kd.int .i64) 3 wr w.heap.size (fun _ => True) (.slice Ao61 t225.length co61) t225) := ⟨by rw [← hq_]; exact (rb_ HO_7.out)⟩; have n2_ : Aside0 (wr.heap[gb222]? = some (.cells #[.slice A0_0 l0_0.length c0_0, .int .i64 a0_1] 44 (0, 0))) := ⟨by rw [← hq_]; exact (bk_ BK222)⟩; have n3_ : Aside0 (wr.heap[gb223]? = some (.cells #[.slice none 0 0, .slice none 0 0] 31 (0, 0))) := ⟨by rw [← hq_]; exact (bk_ BK223)⟩; have n4_ : Aside0 (wr.heap[gb224]? = some (.cells #[u225000, .slice none 0 0] 31 (0, 0))) := ⟨by rw [← hq_]; exact (bk_ BK224)⟩; have n5_ : Aside0 (Below w.heap.size w wr) := ⟨by rw [← hq_]; exact (hb_ HB)⟩; clear HO_225000 HO_7 BK222 BK223 BK224 HB hq_; have HO_225000 := n0_; have HO_7 := n1_; have BK222 := n2_; have BK223 := n3_; have BK224 := n4_; have HB := n5_; clear n0_ n1_ n2_ n3_ n4_ n5_)); have hnb62 := NB224_222.out; have hnc62 := NB222_224.out; have hnb63 := NB224_223.out; have hnc63 := NB223_224.out; obtain ⟨hcz64_0, hcz64_1, hfz64_0, hfz64_1⟩ := cz2_ BK224; obtain ⟨Ao65, co65, eo65⟩ := Kd.R_slice HO_225000.out; subst eo65) | ((with_reducible refine gate_callee (f := 54) rfl ?_); refine goesL_ (some 34) rfl rfl Try.func54 (by kernel_rfl) rfl #[.agg #[.slice Ao65 x225000_1.length co65, .slice none 0 0]] rfl al_ ?_; (refine (spec_MemOk.calls k1 _ _ x225000_1 _ _ ([] : List (S119)) false _ ?side1 ?side2 ?side3 ?side4 A50.out).mono ?_); (case side1 => repeat (first | exact (Kd.R_reads' HO_225000.out).2.2 | (with_reducible refine Kd.C_alloc ?_ _) | (with_reducible refine Kd.C_drewN ?_ _) | (with_reducible refine Kd.C_drew ?_))); (case side2 => exact (Kd.R_reads' HO_225000.out).2.1); (case side3 => exact Kd.C_nil _ _); (case side4 => exact Nat.le_refl _); rintro e w66 ⟨rfl, hb⟩; refine ⟨_, rfl, ?_⟩; replace HO_7 := A_ (Kd.R_below (rb_ HO_7.out) hb); replace HO_225000 := A_ (Kd.R_below (rb_ HO_225000.out) hb); replace BK222 := bb_ BK222 hb; replace BK223 := bb_ BK223 hb; replace BK224 := bb_ BK224 hb; replace HB := hs_ HB hb; (try clear hb); (try clear hb2); (try clear hk); (try clear hi); have hnb67 := NB223_222.out; have hnc67 := NB222_223.out; obtain ⟨hcz68_0, hcz68_1, hfz68_0, hfz68_1⟩ := cz2_ BK223))
   refine bodyPost_ret (results_ct rfl _ _ gb223 31 #[.slice none 0 0, .slice none 0 0] (0, 0) _ rfl (bp_ BK223) Try.underlying31 rfl (by kernel_rfl)) rfl ?_
   exact ⟨_, _, rs_, by first | exact Kd.R_nil _ _ _ _ _ | exact Kd.N_nil _ _ _ _ _ | exact Kd.V_nil _ _ _ _ _ | exact Kd.Q_nil _ _ _ _ _ | exact Kd.S_nil _ _ _ _ _, by first | exact Kd.S_nil _ _ _ _ _ | exact Kd.N_nil _ _ _ _ _ | exact Kd.V_nil _ _ _ _ _ | exact Kd.Q_nil _ _ _ _ _ | exact Kd.R_nil _ _ _ _ _, hb_ HB⟩

/-! ### impl_from: function 93 -/
def impl_from.f (a0 : Int) (a1 : Int) (a2 : Int) : Option (Bool) := if a0 ≥ a1 then (some (decide (a0 ≤ a2))) else (some false)
set_option maxHeartbeats 8000000 in
set_option maxRecDepth 100000 in
theorem impl_from.calls (a0 : Int) (a1 : Int) (a2 : Int) (r : Bool) (w : World) (h : impl_from.f a0 a1 a2 = some r) :
    Calls Try.prog 93 #[.int .i64 a0, .int .i64 a1, .int .i64 a2] w fun e w' => e = .returned (.bool r) ∧ Drawn0 w w' := by
 have H : (if a0 ≥ a1 then (some (decide (a0 ≤ a2))) else (some false)) = some r := h
 clear h
 replace H := ic_ H
 rcases H with ⟨c4b0, H⟩ | ⟨c4b0, H⟩
 ·
  obtain rfl := Option.some.inj H
  go_enter Try.func93, Try.ntmps93
  go_wp2
  go_ret
  exact ⟨rt_, by repeat (first | exact Drawn0.refl _ | apply Drawn0.step)⟩
 obtain rfl := Option.some.inj H
 go_enter Try.func93, Try.ntmps93
 go_wp2
 go_ret
 exact ⟨rt_, by repeat (first | exact Drawn0.refl _ | apply Drawn0.step)⟩

-- NOT PRINTED: function 150 (impl_Desc_150)

-- NOT PRINTED: function 118 (impl_Desc_118)

/-! ### impl_isWordNum: function 152 -/
def impl_isWordNum.f (a0 : Int) : Option (Bool) := (impl_from.f a0 0 1000).bind fun t238 => (some t238)
set_option maxHeartbeats 8000000 in
set_option maxRecDepth 100000 in
theorem impl_isWordNum.calls (a0 : Int) (r : Bool) (w : World) (h : impl_isWordNum.f a0 = some r) :
    Calls Try.prog 152 #[.int .i64 a0] w fun e w' => e = .returned (.bool r) ∧ Drawn0 w w' := by
 have H : ((impl_from.f a0 0 1000).bind fun t238 => (some t238)) = some r := h
 clear h
 replace H := bs_ H
 obtain ⟨t238, A2, H⟩ := H
 obtain rfl := Option.some.inj H
 go_enter Try.func152, Try.ntmps152
 go_wp2_with (first | ((with_reducible refine gate_callee (f := 93) rfl ?_); refine goesL_ (some 4) rfl rfl Try.func93 (by kernel_rfl) rfl #[.int .i64 a0, .int .i64 0, .int .i64 1000] rfl al_ ?_; (with_reducible refine (impl_from.calls a0 0 1000 t238 _ A2.out).mono ?_); rintro e w' ⟨rfl, ⟨nd, rfl⟩⟩; refine ⟨_, rfl, ?_⟩))
 go_ret
 exact ⟨rt_, by repeat (first | exact Drawn0.refl _ | apply Drawn0.step)⟩

/-! ### impl_WordOk: function 121 -/
def impl_WordOk.f (a0_0 : Int) (a0_1 : Int) (a0_2 : Int) (a1 : Int) : Option (Bool) := if a0_1 = 0 then ((impl_isWordNum.f a0_0).bind fun t240 => (if t240 = true then (some (a0_2 == 0)) else (some false))) else (if a0_0 = 0 then ((impl_from.f a0_1 1 a1).bind fun t241 => (if t241 = true then ((impl_from.f a0_2 1 1000000).bind fun t242 => (some t242)) else (some false))) else (some false))
set_option maxHeartbeats 8000000 in
set_option maxRecDepth 100000 in
theorem impl_WordOk.calls (a0_0 : Int) (a0_1 : Int) (a0_2 : Int) (a1 : Int) (r : Bool) (w : World) (h : impl_WordOk.f a0_0 a0_1 a0_2 a1 = some r) :
    Calls Try.prog 121 #[.agg #[.int .i64 a0_0, .int .i64 a0_1, .int .i64 a0_2], .int .i64 a1] w fun e w' => e = .returned (.bool r) ∧ Below w.heap.size w w' := by
 have hu95 := Try.underlying95
 have HB := A_ (Below.refl w.heap.size w)
 have H : (if a0_1 = 0 then ((impl_isWordNum.f a0_0).bind fun t240 => (if t240 = true then (some (a0_2 == 0)) else (some false))) else (if a0_0 = 0 then ((impl_from.f a0_1 1 a1).bind fun t241 => (if t241 = true then ((impl_from.f a0_2 1 1000000).bind fun t242 => (some t242)) else (some false))) else (some false))) = some r := h
 clear h
 by_cases c3 : a0_1 = 0
 ·
  rw [if_pos c3] at H
  have c3b0 : (a0_1 == 0) = true := beq_iff_eq.mpr c3
  have c3b1 : (a0_1 != 0) = false := bne_eq_false_iff_eq.mpr c3
  clear c3
  replace H := bs_ H
  obtain ⟨t240, A4, H⟩ := H
  by_cases c5 : t240 = true
  ·
   subst c5
   replace H := it_ H
   obtain rfl := Option.some.inj H
   go_enter Try.func121, Try.ntmps121
   go_wp2_with (first | ((with_reducible refine gate_dst (N := 2) rfl ?_); refine bx_ HB rfl (N := 2) rfl (cs := #[.int .i64 a0_0, .int .i64 a0_1, .int .i64 a0_2]) (t := 95) hr_ ?_; clear HB; intro gb239 w6 hg hb BK239 GW239 HB; clear hb hg; obtain ⟨hcz7_0, hcz7_1, hcz7_2, hfz7_0, hfz7_1, hfz7_2⟩ := cz3_ BK239) | ((with_reducible refine gate_callee (f := 152) rfl ?_); refine goesL_ (some 10) rfl rfl Try.func152 (by kernel_rfl) rfl #[.int .i64 a0_0] rfl al_ ?_; (with_reducible refine (impl_isWordNum.calls a0_0 true _ A4.out).mono ?_); rintro e w' ⟨rfl, ⟨nd, rfl⟩⟩; refine ⟨_, rfl, ?_⟩))
   go_ret
   exact ⟨rs_, hb_ HB⟩
  obtain rfl := Bool.eq_false_iff.mpr c5
  replace H := iF_ H
  obtain rfl := Option.some.inj H
  go_enter Try.func121, Try.ntmps121
  go_wp2_with (first | ((with_reducible refine gate_dst (N := 2) rfl ?_); refine bx_ HB rfl (N := 2) rfl (cs := #[.int .i64 a0_0, .int .i64 a0_1, .int .i64 a0_2]) (t := 95) hr_ ?_; clear HB; intro gb239 w8 hg hb BK239 GW239 HB; clear hb hg; obtain ⟨hcz9_0, hcz9_1, hcz9_2, hfz9_0, hfz9_1, hfz9_2⟩ := cz3_ BK239) | ((with_reducible refine gate_callee (f := 152) rfl ?_); refine goesL_ (some 10) rfl rfl Try.func152 (by kernel_rfl) rfl #[.int .i64 a0_0] rfl al_ ?_; (with_reducible refine (impl_isWordNum.calls a0_0 false _ A4.out).mono ?_); rintro e w' ⟨rfl, ⟨nd, rfl⟩⟩; refine ⟨_, rfl, ?_⟩))
  go_ret
  exact ⟨rs_, hb_ HB⟩
 rw [if_neg c3] at H
 have c3b0 : (a0_1 == 0) = false := beq_eq_false_iff_ne.mpr c3
 have c3b1 : (a0_1 != 0) = true := bne_iff_ne.mpr c3
 by_cases c10 : a0_0 = 0
 ·
  rw [if_pos c10] at H
  have c10b0 : (a0_0 == 0) = true := beq_iff_eq.mpr c10
  have c10b1 : (a0_0 != 0) = false := bne_eq_false_iff_eq.mpr c10
  clear c10
  replace H := bs_ H
  obtain ⟨t241, A11, H⟩ := H
  by_cases c12 : t241 = true
  ·
   subst c12
   replace H := it_ H
   replace H := bs_ H
   obtain ⟨t242, A13, H⟩ := H
   obtain rfl := Option.some.inj H
   go_enter Try.func121, Try.ntmps121
   go_wp2_with (first | ((with_reducible refine gate_dst (N := 2) rfl ?_); refine bx_ HB rfl (N := 2) rfl (cs := #[.int .i64 a0_0, .int .i64 a0_1, .int .i64 a0_2]) (t := 95) hr_ ?_; clear HB; intro gb239 w14 hg hb BK239 GW239 HB; clear hb hg; obtain ⟨hcz15_0, hcz15_1, hcz15_2, hfz15_0, hfz15_1, hfz15_2⟩ := cz3_ BK239) | (go_at_call 93; (with_reducible refine (impl_from.calls a0_1 1 a1 true _ A11.out).mono ?_); rintro e w' ⟨rfl, ⟨nd, rfl⟩⟩) | (go_at_call 93; (with_reducible refine (impl_from.calls a0_2 1 1000000 t242 _ A13.out).mono ?_); rintro e w' ⟨rfl, ⟨nd, rfl⟩⟩))
   go_ret
   exact ⟨rs_, hb_ HB⟩
  obtain rfl := Bool.eq_false_iff.mpr c12
  replace H := iF_ H
  obtain rfl := Option.some.inj H
  go_enter Try.func121, Try.ntmps121
  go_wp2_with (first | ((with_reducible refine gate_dst (N := 2) rfl ?_); refine bx_ HB rfl (N := 2) rfl (cs := #[.int .i64 a0_0, .int .i64 a0_1, .int .i64 a0_2]) (t := 95) hr_ ?_; clear HB; intro gb239 w16 hg hb BK239 GW239 HB; clear hb hg; obtain ⟨hcz17_0, hcz17_1, hcz17_2, hfz17_0, hfz17_1, hfz17_2⟩ := cz3_ BK239) | (go_at_call 93; (with_reducible refine (impl_from.calls a0_1 1 a1 false _ A11.out).mono ?_); rintro e w' ⟨rfl, ⟨nd, rfl⟩⟩))
  go_ret
  exact ⟨rs_, hb_ HB⟩
 rw [if_neg c10] at H
 have c10b0 : (a0_0 == 0) = false := beq_eq_false_iff_ne.mpr c10
 have c10b1 : (a0_0 != 0) = true := bne_iff_ne.mpr c10
 obtain rfl := Option.some.inj H
 go_enter Try.func121, Try.ntmps121
 go_wp2_with (first | ((with_reducible refine gate_dst (N := 2) rfl ?_); refine bx_ HB rfl (N := 2) rfl (cs := #[.int .i64 a0_0, .int .i64 a0_1, .int .i64 a0_2]) (t := 95) hr_ ?_; clear HB; intro gb239 w18 hg hb BK239 GW239 HB; clear hb hg; obtain ⟨hcz19_0, hcz19_1, hcz19_2, hfz19_0, hfz19_1, hfz19_2⟩ := cz3_ BK239))
 go_ret
 exact ⟨rs_, hb_ HB⟩

/-! ### impl_Entries: function 122 -/
def impl_Entries.l0 : Nat → Int → List (S122) → Int → Int → Option (Int × Int × Int × Bool)
 | 0, _, _, _, _ => none
 | k + 1, x1, x9, x10, x11 => if x11 < x10 then (if 0 ≤ x11 then (if x11 < (x9.length : Int) then (if ((rd_T122 x9 x11).f0) = x1 then (some ((rd_T122 x9 x11).f0, (rd_T122 x9 x11).f1, (rd_T122 x9 x11).f2, true)) else (impl_Entries.l0 k x1 x9 x10 (wrap64 (x11 + 1)))) else (none)) else (none)) else (some (0, 0, 0, false))
def impl_Entries.f (k : Nat) (a0_0 : Int) (a0_1 : Int) (l0_2 : List (S122)) (a0_3 : Int) (l0_4 : List Int) (a1 : Int) : Option (Int × Int × Int × Bool) := impl_Entries.l0 k a1 l0_2 (l0_2.length : Int) 0
theorem impl_Entries.mono_l : ∀ k, (∀ y0 y1 y2 y3, LeO (impl_Entries.l0 k y0 y1 y2 y3) (impl_Entries.l0 (k + 1) y0 y1 y2 y3))
 | 0 => fun _ _ _ _ r h => by simp [impl_Entries.l0] at h
 | k + 1 => by
  have ih0 := impl_Entries.mono_l k
  ·
   intro y0 y1 y2 y3
   unfold impl_Entries.l0
   repeat' first | (with_reducible first | apply ih0 | apply LeO.refl | apply LeO.none | apply LeO.ite | refine LeO.bind ?_ (fun _ => ?_)) | apply ih0 | apply LeO.none | apply LeO.ite | refine LeO.bind ?_ (fun _ => ?_)
theorem impl_Entries.mono : ∀ a0 a1 a2 a3 a4 a5 k, LeO (impl_Entries.f k a0 a1 a2 a3 a4 a5) (impl_Entries.f (k + 1) a0 a1 a2 a3 a4 a5) := by
 intro a0 a1 a2 a3 a4 a5 k
 have ih0 := impl_Entries.mono_l k
 unfold impl_Entries.f
 repeat' first | (with_reducible first | apply ih0 | apply LeO.refl | apply LeO.none | apply LeO.ite | refine LeO.bind ?_ (fun _ => ?_)) | apply ih0 | apply LeO.none | apply LeO.ite | refine LeO.bind ?_ (fun _ => ?_)
set_option maxHeartbeats 8000000 in
set_option maxRecDepth 100000 in
theorem impl_Entries.calls (k : Nat) (a0_0 : Int) (a0_1 : Int) (A0_2 : Option Addr) (c0_2 : Nat) (l0_2 : List (S122)) (a0_3 : Int) (A0_4 : Option Addr) (c0_4 : Nat) (l0_4 : List Int) (a1 : Int) (r1 : Int) (r2 : Int) (r3 : Int) (r4 : Bool) (w : World) (hr0_2 : Kd.C k122 w A0_2 l0_2.length l0_2) (hc0_2 : l0_2.length ≤ c0_2) (hr0_4 : Kd.C (Kd.int .i64) w A0_4 l0_4.length l0_4) (hc0_4 : l0_4.length ≤ c0_4) (h : impl_Entries.f k a0_0 a0_1 l0_2 a0_3 l0_4 a1 = some (r1, r2, r3, r4)) :
    Calls Try.prog 122 #[.agg #[.int .i64 a0_0, .int .i64 a0_1, .slice A0_2 l0_2.length c0_2, .int .i64 a0_3, .slice A0_4 l0_4.length c0_4], .int .i64 a1] w fun e w' => e = .returned (.tuple #[.agg #[.int .i64 r1, .int .i64 r2, .int .i64 r3], .bool r4]) ∧ Below w.heap.size w w' := by
 have hu119 := Try.underlying119
 have hu122 := Try.underlying122
 have HR0_2 := A_ hr0_2
 have HC0_2 := A_ hc0_2
 clear hr0_2 hc0_2
 have HR0_4 := A_ hr0_4
 have HC0_4 := A_ hc0_4
 clear hr0_4 hc0_4
 have HB := A_ (Below.refl w.heap.size w)
 have H : (impl_Entries.l0 k a1 l0_2 (l0_2.length : Int) 0) = some (r1, r2, r3, r4) := h
 clear h
 replace H' := A_ H; clear H
 go_enter Try.func122, Try.ntmps122
 go_wp2_with (first | ((with_reducible refine gate_dst (N := 2) rfl ?_); refine bx_ HB rfl (N := 2) rfl (cs := #[.int .i64 a0_0, .int .i64 a0_1, .slice A0_2 l0_2.length c0_2, .int .i64 a0_3, .slice A0_4 l0_4.length c0_4]) (t := 119) hr_ ?_; clear HB; intro gb243 w3 hg hb BK243 GW243 HB; clear hb hg) | ((with_reducible refine gate_dst (N := 4) rfl ?_); refine bx_ HB rfl (N := 4) rfl (cs := #[.int .i64 0, .int .i64 0, .int .i64 0]) (t := 122) hr_ ?_; clear HB; intro gb244 w4 hg hb BK244 GW244 HB; have NB243_244 := ng_ BK243 hg; have NB244_243 := ns_ (ng_ BK243 hg); replace BK243 := bb_ BK243 hb; clear hb hg; have hnb5 := NB243_244.out; have hnc5 := NB244_243.out; obtain ⟨hcz6_0, hcz6_1, hcz6_2, hcz6_3, hcz6_4, hfz6_0, hfz6_1, hfz6_2, hfz6_3, hfz6_4⟩ := cz5_ BK243))
 go_loopg [11] k (fun kq v11 w' => ∃ (x11_1 : Int) (x245000_1 : Int) (x245001_1 : Int) (x245002_1 : Int), v11 = .int .i64 x11_1 ∧ Aside0 (impl_Entries.l0 kq a1 l0_2 (l0_2.length : Int) x11_1 = some (r1, r2, r3, r4)) ∧ Aside0 (kq ≤ k) ∧ Aside0 (w'.heap[gb243]? = some (.cells #[.int .i64 a0_0, .int .i64 a0_1, (.slice A0_2 l0_2.length c0_2), .int .i64 a0_3, (.slice A0_4 l0_4.length c0_4)] 119 (0, 0))) ∧ Aside0 (w'.heap[gb244]? = some (.cells #[.int .i64 x245000_1, .int .i64 x245001_1, .int .i64 x245002_1] 122 (0, 0))) ∧ Aside0 (Below w.heap.size w w'))
 case atStart => exact ⟨(0), (0), (0), (0), rt_, H', ⟨Nat.le_refl _⟩, ⟨bk_ BK243⟩, ⟨bk_ BK244⟩, ⟨hb_ HB⟩⟩
 case round =>
  clear H'
  try clear c5
  obtain ⟨x11_1, x245000_1, x245001_1, x245002_1, rfl, HA, HK1, BK243, BK244, HB⟩ := hrel
  cases gk with
  | zero => exact absurd HA.out (by simp [impl_Entries.l0])
  | succ k1 =>
   have H := HA.out
   clear HA
   simp only [impl_Entries.l0] at H
   replace H := ic_ H
   rcases H with ⟨c7b0, H⟩ | ⟨c7b0, H⟩
   ·
    replace H := ix_ H
    obtain ⟨c8b0, H⟩ := H
    replace H := ix_ H
    obtain ⟨c9b0, H⟩ := H
    by_cases c10 : ((rd_T122 l0_2 x11_1).f0) = a1
    ·
     rw [if_pos c10] at H
     have c10b0 : (((rd_T122 l0_2 x11_1).f0) == a1) = true := beq_iff_eq.mpr c10
     have c10b1 : (((rd_T122 l0_2 x11_1).f0) != a1) = false := bne_eq_false_iff_eq.mpr c10
     clear c10
     simp only [Option.some.injEq, Prod.mk.injEq] at H
     obtain ⟨rfl, rfl, rfl, rfl⟩ := H
     obtain ⟨ad245, p245, q245, rfl, hx245_0, hx245_1, hx245_2⟩ := ab_T122 HB HR0_2 x11_1
     go_wp2_with (first | ((with_reducible refine gate_dst (N := 7) rfl ?_); refine bx_ HB rfl (N := 7) rfl (cs := #[.int .i64 0, .int .i64 0, .int .i64 0]) (t := 122) hr_ ?_; clear HB; intro gb246 w11 hg hb BK246 GW246 HB; have NB243_246 := ng_ BK243 hg; have NB246_243 := ns_ (ng_ BK243 hg); have NB244_246 := ng_ BK244 hg; have NB246_244 := ns_ (ng_ BK244 hg); replace BK243 := bb_ BK243 hb; replace BK244 := bb_ BK244 hb; clear hb hg; have hnb12 := NB246_243.out; have hnc12 := NB243_246.out; have hnb13 := NB246_244.out; have hnc13 := NB244_246.out; obtain ⟨hcz14_0, hcz14_1, hcz14_2, hfz14_0, hfz14_1, hfz14_2⟩ := cz3_ BK246; have hnb15 := NB244_243.out; have hnc15 := NB243_244.out; obtain ⟨hcz16_0, hcz16_1, hcz16_2, hfz16_0, hfz16_1, hfz16_2⟩ := cz3_ BK244))
     refine bodyPost_ret (results_ct rfl _ _ gb244 122 #[.int .i64 ((rd_T122 l0_2 x11_1).f0), .int .i64 ((rd_T122 l0_2 x11_1).f1), .int .i64 ((rd_T122 l0_2 x11_1).f2)] (0, 0) _ rfl (bp_ BK244) Try.underlying122 rfl (by kernel_rfl)) rfl ?_
     exact ⟨rs_, hb_ HB⟩
    rw [if_neg c10] at H
    have c10b0 : (((rd_T122 l0_2 x11_1).f0) == a1) = false := beq_eq_false_iff_ne.mpr c10
    have c10b1 : (((rd_T122 l0_2 x11_1).f0) != a1) = true := bne_iff_ne.mpr c10
    replace H' := A_ H; clear H
    obtain ⟨ad245, p245, q245, rfl, hx245_0, hx245_1, hx245_2⟩ := ab_T122 HB HR0_2 x11_1
    go_wp2_with (first | ((with_reducible refine gate_dst (N := 7) rfl ?_); refine bx_ HB rfl (N := 7) rfl (cs := #[.int .i64 0, .int .i64 0, .int .i64 0]) (t := 122) hr_ ?_; clear HB; intro gb246 w17 hg hb BK246 GW246 HB; have NB243_246 := ng_ BK243 hg; have NB246_243 := ns_ (ng_ BK243 hg); have NB244_246 := ng_ BK244 hg; have NB246_244 := ns_ (ng_ BK244 hg); replace BK243 := bb_ BK243 hb; replace BK244 := bb_ BK244 hb; clear hb hg; have hnb18 := NB246_243.out; have hnc18 := NB243_246.out; have hnb19 := NB246_244.out; have hnc19 := NB244_246.out; obtain ⟨hcz20_0, hcz20_1, hcz20_2, hfz20_0, hfz20_1, hfz20_2⟩ := cz3_ BK246))
    go_roundg k1
    case measure => have := HK1.out; omega
    case rel => exact ⟨(wrap64 (x11_1 + 1)), (x245000_1), (x245001_1), (x245002_1), rt_, H', ⟨by have := HK1.out; omega⟩, ⟨bk_ BK243⟩, ⟨bk_ BK244⟩, ⟨hb_ HB⟩⟩
   simp only [Option.some.injEq, Prod.mk.injEq] at H
   obtain ⟨rfl, rfl, rfl, rfl⟩ := H
   have hnb21 := NB244_243.out
   have hnc21 := NB243_244.out
   obtain ⟨hcz22_0, hcz22_1, hcz22_2, hfz22_0, hfz22_1, hfz22_2⟩ := cz3_ BK244
   go_wp2
   refine bodyPost_ret (results_ct rfl _ _ gb244 122 #[.int .i64 0, .int .i64 0, .int .i64 0] (0, 0) _ rfl (bp_ BK244) Try.underlying122 rfl (by kernel_rfl)) rfl ?_
   exact ⟨rs_, hb_ HB⟩

/-! ### impl_isPlace: function 151 -/
def impl_isPlace.f (a0 : Int) : Option (Bool) := (impl_from.f a0 0 19).bind fun t247 => (some t247)
set_option maxHeartbeats 8000000 in
set_option maxRecDepth 100000 in
theorem impl_isPlace.calls (a0 : Int) (r : Bool) (w : World) (h : impl_isPlace.f a0 = some r) :
    Calls Try.prog 151 #[.int .i64 a0] w fun e w' => e = .returned (.bool r) ∧ Drawn0 w w' := by
 have H : ((impl_from.f a0 0 19).bind fun t247 => (some t247)) = some r := h
 clear h
 replace H := bs_ H
 obtain ⟨t247, A2, H⟩ := H
 obtain rfl := Option.some.inj H
 go_enter Try.func151, Try.ntmps151
 go_wp2_with (first | ((with_reducible refine gate_callee (f := 93) rfl ?_); refine goesL_ (some 4) rfl rfl Try.func93 (by kernel_rfl) rfl #[.int .i64 a0, .int .i64 0, .int .i64 19] rfl al_ ?_; (with_reducible refine (impl_from.calls a0 0 19 t247 _ A2.out).mono ?_); rintro e w' ⟨rfl, ⟨nd, rfl⟩⟩; refine ⟨_, rfl, ?_⟩))
 go_ret
 exact ⟨rt_, by repeat (first | exact Drawn0.refl _ | apply Drawn0.step)⟩

end Go.Proofs.Ytmkhghbalnadlaa.PFnExactMemNew
