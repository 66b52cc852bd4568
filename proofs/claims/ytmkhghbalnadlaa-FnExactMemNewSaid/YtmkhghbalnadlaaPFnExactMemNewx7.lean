/- Contracts of functions of the program: each says that the call does what a plain Lean function tells. Made by programs of this session and of the kit. No condition beyond the hypotheses that each theorem names. -/
import Derived.Test.YtmkhghbalnadlaaPFnExactMemNewx0
import Derived.Test.YtmkhghbalnadlaaPFnExactMemNewx5
import Derived.Test.YtmkhghbalnadlaaPFnExactMemNewx6
namespace Go.Proofs.Ytmkhghbalnadlaa.PFnExactMemNew
open Go.RowKit Go.Proofs.YtmkhghbalnadlaaW.PrintWords Go.Proofs.YtmkhghbalnadlaaW.PrintLast Go.Proofs.YtmkhghbalnadlaaW.PrintMore
attribute [local go_sem] max2_int min2_int max_two min_two max_three min_three max_four min_four   -- for this text's walks alone
set_option linter.unusedVariables false
set_option linter.unusedSimpArgs false

/-! ### spec_WordsOf: function 94 -/
mutual
def spec_WordsOf.l0 : Nat → List Int → Int → List Int → Int → Option (List Int)
 | 0, _, _, _, _ => none
 | k + 1, x3, x4, x203000, x203001 => if x4 < 4 then (if 0 ≤ x4 then (if x4 < (x203000.length : Int) then ((spec_RowAt.f x4).bind fun t211 => (if 0 ≤ t211 then (if t211 < (x3.length : Int) then ((some (x3.set (t211 : Int).toNat (rd x203000 x4) : List Int)).bind fun y212 => (if (rd x203000 x4) = 0 then (spec_WordsOf.l0 k y212 (wrap64 (x4 + 1)) x203000 x203001) else ((spec_OwnerAt.f (rd x203000 x4)).bind fun t213 => (if 0 ≤ t213 then (if t213 < (x3.length : Int) then ((some (y212.set (t213 : Int).toNat (wrap64 (x4 + 1)) : List Int)).bind fun y214 => (if x4 < (wrap64 (x203001 - 1)) then ((spec_ViaAt.f (rd x203000 x4)).bind fun t215 => (if 0 ≤ t215 then (if t215 < (x3.length : Int) then (spec_WordsOf.l0 k (y214.set (t215 : Int).toNat (wrap64 (x4 + 1))) (wrap64 (x4 + 1)) x203000 x203001) else (none)) else (none))) else (spec_WordsOf.l0 k y214 (wrap64 (x4 + 1)) x203000 x203001))) else (none)) else (none))))) else (none)) else (none))) else (none)) else (none)) else (spec_WordsOf.l1 k x3 0 x203000 x203001)
def spec_WordsOf.l1 : Nat → List Int → Int → List Int → Int → Option (List Int)
 | 0, _, _, _, _ => none
 | k + 1, x3, x6, x203000, x203001 => if x6 < 3 then ((spec_CountAt.f x6).bind fun t217 => ((spec_HowMany.f k x203000 x203001 x6).bind fun t218 => (if 0 ≤ t217 then (if t217 < (x3.length : Int) then (spec_WordsOf.l1 k (x3.set (t217 : Int).toNat t218) (wrap64 (x6 + 1)) x203000 x203001) else (none)) else (none)))) else ((spec_StateAt.f).bind fun t220 => (if 0 ≤ t220 then (if t220 < (x3.length : Int) then (some (x3.set (t220 : Int).toNat x203001)) else (none)) else (none)))
end
def spec_WordsOf.f (k : Nat) (l0_0 : List Int) (a0_1 : Int) : Option (List Int) := (spec_RowsOk.f k l0_0 a0_1).bind fun t203 => (if t203 = true then (if 20 ≤ 35184372088832 then (spec_WordsOf.l0 k (List.replicate 20 0) 0 l0_0 a0_1) else (none)) else (some (([] : List Int))))
theorem spec_WordsOf.mono_l : ∀ k, (∀ y0 y1 y2 y3, LeO (spec_WordsOf.l0 k y0 y1 y2 y3) (spec_WordsOf.l0 (k + 1) y0 y1 y2 y3)) ∧ (∀ y0 y1 y2 y3, LeO (spec_WordsOf.l1 k y0 y1 y2 y3) (spec_WordsOf.l1 (k + 1) y0 y1 y2 y3))
 | 0 => ⟨fun _ _ _ _ r h => by simp [spec_WordsOf.l0] at h, fun _ _ _ _ r h => by simp [spec_WordsOf.l1] at h⟩
 | k + 1 => by
  obtain ⟨ih0, ih1⟩ := spec_WordsOf.mono_l k
  refine ⟨?_, ?_⟩
  ·
   intro y0 y1 y2 y3
   unfold spec_WordsOf.l0
   repeat' first | (with_reducible first | apply ih0 | apply ih1 | apply spec_HowMany.mono | apply spec_RowsOk.mono | apply LeO.refl | apply LeO.none | apply LeO.ite | refine LeO.bind ?_ (fun _ => ?_)) | apply ih0 | apply ih1 | apply spec_HowMany.mono | apply spec_RowsOk.mono | apply LeO.none | apply LeO.ite | refine LeO.bind ?_ (fun _ => ?_)
  intro y0 y1 y2 y3
  unfold spec_WordsOf.l1
  repeat' first | (with_reducible first | apply ih0 | apply ih1 | apply spec_HowMany.mono | apply spec_RowsOk.mono | apply LeO.refl | apply LeO.none | apply LeO.ite | refine LeO.bind ?_ (fun _ => ?_)) | apply ih0 | apply ih1 | apply spec_HowMany.mono | apply spec_RowsOk.mono | apply LeO.none | apply LeO.ite | refine LeO.bind ?_ (fun _ => ?_)
theorem spec_WordsOf.mono : ∀ a0 a1 k, LeO (spec_WordsOf.f k a0 a1) (spec_WordsOf.f (k + 1) a0 a1) := by
 intro a0 a1 k
 obtain ⟨ih0, ih1⟩ := spec_WordsOf.mono_l k
 unfold spec_WordsOf.f
 repeat' first | (with_reducible first | apply ih0 | apply ih1 | apply spec_HowMany.mono | apply spec_RowsOk.mono | apply LeO.refl | apply LeO.none | apply LeO.ite | refine LeO.bind ?_ (fun _ => ?_)) | apply ih0 | apply ih1 | apply spec_HowMany.mono | apply spec_RowsOk.mono | apply LeO.none | apply LeO.ite | refine LeO.bind ?_ (fun _ => ?_)
def spec_WordsOf.T16 : Bool × List (List Nat × List Nat) := (true, [([], []), ([], []), ([1], [1]), ([], []), ([], []), ([3, 4, 2], [3, 4]), ([0, 2, 0, 1, 2, 3, 4, 5], [0, 2]), ([6, 5, 5, 0, 1, 2, 3, 4, 5], [5, 6])])
def spec_WordsOf.B16 : List Nat := [0, 0, 2, 0, 0, 30, 63, 127]
theorem spec_WordsOf.tab16 : rtab .any (opsOf Try.f94 16) = spec_WordsOf.T16 := by kernel_rfl
theorem spec_WordsOf.bits16 : waitsOk spec_WordsOf.T16.2 spec_WordsOf.B16 = true := by kernel_rfl
set_option maxHeartbeats 8000000 in
set_option maxRecDepth 100000 in
theorem spec_WordsOf.calls (k : Nat) (A0_0 : Option Addr) (c0_0 : Nat) (l0_0 : List Int) (a0_1 : Int) (r : List Int) (w : World) (hr0_0 : Kd.C (Kd.int .i64) w A0_0 l0_0.length l0_0) (hc0_0 : l0_0.length ≤ c0_0) (h : spec_WordsOf.f k l0_0 a0_1 = some r) :
    Calls Try.prog 94 #[.agg #[.slice A0_0 l0_0.length c0_0, .int .i64 a0_1]] w fun e w' => ∃ v0_ : Value, e = .returned (v0_) ∧ Kd.R (Kd.int .i64) 3 w' w.heap.size (fun _ => True) v0_ r ∧ Below w.heap.size w w' := by
 have hu44 := Try.underlying44
 have HR0_0 := A_ hr0_0
 have HC0_0 := A_ hc0_0
 clear hr0_0 hc0_0
 have HB := A_ (Below.refl w.heap.size w)
 have H : ((spec_RowsOk.f k l0_0 a0_1).bind fun t203 => (if t203 = true then (if 20 ≤ 35184372088832 then (spec_WordsOf.l0 k (List.replicate 20 0) 0 l0_0 a0_1) else (none)) else (some (([] : List Int))))) = some r := h
 clear h
 replace H := bs_ H
 obtain ⟨t203, A2, H⟩ := H
 by_cases c3 : t203 = true
 ·
  subst c3
  replace H := it_ H
  by_cases c4 : 20 ≤ 35184372088832
  ·
   rw [if_pos c4] at H
   have c4b0 := eq_true c4
   have c4b1 : decide (20 ≤ 35184372088832) = true := decide_eq_true c4
   clear c4
   obtain ⟨y207, hy207⟩ : ∃ y_ : List Int, y_ = (List.replicate 20 0) := ⟨_, rfl⟩
   replace H : (spec_WordsOf.l0 k y207 0 l0_0 a0_1) = some r := by first | (rw [hy207]; with_reducible exact H) | (have H2_ := (Option.bind_some _ _).symm.trans H; rw [hy207]; with_reducible exact H2_) | (have H2_ := (Option.bind_some _ _).symm.trans H; with_reducible exact H2_) | with_reducible exact H | (rw [hy207]; exact H) | exact H
   have Ny207 := A_ hy207
   clear hy207
   replace H' := A_ H; clear H
   go_enter Try.func94, Try.ntmps94
   go_wp2_with (first | ((with_reducible refine gate_dst (N := 1) rfl ?_); refine bx_ HB rfl (N := 1) rfl (cs := #[.slice A0_0 l0_0.length c0_0, .int .i64 a0_1]) (t := 44) hr_ ?_; clear HB; intro gb202 w5 hg hb BK202 GW202 HB; clear hb hg; obtain ⟨hcz6_0, hcz6_1, hfz6_0, hfz6_1⟩ := cz2_ BK202) | ((with_reducible refine gate_callee (f := 80) rfl ?_); refine goesL_ (some 8) rfl rfl Try.func80 (by kernel_rfl) rfl #[.agg #[.slice A0_0 l0_0.length c0_0, .int .i64 a0_1]] rfl al_ ?_; (with_reducible refine (spec_RowsOk.calls k _ _ l0_0 a0_1 true _ ?side1 ?side2 A2.out).mono ?_); (case side1 => exact cb_ (Kd.C_below HR0_0.out HB.out)); (case side2 => exact HC0_0.out); rintro e w7 ⟨rfl, hb⟩; refine ⟨_, rfl, ?_⟩; replace BK202 := bb_ BK202 hb; replace HB := hs_ HB hb; (try clear hb); (try clear hb2); (try clear hk); (try clear hi)) | ((with_reducible refine gate_dst (N := 11) rfl ?_); refine Kd.R_make (Kd.int .i64) _ 3 rfl (N := 11) rfl 35 _ _ rfl 20 rfl rfl Try.underlying35 (.int .i64 0) 8 info3 rfl (by decide) (by omega) 0 (ok := fun _ => True) (okp := fun _ => True) rfl (fun _ hk => hk) trivial (by omega) (by omega) (Below.refl _ _) (Nat.le_refl _) ?_; intro v208 w8 ho9 hb hg_ hnew_; clear hg_ hnew_; (first | rw [← Ny207.out] at ho9 | (simp only [Int.reduceToNat] at ho9; rw [← Ny207.out] at ho9)); have HO209 := A_ (Kd.R_lower ho9 (below_size (hb_ HB))); replace BK202 := bb_ BK202 hb; replace HB := hs_ HB hb; clear hb ho9))
   go_loopg [4] k (fun kq v4 w' => ∃ (x3_1 : List Int) (x4_1 : Int), v4 = .int .i64 x4_1 ∧ Aside0 (spec_WordsOf.l0 kq x3_1 x4_1 l0_0 a0_1 = some r) ∧ Aside0 (kq ≤ k) ∧ Aside0 (Kd.R (Kd.int .i64) 3 w' w.heap.size (fun _ => True) v208 x3_1) ∧ Aside0 (w'.heap[gb202]? = some (.cells #[(.slice A0_0 l0_0.length c0_0), .int .i64 a0_1] 44 (0, 0))) ∧ Aside0 (Below w.heap.size w w'))
   case atStart => exact ⟨(y207), (0), rt_, H', ⟨Nat.le_refl _⟩, ⟨rb_ HO209.out⟩, ⟨bk_ BK202⟩, ⟨hb_ HB⟩⟩
   case round =>
    clear H'
    try clear c3
    try clear c4
    try clear c4b0
    try clear c4b1
    obtain ⟨x3_1, x4_1, rfl, HA, HK1, HO_3, BK202, HB⟩ := hrel
    cases gk with
    | zero => exact absurd HA.out (by simp [spec_WordsOf.l0])
    | succ k1 =>
     have H := HA.out
     clear HA
     simp only [spec_WordsOf.l0] at H
     replace H := ic_ H
     rcases H with ⟨c10b0, H⟩ | ⟨c10b0, H⟩
     ·
      replace H := ix_ H
      obtain ⟨c11b0, H⟩ := H
      replace H := ix_ H
      obtain ⟨c12b0, H⟩ := H
      replace H := bs_ H
      obtain ⟨t211, A13, H⟩ := H
      replace H := ix_ H
      obtain ⟨c14b0, H⟩ := H
      replace H := ix_ H
      obtain ⟨c15b0, H⟩ := H
      obtain ⟨y212, hy212⟩ : ∃ y_ : List Int, y_ = (x3_1.set (t211 : Int).toNat (rd l0_0 x4_1)) := ⟨_, rfl⟩
      replace H : (if (rd l0_0 x4_1) = 0 then (spec_WordsOf.l0 k1 y212 (wrap64 (x4_1 + 1)) l0_0 a0_1) else ((spec_OwnerAt.f (rd l0_0 x4_1)).bind fun t213 => (if 0 ≤ t213 then (if t213 < (x3_1.length : Int) then ((some (y212.set (t213 : Int).toNat (wrap64 (x4_1 + 1)) : List Int)).bind fun y214 => (if x4_1 < (wrap64 (a0_1 - 1)) then ((spec_ViaAt.f (rd l0_0 x4_1)).bind fun t215 => (if 0 ≤ t215 then (if t215 < (x3_1.length : Int) then (spec_WordsOf.l0 k1 (y214.set (t215 : Int).toNat (wrap64 (x4_1 + 1))) (wrap64 (x4_1 + 1)) l0_0 a0_1) else (none)) else (none))) else (spec_WordsOf.l0 k1 y214 (wrap64 (x4_1 + 1)) l0_0 a0_1))) else (none)) else (none)))) = some r := by first | (rw [hy212]; with_reducible exact H) | (have H2_ := (Option.bind_some _ _).symm.trans H; rw [hy212]; with_reducible exact H2_) | (have H2_ := (Option.bind_some _ _).symm.trans H; with_reducible exact H2_) | with_reducible exact H | (rw [hy212]; exact H) | exact H
      have Ny212 := A_ hy212
      clear hy212
      by_cases c17 : (rd l0_0 x4_1) = 0
      ·
       rw [if_pos c17] at H
       have c17b0 : ((rd l0_0 x4_1) == 0) = true := beq_iff_eq.mpr c17
       have c17b1 : ((rd l0_0 x4_1) != 0) = false := bne_eq_false_iff_eq.mpr c17
       clear c17
       replace H' := A_ H; clear H
       obtain ⟨hcz18_0, hcz18_1, hfz18_0, hfz18_1⟩ := cz2_ BK202
       obtain ⟨ad210, p210, q210, rfl, hx210_0⟩ := ab_int HB HR0_0 x4_1
       go_wp2_with (first | ((with_reducible refine gate_callee (f := 136) rfl ?_); refine goesL_ (some 23) rfl rfl Try.func136 (by kernel_rfl) rfl #[.int .i64 x4_1] rfl al_ ?_; (with_reducible refine (spec_RowAt.calls x4_1 t211 _ A13.out).mono ?_); rintro e w' ⟨rfl, ⟨nd, rfl⟩⟩; refine ⟨_, rfl, ?_⟩; (try (rw [drewN_self wr]; generalize hq_ : World.drewN wr _ = wr; have n0_ : Aside0 (Kd.R (Kd.int .i64) 3 wr w.heap.size (fun _ => True) v208 x3_1) := ⟨by rw [← hq_]; exact (rb_ HO_3.out)⟩; have n1_ : Aside0 (wr.heap[gb202]? = some (.cells #[.slice (some ad210) l0_0.length c0_0, .int .i64 a0_1] 44 (0, 0))) := ⟨by rw [← hq_]; exact (bk_ BK202)⟩; have n2_ : Aside0 (Below w.heap.size w wr) := ⟨by rw [← hq_]; exact (hb_ HB)⟩; clear HO_3 BK202 HB hq_; have HO_3 := n0_; have BK202 := n1_; have HB := n2_; clear n0_ n1_ n2_)); have p16 : 0 ≤ (t211 : Int) := od_; have q16 : (t211 : Int) < ((x3_1.length : Int) : Int) := od_; obtain ⟨go16, co16, eo16, gb16, gl16, cl16, HG16⟩ := Kd.R_form HO_3.out (by omega); (first | cases eo16 | (injection eo16 with ea_ en_ ec_; (first | subst ea_ | (injection ea_ with ea_; subst ea_)); subst ec_; clear en_)); have GB16 := A_ gb16; have GG16 := A_ HG16; clear gb16 gl16 HG16; obtain ⟨hx16_0, hf16_0⟩ := Kd.R_celln 0 HO_3.out (t211 : Int) p16 q16; replace p16 := eq_true p16; replace q16 := eq_true q16; obtain ⟨hy19_, hz19_⟩ := Kd.R_celln 0 HO_3.out (t211 : Int) (od_) (od_); have HP19 := Kd.R_putg HO_3.out (t211 : Int) (rd l0_0 x4_1)) | ((with_reducible refine gate_store (t := 3) (p := 25) rfl ?_); refine store_event (t := 3) (p := 25) (v := ?vo_w20) (w1 := (wr.setCell ⟨go16, (t211 : Int).toNat, none⟩ (.int .i64 (rd l0_0 x4_1)))) ?hg ?ho ?hn ?hr ?_; (case ho => rfl); (case hg => rfl); (case hn => rfl); (case hr => first | (go_simp; done) | (go_simp; rfl)); intro w20 hw; have hg : wr.grownBy w20 (some go16) := (by rw [hw]; exact HP19.2); have hp_ : Kd.R (Kd.int .i64) 3 w20 w.heap.size (fun _ => True) (.slice (some ⟨go16, 0, none⟩) x3_1.length co16) y212 := (by rw [hw, Ny212.out]; exact HP19.1); clear HP19; have n0_ := A_ hp_; have n1_ := A_ (blk_grown (g := gb202) (o := .cells #[.slice (some ad210) l0_0.length c0_0, .int .i64 a0_1] 44 (0, 0)) (bk_ BK202) hg (Kd.R_ne HO_3.out BK202.out (by decide))); have n2_ := A_ ((by rw [hw]; exact below_set (HB.out) GB16.out : Below w.heap.size w w20)); clear HO_3; clear BK202; clear HB; have HO_3 := n0_; have BK202 := n1_; have HB := n2_; clear n0_ n1_ n2_; clear hg hw hp_))
       go_roundg k1
       case measure => have := HK1.out; omega
       case rel => exact ⟨(y212), (wrap64 (x4_1 + 1)), rt_, H', ⟨by have := HK1.out; omega⟩, ⟨rb_ HO_3.out⟩, ⟨bk_ BK202⟩, ⟨hb_ HB⟩⟩
      rw [if_neg c17] at H
      have c17b0 : ((rd l0_0 x4_1) == 0) = false := beq_eq_false_iff_ne.mpr c17
      have c17b1 : ((rd l0_0 x4_1) != 0) = true := bne_iff_ne.mpr c17
      replace H := bs_ H
      obtain ⟨t213, A21, H⟩ := H
      replace H := ix_ H
      obtain ⟨c22b0, H⟩ := H
      replace H := ix_ H
      obtain ⟨c23b0, H⟩ := H
      obtain ⟨y214, hy214⟩ : ∃ y_ : List Int, y_ = (y212.set (t213 : Int).toNat (wrap64 (x4_1 + 1))) := ⟨_, rfl⟩
      replace H : (if x4_1 < (wrap64 (a0_1 - 1)) then ((spec_ViaAt.f (rd l0_0 x4_1)).bind fun t215 => (if 0 ≤ t215 then (if t215 < (x3_1.length : Int) then (spec_WordsOf.l0 k1 (y214.set (t215 : Int).toNat (wrap64 (x4_1 + 1))) (wrap64 (x4_1 + 1)) l0_0 a0_1) else (none)) else (none))) else (spec_WordsOf.l0 k1 y214 (wrap64 (x4_1 + 1)) l0_0 a0_1)) = some r := by first | (rw [hy214]; with_reducible exact H) | (have H2_ := (Option.bind_some _ _).symm.trans H; rw [hy214]; with_reducible exact H2_) | (have H2_ := (Option.bind_some _ _).symm.trans H; with_reducible exact H2_) | with_reducible exact H | (rw [hy214]; exact H) | exact H
      have Ny214 := A_ hy214
      clear hy214
      replace H := ic_ H
      rcases H with ⟨c25b0, H⟩ | ⟨c25b0, H⟩
      ·
       replace H := bs_ H
       obtain ⟨t215, A26, H⟩ := H
       replace H := ix_ H
       obtain ⟨c27b0, H⟩ := H
       replace H := ix_ H
       obtain ⟨c28b0, H⟩ := H
       obtain ⟨y216, hy216⟩ : ∃ y_ : List Int, y_ = (y214.set (t215 : Int).toNat (wrap64 (x4_1 + 1))) := ⟨_, rfl⟩
       replace H : (spec_WordsOf.l0 k1 y216 (wrap64 (x4_1 + 1)) l0_0 a0_1) = some r := by first | (rw [hy216]; with_reducible exact H) | (have H2_ := (Option.bind_some _ _).symm.trans H; rw [hy216]; with_reducible exact H2_) | (have H2_ := (Option.bind_some _ _).symm.trans H; with_reducible exact H2_) | with_reducible exact H | (rw [hy216]; exact H) | exact H
       have Ny216 := A_ hy216
       clear hy216
       replace H' := A_ H; clear H
       obtain ⟨hcz30_0, hcz30_1, hfz30_0, hfz30_1⟩ := cz2_ BK202
       obtain ⟨ad210, p210, q210, rfl, hx210_0⟩ := ab_int HB HR0_0 x4_1
       go_wp2_with (first | ((with_reducible refine gate_callee (f := 136) rfl ?_); refine goesL_ (some 23) rfl rfl Try.func136 (by kernel_rfl) rfl #[.int .i64 x4_1] rfl al_ ?_; (with_reducible refine (spec_RowAt.calls x4_1 t211 _ A13.out).mono ?_); rintro e w' ⟨rfl, ⟨nd, rfl⟩⟩; refine ⟨_, rfl, ?_⟩; (try (rw [drewN_self wr]; generalize hq_ : World.drewN wr _ = wr; have n0_ : Aside0 (Kd.R (Kd.int .i64) 3 wr w.heap.size (fun _ => True) v208 x3_1) := ⟨by rw [← hq_]; exact (rb_ HO_3.out)⟩; have n1_ : Aside0 (wr.heap[gb202]? = some (.cells #[.slice (some ad210) l0_0.length c0_0, .int .i64 a0_1] 44 (0, 0))) := ⟨by rw [← hq_]; exact (bk_ BK202)⟩; have n2_ : Aside0 (Below w.heap.size w wr) := ⟨by rw [← hq_]; exact (hb_ HB)⟩; clear HO_3 BK202 HB hq_; have HO_3 := n0_; have BK202 := n1_; have HB := n2_; clear n0_ n1_ n2_)); have p16 : 0 ≤ (t211 : Int) := od_; have q16 : (t211 : Int) < ((x3_1.length : Int) : Int) := od_; obtain ⟨go16, co16, eo16, gb16, gl16, cl16, HG16⟩ := Kd.R_form HO_3.out (by omega); (first | cases eo16 | (injection eo16 with ea_ en_ ec_; (first | subst ea_ | (injection ea_ with ea_; subst ea_)); subst ec_; clear en_)); have GB16 := A_ gb16; have GG16 := A_ HG16; clear gb16 gl16 HG16; obtain ⟨hx16_0, hf16_0⟩ := Kd.R_celln 0 HO_3.out (t211 : Int) p16 q16; replace p16 := eq_true p16; replace q16 := eq_true q16; obtain ⟨hy31_, hz31_⟩ := Kd.R_celln 0 HO_3.out (t211 : Int) (od_) (od_); have HP31 := Kd.R_putg HO_3.out (t211 : Int) (rd l0_0 x4_1)) | ((with_reducible refine gate_store (t := 3) (p := 25) rfl ?_); refine store_event (t := 3) (p := 25) (v := ?vo_w32) (w1 := (wr.setCell ⟨go16, (t211 : Int).toNat, none⟩ (.int .i64 (rd l0_0 x4_1)))) ?hg ?ho ?hn ?hr ?_; (case ho => rfl); (case hg => rfl); (case hn => rfl); (case hr => first | (go_simp; done) | (go_simp; rfl)); intro w32 hw; have hg : wr.grownBy w32 (some go16) := (by rw [hw]; exact HP31.2); have hp_ : Kd.R (Kd.int .i64) 3 w32 w.heap.size (fun _ => True) (.slice (some ⟨go16, 0, none⟩) x3_1.length co16) y212 := (by rw [hw, Ny212.out]; exact HP31.1); clear HP31; have n0_ := A_ hp_; have n1_ := A_ (blk_grown (g := gb202) (o := .cells #[.slice (some ad210) l0_0.length c0_0, .int .i64 a0_1] 44 (0, 0)) (bk_ BK202) hg (Kd.R_ne HO_3.out BK202.out (by decide))); have n2_ := A_ ((by rw [hw]; exact below_set (HB.out) GB16.out : Below w.heap.size w w32)); clear HO_3; clear BK202; clear HB; have HO_3 := n0_; have BK202 := n1_; have HB := n2_; clear n0_ n1_ n2_; clear hg hw hp_) | ((with_reducible refine gate_callee (f := 137) rfl ?_); refine goesL_ (some 30) rfl rfl Try.func137 (by kernel_rfl) rfl #[.int .i64 (rd l0_0 x4_1)] rfl al_ ?_; (with_reducible refine (spec_OwnerAt.calls (rd l0_0 x4_1) t213 _ A21.out).mono ?_); rintro e w' ⟨rfl, ⟨nd, rfl⟩⟩; refine ⟨_, rfl, ?_⟩; (try (rw [drewN_self w32]; generalize hq_ : World.drewN w32 _ = w32; have n0_ : Aside0 (Kd.R (Kd.int .i64) 3 w32 w.heap.size (fun _ => True) (.slice (some ⟨go16, 0, none⟩) x3_1.length co16) y212) := ⟨by rw [← hq_]; exact (rb_ HO_3.out)⟩; have n1_ : Aside0 (w32.heap[gb202]? = some (.cells #[.slice (some ad210) l0_0.length c0_0, .int .i64 a0_1] 44 (0, 0))) := ⟨by rw [← hq_]; exact (bk_ BK202)⟩; have n2_ : Aside0 (Below w.heap.size w w32) := ⟨by rw [← hq_]; exact (hb_ HB)⟩; clear HO_3 BK202 HB hq_; have HO_3 := n0_; have BK202 := n1_; have HB := n2_; clear n0_ n1_ n2_)); have p24 : 0 ≤ (t213 : Int) := od_; have q24 : (t213 : Int) < ((x3_1.length : Int) : Int) := od_; obtain ⟨hx24_0, hf24_0⟩ := Kd.R_celln 0 HO_3.out (t213 : Int) p24 q24; replace p24 := eq_true p24; replace q24 := eq_true q24; obtain ⟨hy33_, hz33_⟩ := Kd.R_celln 0 HO_3.out (t213 : Int) (od_) (od_); have HP33 := Kd.R_putg HO_3.out (t213 : Int) (wrap64 (x4_1 + 1))) | ((with_reducible refine gate_store (t := 3) (p := 33) rfl ?_); refine store_event (t := 3) (p := 33) (v := ?vo_w34) (w1 := (w32.setCell ⟨go16, (t213 : Int).toNat, none⟩ (.int .i64 (wrap64 (x4_1 + 1))))) ?hg ?ho ?hn ?hr ?_; (case ho => rfl); (case hg => rfl); (case hn => rfl); (case hr => first | (go_simp; done) | (go_simp; rfl)); intro w34 hw; have hg : w32.grownBy w34 (some go16) := (by rw [hw]; exact HP33.2); have hp_ : Kd.R (Kd.int .i64) 3 w34 w.heap.size (fun _ => True) (.slice (some ⟨go16, 0, none⟩) x3_1.length co16) y214 := (by rw [hw, Ny214.out]; exact HP33.1); clear HP33; have n0_ := A_ hp_; have n1_ := A_ (blk_grown (g := gb202) (o := .cells #[.slice (some ad210) l0_0.length c0_0, .int .i64 a0_1] 44 (0, 0)) (bk_ BK202) hg (Kd.R_ne HO_3.out BK202.out (by decide))); have n2_ := A_ ((by rw [hw]; exact below_set (HB.out) GB16.out : Below w.heap.size w w34)); clear HO_3; clear BK202; clear HB; have HO_3 := n0_; have BK202 := n1_; have HB := n2_; clear n0_ n1_ n2_; clear hg hw hp_; obtain ⟨hcz35_0, hcz35_1, hfz35_0, hfz35_1⟩ := cz2_ BK202) | ((with_reducible refine gate_callee (f := 138) rfl ?_); refine goesL_ (some 41) rfl rfl Try.func138 (by kernel_rfl) rfl #[.int .i64 (rd l0_0 x4_1)] rfl al_ ?_; (with_reducible refine (spec_ViaAt.calls (rd l0_0 x4_1) t215 _ A26.out).mono ?_); rintro e w' ⟨rfl, ⟨nd, rfl⟩⟩; refine ⟨_, rfl, ?_⟩; (try (rw [drewN_self w34]; generalize hq_ : World.drewN w34 _ = w34; have n0_ : Aside0 (Kd.R (Kd.int .i64) 3 w34 w.heap.size (fun _ => True) (.slice (some ⟨go16, 0, none⟩) x3_1.length co16) y214) := ⟨by rw [← hq_]; exact (rb_ HO_3.out)⟩; have n1_ : Aside0 (w34.heap[gb202]? = some (.cells #[.slice (some ad210) l0_0.length c0_0, .int .i64 a0_1] 44 (0, 0))) := ⟨by rw [← hq_]; exact (bk_ BK202)⟩; have n2_ : Aside0 (Below w.heap.size w w34) := ⟨by rw [← hq_]; exact (hb_ HB)⟩; clear HO_3 BK202 HB hq_; have HO_3 := n0_; have BK202 := n1_; have HB := n2_; clear n0_ n1_ n2_)); have p29 : 0 ≤ (t215 : Int) := od_; have q29 : (t215 : Int) < ((x3_1.length : Int) : Int) := od_; obtain ⟨hx29_0, hf29_0⟩ := Kd.R_celln 0 HO_3.out (t215 : Int) p29 q29; replace p29 := eq_true p29; replace q29 := eq_true q29; obtain ⟨hy36_, hz36_⟩ := Kd.R_celln 0 HO_3.out (t215 : Int) (od_) (od_); have HP36 := Kd.R_putg HO_3.out (t215 : Int) (wrap64 (x4_1 + 1))) | ((with_reducible refine gate_store (t := 3) (p := 44) rfl ?_); refine store_event (t := 3) (p := 44) (v := ?vo_w37) (w1 := (w34.setCell ⟨go16, (t215 : Int).toNat, none⟩ (.int .i64 (wrap64 (x4_1 + 1))))) ?hg ?ho ?hn ?hr ?_; (case ho => rfl); (case hg => rfl); (case hn => rfl); (case hr => first | (go_simp; done) | (go_simp; rfl)); intro w37 hw; have hg : w34.grownBy w37 (some go16) := (by rw [hw]; exact HP36.2); have hp_ : Kd.R (Kd.int .i64) 3 w37 w.heap.size (fun _ => True) (.slice (some ⟨go16, 0, none⟩) x3_1.length co16) y216 := (by rw [hw, Ny216.out]; exact HP36.1); clear HP36; have n0_ := A_ hp_; have n1_ := A_ (blk_grown (g := gb202) (o := .cells #[.slice (some ad210) l0_0.length c0_0, .int .i64 a0_1] 44 (0, 0)) (bk_ BK202) hg (Kd.R_ne HO_3.out BK202.out (by decide))); have n2_ := A_ ((by rw [hw]; exact below_set (HB.out) GB16.out : Below w.heap.size w w37)); clear HO_3; clear BK202; clear HB; have HO_3 := n0_; have BK202 := n1_; have HB := n2_; clear n0_ n1_ n2_; clear hg hw hp_))
       go_roundg k1
       case measure => have := HK1.out; omega
       case rel => exact ⟨(y216), (wrap64 (x4_1 + 1)), rt_, H', ⟨by have := HK1.out; omega⟩, ⟨rb_ HO_3.out⟩, ⟨bk_ BK202⟩, ⟨hb_ HB⟩⟩
      replace H' := A_ H; clear H
      obtain ⟨hcz38_0, hcz38_1, hfz38_0, hfz38_1⟩ := cz2_ BK202
      obtain ⟨ad210, p210, q210, rfl, hx210_0⟩ := ab_int HB HR0_0 x4_1
      go_wp2_with (first | ((with_reducible refine gate_callee (f := 136) rfl ?_); refine goesL_ (some 23) rfl rfl Try.func136 (by kernel_rfl) rfl #[.int .i64 x4_1] rfl al_ ?_; (with_reducible refine (spec_RowAt.calls x4_1 t211 _ A13.out).mono ?_); rintro e w' ⟨rfl, ⟨nd, rfl⟩⟩; refine ⟨_, rfl, ?_⟩; (try (rw [drewN_self wr]; generalize hq_ : World.drewN wr _ = wr; have n0_ : Aside0 (Kd.R (Kd.int .i64) 3 wr w.heap.size (fun _ => True) v208 x3_1) := ⟨by rw [← hq_]; exact (rb_ HO_3.out)⟩; have n1_ : Aside0 (wr.heap[gb202]? = some (.cells #[.slice (some ad210) l0_0.length c0_0, .int .i64 a0_1] 44 (0, 0))) := ⟨by rw [← hq_]; exact (bk_ BK202)⟩; have n2_ : Aside0 (Below w.heap.size w wr) := ⟨by rw [← hq_]; exact (hb_ HB)⟩; clear HO_3 BK202 HB hq_; have HO_3 := n0_; have BK202 := n1_; have HB := n2_; clear n0_ n1_ n2_)); have p16 : 0 ≤ (t211 : Int) := od_; have q16 : (t211 : Int) < ((x3_1.length : Int) : Int) := od_; obtain ⟨go16, co16, eo16, gb16, gl16, cl16, HG16⟩ := Kd.R_form HO_3.out (by omega); (first | cases eo16 | (injection eo16 with ea_ en_ ec_; (first | subst ea_ | (injection ea_ with ea_; subst ea_)); subst ec_; clear en_)); have GB16 := A_ gb16; have GG16 := A_ HG16; clear gb16 gl16 HG16; obtain ⟨hx16_0, hf16_0⟩ := Kd.R_celln 0 HO_3.out (t211 : Int) p16 q16; replace p16 := eq_true p16; replace q16 := eq_true q16; obtain ⟨hy39_, hz39_⟩ := Kd.R_celln 0 HO_3.out (t211 : Int) (od_) (od_); have HP39 := Kd.R_putg HO_3.out (t211 : Int) (rd l0_0 x4_1)) | ((with_reducible refine gate_store (t := 3) (p := 25) rfl ?_); refine store_event (t := 3) (p := 25) (v := ?vo_w40) (w1 := (wr.setCell ⟨go16, (t211 : Int).toNat, none⟩ (.int .i64 (rd l0_0 x4_1)))) ?hg ?ho ?hn ?hr ?_; (case ho => rfl); (case hg => rfl); (case hn => rfl); (case hr => first | (go_simp; done) | (go_simp; rfl)); intro w40 hw; have hg : wr.grownBy w40 (some go16) := (by rw [hw]; exact HP39.2); have hp_ : Kd.R (Kd.int .i64) 3 w40 w.heap.size (fun _ => True) (.slice (some ⟨go16, 0, none⟩) x3_1.length co16) y212 := (by rw [hw, Ny212.out]; exact HP39.1); clear HP39; have n0_ := A_ hp_; have n1_ := A_ (blk_grown (g := gb202) (o := .cells #[.slice (some ad210) l0_0.length c0_0, .int .i64 a0_1] 44 (0, 0)) (bk_ BK202) hg (Kd.R_ne HO_3.out BK202.out (by decide))); have n2_ := A_ ((by rw [hw]; exact below_set (HB.out) GB16.out : Below w.heap.size w w40)); clear HO_3; clear BK202; clear HB; have HO_3 := n0_; have BK202 := n1_; have HB := n2_; clear n0_ n1_ n2_; clear hg hw hp_) | ((with_reducible refine gate_callee (f := 137) rfl ?_); refine goesL_ (some 30) rfl rfl Try.func137 (by kernel_rfl) rfl #[.int .i64 (rd l0_0 x4_1)] rfl al_ ?_; (with_reducible refine (spec_OwnerAt.calls (rd l0_0 x4_1) t213 _ A21.out).mono ?_); rintro e w' ⟨rfl, ⟨nd, rfl⟩⟩; refine ⟨_, rfl, ?_⟩; (try (rw [drewN_self w40]; generalize hq_ : World.drewN w40 _ = w40; have n0_ : Aside0 (Kd.R (Kd.int .i64) 3 w40 w.heap.size (fun _ => True) (.slice (some ⟨go16, 0, none⟩) x3_1.length co16) y212) := ⟨by rw [← hq_]; exact (rb_ HO_3.out)⟩; have n1_ : Aside0 (w40.heap[gb202]? = some (.cells #[.slice (some ad210) l0_0.length c0_0, .int .i64 a0_1] 44 (0, 0))) := ⟨by rw [← hq_]; exact (bk_ BK202)⟩; have n2_ : Aside0 (Below w.heap.size w w40) := ⟨by rw [← hq_]; exact (hb_ HB)⟩; clear HO_3 BK202 HB hq_; have HO_3 := n0_; have BK202 := n1_; have HB := n2_; clear n0_ n1_ n2_)); have p24 : 0 ≤ (t213 : Int) := od_; have q24 : (t213 : Int) < ((x3_1.length : Int) : Int) := od_; obtain ⟨hx24_0, hf24_0⟩ := Kd.R_celln 0 HO_3.out (t213 : Int) p24 q24; replace p24 := eq_true p24; replace q24 := eq_true q24; obtain ⟨hy41_, hz41_⟩ := Kd.R_celln 0 HO_3.out (t213 : Int) (od_) (od_); have HP41 := Kd.R_putg HO_3.out (t213 : Int) (wrap64 (x4_1 + 1))) | ((with_reducible refine gate_store (t := 3) (p := 33) rfl ?_); refine store_event (t := 3) (p := 33) (v := ?vo_w42) (w1 := (w40.setCell ⟨go16, (t213 : Int).toNat, none⟩ (.int .i64 (wrap64 (x4_1 + 1))))) ?hg ?ho ?hn ?hr ?_; (case ho => rfl); (case hg => rfl); (case hn => rfl); (case hr => first | (go_simp; done) | (go_simp; rfl)); intro w42 hw; have hg : w40.grownBy w42 (some go16) := (by rw [hw]; exact HP41.2); have hp_ : Kd.R (Kd.int .i64) 3 w42 w.heap.size (fun _ => True) (.slice (some ⟨go16, 0, none⟩) x3_1.length co16) y214 := (by rw [hw, Ny214.out]; exact HP41.1); clear HP41; have n0_ := A_ hp_; have n1_ := A_ (blk_grown (g := gb202) (o := .cells #[.slice (some ad210) l0_0.length c0_0, .int .i64 a0_1] 44 (0, 0)) (bk_ BK202) hg (Kd.R_ne HO_3.out BK202.out (by decide))); have n2_ := A_ ((by rw [hw]; exact below_set (HB.out) GB16.out : Below w.heap.size w w42)); clear HO_3; clear BK202; clear HB; have HO_3 := n0_; have BK202 := n1_; have HB := n2_; clear n0_ n1_ n2_; clear hg hw hp_; obtain ⟨hcz43_0, hcz43_1, hfz43_0, hfz43_1⟩ := cz2_ BK202))
      go_roundg k1
      case measure => have := HK1.out; omega
      case rel => exact ⟨(y214), (wrap64 (x4_1 + 1)), rt_, H', ⟨by have := HK1.out; omega⟩, ⟨rb_ HO_3.out⟩, ⟨bk_ BK202⟩, ⟨hb_ HB⟩⟩
     replace H' := A_ H; clear H
     go_wp2
     go_loopg [6] k1 (fun kq v6 w' => ∃ (x3_2 : List Int) (x6_2 : Int), v6 = .int .i64 x6_2 ∧ Aside0 (spec_WordsOf.l1 kq x3_2 x6_2 l0_0 a0_1 = some r) ∧ Aside0 (kq ≤ k1) ∧ Aside0 (Kd.R (Kd.int .i64) 3 w' w.heap.size (fun _ => True) v208 x3_2) ∧ Aside0 (w'.heap[gb202]? = some (.cells #[(.slice A0_0 l0_0.length c0_0), .int .i64 a0_1] 44 (0, 0))) ∧ Aside0 (Below w.heap.size w w'))
     case atStart => exact ⟨(x3_1), (0), rt_, H', ⟨Nat.le_refl _⟩, ⟨rb_ HO_3.out⟩, ⟨bk_ BK202⟩, ⟨hb_ HB⟩⟩
     case round =>
      clear H'
      try clear c3
      try clear c4
      try clear c4b0
      try clear c4b1
      try clear c10b0
      try clear c11b0
      try clear c12b0
      try clear c14b0
      try clear c15b0
      try clear p16
      try clear q16
      try clear c17
      try clear c17b0
      try clear c17b1
      try clear c22b0
      try clear c23b0
      try clear p24
      try clear q24
      try clear c25b0
      try clear c27b0
      try clear c28b0
      try clear p29
      try clear q29
      try clear hx16_0
      try clear hx210_0
      try clear hx24_0
      try clear hx29_0
      try clear p210
      try clear q210
      obtain ⟨x3_2, x6_2, rfl, HA, HK2, HO_3, BK202, HB⟩ := hrel
      cases gk with
      | zero => exact absurd HA.out (by simp [spec_WordsOf.l1])
      | succ k2 =>
       have H := HA.out
       clear HA
       simp only [spec_WordsOf.l1] at H
       replace H := ic_ H
       rcases H with ⟨c44b0, H⟩ | ⟨c44b0, H⟩
       ·
        replace H := bs_ H
        obtain ⟨t217, A45, H⟩ := H
        replace H := bs_ H
        obtain ⟨t218, A46, H⟩ := H
        replace H := ix_ H
        obtain ⟨c47b0, H⟩ := H
        replace H := ix_ H
        obtain ⟨c48b0, H⟩ := H
        obtain ⟨y219, hy219⟩ : ∃ y_ : List Int, y_ = (x3_2.set (t217 : Int).toNat t218) := ⟨_, rfl⟩
        replace H : (spec_WordsOf.l1 k2 y219 (wrap64 (x6_2 + 1)) l0_0 a0_1) = some r := by first | (rw [hy219]; with_reducible exact H) | (have H2_ := (Option.bind_some _ _).symm.trans H; rw [hy219]; with_reducible exact H2_) | (have H2_ := (Option.bind_some _ _).symm.trans H; with_reducible exact H2_) | with_reducible exact H | (rw [hy219]; exact H) | exact H
        have Ny219 := A_ hy219
        clear hy219
        replace H' := A_ H; clear H
        try go_wp2
        replace HO_3 := A_ (Kd.R_drew HO_3.out)
        replace BK202 := A_ (blk_drew BK202.out)
        replace HB := A_ (below_drew1 HB.out)
        refine start_ (n := 8) (S := fun w' => w'.cell? ⟨gb202, 0, none⟩ = some (.slice A0_0 l0_0.length c0_0) ∧ w'.cell? ⟨gb202, 1, none⟩ = some (.int .i64 a0_1)) (ds := [7]) (bt_ 0 8) (by kernel_rfl) rfl rfl ⟨(blk_cell BK202.out 0).trans rfl, (blk_cell BK202.out 1).trans rfl⟩ (fun hHeld => ?_); refine with_tabW spec_WordsOf.tab16 spec_WordsOf.bits16 (fun HT_ HW_ => ?_)
        generalize wr.drew = w50 at HO_3 BK202 HB hHeld ⊢
        refine pu_ 0 49 (bt_ 1 8) ?_
        refine pu_ 1 50 (bt_ 3 8) ?_
        refine pu_ 4 53 (bt_ 19 8) ?_
        refine tk2_ 3 52 (bt_ 27 8) hHeld ?_
        refine one_ (i := 2) (N := some 51) (bt_ 31 8) rfl rfl (one_of HT_.out (by kernel_rfl)) (by decide) (fun K hK => ?_)
        refine goes_ Try.func139 (by kernel_rfl) rfl #[.int .i64 x6_2] (by rfl) rfl rfl al_ ?_
        with_reducible refine (spec_CountAt.calls x6_2 t217 _ A45.out).mono ?_
        rintro e w' ⟨rfl, ⟨nd, rfl⟩⟩
        refine ⟨_, rfl, ?_⟩
        refine hK.out _ _ ⟨(blk_cell BK202.out 0).trans rfl, (blk_cell BK202.out 1).trans rfl⟩ (fun hHeld => ?_)
        clear hK K
        refine norm_ (a' := ?_) ?_ ?_
        rotate_left
        ·
         show Act.put _ (some 51) _ = _
         simp only [Act.put, List.setIfInBounds_toArray, List.set_cons_zero, List.set_cons_succ, i64_w, i32_w]
         rfl
        refine one_ (i := 5) (N := some 54) (bt_ 63 8) rfl rfl (one_of HT_.out (by kernel_rfl)) (by decide) (fun K hK => ?_)
        refine goes_ Try.func134 (by kernel_rfl) rfl #[.agg #[.slice A0_0 l0_0.length c0_0, .int .i64 a0_1], .int .i64 x6_2] (by rfl) rfl rfl al_ ?_
        with_reducible refine (spec_HowMany.calls k2 _ _ l0_0 a0_1 x6_2 t218 _ ?side1 ?side2 A46.out).mono ?_
        (case side1 => exact cb_ (Kd.C_below HR0_0.out (hb_ HB)))
        (case side2 => exact HC0_0.out)
        rintro e w51 ⟨rfl, hb⟩
        refine ⟨_, rfl, ?_⟩
        replace HO_3 := A_ (Kd.R_below (rb_ HO_3.out) hb)
        replace BK202 := bb_ BK202 hb
        replace HB := hs_ HB hb
        (try clear hb)
        (try clear hb2)
        (try clear hk)
        (try clear hi)
        have p49 : 0 ≤ (t217 : Int) := od_
        have q49 : (t217 : Int) < ((x3_2.length : Int) : Int) := od_
        obtain ⟨go49, co49, eo49, gb49, gl49, cl49, HG49⟩ := Kd.R_form HO_3.out (by omega)
        (first | cases eo49 | (injection eo49 with ea_ en_ ec_; (first | subst ea_ | (injection ea_ with ea_; subst ea_)); subst ec_; clear en_))
        have GB49 := A_ gb49
        have GG49 := A_ HG49
        clear gb49 gl49 HG49
        obtain ⟨hx49_0, hf49_0⟩ := Kd.R_celln 0 HO_3.out (t217 : Int) p49 q49
        replace p49 := eq_true p49
        replace q49 := eq_true q49
        have HP52 := Kd.R_putn HO_3.out (t217 : Int) t218
        rw [← Ny219.out] at HP52
        have HQ52 := A_ HP52
        clear HP52
        refine hK.out _ _ ⟨(blk_cell BK202.out 0).trans rfl, (blk_cell BK202.out 1).trans rfl⟩ (fun hHeld => ?_)
        clear hK K
        refine norm_ (a' := ?_) ?_ ?_
        rotate_left
        ·
         show Act.put _ (some 54) _ = _
         simp only [Act.put, List.setIfInBounds_toArray, List.set_cons_zero, List.set_cons_succ, i64_w, i32_w]
         rfl
        refine pu_ 6 55 (bt_ 127 8) ?_
        refine last_ (i := 7) (N := none) (bt_ 255 8) rfl rfl (one_of HT_.out (by kernel_rfl)) (by decide) (fun K hK => ?_)
        refine skip_ (w1 := ?_) (by rfl) rfl ?_ ?_
        rotate_left
        ·
         go_simp
         rfl
        refine hK.out _ _ ?_
        clear hK K
        refine done_ (done_of HT_.out (by kernel_rfl)) ?_
        try go_wp2
        go_roundg k2
        case measure => have := HK1.out; have := HK2.out; omega
        case rel => exact ⟨(y219), (wrap64 (x6_2 + 1)), rt_, H', ⟨by have := HK1.out; have := HK2.out; omega⟩, ⟨rb_ HQ52.out⟩, ⟨by (with_reducible repeat (first | refine blk_drewN ?_ _ | refine blk_drew ?_ | refine blk_alloc ?_ _)); refine blk_far ?_ (by have h_ := Kd.R_ne HO_3.out BK202.out (by decide); intro e_; exact h_ (by rw [e_]; rfl)) _; (with_reducible repeat (first | refine blk_drewN ?_ _ | refine blk_drew ?_ | refine blk_alloc ?_ _)); exact BK202.out⟩, ⟨hb_ HB⟩⟩
       replace H := bs_ H
       obtain ⟨t220, A53, H⟩ := H
       replace H := ix_ H
       obtain ⟨c54b0, H⟩ := H
       replace H := ix_ H
       obtain ⟨c55b0, H⟩ := H
       obtain ⟨y221, hy221⟩ : ∃ y_ : List Int, y_ = (x3_2.set (t220 : Int).toNat a0_1) := ⟨_, rfl⟩
       replace H : (some y221) = some r := by first | (rw [hy221]; with_reducible exact H) | (have H2_ := (Option.bind_some _ _).symm.trans H; rw [hy221]; with_reducible exact H2_) | (have H2_ := (Option.bind_some _ _).symm.trans H; with_reducible exact H2_) | with_reducible exact H | (rw [hy221]; exact H) | exact H
       have Ny221 := A_ hy221
       clear hy221
       obtain rfl := Option.some.inj H
       try go_wp2
       replace HO_3 := A_ (Kd.R_drew HO_3.out)
       replace BK202 := A_ (blk_drew BK202.out)
       replace HB := A_ (below_drew1 HB.out)
       refine start_ (n := 6) (S := fun w' => w'.cell? ⟨gb202, 0, none⟩ = some (.slice A0_0 l0_0.length c0_0) ∧ w'.cell? ⟨gb202, 1, none⟩ = some (.int .i64 a0_1)) (ds := [5]) (bt_ 0 6) (by kernel_rfl) rfl rfl ⟨(blk_cell BK202.out 0).trans rfl, (blk_cell BK202.out 1).trans rfl⟩ (fun hHeld => ?_)
       generalize wr.drew = w57 at HO_3 BK202 HB hHeld ⊢
       refine pure_ (i := 0) (N := some 56) (v := ?_) (a' := ?_) (bt_ 1 6) rfl rfl (by kernel_rfl) (fun _ _ _ h => h) (Or.inl ⟨by rfl, ?_⟩) ?_ ?_
       rotate_left
       ·
        intro w'
        go_simp
        with_reducible rfl
       rotate_left
       ·
        simp only [Act.put, List.setIfInBounds_toArray, List.set_cons_zero, List.set_cons_succ, i64_w, i32_w]
        rfl
       refine pure_ (i := 2) (N := some 58) (v := ?_) (a' := ?_) (bt_ 5 6) rfl rfl (by kernel_rfl) (fun _ _ _ h => h) (Or.inl ⟨by rfl, ?_⟩) ?_ ?_
       rotate_left
       ·
        intro w'
        go_simp
        with_reducible rfl
       rotate_left
       ·
        simp only [Act.put, List.setIfInBounds_toArray, List.set_cons_zero, List.set_cons_succ, i64_w, i32_w]
        rfl
       refine take_ (i := 3) (N := some 59) (v := ?_) (a' := ?_) (bt_ 13 6) rfl rfl (by kernel_rfl) (fun _ _ _ h => h) (Or.inl ⟨by rfl, ?_⟩) hHeld ?_ ?_
       rotate_left
       ·
        rintro w' ⟨s0, s1⟩
        go_simp
        with_reducible rfl
       rotate_left
       ·
        simp only [Act.put, List.setIfInBounds_toArray, List.set_cons_zero, List.set_cons_succ, i64_w, i32_w]
        rfl
       refine one_ (i := 1) (N := some 57) (bt_ 15 6) rfl rfl (by kernel_rfl) (by decide) (fun K hK => ?_)
       refine goes_ Try.func140 (by kernel_rfl) rfl #[] (by rfl) rfl rfl al_ ?_
       with_reducible refine (spec_StateAt.calls  t220 _ A53.out).mono ?_
       rintro e w' ⟨rfl, ⟨nd, rfl⟩⟩
       refine ⟨_, rfl, ?_⟩
       have p56 : 0 ≤ (t220 : Int) := od_
       have q56 : (t220 : Int) < ((x3_2.length : Int) : Int) := od_
       obtain ⟨go56, co56, eo56, gb56, gl56, cl56, HG56⟩ := Kd.R_form HO_3.out (by omega)
       (first | cases eo56 | (injection eo56 with ea_ en_ ec_; (first | subst ea_ | (injection ea_ with ea_; subst ea_)); subst ec_; clear en_))
       have GB56 := A_ gb56
       have GG56 := A_ HG56
       clear gb56 gl56 HG56
       obtain ⟨hx56_0, hf56_0⟩ := Kd.R_celln 0 HO_3.out (t220 : Int) p56 q56
       replace p56 := eq_true p56
       replace q56 := eq_true q56
       have HP58 := Kd.R_putn HO_3.out (t220 : Int) a0_1
       rw [← Ny221.out] at HP58
       have HQ58 := A_ HP58
       clear HP58
       refine hK.out _ _ ⟨(blk_cell BK202.out 0).trans rfl, (blk_cell BK202.out 1).trans rfl⟩ (fun hHeld => ?_)
       clear hK K
       refine norm_ (a' := ?_) ?_ ?_
       rotate_left
       ·
        show Act.put _ (some 57) _ = _
        simp only [Act.put, List.setIfInBounds_toArray, List.set_cons_zero, List.set_cons_succ, i64_w, i32_w]
        rfl
       refine pure_ (i := 4) (N := some 60) (v := ?_) (a' := ?_) (bt_ 31 6) rfl rfl (by kernel_rfl) (fun _ _ _ h => h) (Or.inl ⟨by rfl, ?_⟩) ?_ ?_
       rotate_left
       ·
        intro w'
        go_simp
        with_reducible rfl
       rotate_left
       ·
        simp only [Act.put, List.setIfInBounds_toArray, List.set_cons_zero, List.set_cons_succ, i64_w, i32_w]
        rfl
       refine last_ (i := 5) (N := none) (bt_ 63 6) rfl rfl (by kernel_rfl) (by decide) (fun K hK => ?_)
       refine skip_ (w1 := ?_) (by rfl) rfl ?_ ?_
       rotate_left
       ·
        go_simp
        rfl
       refine hK.out _ _ ?_
       clear hK K
       refine done_ (by kernel_rfl) ?_
       try go_wp2
       go_ret
       exact ⟨_, rs_, rb_ HQ58.out, hb_ HB⟩
  rw [if_neg c4] at H
  exact absurd H (by simp)
 obtain rfl := Bool.eq_false_iff.mpr c3
 replace H := iF_ H
 obtain ⟨y204, hy204⟩ : ∃ y_ : List Int, y_ = (([] : List Int)) := ⟨_, rfl⟩
 replace H : (some y204) = some r := by first | (rw [hy204]; with_reducible exact H) | (have H2_ := (Option.bind_some _ _).symm.trans H; rw [hy204]; with_reducible exact H2_) | (have H2_ := (Option.bind_some _ _).symm.trans H; with_reducible exact H2_) | with_reducible exact H | (rw [hy204]; exact H) | exact H
 have Ny204 := A_ hy204
 clear hy204
 obtain rfl := Option.some.inj H
 go_enter Try.func94, Try.ntmps94
 go_wp2_with (first | ((with_reducible refine gate_dst (N := 1) rfl ?_); refine bx_ HB rfl (N := 1) rfl (cs := #[.slice A0_0 l0_0.length c0_0, .int .i64 a0_1]) (t := 44) hr_ ?_; clear HB; intro gb202 w59 hg hb BK202 GW202 HB; clear hb hg; obtain ⟨hcz60_0, hcz60_1, hfz60_0, hfz60_1⟩ := cz2_ BK202) | ((with_reducible refine gate_callee (f := 80) rfl ?_); refine goesL_ (some 8) rfl rfl Try.func80 (by kernel_rfl) rfl #[.agg #[.slice A0_0 l0_0.length c0_0, .int .i64 a0_1]] rfl al_ ?_; (with_reducible refine (spec_RowsOk.calls k _ _ l0_0 a0_1 false _ ?side1 ?side2 A2.out).mono ?_); (case side1 => exact cb_ (Kd.C_below HR0_0.out HB.out)); (case side2 => exact HC0_0.out); rintro e w61 ⟨rfl, hb⟩; refine ⟨_, rfl, ?_⟩; replace BK202 := bb_ BK202 hb; replace HB := hs_ HB hb; (try clear hb); (try clear hb2); (try clear hk); (try clear hi)) | ((with_reducible refine gate_dst (N := 10) rfl ?_); refine Kd.R_lit (Kd.int .i64) _ 3 ?hg (N := 10) ?hd (xs := ([] : List Int)) (inner := []) (ok := fun _ => True) (okp := fun _ => True) ?hr ?hp (fun _ hk => hk) trivial (Below.refl _ _) (Nat.le_refl _) (by simp) ?_; (case hd => rfl); (case hg => rfl); (case hr => first | (go_simp; done) | (go_simp; rfl)); (case hp => exact (Reps.none _ _)); intro v205 w62 ho63 hb hg_ hnew_; clear hg_ hnew_; (first | rw [← Ny204.out] at ho63 | (simp only [Int.reduceToNat] at ho63; rw [← Ny204.out] at ho63)); have HO206 := A_ (Kd.R_lower ho63 (below_size (hb_ HB))); replace BK202 := bb_ BK202 hb; replace HB := hs_ HB hb; clear hb ho63))
 go_ret
 exact ⟨_, rs_, rb_ HO206.out, hb_ HB⟩

end Go.Proofs.Ytmkhghbalnadlaa.PFnExactMemNew
