/- Contracts of functions of the program: each says that the call does what a plain Lean function tells. Made by programs of this session and of the kit. No condition beyond the hypotheses that each theorem names. -/
import Derived.Test.YtmkhghbalnadlaaPFnExactBeginx0
import Derived.Test.YtmkhghbalnadlaaPFnExactBeginx12
namespace Go.Proofs.Ytmkhghbalnadlaa.PFnExactBegin
open Go.RowKit Go.Proofs.YtmkhghbalnadlaaW.PrintWords Go.Proofs.YtmkhghbalnadlaaW.PrintLast Go.Proofs.YtmkhghbalnadlaaW.PrintMore
attribute [local go_sem] max2_int min2_int max_two min_two max_three min_three max_four min_four   -- for this text's walks alone
set_option linter.unusedVariables false
set_option linter.unusedSimpArgs false

/-! ### impl_copyMem: function 103 -/
def impl_copyMem.l0 : Nat → List (S119) → Int → Int → List (S95) → List (S119) → Option ((List (S95)) × (List (S119)))
 | 0, _, _, _, _, _ => none
 | k + 1, x11, x12, x13, x415000, x415001 => if x13 < x12 then (if 0 ≤ x13 then (if x13 < (x11.length : Int) then ((impl_Entry.f ((rd_T119 x11 x13).f2)).bind fun t417 => ((impl_copyRes.f ((rd_T119 x11 x13).f3.f0) ((rd_T119 x11 x13).f3.f1)).bind fun bt420 => (if x415001.length < 1954687338268 then (impl_copyMem.l0 k x11 x12 (wrap64 (x13 + 1)) x415000 (x415001 ++ [(⟨(rd_T119 x11 x13).f0, (rd_T119 x11 x13).f1, t417, (⟨bt420.1, bt420.2⟩ : S49)⟩ : S119)])) else (none)))) else (none)) else (none)) else (some (x415000, x415001))
def impl_copyMem.f (k : Nat) (l0_0 : List (S95)) (l0_1 : List (S119)) : Option ((List (S95)) × (List (S119))) := (impl_Word_148.f l0_0).bind fun t411 => (impl_copyMem.l0 k l0_1 (l0_1.length : Int) 0 t411 ([] : List (S119)))
set_option maxHeartbeats 8000000 in
set_option maxRecDepth 100000 in
theorem impl_copyMem.calls (k : Nat) (A0_0 : Option Addr) (c0_0 : Nat) (l0_0 : List (S95)) (A0_1 : Option Addr) (c0_1 : Nat) (l0_1 : List (S119)) (r1 : List (S95)) (r2 : List (S119)) (w : World) (hr0_0 : Kd.C k95 w A0_0 l0_0.length l0_0) (hc0_0 : l0_0.length ≤ c0_0) (hr0_1 : Kd.C k119 w A0_1 l0_1.length l0_1) (hc0_1 : l0_1.length ≤ c0_1) (h : impl_copyMem.f k l0_0 l0_1 = some (r1, r2)) :
    Calls Try.prog 103 #[.agg #[.slice A0_0 l0_0.length c0_0, .slice A0_1 l0_1.length c0_1]] w fun e w' => ∃ v0_ v1_ : Value, e = .returned (.agg #[v0_, v1_]) ∧ Kd.R k95 95 w' w.heap.size (fun _ => True) v0_ r1 ∧ Kd.S k119 119 w' w.heap.size (fun _ => True) v1_ r2 ∧ Below w.heap.size w w' := by
 have hu31 := Try.underlying31
 have hu119 := Try.underlying119
 have hu49 := Try.underlying49
 have HR0_0 := A_ hr0_0
 have HC0_0 := A_ hc0_0
 clear hr0_0 hc0_0
 have HR0_1 := A_ hr0_1
 have HC0_1 := A_ hc0_1
 clear hr0_1 hc0_1
 have HB := A_ (Below.refl w.heap.size w)
 have H : ((impl_Word_148.f l0_0).bind fun t411 => (impl_copyMem.l0 k l0_1 (l0_1.length : Int) 0 t411 ([] : List (S119)))) = some (r1, r2) := h
 clear h
 replace H := bs_ H
 obtain ⟨t411, A2, H⟩ := H
 replace H' := A_ H; clear H
 go_enter Try.func103, Try.ntmps103
 go_wp2_with (first | ((with_reducible refine gate_dst (N := 1) rfl ?_); refine bx_ HB rfl (N := 1) rfl (cs := #[.slice A0_0 l0_0.length c0_0, .slice A0_1 l0_1.length c0_1]) (t := 31) hr_ ?_; clear HB; intro gb409 w3 hg hb BK409 GW409 HB; clear hb hg) | ((with_reducible refine gate_dst (N := 2) rfl ?_); refine bx_ HB rfl (N := 2) rfl (cs := #[.slice none 0 0, .slice none 0 0]) (t := 31) hr_ ?_; clear HB; intro gb410 w4 hg hb BK410 GW410 HB; have NB409_410 := ng_ BK409 hg; have NB410_409 := ns_ (ng_ BK409 hg); replace BK409 := bb_ BK409 hb; clear hb hg; have hnb5 := NB409_410.out; have hnc5 := NB410_409.out; obtain ⟨hcz6_0, hcz6_1, hfz6_0, hfz6_1⟩ := cz2_ BK409) | ((with_reducible refine gate_callee (f := 148) rfl ?_); refine goesL_ (some 8) rfl rfl Try.func148 (by kernel_rfl) rfl #[.slice A0_0 l0_0.length c0_0] rfl al_ ?_; (with_reducible refine (impl_Word_148.calls _ _ l0_0 t411 _ ?side1 ?side2 A2.out).mono ?_); (case side1 => exact cb_ (Kd.C_below HR0_0.out HB.out)); (case side2 => exact HC0_0.out); rintro e w7 ⟨v412, rfl, ho0, hb⟩; refine ⟨_, rfl, ?_⟩; have HO413 := A_ (Kd.R_lower ho0 (below_size (hb_ HB))); replace BK409 := bb_ BK409 hb; replace BK410 := bb_ BK410 hb; replace HB := hs_ HB hb; (try clear hb); (try clear hb2); (try clear hk); (try clear hi); (try clear ho0); obtain ⟨Ao8, co8, eo8⟩ := Kd.R_slice HO413.out; subst eo8) | ((with_reducible refine gate_dst (N := 3) rfl ?_); refine bx_ HB rfl (N := 3) rfl (cs := #[.slice none 0 0, .slice none 0 0]) (t := 31) hr_ ?_; clear HB; intro gb414 w9 hg hb BK414 GW414 HB; have NB409_414 := ng_ BK409 hg; have NB414_409 := ns_ (ng_ BK409 hg); have NB410_414 := ng_ BK410 hg; have NB414_410 := ns_ (ng_ BK410 hg); replace HO413 := A_ (Kd.R_below (rb_ HO413.out) hb); replace BK409 := bb_ BK409 hb; replace BK410 := bb_ BK410 hb; clear hb hg; have hnb10 := NB414_409.out; have hnc10 := NB409_414.out; have hnb11 := NB414_410.out; have hnc11 := NB410_414.out; obtain ⟨hcz12_0, hcz12_1, hfz12_0, hfz12_1⟩ := cz2_ BK414; obtain ⟨hcz13_0, hcz13_1, hfz13_0, hfz13_1⟩ := cz2_ BK409))
 go_loopg [13] k (fun kq v13 w' => ∃ (x13_1 : Int) (x415001_1 : List (S119)) (u415001 : Value), v13 = .int .i64 x13_1 ∧ Aside0 (impl_copyMem.l0 kq l0_1 (l0_1.length : Int) x13_1 t411 x415001_1 = some (r1, r2)) ∧ Aside0 (kq ≤ k) ∧ Aside0 (Kd.R k95 95 w' w.heap.size (fun _ => True) (.slice Ao8 t411.length co8) t411) ∧ Aside0 (Kd.S k119 119 w' w.heap.size (fun _ => True) u415001 x415001_1) ∧ Aside0 (w'.heap[gb409]? = some (.cells #[(.slice A0_0 l0_0.length c0_0), (.slice A0_1 l0_1.length c0_1)] 31 (0, 0))) ∧ Aside0 (w'.heap[gb410]? = some (.cells #[(.slice none 0 0), (.slice none 0 0)] 31 (0, 0))) ∧ Aside0 (w'.heap[gb414]? = some (.cells #[(.slice Ao8 t411.length co8), u415001] 31 (0, 0))) ∧ Aside0 (Below w.heap.size w w'))
 case atStart => exact ⟨(0), (([] : List (S119))), (.slice none 0 0), rt_, H', ⟨Nat.le_refl _⟩, ⟨by (with_reducible repeat (first | apply Kd.R_alloc | apply Kd.R_drewN | apply Kd.R_drew)); exact Kd.R_mono (Kd.R_far (p := ⟨gb414, 1, none⟩) (Kd.R_far (p := ⟨gb414, 0, none⟩) (Kd.R_types HO413.out BK414.out (by decide)) (fun _ hk => hk.2) (.slice Ao8 t411.length co8)) (fun _ hk => hk.2) (.slice none 0 0)) (fun _ hk => trivial)⟩, ⟨by first | exact Kd.S_nil _ _ _ _ _ | exact Kd.N_nil _ _ _ _ _ | exact Kd.V_nil _ _ _ _ _ | exact Kd.Q_nil _ _ _ _ _ | exact Kd.R_nil _ _ _ _ _⟩, ⟨bk_ BK409⟩, ⟨bk_ BK410⟩, ⟨bp_ BK414⟩, ⟨hb_ HB⟩⟩
 case round =>
  clear H'
  obtain ⟨x13_1, x415001_1, u415001, rfl, HA, HK1, HO_415000, HO_415001, BK409, BK410, BK414, HB⟩ := hrel
  cases gk with
  | zero => exact absurd HA.out (by simp [impl_copyMem.l0])
  | succ k1 =>
   have H := HA.out
   clear HA
   simp only [impl_copyMem.l0] at H
   replace H := ic_ H
   rcases H with ⟨c14b0, H⟩ | ⟨c14b0, H⟩
   ·
    replace H := ix_ H
    obtain ⟨c15b0, H⟩ := H
    replace H := ix_ H
    obtain ⟨c16b0, H⟩ := H
    replace H := bs_ H
    obtain ⟨t417, A17, H⟩ := H
    replace H := bs_ H
    obtain ⟨⟨t420, t421⟩, A18, H⟩ := H
    dsimp only at H
    by_cases c19 : x415001_1.length < 1954687338268
    ·
     rw [if_pos c19] at H
     have LMc19 := A_ c19
     clear c19
     obtain ⟨y424, hy424⟩ : ∃ y_ : List (S119), y_ = (x415001_1 ++ [(⟨(rd_T119 l0_1 x13_1).f0, (rd_T119 l0_1 x13_1).f1, t417, (⟨t420, t421⟩ : S49)⟩ : S119)]) := ⟨_, rfl⟩
     replace H : (impl_copyMem.l0 k1 l0_1 (l0_1.length : Int) (wrap64 (x13_1 + 1)) t411 y424) = some (r1, r2) := by first | (rw [hy424]; with_reducible exact H) | (have H2_ := (Option.bind_some _ _).symm.trans H; rw [hy424]; with_reducible exact H2_) | (have H2_ := (Option.bind_some _ _).symm.trans H; with_reducible exact H2_) | with_reducible exact H | (rw [hy424]; exact H) | exact H
     have Ny424 := A_ hy424
     clear hy424
     replace H' := A_ H; clear H
     obtain ⟨ad415, A415_2, c415_2, A415_4, c415_4, p415, q415, rfl, hx415_0, hx415_1, hx415_2, hx415_3, hx415_4, HC415_2, HR415_2, HC415_4, HR415_4⟩ := ab_T119 HB HR0_1 x13_1
     go_wp2_with (first | ((with_reducible refine gate_dst (N := 5) rfl ?_); refine bx_ HB rfl (N := 5) rfl (cs := #[.int .i64 0, .int .i64 0, .slice none 0 0, .int .i64 0, .slice none 0 0]) (t := 119) hr_ ?_; clear HB; intro gb416 w20 hg hb BK416 GW416 HB; have NB409_416 := ng_ BK409 hg; have NB416_409 := ns_ (ng_ BK409 hg); have NB410_416 := ng_ BK410 hg; have NB416_410 := ns_ (ng_ BK410 hg); have NB414_416 := ng_ BK414 hg; have NB416_414 := ns_ (ng_ BK414 hg); replace HO_415000 := A_ (Kd.R_below (rb_ HO_415000.out) hb); replace HO_415001 := A_ (Kd.S_below (Kd.S_elderB (sb_ HO_415001.out) gb416 (Nat.le_of_eq hg.symm)) hb); replace BK409 := bb_ BK409 hb; replace BK410 := bb_ BK410 hb; replace BK414 := bb_ BK414 hb; clear hb hg; have hnb21 := NB416_409.out; have hnc21 := NB409_416.out; have hnb22 := NB416_410.out; have hnc22 := NB410_416.out; have hnb23 := NB416_414.out; have hnc23 := NB414_416.out; obtain ⟨hcz24_0, hcz24_1, hcz24_2, hcz24_3, hcz24_4, hfz24_0, hfz24_1, hfz24_2, hfz24_3, hfz24_4⟩ := cz5_ BK416) | ((with_reducible refine gate_callee (f := 105) rfl ?_); refine goesL_ (some 19) rfl rfl Try.func105 (by kernel_rfl) rfl #[.slice A415_2 ((rd_T119 l0_1 x13_1).f2).length c415_2] rfl al_ ?_; (with_reducible refine (impl_Entry.calls _ _ ((rd_T119 l0_1 x13_1).f2) t417 _ ?side1 ?side2 A17.out).mono ?_); (case side1 => exact Kd.C_below HR415_2.out (hb_ HB)); (case side2 => exact HC415_2.out); rintro e w25 ⟨v418, rfl, ho0, hb⟩; refine ⟨_, rfl, ?_⟩; have HO419 := A_ (Kd.R_lower ho0 (below_size (hb_ HB))); replace HO_415000 := A_ (Kd.R_below (by (with_reducible repeat (first | apply Kd.R_alloc | apply Kd.R_drewN | apply Kd.R_drew)); exact (Kd.R_mono (Kd.R_far (p := ⟨gb416, 4, none⟩) (Kd.R_far (p := ⟨gb416, 3, none⟩) (Kd.R_far (p := ⟨gb416, 2, none⟩) (Kd.R_far (p := ⟨gb416, 1, none⟩) (Kd.R_far (p := ⟨gb416, 0, none⟩) (Kd.R_types HO_415000.out BK416.out (by decide)) (fun _ hk => hk.2) (.int .i64 ((rd_T119 l0_1 x13_1).f0))) (fun _ hk => hk.2) (.int .i64 ((rd_T119 l0_1 x13_1).f1))) (fun _ hk => hk.2) (.slice A415_2 ((rd_T119 l0_1 x13_1).f2).length c415_2)) (fun _ hk => hk.2) (.int .i64 ((rd_T119 l0_1 x13_1).f3.f0))) (fun _ hk => hk.2) (.slice A415_4 ((rd_T119 l0_1 x13_1).f3.f1).length c415_4)) (fun _ h_ => h_.1))) hb); replace HO_415001 := A_ (Kd.S_elder' (by (with_reducible repeat (first | apply Kd.S_alloc | apply Kd.S_drewN | apply Kd.S_drew)); exact (Kd.S_mono (Kd.S_far (p := ⟨gb416, 4, none⟩) (Kd.S_far (p := ⟨gb416, 3, none⟩) (Kd.S_far (p := ⟨gb416, 2, none⟩) (Kd.S_far (p := ⟨gb416, 1, none⟩) (Kd.S_far (p := ⟨gb416, 0, none⟩) (Kd.S_mono HO_415001.out (fun k_ hk => (⟨hk, hk.2⟩ : _ ∧ k_ ≠ gb416))) (fun _ hk => hk.2) (.int .i64 ((rd_T119 l0_1 x13_1).f0))) (fun _ hk => hk.2) (.int .i64 ((rd_T119 l0_1 x13_1).f1))) (fun _ hk => hk.2) (.slice A415_2 ((rd_T119 l0_1 x13_1).f2).length c415_2)) (fun _ hk => hk.2) (.int .i64 ((rd_T119 l0_1 x13_1).f3.f0))) (fun _ hk => hk.2) (.slice A415_4 ((rd_T119 l0_1 x13_1).f3.f1).length c415_4)) (fun _ h_ => h_.1))) (Kd.R_base ho0) hb); replace BK409 := bb_ BK409 hb; replace BK410 := bb_ BK410 hb; replace BK414 := bb_ BK414 hb; replace BK416 := bq_ (o' := .cells #[.int .i64 ((rd_T119 l0_1 x13_1).f0), .int .i64 ((rd_T119 l0_1 x13_1).f1), .slice A415_2 ((rd_T119 l0_1 x13_1).f2).length c415_2, .int .i64 ((rd_T119 l0_1 x13_1).f3.f0), .slice A415_4 ((rd_T119 l0_1 x13_1).f3.f1).length c415_4] 119 (0, 0)) BK416 hb; replace HB := hs_ HB hb; (try clear hb); (try clear hb2); (try clear hk); (try clear hi); (try clear ho0); obtain ⟨Ao26, co26, eo26⟩ := Kd.R_slice HO419.out; subst eo26; obtain ⟨hcz27_0, hcz27_1, hcz27_2, hcz27_3, hcz27_4, hfz27_0, hfz27_1, hfz27_2, hfz27_3, hfz27_4⟩ := cz5_ BK416) | ((with_reducible refine gate_callee (f := 106) rfl ?_); refine goesL_ (some 23) rfl rfl Try.func106 (by kernel_rfl) rfl #[.agg #[.int .i64 ((rd_T119 l0_1 x13_1).f3.f0), .slice A415_4 ((rd_T119 l0_1 x13_1).f3.f1).length c415_4]] rfl al_ ?_; (with_reducible refine (impl_copyRes.calls ((rd_T119 l0_1 x13_1).f3.f0) _ _ ((rd_T119 l0_1 x13_1).f3.f1) t420 t421 _ ?side1 ?side2 A18.out).mono ?_); (case side1 => exact Kd.C_below HR415_4.out (hb_ HB)); (case side2 => exact HC415_4.out); rintro e w28 ⟨v422, rfl, ho0, hb⟩; refine ⟨_, rfl, ?_⟩; have HO423 := A_ (Kd.R_lower ho0 (below_size (hb_ HB))); replace HO_415000 := A_ (Kd.R_below (by (with_reducible repeat (first | apply Kd.R_alloc | apply Kd.R_drewN | apply Kd.R_drew)); exact (Kd.R_mono (Kd.R_far (p := ⟨gb416, 2, none⟩) (Kd.R_types HO_415000.out BK416.out (by decide)) (fun _ hk => hk.2) (.slice Ao26 t417.length co26)) (fun _ h_ => h_.1))) hb); replace HO_415001 := A_ (Kd.S_elder' (by (with_reducible repeat (first | apply Kd.S_alloc | apply Kd.S_drewN | apply Kd.S_drew)); exact (Kd.S_mono (Kd.S_far (p := ⟨gb416, 2, none⟩) (Kd.S_mono HO_415001.out (fun k_ hk => (⟨hk, hk.1.2⟩ : _ ∧ k_ ≠ gb416))) (fun _ hk => hk.2) (.slice Ao26 t417.length co26)) (fun _ h_ => h_.1))) (Kd.R_base ho0) hb); replace HO419 := A_ (Kd.R_below (by (with_reducible repeat (first | apply Kd.R_alloc | apply Kd.R_drewN | apply Kd.R_drew)); exact (Kd.R_mono (Kd.R_far (p := ⟨gb416, 2, none⟩) (Kd.R_types HO419.out BK416.out (by decide)) (fun _ hk => hk.2) (.slice Ao26 t417.length co26)) (fun _ h_ => h_.1))) hb); replace BK409 := bb_ BK409 hb; replace BK410 := bb_ BK410 hb; replace BK414 := bb_ BK414 hb; replace BK416 := bq_ (o' := .cells #[.int .i64 ((rd_T119 l0_1 x13_1).f0), .int .i64 ((rd_T119 l0_1 x13_1).f1), .slice Ao26 t417.length co26, .int .i64 ((rd_T119 l0_1 x13_1).f3.f0), .slice A415_4 ((rd_T119 l0_1 x13_1).f3.f1).length c415_4] 119 (0, 0)) BK416 hb; replace HB := hs_ HB hb; (try clear hb); (try clear hb2); (try clear hk); (try clear hi); (try clear ho0); obtain ⟨hcz29_0, hcz29_1, hcz29_2, hcz29_3, hcz29_4, hfz29_0, hfz29_1, hfz29_2, hfz29_3, hfz29_4⟩ := cz5_ BK416; obtain ⟨Ao30, co30, eo30⟩ := Kd.R_slice HO423.out; subst eo30) | ((with_reducible refine gate_store (t := 49) (p := 24) rfl ?_); refine store_event (t := 49) (p := 24) (v := ?vo_w31) (w1 := ((w28.setCell ⟨gb416, 3, none⟩ (.int .i64 t420)).setCell ⟨gb416, 4, none⟩ (.slice Ao30 t421.length co30))) ?hg ?ho ?hn ?hr ?_; (case ho => rfl); (case hg => rfl); (case hn => rfl); (case hr => first | (go_simp; done) | (go_simp; rfl)); intro w31 hw; have n0_ : Aside0 (Kd.R k95 95 w31 w.heap.size (fun _ => True) (.slice Ao8 t411.length co8) t411) := ⟨(by rw [hw]; exact (by (with_reducible repeat (first | apply Kd.R_alloc | apply Kd.R_drewN | apply Kd.R_drew)); exact Kd.R_mono (Kd.R_far (p := ⟨gb416, 4, none⟩) (Kd.R_far (p := ⟨gb416, 3, none⟩) (Kd.R_types HO_415000.out BK416.out (by decide)) (fun _ hk => hk.2) (.int .i64 t420)) (fun _ hk => hk.2) (.slice Ao30 t421.length co30)) (fun _ hk => trivial)))⟩; have n1_ : Aside0 (Kd.S k119 119 w31 w.heap.size (fun k_ => some k_ ≠ (.slice Ao26 t417.length co26 : Value).ownBlock ∧ some k_ ≠ (.slice Ao30 t421.length co30 : Value).ownBlock ∧ k_ ≠ gb416) u415001 x415001_1) := ⟨(by rw [hw]; exact (by (with_reducible repeat (first | apply Kd.S_alloc | apply Kd.S_drewN | apply Kd.S_drew)); exact Kd.S_mono (Kd.S_far (p := ⟨gb416, 4, none⟩) (Kd.S_far (p := ⟨gb416, 3, none⟩) (Kd.S_mono HO_415001.out (fun k_ hk => (⟨hk, hk.1.1.2⟩ : _ ∧ k_ ≠ gb416))) (fun _ hk => hk.2) (.int .i64 t420)) (fun _ hk => hk.2) (.slice Ao30 t421.length co30)) (fun _ hk => ⟨hk.1.1.2, ⟨hk.1.2, hk.1.1.1.2⟩⟩)))⟩; have n2_ : Aside0 (Kd.R k122 122 w31 w.heap.size (fun _ => True) (.slice Ao26 t417.length co26) t417) := ⟨(by rw [hw]; exact (by (with_reducible repeat (first | apply Kd.R_alloc | apply Kd.R_drewN | apply Kd.R_drew)); exact Kd.R_mono (Kd.R_far (p := ⟨gb416, 4, none⟩) (Kd.R_far (p := ⟨gb416, 3, none⟩) (Kd.R_types HO419.out BK416.out (by decide)) (fun _ hk => hk.2) (.int .i64 t420)) (fun _ hk => hk.2) (.slice Ao30 t421.length co30)) (fun _ hk => trivial)))⟩; have n3_ : Aside0 (Kd.R (Kd.int .i64) 3 w31 w.heap.size (fun _ => True) (.slice Ao30 t421.length co30) t421) := ⟨(by rw [hw]; exact (by (with_reducible repeat (first | apply Kd.R_alloc | apply Kd.R_drewN | apply Kd.R_drew)); exact Kd.R_mono (Kd.R_far (p := ⟨gb416, 4, none⟩) (Kd.R_far (p := ⟨gb416, 3, none⟩) (Kd.R_types HO423.out BK416.out (by decide)) (fun _ hk => hk.2) (.int .i64 t420)) (fun _ hk => hk.2) (.slice Ao30 t421.length co30)) (fun _ hk => trivial)))⟩; have n4_ : Aside0 (w31.heap[gb409]? = some (.cells #[.slice A0_0 l0_0.length c0_0, .slice (some ad415) l0_1.length c0_1] 31 (0, 0))) := ⟨(by rw [hw]; exact (bk_ BK409))⟩; have n5_ : Aside0 (w31.heap[gb410]? = some (.cells #[.slice none 0 0, .slice none 0 0] 31 (0, 0))) := ⟨(by rw [hw]; exact (bk_ BK410))⟩; have n6_ : Aside0 (w31.heap[gb414]? = some (.cells #[.slice Ao8 t411.length co8, u415001] 31 (0, 0))) := ⟨(by rw [hw]; exact (bk_ BK414))⟩; have n7_ : Aside0 (w31.heap[gb416]? = some (.cells #[.int .i64 ((rd_T119 l0_1 x13_1).f0), .int .i64 ((rd_T119 l0_1 x13_1).f1), .slice Ao26 t417.length co26, .int .i64 t420, .slice Ao30 t421.length co30] 119 (0, 0))) := ⟨(by rw [hw]; exact (bp_ BK416))⟩; have n8_ : Aside0 (Below w.heap.size w w31) := ⟨(by rw [hw]; exact (hb_ HB))⟩; clear hw; clear HO_415000; clear HO_415001; clear HO419; clear HO423; clear BK409; clear BK410; clear BK414; clear BK416; clear HB; have HO_415000 := n0_; have HO_415001 := n1_; have HO419 := n2_; have HO423 := n3_; have BK409 := n4_; have BK410 := n5_; have BK414 := n6_; have BK416 := n7_; have HB := n8_; clear n0_ n1_ n2_ n3_ n4_ n5_ n6_ n7_ n8_; have hnb32 := NB414_409.out; have hnc32 := NB409_414.out; have hnb33 := NB414_410.out; have hnc33 := NB410_414.out; obtain ⟨hcz34_0, hcz34_1, hfz34_0, hfz34_1⟩ := cz2_ BK414; obtain ⟨hcz35_0, hcz35_1, hcz35_2, hcz35_3, hcz35_4, hfz35_0, hfz35_1, hfz35_2, hfz35_3, hfz35_4⟩ := cz5_ BK416) | ((with_reducible refine gate_builtin (b := .append) (xs := #[.tmp 26, .tmp 28]) rfl ?_); at_builtin; refine Kd.S_append k119 (w0 := w) w.heap.size rfl (.tmp 26) (.tmp 28) 29 119 (.agg #[(.int .i64 0), (.int .i64 0), (.slice none 0 0), (.int .i64 0), (.slice none 0 0)]) 72 rfl Try.underlying29 info119 rfl (by decide) (by omega) u415001 x415001_1 (⟨(rd_T119 l0_1 x13_1).f0, (rd_T119 l0_1 x13_1).f1, t417, (⟨t420, t421⟩ : S49)⟩ : S119) [.int .i64 ((rd_T119 l0_1 x13_1).f0), .int .i64 ((rd_T119 l0_1 x13_1).f1), .slice Ao26 t417.length co26, .int .i64 t420, .slice Ao30 t421.length co30] (fun k_ => k_ ≠ gb416) (fun k_ => some k_ = (.slice Ao26 t417.length co26 : Value).ownBlock ∨ some k_ = (.slice Ao30 t421.length co30 : Value).ownBlock) rfl rfl ?aP (fun k_ hk_ => hk_.elim (fun h_ => ((Kd.R_mono (ok' := fun k_ => ((fun k_ => k_ ≠ gb416)) k_ ∧ some k_ ≠ (u415001 : Value).ownBlock) (Kd.R_types (Kd.R_apart' (HO419.out) (Kd.S_typed HO_415001.out) (by decide)) BK416.out (by decide)) (fun k_ hk => ⟨hk.2, hk.1.2⟩))).1 k_ h_.symm) (fun h_ => ((Kd.R_mono (ok' := fun k_ => ((fun k_ => k_ ≠ gb416)) k_ ∧ some k_ ≠ (u415001 : Value).ownBlock) (Kd.R_types (Kd.R_apart' (HO423.out) (Kd.S_typed HO_415001.out) (by decide)) BK416.out (by decide)) (fun k_ hk => ⟨hk.2, hk.1.2⟩))).1 k_ h_.symm)) ?aF ?aO ?aB ?aS ?aL ?_; (case aP => exact k119_mkM _ _ _ (⟨(rd_T119 l0_1 x13_1).f0, (rd_T119 l0_1 x13_1).f1, t417, (⟨t420, t421⟩ : S49)⟩ : S119) (Kd.R_mono (Kd.R_tight rfl (Kd.R_mono (ok' := fun k_ => ((fun k_ => k_ ≠ gb416)) k_ ∧ some k_ ≠ (u415001 : Value).ownBlock) (Kd.R_types (Kd.R_apart' (HO419.out) (Kd.S_typed HO_415001.out) (by decide)) BK416.out (by decide)) (fun k_ hk => ⟨hk.2, hk.1.2⟩))) (fun _ h_ => Or.inl h_)) (Kd.R_mono (Kd.R_tight rfl (Kd.R_mono (ok' := fun k_ => ((fun k_ => k_ ≠ gb416)) k_ ∧ some k_ ≠ (u415001 : Value).ownBlock) (Kd.R_types (Kd.R_apart' (HO423.out) (Kd.S_typed HO_415001.out) (by decide)) BK416.out (by decide)) (fun k_ hk => ⟨hk.2, hk.1.2⟩))) (fun _ h_ => Or.inr (h_)))); (case aB => exact (hb_ HB)); (case aF => exact (fun k_ hk => Kd.freshB (g := gb416) (o := .cells #[.int .i64 ((rd_T119 l0_1 x13_1).f0), .int .i64 ((rd_T119 l0_1 x13_1).f1), .slice Ao26 t417.length co26, .int .i64 t420, .slice Ao30 t421.length co30] 119 (0, 0)) (bk_ BK416) k_ hk)); (case aO => exact (by (with_reducible repeat (first | apply Kd.S_alloc | apply Kd.S_drewN | apply Kd.S_drew)); exact Kd.S_mono HO_415001.out (fun k_ hk => ⟨hk.2.2, fun e_ => e_.elim (fun h_ => hk.1 h_) (fun h_ => hk.2.1 h_)⟩))); (case aS => exact (below_size (hb_ HB))); (case aL => have := LMc19.out; omega); intro v425 w36 ho hb hg hat; rw [← Ny424.out] at ho; have HO426 := A_ ho; replace HO_415000 := A_ (Kd.R_over' (rb_ HO_415000.out) (Kd.S_typed (sb_ HO_415001.out)) (by decide) hg); replace BK409 := A_ (blk_grown (g := gb409) (o := .cells #[.slice A0_0 l0_0.length c0_0, .slice (some ad415) l0_1.length c0_1] 31 (0, 0)) (bk_ BK409) hg (Kd.S_ne HO_415001.out BK409.out (by decide))); replace BK410 := A_ (blk_grown (g := gb410) (o := .cells #[.slice none 0 0, .slice none 0 0] 31 (0, 0)) (bk_ BK410) hg (Kd.S_ne HO_415001.out BK410.out (by decide))); replace BK414 := A_ (blk_grown (g := gb414) (o := .cells #[.slice Ao8 t411.length co8, u415001] 31 (0, 0)) (bk_ BK414) hg (Kd.S_ne HO_415001.out BK414.out (by decide))); replace BK416 := A_ (blk_grown (g := gb416) (o := .cells #[.int .i64 ((rd_T119 l0_1 x13_1).f0), .int .i64 ((rd_T119 l0_1 x13_1).f1), .slice Ao26 t417.length co26, .int .i64 t420, .slice Ao30 t421.length co30] 119 (0, 0)) (bk_ BK416) hg (Kd.S_away HO_415001.out (fun _ hk => hk.2.2))); replace HB := A_ hb; clear HO_415001 HO419 HO423; clear ho hb hg hat; obtain ⟨Ao37, co37, eo37⟩ := Kd.S_slice HO426.out; subst eo37; obtain ⟨hcz38_0, hcz38_1, hfz38_0, hfz38_1⟩ := cz2_ BK414))
     go_roundg k1
     case measure => have := HK1.out; omega
     case rel => exact ⟨(wrap64 (x13_1 + 1)), (y424), (.slice Ao37 y424.length co37), rt_, H', ⟨by have := HK1.out; omega⟩, ⟨by (with_reducible repeat (first | apply Kd.R_alloc | apply Kd.R_drewN | apply Kd.R_drew)); exact Kd.R_mono (Kd.R_far (p := ⟨gb414, 1, none⟩) (Kd.R_types HO_415000.out BK414.out (by decide)) (fun _ hk => hk.2) (.slice Ao37 y424.length co37)) (fun _ hk => trivial)⟩, ⟨by (with_reducible repeat (first | apply Kd.S_alloc | apply Kd.S_drewN | apply Kd.S_drew)); exact Kd.S_mono (Kd.S_far (p := ⟨gb414, 1, none⟩) (Kd.S_types HO426.out BK414.out (by decide)) (fun _ hk => hk.2) (.slice Ao37 y424.length co37)) (fun _ hk => trivial)⟩, ⟨bk_ BK409⟩, ⟨bk_ BK410⟩, ⟨bp_ BK414⟩, ⟨hb_ HB⟩⟩
    rw [if_neg c19] at H
    exact absurd H (by simp)
   simp only [Option.some.injEq, Prod.mk.injEq] at H
   obtain ⟨rfl, rfl⟩ := H
   have hnb39 := NB414_409.out
   have hnc39 := NB409_414.out
   have hnb40 := NB414_410.out
   have hnc40 := NB410_414.out
   obtain ⟨hcz41_0, hcz41_1, hfz41_0, hfz41_1⟩ := cz2_ BK414
   have hnb42 := NB410_409.out
   have hnc42 := NB409_410.out
   obtain ⟨hcz43_0, hcz43_1, hfz43_0, hfz43_1⟩ := cz2_ BK410
   obtain ⟨Ao44, co44, eo44⟩ := Kd.S_slice HO_415001.out
   subst eo44
   go_wp2
   refine bodyPost_ret (results_cell_row rfl _ _ gb410 31 #[.slice Ao8 t411.length co8, .slice Ao44 x415001_1.length co44] (0, 0) _ rfl (bp_ BK410) Try.underlying31 rfl (by kernel_rfl)) rfl ?_
   exact ⟨_, _, rs_, by (with_reducible repeat (first | apply Kd.R_alloc | apply Kd.R_drewN | apply Kd.R_drew)); exact Kd.R_mono (Kd.R_far (p := ⟨gb410, 1, none⟩) (Kd.R_far (p := ⟨gb410, 0, none⟩) (Kd.R_types HO_415000.out BK410.out (by decide)) (fun _ hk => hk.2) (.slice Ao8 t411.length co8)) (fun _ hk => hk.2) (.slice Ao44 x415001_1.length co44)) (fun _ hk => trivial), by (with_reducible repeat (first | apply Kd.S_alloc | apply Kd.S_drewN | apply Kd.S_drew)); exact Kd.S_mono (Kd.S_far (p := ⟨gb410, 1, none⟩) (Kd.S_far (p := ⟨gb410, 0, none⟩) (Kd.S_types HO_415001.out BK410.out (by decide)) (fun _ hk => hk.2) (.slice Ao8 t411.length co8)) (fun _ hk => hk.2) (.slice Ao44 x415001_1.length co44)) (fun _ hk => trivial), hb_ HB⟩

/-! ### impl_Begin_c1: function 104 -/
def impl_Begin_c1.f (a0_0 : Int) (a0_1 : Int) (a0_2 : Int) (a1 : Int) : Option (Bool) := some (a0_1 == (wrap64 (a1 + 1)))
set_option maxHeartbeats 8000000 in
set_option maxRecDepth 100000 in
theorem impl_Begin_c1.calls (a0_0 : Int) (a0_1 : Int) (a0_2 : Int) (a1 : Int) (ad_ : Addr) (r : Bool) (w : World) (hcap : w.cell? ad_ = some (.int .i64 a1)) (h : impl_Begin_c1.f a0_0 a0_1 a0_2 a1 = some r) :
    Calls Try.prog 104 #[.agg #[.int .i64 a0_0, .int .i64 a0_1, .int .i64 a0_2], .pointer (some ad_)] w fun e w' => e = .returned (.bool r) ∧ Below w.heap.size w w' := by
 have hu95 := Try.underlying95
 have HB := A_ (Below.refl w.heap.size w)
 have H : (some (a0_1 == (wrap64 (a1 + 1)))) = some r := h
 clear h
 obtain rfl := Option.some.inj H
 go_enter Try.func104, Try.ntmps104
 go_wp2_with (first | ((with_reducible refine gate_dst (N := 2) rfl ?_); refine box_event rfl (N := 2) rfl (cs := #[.int .i64 a0_0, .int .i64 a0_1, .int .i64 a0_2]) (t := 95) hr_ ?_; intro gb427 hg w3 hbox hb; have n0_ := hs_ HB hb; have n1_ := A_ hbox; have n2_ := gs_ HB hg; have n3_ := gs_ HB hg; clear HB; have HB := n0_; have hcap2_ := (HB.out.cell (World.block_lt_of_cell? w _ hcap)).trans hcap; have BK427 := n1_; have GW427 := n2_; have GE427 := n3_; clear n0_ n1_ n2_ n3_; clear hb hbox hg; obtain ⟨hcz4_0, hcz4_1, hcz4_2, hfz4_0, hfz4_1, hfz4_2⟩ := cz3_ BK427))
 go_ret
 exact ⟨rs_, hb_ HB⟩

/-! ### slices_IndexFuncBegin_c1: function 176 -/
def slices_IndexFuncBegin_c1.l0 : Nat → List (S95) → Int → Int → Int → Option (Int)
 | 0, _, _, _, _ => none
 | k + 1, x0, x1, x7, x8 => if x8 < x7 then (if 0 ≤ x8 then (if x8 < (x0.length : Int) then ((impl_Begin_c1.f ((rd_T95 x0 x8).f0) ((rd_T95 x0 x8).f1) ((rd_T95 x0 x8).f2) x1).bind fun t429 => (if t429 = true then (some x8) else (slices_IndexFuncBegin_c1.l0 k x0 x1 x7 (wrap64 (x8 + 1))))) else (none)) else (none)) else (some (-1))
def slices_IndexFuncBegin_c1.f (k : Nat) (l0 : List (S95)) (a1 : Int) : Option (Int) := slices_IndexFuncBegin_c1.l0 k l0 a1 (l0.length : Int) 0
set_option maxHeartbeats 8000000 in
set_option maxRecDepth 100000 in
theorem slices_IndexFuncBegin_c1.calls (k : Nat) (A0 : Option Addr) (c0 : Nat) (l0 : List (S95)) (a1 : Int) (ad_ : Addr) (r : Int) (w : World) (hcap : w.cell? ad_ = some (.int .i64 a1)) (hr0 : Kd.C k95 w A0 l0.length l0) (hc0 : l0.length ≤ c0) (h : slices_IndexFuncBegin_c1.f k l0 a1 = some r) :
    Calls Try.prog 123 #[.slice A0 l0.length c0, .func (.func 104) #[] #[.pointer (some ad_)]] w fun e w' => e = .returned (.int .i64 r) ∧ Below w.heap.size w w' := by
 have hu95 := Try.underlying95
 have HR0 := A_ hr0
 have HC0 := A_ hc0
 clear hr0 hc0
 have HB := A_ (Below.refl w.heap.size w)
 have H : (slices_IndexFuncBegin_c1.l0 k l0 a1 (l0.length : Int) 0) = some r := h
 clear h
 replace H' := A_ H; clear H
 go_enter Try.func123, Try.ntmps123
 go_wp2
 go_loopg [8] k (fun kq v8 w' => ∃ (x8_1 : Int), v8 = .int .i64 x8_1 ∧ Aside0 (slices_IndexFuncBegin_c1.l0 kq l0 a1 (l0.length : Int) x8_1 = some r) ∧ Aside0 (kq ≤ k) ∧ Aside0 (Below w.heap.size w w'))
 case atStart => exact ⟨(0), rt_, H', ⟨Nat.le_refl _⟩, ⟨hb_ HB⟩⟩
 case round =>
  clear H'
  obtain ⟨x8_1, rfl, HA, HK1, HB⟩ := hrel
  cases gk with
  | zero => exact absurd HA.out (by simp [slices_IndexFuncBegin_c1.l0])
  | succ k1 =>
   have H := HA.out
   clear HA
   simp only [slices_IndexFuncBegin_c1.l0] at H
   replace H := ic_ H
   rcases H with ⟨c3b0, H⟩ | ⟨c3b0, H⟩
   ·
    replace H := ix_ H
    obtain ⟨c4b0, H⟩ := H
    replace H := ix_ H
    obtain ⟨c5b0, H⟩ := H
    replace H := bs_ H
    obtain ⟨t429, A6, H⟩ := H
    by_cases c7 : t429 = true
    ·
     subst c7
     replace H := it_ H
     obtain rfl := Option.some.inj H
     obtain ⟨ad428, p428, q428, rfl, hx428_0, hx428_1, hx428_2⟩ := ab_T95 HB HR0 x8_1
     go_wp2_with (first | ((with_reducible refine gate_dst (N := 16) rfl ?_); refine goesW_ (c := .tmp 11) (some 16) rfl rfl Try.func104 (by kernel_rfl) rfl #[.pointer (some ad_)] #[.agg #[.int .i64 ((rd_T95 l0 x8_1).f0), .int .i64 ((rd_T95 l0 x8_1).f1), .int .i64 ((rd_T95 l0 x8_1).f2)], .pointer (some ad_)] rfl rfl (by (try simp only [List.map_toArray, List.map_cons, List.map_nil]); first | done | rfl) ?_; (with_reducible refine (impl_Begin_c1.calls ((rd_T95 l0 x8_1).f0) ((rd_T95 l0 x8_1).f1) ((rd_T95 l0 x8_1).f2) a1 ad_ true _ ?cap_ A6.out).mono ?_); (case cap_ => exact (HB.out.cell (World.block_lt_of_cell? w _ hcap)).trans hcap); rintro e w8 ⟨rfl, hb⟩; refine ⟨_, rfl, ?_⟩; replace HB := hs_ HB hb; (try clear hb); (try clear hb2); (try clear hk); (try clear hi)))
     go_ret
     exact ⟨rs_, hb_ HB⟩
    obtain rfl := Bool.eq_false_iff.mpr c7
    replace H := iF_ H
    replace H' := A_ H; clear H
    obtain ⟨ad428, p428, q428, rfl, hx428_0, hx428_1, hx428_2⟩ := ab_T95 HB HR0 x8_1
    go_wp2_with (first | ((with_reducible refine gate_dst (N := 16) rfl ?_); refine goesW_ (c := .tmp 11) (some 16) rfl rfl Try.func104 (by kernel_rfl) rfl #[.pointer (some ad_)] #[.agg #[.int .i64 ((rd_T95 l0 x8_1).f0), .int .i64 ((rd_T95 l0 x8_1).f1), .int .i64 ((rd_T95 l0 x8_1).f2)], .pointer (some ad_)] rfl rfl (by (try simp only [List.map_toArray, List.map_cons, List.map_nil]); first | done | rfl) ?_; (with_reducible refine (impl_Begin_c1.calls ((rd_T95 l0 x8_1).f0) ((rd_T95 l0 x8_1).f1) ((rd_T95 l0 x8_1).f2) a1 ad_ false _ ?cap_ A6.out).mono ?_); (case cap_ => exact (HB.out.cell (World.block_lt_of_cell? w _ hcap)).trans hcap); rintro e w9 ⟨rfl, hb⟩; refine ⟨_, rfl, ?_⟩; replace HB := hs_ HB hb; (try clear hb); (try clear hb2); (try clear hk); (try clear hi)))
    go_roundg k1
    case measure => have := HK1.out; omega
    case rel => exact ⟨(wrap64 (x8_1 + 1)), rt_, H', ⟨by have := HK1.out; omega⟩, ⟨hb_ HB⟩⟩
   obtain rfl := Option.some.inj H
   go_wp2
   go_ret
   exact ⟨rs_, hb_ HB⟩

/-! ### slices_ContainsFuncBegin_c1: function 177 -/
def slices_ContainsFuncBegin_c1.f (k : Nat) (l0 : List (S95)) (a1 : Int) : Option (Bool) := (slices_IndexFuncBegin_c1.f k l0 a1).bind fun t430 => (some (decide (t430 ≥ 0)))
set_option maxHeartbeats 8000000 in
set_option maxRecDepth 100000 in
theorem slices_ContainsFuncBegin_c1.calls (k : Nat) (A0 : Option Addr) (c0 : Nat) (l0 : List (S95)) (a1 : Int) (ad_ : Addr) (r : Bool) (w : World) (hcap : w.cell? ad_ = some (.int .i64 a1)) (hr0 : Kd.C k95 w A0 l0.length l0) (hc0 : l0.length ≤ c0) (h : slices_ContainsFuncBegin_c1.f k l0 a1 = some r) :
    Calls Try.prog 59 #[.slice A0 l0.length c0, .func (.func 104) #[] #[.pointer (some ad_)]] w fun e w' => e = .returned (.bool r) ∧ Below w.heap.size w w' := by
 have HR0 := A_ hr0
 have HC0 := A_ hc0
 clear hr0 hc0
 have HB := A_ (Below.refl w.heap.size w)
 have H : ((slices_IndexFuncBegin_c1.f k l0 a1).bind fun t430 => (some (decide (t430 ≥ 0)))) = some r := h
 clear h
 replace H := bs_ H
 obtain ⟨t430, A3, H⟩ := H
 obtain rfl := Option.some.inj H
 go_enter Try.func59, Try.ntmps59
 go_wp2_with (first | ((with_reducible refine gate_callee (f := 123) rfl ?_); refine goesL_ (some 7) rfl rfl Try.func123 (by kernel_rfl) rfl #[.slice A0 l0.length c0, .func (.func 104) #[] #[.pointer (some ad_)]] rfl al_ ?_; (with_reducible refine (slices_IndexFuncBegin_c1.calls k _ _ l0 a1 ad_ t430 _ ?cap_ ?side1 ?side2 A3.out).mono ?_); (case cap_ => exact (HB.out.cell (World.block_lt_of_cell? w _ hcap)).trans hcap); (case side1 => exact cb_ HR0.out); (case side2 => exact HC0.out); rintro e w4 ⟨rfl, hb⟩; refine ⟨_, rfl, ?_⟩; replace HB := hs_ HB hb; (try clear hb); (try clear hb2); (try clear hk); (try clear hi)))
 go_ret
 exact ⟨rs_, hb_ HB⟩

end Go.Proofs.Ytmkhghbalnadlaa.PFnExactBegin
