/- Contracts of functions of the program: each says that the call does what a plain Lean function tells. Made by programs of this session and of the kit. No condition beyond the hypotheses that each theorem names. -/
import Derived.Test.YtmkhghbalnadlaaPFnExactBeginx0
import Derived.Test.YtmkhghbalnadlaaPFnExactBeginx3
namespace Go.Proofs.Ytmkhghbalnadlaa.PFnExactBegin
open Go.RowKit Go.Proofs.YtmkhghbalnadlaaW.PrintWords Go.Proofs.YtmkhghbalnadlaaW.PrintLast Go.Proofs.YtmkhghbalnadlaaW.PrintMore
attribute [local go_sem] max2_int min2_int max_two min_two max_three min_three max_four min_four   -- for this text's walks alone
set_option linter.unusedVariables false
set_option linter.unusedSimpArgs false

/-! ### laws_markWordS: function 96 -/
def laws_markWordS.l0 : Nat → List (S95) → Int → Int → Option (Int × (List (S95)))
 | 0, _, _, _ => none
 | k + 1, x0, x1, x5 => if x5 < (x0.length : Int) then (if 0 ≤ x5 then ((some (x0.set (x5 : Int).toNat (⟨x1, (rd_T95 x0 x5).f1, (rd_T95 x0 x5).f2⟩ : S95) : List (S95))).bind fun y207 => ((some (y207.set (x5 : Int).toNat (⟨(rd_T95 y207 x5).f0, wrap64 (x1 + 1), (rd_T95 y207 x5).f2⟩ : S95) : List (S95))).bind fun y208 => (laws_markWordS.l0 k (y208.set (x5 : Int).toNat (⟨(rd_T95 y208 x5).f0, (rd_T95 y208 x5).f1, wrap64 ((wrap64 (x1 + 1)) + 1)⟩ : S95)) (wrap64 ((wrap64 ((wrap64 (x1 + 1)) + 1)) + 1)) (wrap64 (x5 + 1))))) else (none)) else (some (x1, x0))
def laws_markWordS.f (k : Nat) (l0 : List (S95)) (a1 : Int) : Option (Int × (List (S95))) := laws_markWordS.l0 k l0 a1 0
set_option maxHeartbeats 8000000 in
set_option maxRecDepth 100000 in
theorem laws_markWordS.calls (k : Nat) (P0_ : Nat → Prop) (u9000_ : Value) (l0 : List (S95)) (a1 : Int) (r1 : Int) (r2 : List (S95)) (w0 w : World) (hB : Below w0.heap.size w0 w) (ho0 : Kd.R k95 95 w w0.heap.size P0_ u9000_ l0) (h : laws_markWordS.f k l0 a1 = some (r1, r2)) :
    Calls Try.prog 96 #[u9000_, .int .i64 a1] w fun e w' => e = .returned (.int .i64 r1) ∧ Kd.R k95 95 w' w0.heap.size (fun k_ => (P0_ k_ ∨ w.heap.size ≤ k_)) u9000_ r2 ∧ Below w0.heap.size w0 w' ∧ Kept w w' (fun k_ => P0_ k_) := by
 have HO0 := A_ (show Kd.R k95 95 w w0.heap.size (fun k_ => (P0_ k_ ∨ w.heap.size ≤ k_)) u9000_ l0 from Kd.R_mono ho0 (fun k_ hk => (.inl hk)))
 have HK := A_ (Kept.refl w (fun k_ => P0_ k_))
 have HW0 := A_ hB.size
 have HB := A_ hB
 clear hB
 have H : (laws_markWordS.l0 k l0 a1 0) = some (r1, r2) := h
 clear h
 replace H' := A_ H; clear H
 go_enter Try.func96, Try.ntmps96
 go_wp2
 go_loopg [1, 5] k (fun kq v1 v5 w' => ∃ (x0_1 : List (S95)) (x1_1 : Int) (x5_1 : Int), v1 = .int .i64 x1_1 ∧ v5 = .int .i64 x5_1 ∧ Aside0 (laws_markWordS.l0 kq x0_1 x1_1 x5_1 = some (r1, r2)) ∧ Aside0 (kq ≤ k) ∧ Aside0 (Kd.R k95 95 w' w0.heap.size (fun k_ => (P0_ k_ ∨ w.heap.size ≤ k_)) u9000_ x0_1) ∧ Aside0 (Kept w w' (fun k_ => P0_ k_)) ∧ Aside0 (Below w0.heap.size w0 w'))
 case atStart => exact ⟨(l0), (a1), (0), rt_, rt_, H', ⟨Nat.le_refl _⟩, ⟨rb_ HO0.out⟩, ⟨by repeat (first | (with_reducible first | exact HK.out | apply Kept.alloc | apply Kept.drewN | apply Kept.drew) | exact HK.out)⟩, ⟨hb_ HB⟩⟩
 case round =>
  clear H'
  obtain ⟨x0_1, x1_1, x5_1, rfl, rfl, HA, HK1, HO_0, HK, HB⟩ := hrel
  cases gk with
  | zero => exact absurd HA.out (by simp [laws_markWordS.l0])
  | succ k1 =>
   have H := HA.out
   clear HA
   simp only [laws_markWordS.l0] at H
   replace H := ic_ H
   rcases H with ⟨c3b0, H⟩ | ⟨c3b0, H⟩
   ·
    replace H := ix_ H
    obtain ⟨c4b0, H⟩ := H
    obtain ⟨y207, hy207⟩ : ∃ y_ : List (S95), y_ = (x0_1.set (x5_1 : Int).toNat (⟨x1_1, (rd_T95 x0_1 x5_1).f1, (rd_T95 x0_1 x5_1).f2⟩ : S95)) := ⟨_, rfl⟩
    replace H : ((some (y207.set (x5_1 : Int).toNat (⟨(rd_T95 y207 x5_1).f0, wrap64 (x1_1 + 1), (rd_T95 y207 x5_1).f2⟩ : S95) : List (S95))).bind fun y208 => (laws_markWordS.l0 k1 (y208.set (x5_1 : Int).toNat (⟨(rd_T95 y208 x5_1).f0, (rd_T95 y208 x5_1).f1, wrap64 ((wrap64 (x1_1 + 1)) + 1)⟩ : S95)) (wrap64 ((wrap64 ((wrap64 (x1_1 + 1)) + 1)) + 1)) (wrap64 (x5_1 + 1)))) = some (r1, r2) := by first | (rw [hy207]; with_reducible exact H) | (have H2_ := (Option.bind_some _ _).symm.trans H; rw [hy207]; with_reducible exact H2_) | (have H2_ := (Option.bind_some _ _).symm.trans H; with_reducible exact H2_) | with_reducible exact H | (rw [hy207]; exact H) | exact H
    have Ny207 := A_ hy207
    clear hy207
    obtain ⟨y208, hy208⟩ : ∃ y_ : List (S95), y_ = (y207.set (x5_1 : Int).toNat (⟨(rd_T95 y207 x5_1).f0, wrap64 (x1_1 + 1), (rd_T95 y207 x5_1).f2⟩ : S95)) := ⟨_, rfl⟩
    replace H : (laws_markWordS.l0 k1 (y208.set (x5_1 : Int).toNat (⟨(rd_T95 y208 x5_1).f0, (rd_T95 y208 x5_1).f1, wrap64 ((wrap64 (x1_1 + 1)) + 1)⟩ : S95)) (wrap64 ((wrap64 ((wrap64 (x1_1 + 1)) + 1)) + 1)) (wrap64 (x5_1 + 1))) = some (r1, r2) := by first | (rw [hy208]; with_reducible exact H) | (have H2_ := (Option.bind_some _ _).symm.trans H; rw [hy208]; with_reducible exact H2_) | (have H2_ := (Option.bind_some _ _).symm.trans H; with_reducible exact H2_) | with_reducible exact H | (rw [hy208]; exact H) | exact H
    have Ny208 := A_ hy208
    clear hy208
    obtain ⟨y209, hy209⟩ : ∃ y_ : List (S95), y_ = (y208.set (x5_1 : Int).toNat (⟨(rd_T95 y208 x5_1).f0, (rd_T95 y208 x5_1).f1, wrap64 ((wrap64 (x1_1 + 1)) + 1)⟩ : S95)) := ⟨_, rfl⟩
    replace H : (laws_markWordS.l0 k1 y209 (wrap64 ((wrap64 ((wrap64 (x1_1 + 1)) + 1)) + 1)) (wrap64 (x5_1 + 1))) = some (r1, r2) := by first | (rw [hy209]; with_reducible exact H) | (have H2_ := (Option.bind_some _ _).symm.trans H; rw [hy209]; with_reducible exact H2_) | (have H2_ := (Option.bind_some _ _).symm.trans H; with_reducible exact H2_) | with_reducible exact H | (rw [hy209]; exact H) | exact H
    have Ny209 := A_ hy209
    clear hy209
    replace H' := A_ H; clear H
    obtain ⟨Ao8, co8, eo8⟩ := Kd.R_slice HO_0.out
    subst eo8
    have p5 : 0 ≤ (x5_1 : Int) := od_
    have q5 : (x5_1 : Int) < ((x0_1.length : Int) : Int) := od_
    obtain ⟨go5, co5, eo5, gb5, gl5, cl5, HG5⟩ := Kd.R_form HO_0.out (by omega)
    (first | cases eo5 | (injection eo5 with ea_ en_ ec_; (first | subst ea_ | (injection ea_ with ea_; subst ea_)); subst ec_; clear en_))
    have GB5 := A_ gb5
    have GG5 := A_ HG5
    clear gb5 gl5 HG5
    have HMgo5 := A_ (show (P0_ go5 ∨ w.heap.size ≤ go5) from (HO_0.out.1 _ rfl))
    obtain ⟨ce5, hcl5, hM5, hcc5, hfr5⟩ := Kd.R_elem HO_0.out z95 (x5_1 : Int) p5 q5
    obtain rfl := k95_openM hM5
    have hx5_0 : wr.cell? ⟨go5, (x5_1 : Int).toNat * 3, none⟩ = some (.int .i64 ((rd_T95 x0_1 x5_1).f0)) := hcc5 0 _ rfl
    have hx5_1 : wr.cell? ⟨go5, (x5_1 : Int).toNat * 3 + 1, none⟩ = some (.int .i64 ((rd_T95 x0_1 x5_1).f1)) := hcc5 1 _ rfl
    have hx5_2 : wr.cell? ⟨go5, (x5_1 : Int).toNat * 3 + 2, none⟩ = some (.int .i64 ((rd_T95 x0_1 x5_1).f2)) := hcc5 2 _ rfl
    have hf5_0 : wr.frozen? ⟨go5, (x5_1 : Int).toNat * 3, none⟩ = false := hfr5 0
    have hf5_1 : wr.frozen? ⟨go5, (x5_1 : Int).toNat * 3 + 1, none⟩ = false := hfr5 1
    have hf5_2 : wr.frozen? ⟨go5, (x5_1 : Int).toNat * 3 + 2, none⟩ = false := hfr5 2
    clear hcl5 hcc5 hfr5 hM5
    replace p5 := eq_true p5
    replace q5 := eq_true q5
    have HX9 := A_ (show Kd.R k95 95 wr w0.heap.size (fun k_ => (P0_ k_ ∨ w.heap.size ≤ k_)) (.slice (some ⟨go5, 0, none⟩) x0_1.length co8) x0_1 from (rb_ HO_0.out))
    obtain ⟨ce9, hcl9, hM9, hcc9, hfr9⟩ := Kd.R_elem HX9.out z95 (x5_1 : Int) (od_) (by have h_ : (x5_1 : Int) < ((x0_1.length : Int) : Int) := od_; first | exact h_ | (have e_ := (Kd.R_reads' HO_0.out).1; omega) | simpa using h_)
    obtain rfl := k95_openM hM9
    have HP9 := Kd.R_seg HX9.out (x5_1 : Int) (od_) (by have h_ : (x5_1 : Int) < ((x0_1.length : Int) : Int) := od_; first | exact h_ | (have e_ := (Kd.R_reads' HO_0.out).1; omega) | simpa using h_) (seg := [.int .i64 x1_1]) (j := 0) hcl9 hcc9 (show 1 ≤ 3 from by decide) (x' := (⟨x1_1, (rd_T95 x0_1 x5_1).f1, (rd_T95 x0_1 x5_1).f2⟩ : S95)) (k95_mkM _ _ _ (⟨x1_1, (rd_T95 x0_1 x5_1).f1, (rd_T95 x0_1 x5_1).f2⟩ : S95) ) (fun _ hk => hk)
    have hx9_0 := hcc9 0 _ rfl
    (try simp only [show (k95).sz = 3 from rfl, Nat.mul_one, Nat.add_zero] at hx9_0)
    have hf9_0 := hfr9 0
    (try simp only [show (k95).sz = 3 from rfl, Nat.mul_one, Nat.add_zero] at hf9_0)
    clear hcl9 hcc9 hfr9 hM9
    go_wp2_with (first | ((with_reducible refine gate_store (t := 3) (p := 16) rfl ?_); refine store_event (t := 3) (p := 16) (v := ?vo_w10) (w1 := (wr.setCell ⟨go5, (x5_1 : Int).toNat * 3, none⟩ (.int .i64 x1_1))) ?hg ?ho ?hn ?hr ?_; (case ho => rfl); (case hg => rfl); (case hn => rfl); (case hr => first | (go_simp; done) | (go_simp; rfl)); intro w10 hw; have hg : wr.grownBy w10 (some go5) := (by rw [hw]; exact HP9.2); have hp_ : Kd.R k95 95 w10 w0.heap.size (fun k_ => (P0_ k_ ∨ w.heap.size ≤ k_)) (.slice (some ⟨go5, 0, none⟩) x0_1.length co8) y207 := (by rw [hw, Ny207.out]; exact HP9.1); clear HP9; have n0_ := A_ hp_; have n1_ := A_ ((by rw [hw]; exact below_set (HB.out) GB5.out : Below w0.heap.size w0 w10)); have n2_ := A_ (Kept.of_grown (S := (fun k_ => P0_ k_)) hg (by repeat (first | (with_reducible first | exact HK.out | apply Kept.alloc | apply Kept.drewN | apply Kept.drew) | exact HK.out)) (fun k_ e_ => (HO_0.out.1 k_ e_))); clear HO_0; clear HB; clear HK; have HO_0 := n0_; have HB := n1_; have HK := n2_; clear n0_ n1_ n2_; clear hg hw hp_; have p6 : 0 ≤ (x5_1 : Int) := od_; have q6 : (x5_1 : Int) < ((x0_1.length : Int) : Int) := od_; obtain ⟨ce6, hcl6, hM6, hcc6, hfr6⟩ := Kd.R_elem HO_0.out z95 (x5_1 : Int) p6 q6; obtain rfl := k95_openM hM6; have hx6_0 : w10.cell? ⟨go5, (x5_1 : Int).toNat * 3, none⟩ = some (.int .i64 ((rd_T95 y207 x5_1).f0)) := hcc6 0 _ rfl; have hx6_1 : w10.cell? ⟨go5, (x5_1 : Int).toNat * 3 + 1, none⟩ = some (.int .i64 ((rd_T95 y207 x5_1).f1)) := hcc6 1 _ rfl; have hx6_2 : w10.cell? ⟨go5, (x5_1 : Int).toNat * 3 + 2, none⟩ = some (.int .i64 ((rd_T95 y207 x5_1).f2)) := hcc6 2 _ rfl; have hf6_0 : w10.frozen? ⟨go5, (x5_1 : Int).toNat * 3, none⟩ = false := hfr6 0; have hf6_1 : w10.frozen? ⟨go5, (x5_1 : Int).toNat * 3 + 1, none⟩ = false := hfr6 1; have hf6_2 : w10.frozen? ⟨go5, (x5_1 : Int).toNat * 3 + 2, none⟩ = false := hfr6 2; clear hcl6 hcc6 hfr6 hM6; replace p6 := eq_true p6; replace q6 := eq_true q6; have HX11 := A_ (show Kd.R k95 95 w10 w0.heap.size (fun k_ => (P0_ k_ ∨ w.heap.size ≤ k_)) (.slice (some ⟨go5, 0, none⟩) x0_1.length co8) y207 from (rb_ HO_0.out)); obtain ⟨ce11, hcl11, hM11, hcc11, hfr11⟩ := Kd.R_elem HX11.out z95 (x5_1 : Int) (od_) (by have h_ : (x5_1 : Int) < ((x0_1.length : Int) : Int) := od_; first | exact h_ | (have e_ := (Kd.R_reads' HO_0.out).1; omega) | simpa using h_); obtain rfl := k95_openM hM11; have HP11 := Kd.R_seg HX11.out (x5_1 : Int) (od_) (by have h_ : (x5_1 : Int) < ((x0_1.length : Int) : Int) := od_; first | exact h_ | (have e_ := (Kd.R_reads' HO_0.out).1; omega) | simpa using h_) (seg := [.int .i64 (wrap64 (x1_1 + 1))]) (j := 1) hcl11 hcc11 (show 2 ≤ 3 from by decide) (x' := (⟨(rd_T95 y207 x5_1).f0, wrap64 (x1_1 + 1), (rd_T95 y207 x5_1).f2⟩ : S95)) (k95_mkM _ _ _ (⟨(rd_T95 y207 x5_1).f0, wrap64 (x1_1 + 1), (rd_T95 y207 x5_1).f2⟩ : S95) ) (fun _ hk => hk); have hx11_1 := hcc11 1 _ rfl; (try simp only [show (k95).sz = 3 from rfl, Nat.mul_one, Nat.add_zero] at hx11_1); have hf11_1 := hfr11 1; (try simp only [show (k95).sz = 3 from rfl, Nat.mul_one, Nat.add_zero] at hf11_1); clear hcl11 hcc11 hfr11 hM11) | ((with_reducible refine gate_store (t := 3) (p := 23) rfl ?_); refine store_event (t := 3) (p := 23) (v := ?vo_w12) (w1 := (w10.setCell ⟨go5, (x5_1 : Int).toNat * 3 + 1, none⟩ (.int .i64 (wrap64 (x1_1 + 1))))) ?hg ?ho ?hn ?hr ?_; (case ho => rfl); (case hg => rfl); (case hn => rfl); (case hr => first | (go_simp; done) | (go_simp; rfl)); intro w12 hw; have hg : w10.grownBy w12 (some go5) := (by rw [hw]; exact HP11.2); have hp_ : Kd.R k95 95 w12 w0.heap.size (fun k_ => (P0_ k_ ∨ w.heap.size ≤ k_)) (.slice (some ⟨go5, 0, none⟩) x0_1.length co8) y208 := (by rw [hw, Ny208.out]; exact HP11.1); clear HP11; have n0_ := A_ hp_; have n1_ := A_ ((by rw [hw]; exact below_set (HB.out) GB5.out : Below w0.heap.size w0 w12)); have n2_ := A_ (Kept.of_grown (S := (fun k_ => P0_ k_)) hg (by repeat (first | (with_reducible first | exact HK.out | apply Kept.alloc | apply Kept.drewN | apply Kept.drew) | exact HK.out)) (fun k_ e_ => (HO_0.out.1 k_ e_))); clear HO_0; clear HB; clear HK; have HO_0 := n0_; have HB := n1_; have HK := n2_; clear n0_ n1_ n2_; clear hg hw hp_; have p7 : 0 ≤ (x5_1 : Int) := od_; have q7 : (x5_1 : Int) < ((x0_1.length : Int) : Int) := od_; obtain ⟨ce7, hcl7, hM7, hcc7, hfr7⟩ := Kd.R_elem HO_0.out z95 (x5_1 : Int) p7 q7; obtain rfl := k95_openM hM7; have hx7_0 : w12.cell? ⟨go5, (x5_1 : Int).toNat * 3, none⟩ = some (.int .i64 ((rd_T95 y208 x5_1).f0)) := hcc7 0 _ rfl; have hx7_1 : w12.cell? ⟨go5, (x5_1 : Int).toNat * 3 + 1, none⟩ = some (.int .i64 ((rd_T95 y208 x5_1).f1)) := hcc7 1 _ rfl; have hx7_2 : w12.cell? ⟨go5, (x5_1 : Int).toNat * 3 + 2, none⟩ = some (.int .i64 ((rd_T95 y208 x5_1).f2)) := hcc7 2 _ rfl; have hf7_0 : w12.frozen? ⟨go5, (x5_1 : Int).toNat * 3, none⟩ = false := hfr7 0; have hf7_1 : w12.frozen? ⟨go5, (x5_1 : Int).toNat * 3 + 1, none⟩ = false := hfr7 1; have hf7_2 : w12.frozen? ⟨go5, (x5_1 : Int).toNat * 3 + 2, none⟩ = false := hfr7 2; clear hcl7 hcc7 hfr7 hM7; replace p7 := eq_true p7; replace q7 := eq_true q7; have HX13 := A_ (show Kd.R k95 95 w12 w0.heap.size (fun k_ => (P0_ k_ ∨ w.heap.size ≤ k_)) (.slice (some ⟨go5, 0, none⟩) x0_1.length co8) y208 from (rb_ HO_0.out)); obtain ⟨ce13, hcl13, hM13, hcc13, hfr13⟩ := Kd.R_elem HX13.out z95 (x5_1 : Int) (od_) (by have h_ : (x5_1 : Int) < ((x0_1.length : Int) : Int) := od_; first | exact h_ | (have e_ := (Kd.R_reads' HO_0.out).1; omega) | simpa using h_); obtain rfl := k95_openM hM13; have HP13 := Kd.R_seg HX13.out (x5_1 : Int) (od_) (by have h_ : (x5_1 : Int) < ((x0_1.length : Int) : Int) := od_; first | exact h_ | (have e_ := (Kd.R_reads' HO_0.out).1; omega) | simpa using h_) (seg := [.int .i64 (wrap64 ((wrap64 (x1_1 + 1)) + 1))]) (j := 2) hcl13 hcc13 (show 3 ≤ 3 from by decide) (x' := (⟨(rd_T95 y208 x5_1).f0, (rd_T95 y208 x5_1).f1, wrap64 ((wrap64 (x1_1 + 1)) + 1)⟩ : S95)) (k95_mkM _ _ _ (⟨(rd_T95 y208 x5_1).f0, (rd_T95 y208 x5_1).f1, wrap64 ((wrap64 (x1_1 + 1)) + 1)⟩ : S95) ) (fun _ hk => hk); have hx13_2 := hcc13 2 _ rfl; (try simp only [show (k95).sz = 3 from rfl, Nat.mul_one, Nat.add_zero] at hx13_2); have hf13_2 := hfr13 2; (try simp only [show (k95).sz = 3 from rfl, Nat.mul_one, Nat.add_zero] at hf13_2); clear hcl13 hcc13 hfr13 hM13) | ((with_reducible refine gate_store (t := 3) (p := 30) rfl ?_); refine store_event (t := 3) (p := 30) (v := ?vo_w14) (w1 := (w12.setCell ⟨go5, (x5_1 : Int).toNat * 3 + 2, none⟩ (.int .i64 (wrap64 ((wrap64 (x1_1 + 1)) + 1))))) ?hg ?ho ?hn ?hr ?_; (case ho => rfl); (case hg => rfl); (case hn => rfl); (case hr => first | (go_simp; done) | (go_simp; rfl)); intro w14 hw; have hg : w12.grownBy w14 (some go5) := (by rw [hw]; exact HP13.2); have hp_ : Kd.R k95 95 w14 w0.heap.size (fun k_ => (P0_ k_ ∨ w.heap.size ≤ k_)) (.slice (some ⟨go5, 0, none⟩) x0_1.length co8) y209 := (by rw [hw, Ny209.out]; exact HP13.1); clear HP13; have n0_ := A_ hp_; have n1_ := A_ ((by rw [hw]; exact below_set (HB.out) GB5.out : Below w0.heap.size w0 w14)); have n2_ := A_ (Kept.of_grown (S := (fun k_ => P0_ k_)) hg (by repeat (first | (with_reducible first | exact HK.out | apply Kept.alloc | apply Kept.drewN | apply Kept.drew) | exact HK.out)) (fun k_ e_ => (HO_0.out.1 k_ e_))); clear HO_0; clear HB; clear HK; have HO_0 := n0_; have HB := n1_; have HK := n2_; clear n0_ n1_ n2_; clear hg hw hp_))
    go_roundg k1
    case measure => have := HK1.out; omega
    case rel => exact ⟨(y209), (wrap64 ((wrap64 ((wrap64 (x1_1 + 1)) + 1)) + 1)), (wrap64 (x5_1 + 1)), rt_, rt_, H', ⟨by have := HK1.out; omega⟩, ⟨rb_ HO_0.out⟩, ⟨by repeat (first | (with_reducible first | exact HK.out | apply Kept.alloc | apply Kept.drewN | apply Kept.drew) | exact HK.out)⟩, ⟨hb_ HB⟩⟩
   simp only [Option.some.injEq, Prod.mk.injEq] at H
   obtain ⟨rfl, rfl⟩ := H
   obtain ⟨Ao15, co15, eo15⟩ := Kd.R_slice HO_0.out
   subst eo15
   go_wp2
   go_ret
   exact ⟨rs_, rb_ HO_0.out, hb_ HB, by repeat (first | (with_reducible first | exact HK.out | apply Kept.alloc | apply Kept.drewN | apply Kept.drew) | exact HK.out)⟩

/-! ### laws_markEntryS: function 48 -/
def laws_markEntryS.l0 : Nat → List (S122) → Int → Int → Option (Int × (List (S122)))
 | 0, _, _, _ => none
 | k + 1, x0, x1, x5 => if x5 < (x0.length : Int) then (if 0 ≤ x5 then ((some (x0.set (x5 : Int).toNat (⟨x1, (rd_T122 x0 x5).f1, (rd_T122 x0 x5).f2⟩ : S122) : List (S122))).bind fun y210 => ((some (y210.set (x5 : Int).toNat (⟨(rd_T122 y210 x5).f0, wrap64 (x1 + 1), (rd_T122 y210 x5).f2⟩ : S122) : List (S122))).bind fun y211 => (laws_markEntryS.l0 k (y211.set (x5 : Int).toNat (⟨(rd_T122 y211 x5).f0, (rd_T122 y211 x5).f1, wrap64 ((wrap64 (x1 + 1)) + 1)⟩ : S122)) (wrap64 ((wrap64 ((wrap64 (x1 + 1)) + 1)) + 1)) (wrap64 (x5 + 1))))) else (none)) else (some (x1, x0))
def laws_markEntryS.f (k : Nat) (l0 : List (S122)) (a1 : Int) : Option (Int × (List (S122))) := laws_markEntryS.l0 k l0 a1 0
set_option maxHeartbeats 8000000 in
set_option maxRecDepth 100000 in
theorem laws_markEntryS.calls (k : Nat) (P0_ : Nat → Prop) (u9000_ : Value) (l0 : List (S122)) (a1 : Int) (r1 : Int) (r2 : List (S122)) (w0 w : World) (hB : Below w0.heap.size w0 w) (ho0 : Kd.R k122 122 w w0.heap.size P0_ u9000_ l0) (h : laws_markEntryS.f k l0 a1 = some (r1, r2)) :
    Calls Try.prog 48 #[u9000_, .int .i64 a1] w fun e w' => e = .returned (.int .i64 r1) ∧ Kd.R k122 122 w' w0.heap.size (fun k_ => (P0_ k_ ∨ w.heap.size ≤ k_)) u9000_ r2 ∧ Below w0.heap.size w0 w' ∧ Kept w w' (fun k_ => P0_ k_) := by
 have HO0 := A_ (show Kd.R k122 122 w w0.heap.size (fun k_ => (P0_ k_ ∨ w.heap.size ≤ k_)) u9000_ l0 from Kd.R_mono ho0 (fun k_ hk => (.inl hk)))
 have HK := A_ (Kept.refl w (fun k_ => P0_ k_))
 have HW0 := A_ hB.size
 have HB := A_ hB
 clear hB
 have H : (laws_markEntryS.l0 k l0 a1 0) = some (r1, r2) := h
 clear h
 replace H' := A_ H; clear H
 go_enter Try.func48, Try.ntmps48
 go_wp2
 go_loopg [1, 5] k (fun kq v1 v5 w' => ∃ (x0_1 : List (S122)) (x1_1 : Int) (x5_1 : Int), v1 = .int .i64 x1_1 ∧ v5 = .int .i64 x5_1 ∧ Aside0 (laws_markEntryS.l0 kq x0_1 x1_1 x5_1 = some (r1, r2)) ∧ Aside0 (kq ≤ k) ∧ Aside0 (Kd.R k122 122 w' w0.heap.size (fun k_ => (P0_ k_ ∨ w.heap.size ≤ k_)) u9000_ x0_1) ∧ Aside0 (Kept w w' (fun k_ => P0_ k_)) ∧ Aside0 (Below w0.heap.size w0 w'))
 case atStart => exact ⟨(l0), (a1), (0), rt_, rt_, H', ⟨Nat.le_refl _⟩, ⟨rb_ HO0.out⟩, ⟨by repeat (first | (with_reducible first | exact HK.out | apply Kept.alloc | apply Kept.drewN | apply Kept.drew) | exact HK.out)⟩, ⟨hb_ HB⟩⟩
 case round =>
  clear H'
  obtain ⟨x0_1, x1_1, x5_1, rfl, rfl, HA, HK1, HO_0, HK, HB⟩ := hrel
  cases gk with
  | zero => exact absurd HA.out (by simp [laws_markEntryS.l0])
  | succ k1 =>
   have H := HA.out
   clear HA
   simp only [laws_markEntryS.l0] at H
   replace H := ic_ H
   rcases H with ⟨c3b0, H⟩ | ⟨c3b0, H⟩
   ·
    replace H := ix_ H
    obtain ⟨c4b0, H⟩ := H
    obtain ⟨y210, hy210⟩ : ∃ y_ : List (S122), y_ = (x0_1.set (x5_1 : Int).toNat (⟨x1_1, (rd_T122 x0_1 x5_1).f1, (rd_T122 x0_1 x5_1).f2⟩ : S122)) := ⟨_, rfl⟩
    replace H : ((some (y210.set (x5_1 : Int).toNat (⟨(rd_T122 y210 x5_1).f0, wrap64 (x1_1 + 1), (rd_T122 y210 x5_1).f2⟩ : S122) : List (S122))).bind fun y211 => (laws_markEntryS.l0 k1 (y211.set (x5_1 : Int).toNat (⟨(rd_T122 y211 x5_1).f0, (rd_T122 y211 x5_1).f1, wrap64 ((wrap64 (x1_1 + 1)) + 1)⟩ : S122)) (wrap64 ((wrap64 ((wrap64 (x1_1 + 1)) + 1)) + 1)) (wrap64 (x5_1 + 1)))) = some (r1, r2) := by first | (rw [hy210]; with_reducible exact H) | (have H2_ := (Option.bind_some _ _).symm.trans H; rw [hy210]; with_reducible exact H2_) | (have H2_ := (Option.bind_some _ _).symm.trans H; with_reducible exact H2_) | with_reducible exact H | (rw [hy210]; exact H) | exact H
    have Ny210 := A_ hy210
    clear hy210
    obtain ⟨y211, hy211⟩ : ∃ y_ : List (S122), y_ = (y210.set (x5_1 : Int).toNat (⟨(rd_T122 y210 x5_1).f0, wrap64 (x1_1 + 1), (rd_T122 y210 x5_1).f2⟩ : S122)) := ⟨_, rfl⟩
    replace H : (laws_markEntryS.l0 k1 (y211.set (x5_1 : Int).toNat (⟨(rd_T122 y211 x5_1).f0, (rd_T122 y211 x5_1).f1, wrap64 ((wrap64 (x1_1 + 1)) + 1)⟩ : S122)) (wrap64 ((wrap64 ((wrap64 (x1_1 + 1)) + 1)) + 1)) (wrap64 (x5_1 + 1))) = some (r1, r2) := by first | (rw [hy211]; with_reducible exact H) | (have H2_ := (Option.bind_some _ _).symm.trans H; rw [hy211]; with_reducible exact H2_) | (have H2_ := (Option.bind_some _ _).symm.trans H; with_reducible exact H2_) | with_reducible exact H | (rw [hy211]; exact H) | exact H
    have Ny211 := A_ hy211
    clear hy211
    obtain ⟨y212, hy212⟩ : ∃ y_ : List (S122), y_ = (y211.set (x5_1 : Int).toNat (⟨(rd_T122 y211 x5_1).f0, (rd_T122 y211 x5_1).f1, wrap64 ((wrap64 (x1_1 + 1)) + 1)⟩ : S122)) := ⟨_, rfl⟩
    replace H : (laws_markEntryS.l0 k1 y212 (wrap64 ((wrap64 ((wrap64 (x1_1 + 1)) + 1)) + 1)) (wrap64 (x5_1 + 1))) = some (r1, r2) := by first | (rw [hy212]; with_reducible exact H) | (have H2_ := (Option.bind_some _ _).symm.trans H; rw [hy212]; with_reducible exact H2_) | (have H2_ := (Option.bind_some _ _).symm.trans H; with_reducible exact H2_) | with_reducible exact H | (rw [hy212]; exact H) | exact H
    have Ny212 := A_ hy212
    clear hy212
    replace H' := A_ H; clear H
    obtain ⟨Ao8, co8, eo8⟩ := Kd.R_slice HO_0.out
    subst eo8
    have p5 : 0 ≤ (x5_1 : Int) := od_
    have q5 : (x5_1 : Int) < ((x0_1.length : Int) : Int) := od_
    obtain ⟨go5, co5, eo5, gb5, gl5, cl5, HG5⟩ := Kd.R_form HO_0.out (by omega)
    (first | cases eo5 | (injection eo5 with ea_ en_ ec_; (first | subst ea_ | (injection ea_ with ea_; subst ea_)); subst ec_; clear en_))
    have GB5 := A_ gb5
    have GG5 := A_ HG5
    clear gb5 gl5 HG5
    have HMgo5 := A_ (show (P0_ go5 ∨ w.heap.size ≤ go5) from (HO_0.out.1 _ rfl))
    obtain ⟨ce5, hcl5, hM5, hcc5, hfr5⟩ := Kd.R_elem HO_0.out z122 (x5_1 : Int) p5 q5
    obtain rfl := k122_openM hM5
    have hx5_0 : wr.cell? ⟨go5, (x5_1 : Int).toNat * 3, none⟩ = some (.int .i64 ((rd_T122 x0_1 x5_1).f0)) := hcc5 0 _ rfl
    have hx5_1 : wr.cell? ⟨go5, (x5_1 : Int).toNat * 3 + 1, none⟩ = some (.int .i64 ((rd_T122 x0_1 x5_1).f1)) := hcc5 1 _ rfl
    have hx5_2 : wr.cell? ⟨go5, (x5_1 : Int).toNat * 3 + 2, none⟩ = some (.int .i64 ((rd_T122 x0_1 x5_1).f2)) := hcc5 2 _ rfl
    have hf5_0 : wr.frozen? ⟨go5, (x5_1 : Int).toNat * 3, none⟩ = false := hfr5 0
    have hf5_1 : wr.frozen? ⟨go5, (x5_1 : Int).toNat * 3 + 1, none⟩ = false := hfr5 1
    have hf5_2 : wr.frozen? ⟨go5, (x5_1 : Int).toNat * 3 + 2, none⟩ = false := hfr5 2
    clear hcl5 hcc5 hfr5 hM5
    replace p5 := eq_true p5
    replace q5 := eq_true q5
    have HX9 := A_ (show Kd.R k122 122 wr w0.heap.size (fun k_ => (P0_ k_ ∨ w.heap.size ≤ k_)) (.slice (some ⟨go5, 0, none⟩) x0_1.length co8) x0_1 from (rb_ HO_0.out))
    obtain ⟨ce9, hcl9, hM9, hcc9, hfr9⟩ := Kd.R_elem HX9.out z122 (x5_1 : Int) (od_) (by have h_ : (x5_1 : Int) < ((x0_1.length : Int) : Int) := od_; first | exact h_ | (have e_ := (Kd.R_reads' HO_0.out).1; omega) | simpa using h_)
    obtain rfl := k122_openM hM9
    have HP9 := Kd.R_seg HX9.out (x5_1 : Int) (od_) (by have h_ : (x5_1 : Int) < ((x0_1.length : Int) : Int) := od_; first | exact h_ | (have e_ := (Kd.R_reads' HO_0.out).1; omega) | simpa using h_) (seg := [.int .i64 x1_1]) (j := 0) hcl9 hcc9 (show 1 ≤ 3 from by decide) (x' := (⟨x1_1, (rd_T122 x0_1 x5_1).f1, (rd_T122 x0_1 x5_1).f2⟩ : S122)) (k122_mkM _ _ _ (⟨x1_1, (rd_T122 x0_1 x5_1).f1, (rd_T122 x0_1 x5_1).f2⟩ : S122) ) (fun _ hk => hk)
    have hx9_0 := hcc9 0 _ rfl
    (try simp only [show (k122).sz = 3 from rfl, Nat.mul_one, Nat.add_zero] at hx9_0)
    have hf9_0 := hfr9 0
    (try simp only [show (k122).sz = 3 from rfl, Nat.mul_one, Nat.add_zero] at hf9_0)
    clear hcl9 hcc9 hfr9 hM9
    go_wp2_with (first | ((with_reducible refine gate_store (t := 3) (p := 16) rfl ?_); refine store_event (t := 3) (p := 16) (v := ?vo_w10) (w1 := (wr.setCell ⟨go5, (x5_1 : Int).toNat * 3, none⟩ (.int .i64 x1_1))) ?hg ?ho ?hn ?hr ?_; (case ho => rfl); (case hg => rfl); (case hn => rfl); (case hr => first | (go_simp; done) | (go_simp; rfl)); intro w10 hw; have hg : wr.grownBy w10 (some go5) := (by rw [hw]; exact HP9.2); have hp_ : Kd.R k122 122 w10 w0.heap.size (fun k_ => (P0_ k_ ∨ w.heap.size ≤ k_)) (.slice (some ⟨go5, 0, none⟩) x0_1.length co8) y210 := (by rw [hw, Ny210.out]; exact HP9.1); clear HP9; have n0_ := A_ hp_; have n1_ := A_ ((by rw [hw]; exact below_set (HB.out) GB5.out : Below w0.heap.size w0 w10)); have n2_ := A_ (Kept.of_grown (S := (fun k_ => P0_ k_)) hg (by repeat (first | (with_reducible first | exact HK.out | apply Kept.alloc | apply Kept.drewN | apply Kept.drew) | exact HK.out)) (fun k_ e_ => (HO_0.out.1 k_ e_))); clear HO_0; clear HB; clear HK; have HO_0 := n0_; have HB := n1_; have HK := n2_; clear n0_ n1_ n2_; clear hg hw hp_; have p6 : 0 ≤ (x5_1 : Int) := od_; have q6 : (x5_1 : Int) < ((x0_1.length : Int) : Int) := od_; obtain ⟨ce6, hcl6, hM6, hcc6, hfr6⟩ := Kd.R_elem HO_0.out z122 (x5_1 : Int) p6 q6; obtain rfl := k122_openM hM6; have hx6_0 : w10.cell? ⟨go5, (x5_1 : Int).toNat * 3, none⟩ = some (.int .i64 ((rd_T122 y210 x5_1).f0)) := hcc6 0 _ rfl; have hx6_1 : w10.cell? ⟨go5, (x5_1 : Int).toNat * 3 + 1, none⟩ = some (.int .i64 ((rd_T122 y210 x5_1).f1)) := hcc6 1 _ rfl; have hx6_2 : w10.cell? ⟨go5, (x5_1 : Int).toNat * 3 + 2, none⟩ = some (.int .i64 ((rd_T122 y210 x5_1).f2)) := hcc6 2 _ rfl; have hf6_0 : w10.frozen? ⟨go5, (x5_1 : Int).toNat * 3, none⟩ = false := hfr6 0; have hf6_1 : w10.frozen? ⟨go5, (x5_1 : Int).toNat * 3 + 1, none⟩ = false := hfr6 1; have hf6_2 : w10.frozen? ⟨go5, (x5_1 : Int).toNat * 3 + 2, none⟩ = false := hfr6 2; clear hcl6 hcc6 hfr6 hM6; replace p6 := eq_true p6; replace q6 := eq_true q6; have HX11 := A_ (show Kd.R k122 122 w10 w0.heap.size (fun k_ => (P0_ k_ ∨ w.heap.size ≤ k_)) (.slice (some ⟨go5, 0, none⟩) x0_1.length co8) y210 from (rb_ HO_0.out)); obtain ⟨ce11, hcl11, hM11, hcc11, hfr11⟩ := Kd.R_elem HX11.out z122 (x5_1 : Int) (od_) (by have h_ : (x5_1 : Int) < ((x0_1.length : Int) : Int) := od_; first | exact h_ | (have e_ := (Kd.R_reads' HO_0.out).1; omega) | simpa using h_); obtain rfl := k122_openM hM11; have HP11 := Kd.R_seg HX11.out (x5_1 : Int) (od_) (by have h_ : (x5_1 : Int) < ((x0_1.length : Int) : Int) := od_; first | exact h_ | (have e_ := (Kd.R_reads' HO_0.out).1; omega) | simpa using h_) (seg := [.int .i64 (wrap64 (x1_1 + 1))]) (j := 1) hcl11 hcc11 (show 2 ≤ 3 from by decide) (x' := (⟨(rd_T122 y210 x5_1).f0, wrap64 (x1_1 + 1), (rd_T122 y210 x5_1).f2⟩ : S122)) (k122_mkM _ _ _ (⟨(rd_T122 y210 x5_1).f0, wrap64 (x1_1 + 1), (rd_T122 y210 x5_1).f2⟩ : S122) ) (fun _ hk => hk); have hx11_1 := hcc11 1 _ rfl; (try simp only [show (k122).sz = 3 from rfl, Nat.mul_one, Nat.add_zero] at hx11_1); have hf11_1 := hfr11 1; (try simp only [show (k122).sz = 3 from rfl, Nat.mul_one, Nat.add_zero] at hf11_1); clear hcl11 hcc11 hfr11 hM11) | ((with_reducible refine gate_store (t := 3) (p := 23) rfl ?_); refine store_event (t := 3) (p := 23) (v := ?vo_w12) (w1 := (w10.setCell ⟨go5, (x5_1 : Int).toNat * 3 + 1, none⟩ (.int .i64 (wrap64 (x1_1 + 1))))) ?hg ?ho ?hn ?hr ?_; (case ho => rfl); (case hg => rfl); (case hn => rfl); (case hr => first | (go_simp; done) | (go_simp; rfl)); intro w12 hw; have hg : w10.grownBy w12 (some go5) := (by rw [hw]; exact HP11.2); have hp_ : Kd.R k122 122 w12 w0.heap.size (fun k_ => (P0_ k_ ∨ w.heap.size ≤ k_)) (.slice (some ⟨go5, 0, none⟩) x0_1.length co8) y211 := (by rw [hw, Ny211.out]; exact HP11.1); clear HP11; have n0_ := A_ hp_; have n1_ := A_ ((by rw [hw]; exact below_set (HB.out) GB5.out : Below w0.heap.size w0 w12)); have n2_ := A_ (Kept.of_grown (S := (fun k_ => P0_ k_)) hg (by repeat (first | (with_reducible first | exact HK.out | apply Kept.alloc | apply Kept.drewN | apply Kept.drew) | exact HK.out)) (fun k_ e_ => (HO_0.out.1 k_ e_))); clear HO_0; clear HB; clear HK; have HO_0 := n0_; have HB := n1_; have HK := n2_; clear n0_ n1_ n2_; clear hg hw hp_; have p7 : 0 ≤ (x5_1 : Int) := od_; have q7 : (x5_1 : Int) < ((x0_1.length : Int) : Int) := od_; obtain ⟨ce7, hcl7, hM7, hcc7, hfr7⟩ := Kd.R_elem HO_0.out z122 (x5_1 : Int) p7 q7; obtain rfl := k122_openM hM7; have hx7_0 : w12.cell? ⟨go5, (x5_1 : Int).toNat * 3, none⟩ = some (.int .i64 ((rd_T122 y211 x5_1).f0)) := hcc7 0 _ rfl; have hx7_1 : w12.cell? ⟨go5, (x5_1 : Int).toNat * 3 + 1, none⟩ = some (.int .i64 ((rd_T122 y211 x5_1).f1)) := hcc7 1 _ rfl; have hx7_2 : w12.cell? ⟨go5, (x5_1 : Int).toNat * 3 + 2, none⟩ = some (.int .i64 ((rd_T122 y211 x5_1).f2)) := hcc7 2 _ rfl; have hf7_0 : w12.frozen? ⟨go5, (x5_1 : Int).toNat * 3, none⟩ = false := hfr7 0; have hf7_1 : w12.frozen? ⟨go5, (x5_1 : Int).toNat * 3 + 1, none⟩ = false := hfr7 1; have hf7_2 : w12.frozen? ⟨go5, (x5_1 : Int).toNat * 3 + 2, none⟩ = false := hfr7 2; clear hcl7 hcc7 hfr7 hM7; replace p7 := eq_true p7; replace q7 := eq_true q7; have HX13 := A_ (show Kd.R k122 122 w12 w0.heap.size (fun k_ => (P0_ k_ ∨ w.heap.size ≤ k_)) (.slice (some ⟨go5, 0, none⟩) x0_1.length co8) y211 from (rb_ HO_0.out)); obtain ⟨ce13, hcl13, hM13, hcc13, hfr13⟩ := Kd.R_elem HX13.out z122 (x5_1 : Int) (od_) (by have h_ : (x5_1 : Int) < ((x0_1.length : Int) : Int) := od_; first | exact h_ | (have e_ := (Kd.R_reads' HO_0.out).1; omega) | simpa using h_); obtain rfl := k122_openM hM13; have HP13 := Kd.R_seg HX13.out (x5_1 : Int) (od_) (by have h_ : (x5_1 : Int) < ((x0_1.length : Int) : Int) := od_; first | exact h_ | (have e_ := (Kd.R_reads' HO_0.out).1; omega) | simpa using h_) (seg := [.int .i64 (wrap64 ((wrap64 (x1_1 + 1)) + 1))]) (j := 2) hcl13 hcc13 (show 3 ≤ 3 from by decide) (x' := (⟨(rd_T122 y211 x5_1).f0, (rd_T122 y211 x5_1).f1, wrap64 ((wrap64 (x1_1 + 1)) + 1)⟩ : S122)) (k122_mkM _ _ _ (⟨(rd_T122 y211 x5_1).f0, (rd_T122 y211 x5_1).f1, wrap64 ((wrap64 (x1_1 + 1)) + 1)⟩ : S122) ) (fun _ hk => hk); have hx13_2 := hcc13 2 _ rfl; (try simp only [show (k122).sz = 3 from rfl, Nat.mul_one, Nat.add_zero] at hx13_2); have hf13_2 := hfr13 2; (try simp only [show (k122).sz = 3 from rfl, Nat.mul_one, Nat.add_zero] at hf13_2); clear hcl13 hcc13 hfr13 hM13) | ((with_reducible refine gate_store (t := 3) (p := 30) rfl ?_); refine store_event (t := 3) (p := 30) (v := ?vo_w14) (w1 := (w12.setCell ⟨go5, (x5_1 : Int).toNat * 3 + 2, none⟩ (.int .i64 (wrap64 ((wrap64 (x1_1 + 1)) + 1))))) ?hg ?ho ?hn ?hr ?_; (case ho => rfl); (case hg => rfl); (case hn => rfl); (case hr => first | (go_simp; done) | (go_simp; rfl)); intro w14 hw; have hg : w12.grownBy w14 (some go5) := (by rw [hw]; exact HP13.2); have hp_ : Kd.R k122 122 w14 w0.heap.size (fun k_ => (P0_ k_ ∨ w.heap.size ≤ k_)) (.slice (some ⟨go5, 0, none⟩) x0_1.length co8) y212 := (by rw [hw, Ny212.out]; exact HP13.1); clear HP13; have n0_ := A_ hp_; have n1_ := A_ ((by rw [hw]; exact below_set (HB.out) GB5.out : Below w0.heap.size w0 w14)); have n2_ := A_ (Kept.of_grown (S := (fun k_ => P0_ k_)) hg (by repeat (first | (with_reducible first | exact HK.out | apply Kept.alloc | apply Kept.drewN | apply Kept.drew) | exact HK.out)) (fun k_ e_ => (HO_0.out.1 k_ e_))); clear HO_0; clear HB; clear HK; have HO_0 := n0_; have HB := n1_; have HK := n2_; clear n0_ n1_ n2_; clear hg hw hp_))
    go_roundg k1
    case measure => have := HK1.out; omega
    case rel => exact ⟨(y212), (wrap64 ((wrap64 ((wrap64 (x1_1 + 1)) + 1)) + 1)), (wrap64 (x5_1 + 1)), rt_, rt_, H', ⟨by have := HK1.out; omega⟩, ⟨rb_ HO_0.out⟩, ⟨by repeat (first | (with_reducible first | exact HK.out | apply Kept.alloc | apply Kept.drewN | apply Kept.drew) | exact HK.out)⟩, ⟨hb_ HB⟩⟩
   simp only [Option.some.injEq, Prod.mk.injEq] at H
   obtain ⟨rfl, rfl⟩ := H
   obtain ⟨Ao15, co15, eo15⟩ := Kd.R_slice HO_0.out
   subst eo15
   go_wp2
   go_ret
   exact ⟨rs_, rb_ HO_0.out, hb_ HB, by repeat (first | (with_reducible first | exact HK.out | apply Kept.alloc | apply Kept.drewN | apply Kept.drew) | exact HK.out)⟩

/-! ### laws_markDescS: function 97 (by hand: a row of structs with rows is marked, and their rows) -/
theorem md_at {W : World} {base g n cap : Nat} {ok : Nat → Prop} {xs : List S119} (h : Kd.S k119 119 W base ok (.slice (some ⟨g, 0, none⟩) n cap) xs) (i : Int) (h0 : 0 ≤ i) (h1 : i < (xs.length : Int)) :
  ∃ A2 c2 A4 c4, W.cell? ⟨g, i.toNat * 5, none⟩ = some (.int .i64 (rd_T119 xs i).f0) ∧ W.cell? ⟨g, i.toNat * 5 + 1, none⟩ = some (.int .i64 (rd_T119 xs i).f1) ∧ W.cell? ⟨g, i.toNat * 5 + 2, none⟩ = some (.slice A2 (rd_T119 xs i).f2.length c2) ∧ W.cell? ⟨g, i.toNat * 5 + 3, none⟩ = some (.int .i64 (rd_T119 xs i).f3.f0) ∧ W.cell? ⟨g, i.toNat * 5 + 4, none⟩ = some (.slice A4 (rd_T119 xs i).f3.f1.length c4) ∧
   (W.frozen? ⟨g, i.toNat * 5, none⟩ = false ∧ W.frozen? ⟨g, i.toNat * 5 + 1, none⟩ = false ∧ W.frozen? ⟨g, i.toNat * 5 + 3, none⟩ = false) ∧
   k122.R 122 W base (fun k => some k = (Value.slice A2 (rd_T119 xs i).f2.length c2).ownBlock) (.slice A2 (rd_T119 xs i).f2.length c2) (rd_T119 xs i).f2 ∧ (∀ k, some k = (Value.slice A2 (rd_T119 xs i).f2.length c2).ownBlock → ok k) ∧
   (Kd.int .i64).R 3 W base (fun k => some k = (Value.slice A4 (rd_T119 xs i).f3.f1.length c4).ownBlock) (.slice A4 (rd_T119 xs i).f3.f1.length c4) (rd_T119 xs i).f3.f1 ∧ (∀ k, some k = (Value.slice A4 (rd_T119 xs i).f3.f1.length c4).ownBlock → ok k) ∧
   (∀ W1 y, Kept W W1 (fun k => some k = (Value.slice A2 (rd_T119 xs i).f2.length c2).ownBlock) → k122.R 122 W1 base (fun k => some k = (Value.slice A2 (rd_T119 xs i).f2.length c2).ownBlock) (.slice A2 (rd_T119 xs i).f2.length c2) y →
    Kd.S k119 119 W1 base ok (.slice (some ⟨g, 0, none⟩) n cap) (xs.set i.toNat ⟨(rd_T119 xs i).f0, (rd_T119 xs i).f1, y, (rd_T119 xs i).f3⟩)) ∧
   (∀ W1 y, Kept W W1 (fun k => some k = (Value.slice A4 (rd_T119 xs i).f3.f1.length c4).ownBlock) → (Kd.int .i64).R 3 W1 base (fun k => some k = (Value.slice A4 (rd_T119 xs i).f3.f1.length c4).ownBlock) (.slice A4 (rd_T119 xs i).f3.f1.length c4) y →
    Kd.S k119 119 W1 base ok (.slice (some ⟨g, 0, none⟩) n cap) (xs.set i.toNat ⟨(rd_T119 xs i).f0, (rd_T119 xs i).f1, (rd_T119 xs i).f2, ⟨(rd_T119 xs i).f3.f0, y⟩⟩)) ∧
   (∀ v, Kd.S k119 119 (W.setCell ⟨g, i.toNat * 5, none⟩ (.int .i64 v)) base ok (.slice (some ⟨g, 0, none⟩) n cap) (xs.set i.toNat ⟨v, (rd_T119 xs i).f1, (rd_T119 xs i).f2, (rd_T119 xs i).f3⟩) ∧ W.grownBy (W.setCell ⟨g, i.toNat * 5, none⟩ (.int .i64 v)) (some g)) ∧
   (∀ v, Kd.S k119 119 (W.setCell ⟨g, i.toNat * 5 + 1, none⟩ (.int .i64 v)) base ok (.slice (some ⟨g, 0, none⟩) n cap) (xs.set i.toNat ⟨(rd_T119 xs i).f0, v, (rd_T119 xs i).f2, (rd_T119 xs i).f3⟩) ∧ W.grownBy (W.setCell ⟨g, i.toNat * 5 + 1, none⟩ (.int .i64 v)) (some g)) ∧
   (∀ v, Kd.S k119 119 (W.setCell ⟨g, i.toNat * 5 + 3, none⟩ (.int .i64 v)) base ok (.slice (some ⟨g, 0, none⟩) n cap) (xs.set i.toNat ⟨(rd_T119 xs i).f0, (rd_T119 xs i).f1, (rd_T119 xs i).f2, ⟨v, (rd_T119 xs i).f3.f1⟩⟩) ∧ W.grownBy (W.setCell ⟨g, i.toNat * 5 + 3, none⟩ (.int .i64 v)) (some g)) := by
 have hn := (Kd.S_reads' h).1
 obtain ⟨oki, c, hcl, hM, hcc, hfr, hok, hH⟩ := Kd.S_elem h z119 i h0 (by omega)
 obtain ⟨v2, v4, rfl, g2, g4⟩ := k119_openM (x := rd_T119 xs i) hM
 obtain ⟨A2, c2, rfl⟩ := Kd.R_slice g2
 obtain ⟨A4, c4, rfl⟩ := Kd.R_slice g4
 have t2 := Kd.R_tight rfl g2
 have t4 := Kd.R_tight rfl g4
 have ne24 : ∀ k, some k = (Value.slice A2 (rd_T119 xs i).f2.length c2).ownBlock → ¬ some k = (Value.slice A4 (rd_T119 xs i).f3.f1.length c4).ownBlock := by
  intro k h2 h4
  obtain ⟨x2, e2⟩ := Kd.R_typed g2 k h2.symm
  obtain ⟨x4, e4⟩ := Kd.R_typed g4 k h4.symm
  rw [e2] at e4
  injection e4 with e4
  injection e4 with _ e4
  exact absurd e4 (by decide)
 refine ⟨A2, c2, A4, c4, hcc 0 _ rfl, hcc 1 _ rfl, hcc 2 _ rfl, hcc 3 _ rfl, hcc 4 _ rfl, ⟨hfr 0, hfr 1, hfr 3⟩, t2, fun k hk => (hok k (g2.1 k hk.symm)).1, t4, fun k hk => (hok k (g4.1 k hk.symm)).1, fun W1 y hk hy => ?_, fun W1 y hk hy => ?_, fun v => ?_, fun v => ?_, fun v => ?_⟩
 ·
  have hH1 := Kd.H_kept hH hk (fun k _ hn h2 => hn (g2.1 k h2.symm))
  have g4' := Kd.R_kept t4 hk (fun k h4 h2 => ne24 k h2 h4)
  obtain ⟨A', c', e'⟩ := Kd.R_slice hy
  exact Kd.H_back hH1 (k119_mkM W1 base oki ⟨(rd_T119 xs i).f0, (rd_T119 xs i).f1, y, (rd_T119 xs i).f3⟩ (Kd.R_mono hy (fun k hk => g2.1 k hk.symm)) (Kd.R_mono g4' (fun k hk => g4.1 k hk.symm))) (fun _ hk => hk)
 ·
  have hH1 := Kd.H_kept hH hk (fun k _ hn h2 => hn (g4.1 k h2.symm))
  have g2' := Kd.R_kept t2 hk (fun k h2 h4 => ne24 k h2 h4)
  exact Kd.H_back hH1 (k119_mkM W1 base oki ⟨(rd_T119 xs i).f0, (rd_T119 xs i).f1, (rd_T119 xs i).f2, ⟨(rd_T119 xs i).f3.f0, y⟩⟩ (Kd.R_mono g2' (fun k hk => g2.1 k hk.symm)) (Kd.R_mono hy (fun k hk => g4.1 k hk.symm))) (fun _ hk => hk)
 ·
  exact Kd.S_seg0 (seg := [.int .i64 v]) (j := 0) (okp := oki) hH h0 (by omega) (Nat.le_of_ble_eq_true rfl) (k119_mkM W base oki ⟨v, (rd_T119 xs i).f1, (rd_T119 xs i).f2, (rd_T119 xs i).f3⟩ g2 g4) (fun _ hk => hk)
 ·
  exact Kd.S_seg0 (seg := [.int .i64 v]) (j := 1) (okp := oki) hH h0 (by omega) (Nat.le_of_ble_eq_true rfl) (k119_mkM W base oki ⟨(rd_T119 xs i).f0, v, (rd_T119 xs i).f2, (rd_T119 xs i).f3⟩ g2 g4) (fun _ hk => hk)
 exact Kd.S_seg0 (seg := [.int .i64 v]) (j := 3) (okp := oki) hH h0 (by omega) (Nat.le_of_ble_eq_true rfl) (k119_mkM W base oki ⟨(rd_T119 xs i).f0, (rd_T119 xs i).f1, (rd_T119 xs i).f2, ⟨v, (rd_T119 xs i).f3.f1⟩⟩ g2 g4) (fun _ hk => hk)
def laws_markDescS.l0 : Nat → List S119 → Int → Int → Option (Int × List S119)
 | 0, _, _, _ => none
 | k + 1, x0, x1, x5 => if x5 < (x0.length : Int) then (if 0 ≤ x5 then ((laws_markEntryS.f k (rd_T119 x0 x5).f2 (wrap64 ((wrap64 (x1 + 1)) + 1))).bind fun p => ((laws_markIntS.f k (rd_T119 x0 x5).f3.f1 (wrap64 (p.1 + 1))).bind fun q => (laws_markDescS.l0 k (x0.set (x5 : Int).toNat ⟨x1, wrap64 (x1 + 1), p.2, ⟨p.1, q.2⟩⟩) q.1 (wrap64 (x5 + 1))))) else none) else (some (x1, x0))
def laws_markDescS.g (k : Nat) (l0 : List S119) (a1 : Int) : Option (Int × List S119) := laws_markDescS.l0 k l0 a1 0
theorem rd_set_T119 (xs : List S119) (i : Int) (h0 : 0 ≤ i) (h1 : i < (xs.length : Int)) (x : S119) : rd_T119 (xs.set i.toNat x) i = x := by
 have : i.toNat < xs.length := by omega
 simp [rd_T119, List.getD_eq_getElem?_getD, this]
set_option maxHeartbeats 8000000 in
set_option maxRecDepth 100000 in
theorem laws_markDescS.own (k : Nat) (P0_ : Nat → Prop) (u9000_ : Value) (l0 : List S119) (a1 : Int) (r1 : Int) (r2 : List S119) (w0 w : World) (hB : Below w0.heap.size w0 w) (ho0 : Kd.S k119 119 w w0.heap.size P0_ u9000_ l0) (h : laws_markDescS.g k l0 a1 = some (r1, r2)) :
    Calls Try.prog 97 #[u9000_, .int .i64 a1] w fun e w' => e = .returned (.int .i64 r1) ∧ Kd.S k119 119 w' w0.heap.size P0_ u9000_ r2 ∧ Below w0.heap.size w0 w' ∧ Kept w w' P0_ := by
 obtain ⟨Au, cu, rfl⟩ := Kd.S_slice ho0
 have HO_0 := A_ ho0
 have HK := A_ (Kept.refl w P0_)
 have HB := A_ hB
 clear hB ho0
 have H' := A_ (show laws_markDescS.l0 k l0 a1 0 = some (r1, r2) from h)
 clear h
 go_enter Try.func97, Try.ntmps97
 go_wp2
 go_loopg [1, 5] k (fun kq v1 v5 w' => ∃ (x0_1 : List S119) (x1_1 : Int) (x5_1 : Int), v1 = .int .i64 x1_1 ∧ v5 = .int .i64 x5_1 ∧ Aside0 (laws_markDescS.l0 kq x0_1 x1_1 x5_1 = some (r1, r2)) ∧ Aside0 (kq ≤ k) ∧ Aside0 (x0_1.length = l0.length) ∧ Aside0 (Kd.S k119 119 w' w0.heap.size P0_ (.slice Au l0.length cu) x0_1) ∧ Aside0 (Kept w w' P0_) ∧ Aside0 (Below w0.heap.size w0 w'))
 case atStart => exact ⟨l0, a1, 0, rt_, rt_, H', ⟨Nat.le_refl _⟩, ⟨rfl⟩, ⟨sb_ HO_0.out⟩, ⟨by repeat (first | (with_reducible first | exact HK.out | apply Kept.alloc | apply Kept.drewN | apply Kept.drew) | exact HK.out)⟩, ⟨hb_ HB⟩⟩
 case round =>
  clear H'
  obtain ⟨x0_1, x1_1, x5_1, rfl, rfl, HA, HK1, HLn, HO_0, HK, HB⟩ := hrel
  cases gk with
  | zero => exact absurd HA.out (by simp [laws_markDescS.l0])
  | succ k1 =>
   have H := HA.out
   clear HA
   simp only [laws_markDescS.l0] at H
   by_cases c3 : x5_1 < (x0_1.length : Int)
   ·
    rw [if_pos c3] at H
    by_cases c4 : 0 ≤ x5_1
    ·
     rw [if_pos c4] at H
     have c3' : x5_1 < (l0.length : Int) := by rw [← HLn.out]; exact c3
     have c3b0 : decide (x5_1 < (l0.length : Int)) = true := decide_eq_true c3'
     have c4b0 : decide (0 ≤ x5_1) = true := decide_eq_true c4
     obtain ⟨go, cap_, eo, gb, gl, cl, HG⟩ := Kd.S_form HO_0.out (by omega)
     obtain ⟨ea, -, -⟩ := Value.slice.inj eo
     subst ea
     clear eo cl HG gl
     have GB := A_ gb
     have HPg := A_ ((Kd.S_R HO_0.out).1 go rfl)
     clear gb
     have p5 := eq_true c4
     have q5 := eq_true c3'
     generalize he : rd_T119 x0_1 x5_1 = e at H
     obtain ⟨⟨pa, pb⟩, A1, H⟩ := Option.bind_eq_some_iff.1 H
     obtain ⟨⟨qa, qb⟩, A2, H⟩ := Option.bind_eq_some_iff.1 H
     have HE := A_ A1
     have HI := A_ A2
     have H' := A_ H
     have C3 := A_ c3
     have C4 := A_ c4
     clear A1 A2 H c3 c4 c3'
     have D := md_at HO_0.out x5_1 C4.out C3.out
     rw [he] at D
     obtain ⟨A2, c2, A4, c4, hx0, -, -, -, -, ⟨hf0, -, -⟩, -, -, -, -, -, -, hs, -, -⟩ := D
     have HP := hs x1_1
     clear hs
     go_wp2_with (first
      | ((with_reducible refine gate_store (t := 3) (p := 16) rfl ?_); refine store_event (t := 3) (p := 16) (v := ?vo_w10) (w1 := (wr.setCell ⟨go, (x5_1 : Int).toNat * 5, none⟩ (.int .i64 x1_1))) ?hg ?ho ?hn ?hr ?_; (case ho => rfl); (case hg => rfl); (case hn => rfl); (case hr => first | (go_simp; done) | (go_simp; rfl)); intro w10 hw; have hg := HP.2; have hp := HP.1; rw [← hw] at hg hp; clear HO_0 HP hx0 hf0; replace HK := A_ (Kept.of_grown hg HK.out (fun k_ e_ => .inl (by injection e_ with e_; exact e_ ▸ HPg.out))); replace HB := A_ (show Below w0.heap.size w0 w10 from (by rw [hw]; exact below_set HB.out GB.out)); have HO_1 := A_ hp; clear hg hp hw; have D := md_at HO_1.out x5_1 C4.out (by rw [List.length_set]; exact C3.out); simp only [rd_set_T119 x0_1 x5_1 C4.out C3.out, List.set_set] at D; obtain ⟨A2, c2, A4, c4, -, hx1, -, -, -, ⟨-, hf1, -⟩, -, -, -, -, -, -, -, hs, -⟩ := D; have HP := hs (wrap64 (x1_1 + 1)); clear hs)
      | ((with_reducible refine gate_store (t := 3) (p := 23) rfl ?_); refine store_event (t := 3) (p := 23) (v := ?vo_w11) (w1 := (w10.setCell ⟨go, (x5_1 : Int).toNat * 5 + 1, none⟩ (.int .i64 (wrap64 (x1_1 + 1))))) ?hg ?ho ?hn ?hr ?_; (case ho => rfl); (case hg => rfl); (case hn => rfl); (case hr => first | (go_simp; done) | (go_simp; rfl)); intro w11 hw; have hg := HP.2; have hp := HP.1; rw [← hw] at hg hp; clear HO_1 HP hx1 hf1; replace HK := A_ (Kept.of_grown hg HK.out (fun k_ e_ => .inl (by injection e_ with e_; exact e_ ▸ HPg.out))); replace HB := A_ (show Below w0.heap.size w0 w11 from (by rw [hw]; exact below_set HB.out GB.out)); have HO_2 := A_ hp; clear hg hp hw; have D := md_at HO_2.out x5_1 C4.out (by rw [List.length_set]; exact C3.out); simp only [rd_set_T119 x0_1 x5_1 C4.out C3.out, List.set_set] at D; obtain ⟨B2, d2, B4, d4, -, -, hx2, -, -, -, ht2, hok2, -, -, hb2, -, -, -, -⟩ := D; have HT2 := A_ ht2; have HB2 := A_ hb2; have HO2 := A_ hok2; clear ht2 hb2 hok2)
      | ((with_reducible refine gate_callee (f := 48) rfl ?_); refine goesL_ (some 32) rfl rfl Try.func48 (by kernel_rfl) rfl #[.slice B2 e.f2.length d2, .int .i64 (wrap64 ((wrap64 (x1_1 + 1)) + 1))] rfl (by (try simp only [List.map_toArray, List.map_cons, List.map_nil]); first | done | rfl) ?_; (with_reducible refine (laws_markEntryS.calls k1 (fun k_ => some k_ = (.slice B2 e.f2.length d2 : Value).ownBlock) (.slice B2 e.f2.length d2) e.f2 (wrap64 ((wrap64 (x1_1 + 1)) + 1)) pa pb w0 _ ?side1 ?side2 HE.out).mono ?_); (case side1 => exact HB.out); (case side2 => exact HT2.out); rintro e_ w12 ⟨rfl, hy, hb, hk⟩; refine ⟨_, rfl, ?_⟩; have hp := HB2.out w12 pb hk (Kd.R_tight rfl hy); clear HO_2 hx2 HB2 HT2; replace HK := A_ (HK.out.then_ hk (fun k_ e_ => .inl (HO2.out k_ e_))); replace HB := A_ hb; have HO_3 := A_ hp; clear hb hk hp hy HO2; have D := md_at HO_3.out x5_1 C4.out (by rw [List.length_set]; exact C3.out); simp only [rd_set_T119 x0_1 x5_1 C4.out C3.out, List.set_set] at D; obtain ⟨A2, c2, A4, c4, -, -, -, hx3, -, ⟨-, -, hf3⟩, -, -, -, -, -, -, -, -, hs⟩ := D; have HP := hs pa; clear hs)
      | ((with_reducible refine gate_store (t := 3) (p := 38) rfl ?_); refine store_event (t := 3) (p := 38) (v := ?vo_w13) (w1 := (w12.setCell ⟨go, (x5_1 : Int).toNat * 5 + 3, none⟩ (.int .i64 pa))) ?hg ?ho ?hn ?hr ?_; (case ho => rfl); (case hg => rfl); (case hn => rfl); (case hr => first | (go_simp; done) | (go_simp; rfl)); intro w13 hw; have hg := HP.2; have hp := HP.1; rw [← hw] at hg hp; clear HO_3 HP hx3 hf3; replace HK := A_ (Kept.of_grown hg HK.out (fun k_ e_ => .inl (by injection e_ with e_; exact e_ ▸ HPg.out))); replace HB := A_ (show Below w0.heap.size w0 w13 from (by rw [hw]; exact below_set HB.out GB.out)); have HO_4 := A_ hp; clear hg hp hw; have D := md_at HO_4.out x5_1 C4.out (by rw [List.length_set]; exact C3.out); simp only [rd_set_T119 x0_1 x5_1 C4.out C3.out, List.set_set] at D; obtain ⟨B2, d2, B4, d4, -, -, -, -, hx4, -, -, -, ht4, hok4, -, hb4, -, -, -⟩ := D; have HT4 := A_ ht4; have HB4 := A_ hb4; have HO4 := A_ hok4; clear ht4 hb4 hok4)
      | ((with_reducible refine gate_callee (f := 68) rfl ?_); refine goesL_ (some 48) rfl rfl Try.func68 (by kernel_rfl) rfl #[.slice B4 e.f3.f1.length d4, .int .i64 (wrap64 (pa + 1))] rfl (by (try simp only [List.map_toArray, List.map_cons, List.map_nil]); first | done | rfl) ?_; (with_reducible refine (laws_markIntS.calls k1 (fun k_ => some k_ = (.slice B4 e.f3.f1.length d4 : Value).ownBlock) (.slice B4 e.f3.f1.length d4) e.f3.f1 (wrap64 (pa + 1)) qa qb w0 _ ?side1 ?side2 HI.out).mono ?_); (case side1 => exact HB.out); (case side2 => exact HT4.out); rintro e_ w14 ⟨rfl, hy, hb, hk⟩; refine ⟨_, rfl, ?_⟩; have hp := HB4.out w14 qb hk (Kd.R_tight rfl hy); clear HO_4 hx4 HB4 HT4; replace HK := A_ (HK.out.then_ hk (fun k_ e_ => .inl (HO4.out k_ e_))); replace HB := A_ hb; have HO_5 := A_ hp; clear hb hk hp hy HO4))
     go_roundg k1
     case measure => have := HK1.out; omega
     case rel => exact ⟨_, qa, (wrap64 (x5_1 + 1)), rt_, rt_, H', ⟨by have := HK1.out; omega⟩, ⟨by rw [List.length_set]; exact HLn.out⟩, ⟨sb_ HO_5.out⟩, ⟨by repeat (first | (with_reducible first | exact HK.out | apply Kept.alloc | apply Kept.drewN | apply Kept.drew) | exact HK.out)⟩, ⟨hb_ HB⟩⟩
    rw [if_neg c4] at H
    exact absurd H (by simp)
   rw [if_neg c3] at H
   have c3b0 : decide (x5_1 < (l0.length : Int)) = false := decide_eq_false (by rw [← HLn.out]; exact c3)
   clear c3
   simp only [Option.some.injEq, Prod.mk.injEq] at H
   obtain ⟨rfl, rfl⟩ := H
   go_wp2
   go_ret
   exact ⟨rs_, sb_ HO_0.out, hb_ HB, by repeat (first | (with_reducible first | exact HK.out | apply Kept.alloc | apply Kept.drewN | apply Kept.drew) | exact HK.out)⟩
def laws_markDescS.f (k : Nat) (l0 : List S119) (a1 : Int) : Option Int := (laws_markDescS.g k l0 a1).map (·.1)
/-! ### laws_markMem: function 40 (by hand: both of the memory's rows are marked, and what lies in the tries) -/
def laws_markMem.f (k : Nat) (l0_0 : List S95) (l0_1 : List S119) (a1 : Int) : Option (Int × List S95 × List S119) := (laws_markWordS.f k l0_0 a1).bind fun p => (laws_markDescS.g k l0_1 p.1).bind fun q => some (q.1, p.2, q.2)
/-- What is marked of the tries lies apart from a row of another type. -/
theorem mm_typed {W : World} {base : Nat} {ok : Nat → Prop} {v : Value} {xs : List S119} (h : Kd.S k119 119 W base ok v xs) : Kd.S k119 119 W base (fun k => ok k ∧ ∃ q, q ∈ 119 :: k119.E ∧ ∃ cells, W.heap[k]? = some (.cells cells q (0, 0))) v xs := Kd.S_mono (Kd.S_bound h) (fun _ hk => ⟨hk.1, hk.2.2.2⟩)
theorem mm_R {α : Type} {d : Kd α} {e base : Nat} {W W2 : World} {ok P0 P1 : Nat → Prop} {v : Value} {xs : List α} (h : d.R e W base ok v xs) (hk : Kept W W2 (fun k => P0 k ∨ P1 k)) (h0 : ∀ k, ok k → ¬ P0 k) (h1 : ∀ k, P1 k → ∃ q, q ∈ 119 :: k119.E ∧ ∃ cells, W.heap[k]? = some (.cells cells q (0, 0))) (hq : ∀ q, q ∈ e :: d.E → ∀ q2, q2 ∈ 119 :: k119.E → q ≠ q2) : d.R e W2 base ok v xs := by
 refine Kd.R_mono (ok := fun k => ok k ∧ ∃ q, q ∈ e :: d.E ∧ ∃ cells, W.heap[k]? = some (.cells cells q (0, 0))) (Kd.R_kept (Kd.R_mono (Kd.R_bound h) (fun _ hk => ⟨hk.1, hk.2.2.2⟩)) hk ?_) (fun _ hk => hk.1)
 rintro k ⟨ho, q, hq1, c1, hc1⟩ (hs | hs)
 ·
  exact h0 k ho hs
 obtain ⟨q2, hq2, c2, hc2⟩ := h1 k hs
 rw [hc1] at hc2
 injection hc2 with hc2
 injection hc2 with _ hc2
 exact hq q hq1 q2 hq2 hc2
theorem mm_blk {W W2 : World} {g t : Nat} {cs : Array Value} {P0 P1 : Nat → Prop} (h : W.heap[g]? = some (.cells cs t (0, 0))) (hk : Kept W W2 (fun k => P0 k ∨ P1 k)) (h0 : ¬ P0 g) (h1 : ∀ k, P1 k → ∃ q, q ∈ 119 :: k119.E ∧ ∃ cells, W.heap[k]? = some (.cells cells q (0, 0))) (hq : ∀ q2, q2 ∈ 119 :: k119.E → t ≠ q2) : W2.heap[g]? = some (.cells cs t (0, 0)) := by
 refine blk_kept h hk ?_
 rintro (hs | hs)
 ·
  exact h0 hs
 obtain ⟨q2, hq2, c2, hc2⟩ := h1 g hs
 rw [h] at hc2
 injection hc2 with hc2
 injection hc2 with _ hc2
 exact hq q2 hq2 hc2
set_option maxHeartbeats 8000000 in
set_option maxRecDepth 100000 in
theorem laws_markMem.own (k : Nat) (P0_ P1_ : Nat → Prop) (u9000_ u9001_ : Value) (l0_0 : List S95) (l0_1 : List S119) (a1 r1 : Int) (r2 : List S95) (r3 : List S119) (w0 w : World) (hB : Below w0.heap.size w0 w) (ho0_0 : Kd.R k95 95 w w0.heap.size P0_ u9000_ l0_0) (ho0_1 : Kd.S k119 119 w w0.heap.size P1_ u9001_ l0_1) (hap : ∀ k_, P1_ k_ → ¬ P0_ k_) (h : laws_markMem.f k l0_0 l0_1 a1 = some (r1, r2, r3)) :
    Calls Try.prog 40 #[.agg #[u9000_, u9001_], .int .i64 a1] w fun e w' => e = .returned (.int .i64 r1) ∧ Kd.R k95 95 w' w0.heap.size P0_ u9000_ r2 ∧ Kd.S k119 119 w' w0.heap.size P1_ u9001_ r3 ∧ Below w0.heap.size w0 w' ∧ Kept w w' (fun k_ => P0_ k_ ∨ P1_ k_) := by
 have hu31 := Try.underlying31
 have HA := A_ (show ∀ k_, P1_ k_ → ¬ some k_ = u9000_.ownBlock from fun k_ hk_ e_ => hap k_ hk_ (ho0_0.1 k_ e_.symm))
 have HO0_0 := A_ ho0_0
 have HO0_1 := A_ ho0_1
 clear ho0_0 ho0_1 hap
 have HK := A_ (Kept.refl w (fun k_ => P0_ k_ ∨ P1_ k_))
 have HB := A_ hB
 clear hB
 have H : ((laws_markWordS.f k l0_0 a1).bind fun p => (laws_markDescS.g k l0_1 p.1).bind fun q => some (q.1, p.2, q.2)) = some (r1, r2, r3) := h
 clear h
 obtain ⟨⟨t334, t335⟩, A30, H⟩ := Option.bind_eq_some_iff.mp H
 have A3 := A_ A30
 clear A30
 obtain ⟨⟨t336, t337⟩, A40, H⟩ := Option.bind_eq_some_iff.mp H
 have A4 := A_ (show laws_markDescS.g k l0_1 t334 = some (t336, t337) from A40)
 clear A40
 simp only [Option.some.injEq, Prod.mk.injEq] at H
 obtain ⟨rfl, rfl, rfl⟩ := H
 obtain ⟨Ao5, co5, eo5⟩ := Kd.R_slice HO0_0.out
 subst eo5
 obtain ⟨Ao6, co6, eo6⟩ := Kd.S_slice HO0_1.out
 subst eo6
 go_enter Try.func40, Try.ntmps40
 go_wp2_with (first
  | ((with_reducible refine gate_dst (N := 2) rfl ?_); refine box_event rfl (N := 2) rfl (cs := #[.slice Ao5 l0_0.length co5, .slice Ao6 l0_1.length co6]) (t := 31) hr_ ?_; intro gb333 hg w6 hbox hb; have BK333 := A_ hbox; have GW333 := A_ ((by rw [hg]; exact (by first | exact HK.out.1 | exact (show Kept w _ (fun k_ => P0_ k_ ∨ P1_ k_) from by repeat (first | (with_reducible first | exact HK.out | apply Kept.alloc | apply Kept.drewN | apply Kept.drew) | exact HK.out)).1) : w.heap.size ≤ gb333)); have GE333 := A_ ((by rw [hg]; exact (below_size (hb_ HB)) : w0.heap.size ≤ gb333)); replace HO0_0 := A_ (Kd.R_below (rb_ HO0_0.out) hb); replace HO0_1 := A_ (Kd.S_below (sb_ HO0_1.out) hb); replace HK := A_ (Kept.below (S := (fun k_ => P0_ k_ ∨ P1_ k_)) (by repeat (first | (with_reducible first | exact HK.out | apply Kept.alloc | apply Kept.drewN | apply Kept.drew) | exact HK.out)) hb); replace HB := hs_ HB hb; clear hb hbox hg; obtain ⟨hcz7_0, hcz7_1, hfz7_0, hfz7_1⟩ := cz2_ BK333)
  | ((with_reducible refine gate_callee (f := 96) rfl ?_); refine goesL_ (some 8) rfl rfl Try.func96 (by kernel_rfl) rfl #[.slice Ao5 l0_0.length co5, .int .i64 a1] rfl al_ ?_; (with_reducible refine (laws_markWordS.calls k (fun k_ => some k_ = (.slice Ao5 l0_0.length co5 : Value).ownBlock) (.slice Ao5 l0_0.length co5) l0_0 a1 t334 t335 w0 _ ?side1 ?side2 A3.out).mono ?_); (case side1 => repeat (first | (with_reducible first | exact HB.out | apply below_alloc | apply pw_below_drewN | apply below_drew1 | refine below_set ?_ GE333.out) | exact HB.out)); (case side2 => exact Kd.R_tight rfl HO0_0.out); rintro e w8 ⟨rfl, hy0, hb, hkp⟩; refine ⟨_, rfl, ?_⟩; have n0_ := A_ (Kd.R_reok rfl hy0 (fun k_ e_ => HO0_0.out.1 k_ e_)); have n4_ := A_ (Kd.S_kept (sb_ HO0_1.out) hkp (fun k_ hk_ hs_ => HA.out k_ hk_ hs_)); have n1_ := A_ (blk_kept (bk_ BK333) hkp (fun hs_ => (fun e_ => (Kd.R_ne HO0_0.out BK333.out (by decide)) e_) hs_)); have n2_ := A_ (Kept.then_ (S := (fun k_ => P0_ k_ ∨ P1_ k_)) (by repeat (first | (with_reducible first | exact HK.out | apply Kept.alloc | apply Kept.drewN | apply Kept.drew | refine Kept.setCell ?_ (.inr GW333.out) _) | exact HK.out)) hkp (fun k_ hs_ => (fun e_ => .inl (.inl (HO0_0.out.1 k_ e_.symm))) hs_)); have n3_ := A_ hb; clear HO0_0; clear HO0_1; clear BK333; clear HK; clear HB; have HO0_0 := n0_; have HO0_1 := n4_; have BK333 := n1_; have HK := n2_; have HB := n3_; clear n0_ n1_ n2_ n3_ n4_; (try clear hb); (try clear hkp); (try clear hy0); obtain ⟨hcz9_0, hcz9_1, hfz9_0, hfz9_1⟩ := cz2_ BK333)
  | ((with_reducible refine gate_callee (f := 97) rfl ?_); refine goesL_ (some 12) rfl rfl Try.func97 (by kernel_rfl) rfl #[.slice Ao6 l0_1.length co6, .int .i64 t334] rfl al_ ?_; (with_reducible refine (laws_markDescS.own k P1_ (.slice Ao6 l0_1.length co6) l0_1 t334 t336 t337 w0 _ ?side1 ?side2 A4.out).mono ?_); (case side1 => repeat (first | (with_reducible first | exact HB.out | apply below_alloc | apply pw_below_drewN | apply below_drew1 | refine below_set ?_ GE333.out) | exact HB.out)); (case side2 => (with_reducible repeat (first | apply Kd.S_alloc | apply Kd.S_drewN | apply Kd.S_drew)); exact HO0_1.out); rintro e w10 ⟨rfl, hy0, hb, hkp⟩; refine ⟨_, rfl, ?_⟩; replace HO0_0 := A_ (Kd.R_mono (ok' := P0_) (Kd.R_kept (Kd.R_tight2 rfl (rb_ HO0_0.out)) hkp (fun k_ hk_ hs_ => HA.out k_ hs_ (by first | exact hk_.1 | (simpa [Value.ownBlock] using hk_.1)))) (fun k_ hk_ => hk_.2)); replace HO0_1 := A_ hy0; replace HK := A_ (Kept.then_ (S := (fun k_ => P0_ k_ ∨ P1_ k_)) (by repeat (first | (with_reducible first | exact HK.out | apply Kept.alloc | apply Kept.drewN | apply Kept.drew | refine Kept.setCell ?_ (.inr GW333.out) _) | exact HK.out)) hkp (fun k_ hs_ => .inl (.inr hs_))); replace HB := A_ hb; (try clear hb); (try clear hkp); (try clear hy0)))
 go_ret
 exact ⟨rs_, rb_ HO0_0.out, sb_ HO0_1.out, hb_ HB, by repeat (first | (with_reducible first | exact HK.out | apply Kept.alloc | apply Kept.drewN | apply Kept.drew | refine Kept.setCell ?_ (.inr GW333.out) _) | exact HK.out)⟩

/-! ### laws_heldWordS: function 98 -/
def laws_heldWordS.l0 : Nat → List (S95) → Int → Int → Option (Int)
 | 0, _, _, _ => none
 | k + 1, x0, x1, x5 => if x5 < (x0.length : Int) then (if 0 ≤ x5 then (if ((rd_T95 x0 x5).f0) = x1 then (if ((rd_T95 x0 x5).f1) = (wrap64 (x1 + 1)) then (if ((rd_T95 x0 x5).f2) = (wrap64 ((wrap64 (x1 + 1)) + 1)) then (laws_heldWordS.l0 k x0 (wrap64 ((wrap64 ((wrap64 (x1 + 1)) + 1)) + 1)) (wrap64 (x5 + 1))) else (some (-1))) else (some (-1))) else (some (-1))) else (none)) else (some x1)
def laws_heldWordS.f (k : Nat) (l0 : List (S95)) (a1 : Int) : Option (Int) := laws_heldWordS.l0 k l0 a1 0
set_option maxHeartbeats 8000000 in
set_option maxRecDepth 100000 in
theorem laws_heldWordS.calls (k : Nat) (A0 : Option Addr) (c0 : Nat) (l0 : List (S95)) (a1 : Int) (r : Int) (w : World) (hr0 : Kd.C k95 w A0 l0.length l0) (hc0 : l0.length ≤ c0) (h : laws_heldWordS.f k l0 a1 = some r) :
    Calls Try.prog 98 #[.slice A0 l0.length c0, .int .i64 a1] w fun e w' => e = .returned (.int .i64 r) ∧ Drawn0 w w' := by
 have HR0 := A_ hr0
 have HC0 := A_ hc0
 clear hr0 hc0
 have H : (laws_heldWordS.l0 k l0 a1 0) = some r := h
 clear h
 replace H' := A_ H; clear H
 go_enter Try.func98, Try.ntmps98
 go_wp2
 go_loopg [1, 5] k (fun kq v1 v5 w' => ∃ (x1_1 : Int) (x5_1 : Int), v1 = .int .i64 x1_1 ∧ v5 = .int .i64 x5_1 ∧ Aside0 (laws_heldWordS.l0 kq l0 x1_1 x5_1 = some r) ∧ Aside0 (kq ≤ k) ∧ Drawn0 w w')
 case atStart => exact ⟨(a1), (0), rt_, rt_, H', ⟨Nat.le_refl _⟩, by repeat (first | exact Drawn0.refl _ | apply Drawn0.step)⟩
 case round =>
  clear H'
  obtain ⟨x1_1, x5_1, rfl, rfl, HA, HK1, ⟨m1, rfl⟩⟩ := hrel
  cases gk with
  | zero => exact absurd HA.out (by simp [laws_heldWordS.l0])
  | succ k1 =>
   have H := HA.out
   clear HA
   simp only [laws_heldWordS.l0] at H
   replace H := ic_ H
   rcases H with ⟨c3b0, H⟩ | ⟨c3b0, H⟩
   ·
    replace H := ix_ H
    obtain ⟨c4b0, H⟩ := H
    by_cases c5 : ((rd_T95 l0 x5_1).f0) = x1_1
    ·
     rw [if_pos c5] at H
     have c5b0 : (((rd_T95 l0 x5_1).f0) == x1_1) = true := beq_iff_eq.mpr c5
     have c5b1 : (((rd_T95 l0 x5_1).f0) != x1_1) = false := bne_eq_false_iff_eq.mpr c5
     clear c5
     by_cases c6 : ((rd_T95 l0 x5_1).f1) = (wrap64 (x1_1 + 1))
     ·
      rw [if_pos c6] at H
      have c6b0 : (((rd_T95 l0 x5_1).f1) == (wrap64 (x1_1 + 1))) = true := beq_iff_eq.mpr c6
      have c6b1 : (((rd_T95 l0 x5_1).f1) != (wrap64 (x1_1 + 1))) = false := bne_eq_false_iff_eq.mpr c6
      clear c6
      by_cases c7 : ((rd_T95 l0 x5_1).f2) = (wrap64 ((wrap64 (x1_1 + 1)) + 1))
      ·
       rw [if_pos c7] at H
       have c7b0 : (((rd_T95 l0 x5_1).f2) == (wrap64 ((wrap64 (x1_1 + 1)) + 1))) = true := beq_iff_eq.mpr c7
       have c7b1 : (((rd_T95 l0 x5_1).f2) != (wrap64 ((wrap64 (x1_1 + 1)) + 1))) = false := bne_eq_false_iff_eq.mpr c7
       clear c7
       replace H' := A_ H; clear H
       obtain ⟨ad217, p217, q217, rfl, hx217_0, hx217_1, hx217_2⟩ := ab_T95 (A_ (Below.refl _ _)) HR0 x5_1
       have p218 : 0 ≤ (x5_1 : Int) := od_
       have q218 : x5_1 < (l0.length : Int) := od_
       obtain ⟨ad218, e218, hx218_0, hx218_1, hx218_2⟩ := at_T95 HR0.out x5_1 p218 q218
       obtain rfl : ad217 = ad218 := (by injection e218)
       replace p218 := eq_true p218
       replace q218 := eq_true q218
       have p219 : 0 ≤ (x5_1 : Int) := od_
       have q219 : x5_1 < (l0.length : Int) := od_
       obtain ⟨ad219, e219, hx219_0, hx219_1, hx219_2⟩ := at_T95 HR0.out x5_1 p219 q219
       obtain rfl : ad217 = ad219 := (by injection e219)
       replace p219 := eq_true p219
       replace q219 := eq_true q219
       go_wp2
       go_roundg k1
       case measure => have := HK1.out; omega
       case rel => exact ⟨(wrap64 ((wrap64 ((wrap64 (x1_1 + 1)) + 1)) + 1)), (wrap64 (x5_1 + 1)), rt_, rt_, H', ⟨by have := HK1.out; omega⟩, by repeat (first | exact Drawn0.refl _ | apply Drawn0.step)⟩
      rw [if_neg c7] at H
      have c7b0 : (((rd_T95 l0 x5_1).f2) == (wrap64 ((wrap64 (x1_1 + 1)) + 1))) = false := beq_eq_false_iff_ne.mpr c7
      have c7b1 : (((rd_T95 l0 x5_1).f2) != (wrap64 ((wrap64 (x1_1 + 1)) + 1))) = true := bne_iff_ne.mpr c7
      obtain rfl := Option.some.inj H
      obtain ⟨ad217, p217, q217, rfl, hx217_0, hx217_1, hx217_2⟩ := ab_T95 (A_ (Below.refl _ _)) HR0 x5_1
      have p218 : 0 ≤ (x5_1 : Int) := od_
      have q218 : x5_1 < (l0.length : Int) := od_
      obtain ⟨ad218, e218, hx218_0, hx218_1, hx218_2⟩ := at_T95 HR0.out x5_1 p218 q218
      obtain rfl : ad217 = ad218 := (by injection e218)
      replace p218 := eq_true p218
      replace q218 := eq_true q218
      have p219 : 0 ≤ (x5_1 : Int) := od_
      have q219 : x5_1 < (l0.length : Int) := od_
      obtain ⟨ad219, e219, hx219_0, hx219_1, hx219_2⟩ := at_T95 HR0.out x5_1 p219 q219
      obtain rfl : ad217 = ad219 := (by injection e219)
      replace p219 := eq_true p219
      replace q219 := eq_true q219
      go_wp2
      go_ret
      exact ⟨rt_, by repeat (first | exact Drawn0.refl _ | apply Drawn0.step)⟩
     rw [if_neg c6] at H
     have c6b0 : (((rd_T95 l0 x5_1).f1) == (wrap64 (x1_1 + 1))) = false := beq_eq_false_iff_ne.mpr c6
     have c6b1 : (((rd_T95 l0 x5_1).f1) != (wrap64 (x1_1 + 1))) = true := bne_iff_ne.mpr c6
     obtain rfl := Option.some.inj H
     obtain ⟨ad217, p217, q217, rfl, hx217_0, hx217_1, hx217_2⟩ := ab_T95 (A_ (Below.refl _ _)) HR0 x5_1
     have p218 : 0 ≤ (x5_1 : Int) := od_
     have q218 : x5_1 < (l0.length : Int) := od_
     obtain ⟨ad218, e218, hx218_0, hx218_1, hx218_2⟩ := at_T95 HR0.out x5_1 p218 q218
     obtain rfl : ad217 = ad218 := (by injection e218)
     replace p218 := eq_true p218
     replace q218 := eq_true q218
     go_wp2
     go_ret
     exact ⟨rt_, by repeat (first | exact Drawn0.refl _ | apply Drawn0.step)⟩
    rw [if_neg c5] at H
    have c5b0 : (((rd_T95 l0 x5_1).f0) == x1_1) = false := beq_eq_false_iff_ne.mpr c5
    have c5b1 : (((rd_T95 l0 x5_1).f0) != x1_1) = true := bne_iff_ne.mpr c5
    obtain rfl := Option.some.inj H
    obtain ⟨ad217, p217, q217, rfl, hx217_0, hx217_1, hx217_2⟩ := ab_T95 (A_ (Below.refl _ _)) HR0 x5_1
    go_wp2
    go_ret
    exact ⟨rt_, by repeat (first | exact Drawn0.refl _ | apply Drawn0.step)⟩
   obtain rfl := Option.some.inj H
   go_wp2
   go_ret
   exact ⟨rt_, by repeat (first | exact Drawn0.refl _ | apply Drawn0.step)⟩

/-! ### laws_heldIntS: function 69 -/
def laws_heldIntS.l0 : Nat → List Int → Int → Int → Option (Int)
 | 0, _, _, _ => none
 | k + 1, x0, x1, x5 => if x5 < (x0.length : Int) then (if 0 ≤ x5 then (if (rd x0 x5) = x1 then (laws_heldIntS.l0 k x0 (wrap64 (x1 + 1)) (wrap64 (x5 + 1))) else (some (-1))) else (none)) else (some x1)
def laws_heldIntS.f (k : Nat) (l0 : List Int) (a1 : Int) : Option (Int) := laws_heldIntS.l0 k l0 a1 0
set_option maxHeartbeats 8000000 in
set_option maxRecDepth 100000 in
theorem laws_heldIntS.calls (k : Nat) (A0 : Option Addr) (c0 : Nat) (l0 : List Int) (a1 : Int) (r : Int) (w : World) (hr0 : Kd.C (Kd.int .i64) w A0 l0.length l0) (hc0 : l0.length ≤ c0) (h : laws_heldIntS.f k l0 a1 = some r) :
    Calls Try.prog 69 #[.slice A0 l0.length c0, .int .i64 a1] w fun e w' => e = .returned (.int .i64 r) ∧ Drawn0 w w' := by
 have HR0 := A_ hr0
 have HC0 := A_ hc0
 clear hr0 hc0
 have H : (laws_heldIntS.l0 k l0 a1 0) = some r := h
 clear h
 replace H' := A_ H; clear H
 go_enter Try.func69, Try.ntmps69
 go_wp2
 go_loopg [1, 5] k (fun kq v1 v5 w' => ∃ (x1_1 : Int) (x5_1 : Int), v1 = .int .i64 x1_1 ∧ v5 = .int .i64 x5_1 ∧ Aside0 (laws_heldIntS.l0 kq l0 x1_1 x5_1 = some r) ∧ Aside0 (kq ≤ k) ∧ Drawn0 w w')
 case atStart => exact ⟨(a1), (0), rt_, rt_, H', ⟨Nat.le_refl _⟩, by repeat (first | exact Drawn0.refl _ | apply Drawn0.step)⟩
 case round =>
  clear H'
  obtain ⟨x1_1, x5_1, rfl, rfl, HA, HK1, ⟨m1, rfl⟩⟩ := hrel
  cases gk with
  | zero => exact absurd HA.out (by simp [laws_heldIntS.l0])
  | succ k1 =>
   have H := HA.out
   clear HA
   simp only [laws_heldIntS.l0] at H
   replace H := ic_ H
   rcases H with ⟨c3b0, H⟩ | ⟨c3b0, H⟩
   ·
    replace H := ix_ H
    obtain ⟨c4b0, H⟩ := H
    by_cases c5 : (rd l0 x5_1) = x1_1
    ·
     rw [if_pos c5] at H
     have c5b0 : ((rd l0 x5_1) == x1_1) = true := beq_iff_eq.mpr c5
     have c5b1 : ((rd l0 x5_1) != x1_1) = false := bne_eq_false_iff_eq.mpr c5
     clear c5
     replace H' := A_ H; clear H
     obtain ⟨ad220, p220, q220, rfl, hx220_0⟩ := ab_int (A_ (Below.refl _ _)) HR0 x5_1
     go_wp2
     go_roundg k1
     case measure => have := HK1.out; omega
     case rel => exact ⟨(wrap64 (x1_1 + 1)), (wrap64 (x5_1 + 1)), rt_, rt_, H', ⟨by have := HK1.out; omega⟩, by repeat (first | exact Drawn0.refl _ | apply Drawn0.step)⟩
    rw [if_neg c5] at H
    have c5b0 : ((rd l0 x5_1) == x1_1) = false := beq_eq_false_iff_ne.mpr c5
    have c5b1 : ((rd l0 x5_1) != x1_1) = true := bne_iff_ne.mpr c5
    obtain rfl := Option.some.inj H
    obtain ⟨ad220, p220, q220, rfl, hx220_0⟩ := ab_int (A_ (Below.refl _ _)) HR0 x5_1
    go_wp2
    go_ret
    exact ⟨rt_, by repeat (first | exact Drawn0.refl _ | apply Drawn0.step)⟩
   obtain rfl := Option.some.inj H
   go_wp2
   go_ret
   exact ⟨rt_, by repeat (first | exact Drawn0.refl _ | apply Drawn0.step)⟩

/-! ### laws_heldEntryS: function 146 -/
def laws_heldEntryS.l0 : Nat → List (S122) → Int → Int → Option (Int)
 | 0, _, _, _ => none
 | k + 1, x0, x1, x5 => if x5 < (x0.length : Int) then (if 0 ≤ x5 then (if ((rd_T122 x0 x5).f0) = x1 then (if ((rd_T122 x0 x5).f1) = (wrap64 (x1 + 1)) then (if ((rd_T122 x0 x5).f2) = (wrap64 ((wrap64 (x1 + 1)) + 1)) then (laws_heldEntryS.l0 k x0 (wrap64 ((wrap64 ((wrap64 (x1 + 1)) + 1)) + 1)) (wrap64 (x5 + 1))) else (some (-1))) else (some (-1))) else (some (-1))) else (none)) else (some x1)
def laws_heldEntryS.f (k : Nat) (l0 : List (S122)) (a1 : Int) : Option (Int) := laws_heldEntryS.l0 k l0 a1 0
set_option maxHeartbeats 8000000 in
set_option maxRecDepth 100000 in
theorem laws_heldEntryS.calls (k : Nat) (A0 : Option Addr) (c0 : Nat) (l0 : List (S122)) (a1 : Int) (r : Int) (w : World) (hr0 : Kd.C k122 w A0 l0.length l0) (hc0 : l0.length ≤ c0) (h : laws_heldEntryS.f k l0 a1 = some r) :
    Calls Try.prog 146 #[.slice A0 l0.length c0, .int .i64 a1] w fun e w' => e = .returned (.int .i64 r) ∧ Drawn0 w w' := by
 have HR0 := A_ hr0
 have HC0 := A_ hc0
 clear hr0 hc0
 have H : (laws_heldEntryS.l0 k l0 a1 0) = some r := h
 clear h
 replace H' := A_ H; clear H
 go_enter Try.func146, Try.ntmps146
 go_wp2
 go_loopg [1, 5] k (fun kq v1 v5 w' => ∃ (x1_1 : Int) (x5_1 : Int), v1 = .int .i64 x1_1 ∧ v5 = .int .i64 x5_1 ∧ Aside0 (laws_heldEntryS.l0 kq l0 x1_1 x5_1 = some r) ∧ Aside0 (kq ≤ k) ∧ Drawn0 w w')
 case atStart => exact ⟨(a1), (0), rt_, rt_, H', ⟨Nat.le_refl _⟩, by repeat (first | exact Drawn0.refl _ | apply Drawn0.step)⟩
 case round =>
  clear H'
  try clear c1
  obtain ⟨x1_1, x5_1, rfl, rfl, HA, HK1, ⟨m1, rfl⟩⟩ := hrel
  cases gk with
  | zero => exact absurd HA.out (by simp [laws_heldEntryS.l0])
  | succ k1 =>
   have H := HA.out
   clear HA
   simp only [laws_heldEntryS.l0] at H
   replace H := ic_ H
   rcases H with ⟨c3b0, H⟩ | ⟨c3b0, H⟩
   ·
    replace H := ix_ H
    obtain ⟨c4b0, H⟩ := H
    by_cases c5 : ((rd_T122 l0 x5_1).f0) = x1_1
    ·
     rw [if_pos c5] at H
     have c5b0 : (((rd_T122 l0 x5_1).f0) == x1_1) = true := beq_iff_eq.mpr c5
     have c5b1 : (((rd_T122 l0 x5_1).f0) != x1_1) = false := bne_eq_false_iff_eq.mpr c5
     clear c5
     by_cases c6 : ((rd_T122 l0 x5_1).f1) = (wrap64 (x1_1 + 1))
     ·
      rw [if_pos c6] at H
      have c6b0 : (((rd_T122 l0 x5_1).f1) == (wrap64 (x1_1 + 1))) = true := beq_iff_eq.mpr c6
      have c6b1 : (((rd_T122 l0 x5_1).f1) != (wrap64 (x1_1 + 1))) = false := bne_eq_false_iff_eq.mpr c6
      clear c6
      by_cases c7 : ((rd_T122 l0 x5_1).f2) = (wrap64 ((wrap64 (x1_1 + 1)) + 1))
      ·
       rw [if_pos c7] at H
       have c7b0 : (((rd_T122 l0 x5_1).f2) == (wrap64 ((wrap64 (x1_1 + 1)) + 1))) = true := beq_iff_eq.mpr c7
       have c7b1 : (((rd_T122 l0 x5_1).f2) != (wrap64 ((wrap64 (x1_1 + 1)) + 1))) = false := bne_eq_false_iff_eq.mpr c7
       clear c7
       replace H' := A_ H; clear H
       obtain ⟨ad221, p221, q221, rfl, hx221_0, hx221_1, hx221_2⟩ := ab_T122 (A_ (Below.refl _ _)) HR0 x5_1
       have p222 : 0 ≤ (x5_1 : Int) := od_
       have q222 : x5_1 < (l0.length : Int) := od_
       obtain ⟨ad222, e222, hx222_0, hx222_1, hx222_2⟩ := at_T122 HR0.out x5_1 p222 q222
       obtain rfl : ad221 = ad222 := (by injection e222)
       replace p222 := eq_true p222
       replace q222 := eq_true q222
       have p223 : 0 ≤ (x5_1 : Int) := od_
       have q223 : x5_1 < (l0.length : Int) := od_
       obtain ⟨ad223, e223, hx223_0, hx223_1, hx223_2⟩ := at_T122 HR0.out x5_1 p223 q223
       obtain rfl : ad221 = ad223 := (by injection e223)
       replace p223 := eq_true p223
       replace q223 := eq_true q223
       go_wp2
       go_roundg k1
       case measure => have := HK1.out; omega
       case rel => exact ⟨(wrap64 ((wrap64 ((wrap64 (x1_1 + 1)) + 1)) + 1)), (wrap64 (x5_1 + 1)), rt_, rt_, H', ⟨by have := HK1.out; omega⟩, by repeat (first | exact Drawn0.refl _ | apply Drawn0.step)⟩
      rw [if_neg c7] at H
      have c7b0 : (((rd_T122 l0 x5_1).f2) == (wrap64 ((wrap64 (x1_1 + 1)) + 1))) = false := beq_eq_false_iff_ne.mpr c7
      have c7b1 : (((rd_T122 l0 x5_1).f2) != (wrap64 ((wrap64 (x1_1 + 1)) + 1))) = true := bne_iff_ne.mpr c7
      obtain rfl := Option.some.inj H
      obtain ⟨ad221, p221, q221, rfl, hx221_0, hx221_1, hx221_2⟩ := ab_T122 (A_ (Below.refl _ _)) HR0 x5_1
      have p222 : 0 ≤ (x5_1 : Int) := od_
      have q222 : x5_1 < (l0.length : Int) := od_
      obtain ⟨ad222, e222, hx222_0, hx222_1, hx222_2⟩ := at_T122 HR0.out x5_1 p222 q222
      obtain rfl : ad221 = ad222 := (by injection e222)
      replace p222 := eq_true p222
      replace q222 := eq_true q222
      have p223 : 0 ≤ (x5_1 : Int) := od_
      have q223 : x5_1 < (l0.length : Int) := od_
      obtain ⟨ad223, e223, hx223_0, hx223_1, hx223_2⟩ := at_T122 HR0.out x5_1 p223 q223
      obtain rfl : ad221 = ad223 := (by injection e223)
      replace p223 := eq_true p223
      replace q223 := eq_true q223
      go_wp2
      go_ret
      exact ⟨rt_, by repeat (first | exact Drawn0.refl _ | apply Drawn0.step)⟩
     rw [if_neg c6] at H
     have c6b0 : (((rd_T122 l0 x5_1).f1) == (wrap64 (x1_1 + 1))) = false := beq_eq_false_iff_ne.mpr c6
     have c6b1 : (((rd_T122 l0 x5_1).f1) != (wrap64 (x1_1 + 1))) = true := bne_iff_ne.mpr c6
     obtain rfl := Option.some.inj H
     obtain ⟨ad221, p221, q221, rfl, hx221_0, hx221_1, hx221_2⟩ := ab_T122 (A_ (Below.refl _ _)) HR0 x5_1
     have p222 : 0 ≤ (x5_1 : Int) := od_
     have q222 : x5_1 < (l0.length : Int) := od_
     obtain ⟨ad222, e222, hx222_0, hx222_1, hx222_2⟩ := at_T122 HR0.out x5_1 p222 q222
     obtain rfl : ad221 = ad222 := (by injection e222)
     replace p222 := eq_true p222
     replace q222 := eq_true q222
     go_wp2
     go_ret
     exact ⟨rt_, by repeat (first | exact Drawn0.refl _ | apply Drawn0.step)⟩
    rw [if_neg c5] at H
    have c5b0 : (((rd_T122 l0 x5_1).f0) == x1_1) = false := beq_eq_false_iff_ne.mpr c5
    have c5b1 : (((rd_T122 l0 x5_1).f0) != x1_1) = true := bne_iff_ne.mpr c5
    obtain rfl := Option.some.inj H
    obtain ⟨ad221, p221, q221, rfl, hx221_0, hx221_1, hx221_2⟩ := ab_T122 (A_ (Below.refl _ _)) HR0 x5_1
    go_wp2
    go_ret
    exact ⟨rt_, by repeat (first | exact Drawn0.refl _ | apply Drawn0.step)⟩
   obtain rfl := Option.some.inj H
   go_wp2
   go_ret
   exact ⟨rt_, by repeat (first | exact Drawn0.refl _ | apply Drawn0.step)⟩

end Go.Proofs.Ytmkhghbalnadlaa.PFnExactBegin
